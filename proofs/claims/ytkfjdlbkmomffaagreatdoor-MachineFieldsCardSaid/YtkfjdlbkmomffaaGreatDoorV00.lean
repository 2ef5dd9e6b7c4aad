/- A part of the proof of one statement about the given program: a verified evaluator of the model's code, and contracts of functions (Dv1 Dv2 Dv4 Dv5 Dv6 Dv7 Dv8 Dv9 Dva Dvb Dvc Dvt Dvm Dvd). No condition of its own. -/
import Derived.WalkKit
import Derived.Maps.AppendAt
import Derived.Laws.OwnMore
import Derived.Deep.Draws
import Derived.Orders
import Derived.Below
import Derived.Great.BuildSlice
import Derived.RangeFuncRecord
import Derived.MapKept
import Derived.RangeFuncSeq
set_option linter.unusedVariables false
set_option linter.unusedSimpArgs false
set_option linter.defProp false
set_option linter.constructorNameAsVariable false
set_option linter.unusedVariables false
set_option linter.unusedSimpArgs false
namespace Go.Proofs.Dv
open Go.RowKit
inductive D where
  | v (x : Value)
  | agg (ds : List D)
  | lst (ex : Bool) (es : List (List D))
  | rp (cs : List D)
  | fn (f : Nat) (ds : List D)
  | tup (ds : List D)
  | own (id n : Nat)
  | ptr (id off : Nat)
  | mp (id : Nat)
  | junk
def plain : Value → Bool
  | .bool _ | .int _ _ | .string _ | .nilIface | .nilFunc => true
  | .pointer none | .map none => true
  | .func (.yield _) a b => a.isEmpty && b.isEmpty
  | _ => false
structure Env where
  own : Nat → Nat → Value → Prop
  ptr : Nat → Nat → Value → Prop
  mp : Nat → Value → Prop
theorem sz_get {ds : List D} {j : Nat} (h : j < ds.length) : SizeOf.sizeOf ds[j] < SizeOf.sizeOf ds := List.sizeOf_lt_of_mem (List.getElem_mem h)
theorem sz_get2 {es : List (List D)} {i j : Nat} (h : i < es.length) (h' : j < es[i].length) : SizeOf.sizeOf es[i][j] < SizeOf.sizeOf es :=
  Nat.lt_trans (sz_get h') (List.sizeOf_lt_of_mem (List.getElem_mem h))
def Rd (w : World) (S : Nat → Nat → Prop) (X : Option Env) : D → Value → Prop
  | .v x, u => u = x ∧ plain x = true
  | .agg ds, u => ∃ cs : Array Value, u = .agg cs ∧ cs.size = ds.length ∧ ∀ j (h : j < ds.length), ∃ c, cs[j]? = some c ∧ c.oneCell' = true ∧ Rd w S X ds[j] c
  | .lst ex es, u => ∃ (A : Option Addr) (cap sz : Nat), u = .slice A es.length cap ∧ es.length ≤ cap ∧ cap ≤ maxLen ∧ (ex = true → cap = es.length) ∧ (∀ e ∈ es, e.length = sz) ∧
      (0 < es.length → ∃ b o, A = some ⟨b, o, none⟩ ∧ ∀ i (hi : i < es.length) j (hj : j < es[i].length), ∃ c, w.cell? ⟨b, o + (i * sz + j), none⟩ = some c ∧ S b (o + (i * sz + j)) ∧ c.oneCell' = true ∧ Rd w S none es[i][j] c)
  | .rp cs, u => ∃ b o, u = .pointer (some ⟨b, o, none⟩) ∧ ∀ j (h : j < cs.length), ∃ c, w.cell? ⟨b, o + j, none⟩ = some c ∧ S b (o + j) ∧ c.oneCell' = true ∧ Rd w S none cs[j] c
  | .fn f ds, u => ∃ cs : Array Value, u = .func (.func f) #[] cs ∧ cs.size = ds.length ∧ ∀ j (h : j < ds.length), ∃ c, cs[j]? = some c ∧ Rd w S X ds[j] c
  | .tup ds, u => ∃ cs : Array Value, u = .tuple cs ∧ cs.size = ds.length ∧ ∀ j (h : j < ds.length), ∃ c, cs[j]? = some c ∧ Rd w S X ds[j] c
  | .own id n, u => match X with | some E => E.own id n u | none => False
  | .ptr id o, u => match X with | some E => E.ptr id o u | none => False
  | .mp id, u => match X with | some E => E.mp id u | none => False
  | .junk, _ => match X with | some _ => True | none => False
termination_by d => SizeOf.sizeOf d
decreasing_by
  all_goals first
    | (have := sz_get h; simp; omega)
    | (have := sz_get2 hi hj; simp; omega)
theorem Rd_own {w : World} {S : Nat → Nat → Prop} {E : Env} {id n : Nat} {u : Value} : Rd w S (some E) (.own id n) u ↔ E.own id n u := by rw [Rd.eq_def]
theorem Rd_ptr {w : World} {S : Nat → Nat → Prop} {E : Env} {id n : Nat} {u : Value} : Rd w S (some E) (.ptr id n) u ↔ E.ptr id n u := by rw [Rd.eq_def]
theorem Rd_mp {w : World} {S : Nat → Nat → Prop} {E : Env} {id : Nat} {u : Value} : Rd w S (some E) (.mp id) u ↔ E.mp id u := by rw [Rd.eq_def]
theorem Rd_mp0 {w : World} {S : Nat → Nat → Prop} {id : Nat} {u : Value} : ¬ Rd w S none (.mp id) u := by rw [Rd.eq_def]; exact fun h => h
theorem Rd_junk {w : World} {S : Nat → Nat → Prop} {E : Env} {u : Value} : Rd w S (some E) .junk u := by rw [Rd.eq_def]; trivial
theorem Rd_own0 {w : World} {S : Nat → Nat → Prop} {id n : Nat} {u : Value} : ¬ Rd w S none (.own id n) u := by rw [Rd.eq_def]; exact fun h => h
theorem Rd_ptr0 {w : World} {S : Nat → Nat → Prop} {id n : Nat} {u : Value} : ¬ Rd w S none (.ptr id n) u := by rw [Rd.eq_def]; exact fun h => h
theorem Rd_junk0 {w : World} {S : Nat → Nat → Prop} {u : Value} : ¬ Rd w S none .junk u := by rw [Rd.eq_def]; exact fun h => h
section
variable {w : World} {S : Nat → Nat → Prop} {X : Option Env} {u : Value}
theorem Rd_v {x : Value} : Rd w S X (.v x) u ↔ u = x ∧ plain x = true := by rw [Rd]
theorem Rd_agg {ds : List D} : Rd w S X (.agg ds) u ↔ ∃ cs : Array Value, u = .agg cs ∧ cs.size = ds.length ∧ ∀ j (h : j < ds.length), ∃ c, cs[j]? = some c ∧ c.oneCell' = true ∧ Rd w S X ds[j] c := by rw [Rd]
theorem Rd_lst {ex : Bool} {es : List (List D)} : Rd w S X (.lst ex es) u ↔ ∃ (A : Option Addr) (cap sz : Nat), u = .slice A es.length cap ∧ es.length ≤ cap ∧ cap ≤ maxLen ∧ (ex = true → cap = es.length) ∧ (∀ e ∈ es, e.length = sz) ∧
      (0 < es.length → ∃ b o, A = some ⟨b, o, none⟩ ∧ ∀ i (hi : i < es.length) j (hj : j < es[i].length), ∃ c, w.cell? ⟨b, o + (i * sz + j), none⟩ = some c ∧ S b (o + (i * sz + j)) ∧ c.oneCell' = true ∧ Rd w S none es[i][j] c) := by rw [Rd]
theorem Rd_rp {cs : List D} : Rd w S X (.rp cs) u ↔ ∃ b o, u = .pointer (some ⟨b, o, none⟩) ∧ ∀ j (h : j < cs.length), ∃ c, w.cell? ⟨b, o + j, none⟩ = some c ∧ S b (o + j) ∧ c.oneCell' = true ∧ Rd w S none cs[j] c := by rw [Rd]
theorem Rd_fn {f : Nat} {ds : List D} : Rd w S X (.fn f ds) u ↔ ∃ cs : Array Value, u = .func (.func f) #[] cs ∧ cs.size = ds.length ∧ ∀ j (h : j < ds.length), ∃ c, cs[j]? = some c ∧ Rd w S X ds[j] c := by rw [Rd]
theorem Rd_tup {ds : List D} : Rd w S X (.tup ds) u ↔ ∃ cs : Array Value, u = .tuple cs ∧ cs.size = ds.length ∧ ∀ j (h : j < ds.length), ∃ c, cs[j]? = some c ∧ Rd w S X ds[j] c := by rw [Rd]
end
def cl : D → Bool
  | .v _ | .lst _ _ | .rp _ => true
  | .agg ds | .fn _ ds | .tup ds => cls ds
  | .own _ _ | .ptr _ _ | .mp _ | .junk => false
where cls : List D → Bool
  | [] => true
  | d :: ds => cl d && cls ds
theorem cls_get {ds : List D} (h : cl.cls ds = true) : ∀ j (hj : j < ds.length), cl ds[j] = true := by
  induction ds with
  | nil => intro j hj; simp at hj
  | cons d ds ih =>
    simp only [cl.cls, Bool.and_eq_true] at h
    intro j hj
    cases j with
    | zero => exact h.1
    | succ j => exact ih h.2 j (by simpa using hj)
theorem Rd.mono {w w' : World} {S S' : Nat → Nat → Prop} (hc : ∀ b o u, S b o → w.cell? ⟨b, o, none⟩ = some u → w'.cell? ⟨b, o, none⟩ = some u) (hS : ∀ b o, S b o → S' b o) :
    ∀ (d : D) (X X' : Option Env) (u : Value), (∀ E, X = some E → ∃ E', X' = some E' ∧ (∀ id n u, E.own id n u → E'.own id n u) ∧ (∀ id n u, E.ptr id n u → E'.ptr id n u) ∧ (∀ id u, E.mp id u → E'.mp id u)) → Rd w S X d u → Rd w' S' X' d u
  | .v x, _, _, u, _, h => by rw [Rd] at h ⊢; exact h
  | .agg ds, X, X', u, hX, h => by
    rw [Rd] at h ⊢
    obtain ⟨cs, rfl, hs, hr⟩ := h
    refine ⟨cs, rfl, hs, fun j hj => ?_⟩
    obtain ⟨c, h1, h2, h3⟩ := hr j hj
    exact ⟨c, h1, h2, Rd.mono hc hS ds[j] X X' c hX h3⟩
  | .lst ex es, X, X', u, hX, h => by
    rw [Rd] at h ⊢
    obtain ⟨A, cap, sz, rfl, h1, h2, h3, h4, h5⟩ := h
    refine ⟨A, cap, sz, rfl, h1, h2, h3, h4, fun hp => ?_⟩
    obtain ⟨b, o, rfl, h6⟩ := h5 hp
    refine ⟨b, o, rfl, fun i hi j hj => ?_⟩
    obtain ⟨c, h7, h8, h9, h10⟩ := h6 i hi j hj
    exact ⟨c, hc _ _ _ h8 h7, hS _ _ h8, h9, Rd.mono hc hS es[i][j] none none c (fun E h => by cases h) h10⟩
  | .rp cs, X, X', u, hX, h => by
    rw [Rd] at h ⊢
    obtain ⟨b, o, rfl, h6⟩ := h
    refine ⟨b, o, rfl, fun j hj => ?_⟩
    obtain ⟨c, h7, h8, h9, h10⟩ := h6 j hj
    exact ⟨c, hc _ _ _ h8 h7, hS _ _ h8, h9, Rd.mono hc hS cs[j] none none c (fun E h => by cases h) h10⟩
  | .fn f ds, X, X', u, hX, h => by
    rw [Rd] at h ⊢
    obtain ⟨cs, rfl, hs, hr⟩ := h
    refine ⟨cs, rfl, hs, fun j hj => ?_⟩
    obtain ⟨c, h1, h3⟩ := hr j hj
    exact ⟨c, h1, Rd.mono hc hS ds[j] X X' c hX h3⟩
  | .tup ds, X, X', u, hX, h => by
    rw [Rd] at h ⊢
    obtain ⟨cs, rfl, hs, hr⟩ := h
    refine ⟨cs, rfl, hs, fun j hj => ?_⟩
    obtain ⟨c, h1, h3⟩ := hr j hj
    exact ⟨c, h1, Rd.mono hc hS ds[j] X X' c hX h3⟩
  | .own id n, X, X', u, hX, h => by
    cases X with
    | none => exact (Rd_own0 h).elim
    | some E => obtain ⟨E', rfl, h1, _⟩ := hX E rfl; exact Rd_own.2 (h1 _ _ _ (Rd_own.1 h))
  | .ptr id n, X, X', u, hX, h => by
    cases X with
    | none => exact (Rd_ptr0 h).elim
    | some E => obtain ⟨E', rfl, _, h1, _⟩ := hX E rfl; exact Rd_ptr.2 (h1 _ _ _ (Rd_ptr.1 h))
  | .mp id, X, X', u, hX, h => by
    cases X with
    | none => exact (Rd_mp0 h).elim
    | some E => obtain ⟨E', rfl, _, _, h1⟩ := hX E rfl; exact Rd_mp.2 (h1 _ _ (Rd_mp.1 h))
  | .junk, X, X', u, hX, h => by
    cases X with
    | none => exact (Rd_junk0 h).elim
    | some E => obtain ⟨E', rfl, _, h1⟩ := hX E rfl; exact Rd_junk
termination_by d => SizeOf.sizeOf d
decreasing_by
  all_goals first
    | (have := sz_get hj; simp; omega)
    | (have := sz_get2 hi hj; simp; omega)
theorem Rd.closed {w : World} {S : Nat → Nat → Prop} : ∀ (d : D) (X : Option Env) (u : Value), cl d = true → Rd w S X d u → Rd w S none d u
  | .v x, _, u, _, h => by rw [Rd] at h ⊢; exact h
  | .agg ds, X, u, hX, h => by
    rw [Rd] at h ⊢
    simp only [cl] at hX
    obtain ⟨cs, rfl, hs, hr⟩ := h
    refine ⟨cs, rfl, hs, fun j hj => ?_⟩
    obtain ⟨c, h1, h2, h3⟩ := hr j hj
    exact ⟨c, h1, h2, Rd.closed ds[j] X c (cls_get hX j hj) h3⟩
  | .lst ex es, X, u, hX, h => by rw [Rd] at h ⊢; exact h
  | .rp cs, X, u, hX, h => by rw [Rd] at h ⊢; exact h
  | .fn f ds, X, u, hX, h => by
    rw [Rd] at h ⊢
    simp only [cl] at hX
    obtain ⟨cs, rfl, hs, hr⟩ := h
    refine ⟨cs, rfl, hs, fun j hj => ?_⟩
    obtain ⟨c, h1, h3⟩ := hr j hj
    exact ⟨c, h1, Rd.closed ds[j] X c (cls_get hX j hj) h3⟩
  | .tup ds, X, u, hX, h => by
    rw [Rd] at h ⊢
    simp only [cl] at hX
    obtain ⟨cs, rfl, hs, hr⟩ := h
    refine ⟨cs, rfl, hs, fun j hj => ?_⟩
    obtain ⟨c, h1, h3⟩ := hr j hj
    exact ⟨c, h1, Rd.closed ds[j] X c (cls_get hX j hj) h3⟩
  | .own id n, X, u, hX, h => by simp [cl] at hX
  | .ptr id n, X, u, hX, h => by simp [cl] at hX
  | .mp id, X, u, hX, h => by simp [cl] at hX
  | .junk, X, u, hX, h => by simp [cl] at hX
termination_by d => SizeOf.sizeOf d
decreasing_by
  all_goals first
    | (have := sz_get hj; simp; omega)
def weak : D → D
  | .agg ds => .agg (weaks ds)
  | .lst _ es => .lst false (weakss es)
  | .rp cs => .rp (weaks cs)
  | .fn f ds => .fn f (weaks ds)
  | .tup ds => .tup (weaks ds)
  | .v x => .v x
  | .own i n => .own i n
  | .ptr i o => .ptr i o
  | .mp i => .mp i
  | .junk => .junk
where
  weaks : List D → List D
    | [] => []
    | d :: ds => weak d :: weaks ds
  weakss : List (List D) → List (List D)
    | [] => []
    | e :: es => weaks e :: weakss es
theorem weaks_map : ∀ (ds : List D), weak.weaks ds = ds.map weak
  | [] => by simp only [weak.weaks, List.map_nil]
  | d :: ds => by simp only [weak.weaks, List.map_cons, weaks_map ds]
theorem weakss_map : ∀ (es : List (List D)), weak.weakss es = es.map fun e => e.map weak
  | [] => by simp only [weak.weakss, List.map_nil]
  | e :: es => by simp only [weak.weakss, List.map_cons, weakss_map es, weaks_map]
theorem Rd.weak {w : World} {S : Nat → Nat → Prop} : ∀ (d : D) (X : Option Env) (u : Value), Rd w S X d u → Rd w S X (Dv.weak d) u
  | .v x, X, u, h => by simpa only [Dv.weak] using h
  | .agg ds, X, u, h => by
    simp only [Dv.weak, weaks_map]
    obtain ⟨cs, rfl, hs, hr⟩ := Rd_agg.1 h
    refine Rd_agg.2 ⟨cs, rfl, by simpa using hs, fun j hj => ?_⟩
    have hj' : j < ds.length := by simpa using hj
    obtain ⟨c, h1, h2, h3⟩ := hr j hj'
    exact ⟨c, h1, h2, by rw [List.getElem_map]; exact Rd.weak ds[j] X c h3⟩
  | .lst ex es, X, u, h => by
    simp only [Dv.weak, weakss_map]
    obtain ⟨A, cap, sz, rfl, h1, h2, h3, h4, h5⟩ := Rd_lst.1 h
    refine Rd_lst.2 ⟨A, cap, sz, by simp, by simpa using h1, h2, fun h => by simp at h, fun e he => ?_, fun hp => ?_⟩
    · obtain ⟨x, hx, rfl⟩ := List.mem_map.1 he
      rw [List.length_map]; exact h4 x hx
    · obtain ⟨b, o, rfl, h6⟩ := h5 (by simpa using hp)
      refine ⟨b, o, rfl, fun i hi j hj => ?_⟩
      have hi' : i < es.length := by simpa using hi
      have hj' : j < es[i].length := by simpa using hj
      obtain ⟨c, h7, h8, h9, h10⟩ := h6 i hi' j hj'
      exact ⟨c, h7, h8, h9, by simp only [List.getElem_map]; exact Rd.weak es[i][j] none c h10⟩
  | .rp cs, X, u, h => by
    simp only [Dv.weak, weaks_map]
    obtain ⟨b, o, rfl, h6⟩ := Rd_rp.1 h
    refine Rd_rp.2 ⟨b, o, rfl, fun j hj => ?_⟩
    have hj' : j < cs.length := by simpa using hj
    obtain ⟨c, h7, h8, h9, h10⟩ := h6 j hj'
    exact ⟨c, h7, h8, h9, by rw [List.getElem_map]; exact Rd.weak cs[j] none c h10⟩
  | .fn f ds, X, u, h => by
    simp only [Dv.weak, weaks_map]
    obtain ⟨cs, rfl, hs, hr⟩ := Rd_fn.1 h
    refine Rd_fn.2 ⟨cs, rfl, by simpa using hs, fun j hj => ?_⟩
    have hj' : j < ds.length := by simpa using hj
    obtain ⟨c, h1, h3⟩ := hr j hj'
    exact ⟨c, h1, by rw [List.getElem_map]; exact Rd.weak ds[j] X c h3⟩
  | .tup ds, X, u, h => by
    simp only [Dv.weak, weaks_map]
    obtain ⟨cs, rfl, hs, hr⟩ := Rd_tup.1 h
    refine Rd_tup.2 ⟨cs, rfl, by simpa using hs, fun j hj => ?_⟩
    have hj' : j < ds.length := by simpa using hj
    obtain ⟨c, h1, h3⟩ := hr j hj'
    exact ⟨c, h1, by rw [List.getElem_map]; exact Rd.weak ds[j] X c h3⟩
  | .own id n, X, u, h => by simpa only [Dv.weak] using h
  | .ptr id n, X, u, h => by simpa only [Dv.weak] using h
  | .mp id, X, u, h => by simpa only [Dv.weak] using h
  | .junk, X, u, h => by simpa only [Dv.weak] using h
termination_by d => SizeOf.sizeOf d
decreasing_by
  all_goals first
    | (have := sz_get hj'; simp; omega)
    | (have := sz_get2 hi' hj'; simp; omega)
end Go.Proofs.Dv
set_option linter.unusedVariables false
set_option linter.unusedSimpArgs false
namespace Go.Proofs.Dv
open Go.RowKit
inductive K where
  | int (k : IntKind) (n : Int)
  | bool (b : Bool)
  | str (bs : List Nat)
  | nilS | nilP | nilF | nilI | nilM
  deriving DecidableEq
def K.val : K → Value
  | .int k n => .int k n
  | .bool b => .bool b
  | .str bs => .string ⟨(bs.map UInt8.ofNat).toArray⟩
  | .nilS => .slice none 0 0
  | .nilP => .pointer none
  | .nilF => .nilFunc
  | .nilI => .nilIface
  | .nilM => .map none
def K.d : K → D
  | .nilS => .lst true []
  | k => .v k.val
inductive Opd where
  | t (i : Nat) | k (c : K) | f (n : Nat) | g (n : Nat)
  deriving DecidableEq
inductive BK where
  | int | str | bool | nilS | ag (ks : List Bool)
  deriving DecidableEq
inductive IOp where
  | mv (x : Opd)
  | pick (c a b : Opd)
  | ld (ag : Bool) (n : Nat) (x : Opd)
  | st (n : Nat) (a x : Opd)
  | fa (off : Nat) (x : Opd)
  | ia (sz : Nat) (x i : Opd)
  | iaa (n sz : Nat) (x i : Opd)
  | fld (ag : Bool) (n off : Nat) (x : Opd)
  | nilc (x : Opd)
  | ext (x : Opd) (i : Nat)
  | bi (op : BinOp) (k : BK) (x y : Opd)
  | un (op : UnOp) (x : Opd)
  | cv (k : IntKind) (x : Opd)
  | bld (zero : List K) (parts : List (Nat × Nat × Opd))
  | bsl (sz : Nat) (zero : List K) (len : Nat) (parts : List (Nat × Opd))
  | alc (zero : List K)
  | box (x : Opd)
  | app (sz bytes : Nat) (s x : Opd)
  | len (str : Bool) (x : Opd)
  | mx (mn : Bool) (x y : Opd)
  | call (f : Opd) (args : List Opd)
  | mkf (f : Nat) (caps : List Opd)
  | sls (x : Opd) (lo hi : Option Opd)
  | ixs (x i : Opd)
  | msl (sz bytes : Nat) (zero : List K) (n c : Opd)
  | mmk
  | mlk (s ok : Bool) (zero : K) (m k : Opd)
  | mup (s : Bool) (m k x : Opd)
  | men (s : Bool) (zero : K) (m k : Opd)
  | mes (m i x : Opd)
  | slc (x h : Opd)
  | apq (sz bytes : Nat) (s x : Opd)
  | bso (sz : Nat) (zero : List K) (len : Nat) (parts : List (Nat × Opd))
  | nnil (ne : Bool) (x : Opd)
  | b2s (x : Opd)
  | lenm (x : Opd)
  | iam (sz : Nat) (x i : Opd)
  | apm (sz bytes : Nat) (s x : Opd)
  | msm (sz bytes : Nat) (zero : List K) (n c : Opd)
  | peek (f : Opd) (args : List Opd)
  | bad
  deriving DecidableEq
structure Iop where
  dst : Option Nat
  op : IOp
  gd : Option (Nat × Bool)
  lo : Bool := false
  deriving DecidableEq
abbrev ox (d : Nat) (o : IOp) : Iop := ⟨some d, o, none, false⟩
inductive IC where
  | skip
  | reg (ops : List Iop) (dr : Bool)
  | seq (a b : IC)
  | cond (c : Opd) (a b : IC)
  | blk (id : Nat) (a : IC)
  | loop (keep : List Nat) (a : IC)
  | exit (id : Nat)
  | ret
  | own (t sz : Nat) (a : IC)
  | rng (f : Opd) (ps keep : List Nat) (a b : IC)
  | bad
  | ownb (t off sz : Nat) (a : IC)
  | fz (t : Nat) (a : IC)
  | fzo (t : Nat) (a : IC)
inductive Blk where
  | box (cells : List D)
  | row (sz : Nat) (els : List (List D))
  | map (es : List (Value × Value))
structure St where
  fr : List (Nat × D)
  hp : List (Nat × Blk)
  nx : Nat
def lkf : List (Nat × D) → Nat → D
  | [], _ => .junk
  | (j, d) :: fr, t => if t = j then d else lkf fr t
def lkh : List (Nat × Blk) → Nat → Option Blk
  | [], _ => none
  | (j, b) :: hp, t => if t = j then some b else lkh hp t
def uph : List (Nat × Blk) → Nat → Blk → List (Nat × Blk)
  | [], _, _ => []
  | (j, b) :: hp, t, c => if t = j then (j, c) :: hp else (j, b) :: uph hp t c
def put (dst : Option Nat) (d : D) (fr : List (Nat × D)) : List (Nat × D) :=
  match dst with
  | some t => (t, d) :: fr
  | none => fr
def expo (hp : List (Nat × Blk)) : D → Option D
  | .own id n => match lkh hp id with
    | some (.row _ els) => if els.length = n then some (.lst false els) else none
    | _ => none
  | .v x => some (.v x)
  | .lst e es => some (.lst e es)
  | .rp cs => some (.rp cs)
  | .agg ds => (expos ds).map .agg
  | .fn f ds => (expos ds).map (.fn f)
  | .tup ds => (expos ds).map .tup
  | .ptr _ _ | .mp _ | .junk => none
where expos : List D → Option (List D)
  | [] => some []
  | d :: ds => (expo hp d).bind fun e => (expos ds).map (e :: ·)
def expoP (hp : List (Nat × Blk)) : D → Option D
  | .own id n => match lkh hp id with
    | some (.row _ els) => if els.length = n then some (.lst false els) else none
    | some (.box cells) => if cells.length = n ∧ cl.cls cells = true then some (.lst false (cells.map fun c => [c])) else none
    | _ => none
  | .v x => some (.v x)
  | .lst e es => some (.lst e es)
  | .rp cs => some (.rp cs)
  | .agg ds => (expos ds).map .agg
  | .fn f ds => (expos ds).map (.fn f)
  | .tup ds => (expos ds).map .tup
  | .ptr _ _ | .mp _ | .junk => none
where expos : List D → Option (List D)
  | [] => some []
  | d :: ds => (expoP hp d).bind fun e => (expos ds).map (e :: ·)
def dcells : D → List D
  | .agg ds => ds
  | d => [d]
def okc : D → Bool
  | .v _ | .lst _ _ | .rp _ | .fn _ _ | .own _ _ | .ptr _ _ | .mp _ => true
  | _ => false
def scal : D → Bool
  | .v _ => true
  | _ => false
structure Ctx where
  G : Nat → Option (List D)
  T : Nat → Option (List D → Option D)
  cal : Nat → List D → List (Nat × Blk) → Nat → Option (D × List (Nat × Blk) × Nat)
  I : Nat → List D → Option (List (List D))
def evO (C : Ctx) (fr : List (Nat × D)) : Opd → D
  | .t i => lkf fr i
  | .k c => c.d
  | .f n => .fn n []
  | .g n => match C.G n with | some cs => .rp cs | none => .junk
def boolOf : D → Option Bool
  | .v (.bool b) => some b
  | _ => none
def intOf' : D → Option (IntKind × Int)
  | .v (.int k n) => some (k, n)
  | _ => none
def evInt (op : BinOp) (k k' : IntKind) (a b : Int) : Option Value :=
  match op with
  | .shl => if b < 0 then none else some (.int k (k.wrap (a * 2 ^ (min b.toNat k.bits))))
  | .shr => if b < 0 then none else some (.int k (a.fdiv (2 ^ (min b.toNat k.bits))))
  | _ => if k = k' then (match op with
    | .add => some (.int k (k.wrap (a + b)))
    | .sub => some (.int k (k.wrap (a - b)))
    | .mul => some (.int k (k.wrap (a * b)))
    | .quo => if b = 0 then none else some (.int k (k.wrap (a.tdiv b)))
    | .rem => if b = 0 then none else some (.int k (a.tmod b))
    | .and => some (.int k (k.wrap (BitVec.ofInt k.bits a &&& BitVec.ofInt k.bits b).toNat))
    | .or => some (.int k (k.wrap (BitVec.ofInt k.bits a ||| BitVec.ofInt k.bits b).toNat))
    | .xor => some (.int k (k.wrap (BitVec.ofInt k.bits a ^^^ BitVec.ofInt k.bits b).toNat))
    | .andNot => some (.int k (k.wrap (BitVec.ofInt k.bits a &&& ~~~(BitVec.ofInt k.bits b)).toNat))
    | .eql => some (.bool (a == b))
    | .neq => some (.bool (a != b))
    | .lss => some (.bool (decide (a < b)))
    | .leq => some (.bool (decide (a ≤ b)))
    | .gtr => some (.bool (decide (a > b)))
    | .geq => some (.bool (decide (a ≥ b)))
    | _ => none) else none
def evStr (op : BinOp) (x y : ByteArray) : Option Value :=
  match op with
  | .add => if x.size + y.size ≤ 9223372036854775807 then some (.string (x ++ y)) else none
  | .eql => some (.bool (x.toList == y.toList))
  | .neq => some (.bool (!(x.toList == y.toList)))
  | _ => none
def evBool (op : BinOp) (x y : Bool) : Option Value :=
  match op with
  | .eql => some (.bool (x == y))
  | .neq => some (.bool (!(x == y)))
  | _ => none
def eqCells : List Bool → List D → List D → Option Bool
  | [], [], [] => some true
  | s :: ks, .v x :: xs, .v y :: ys => match s, x, y with
    | false, .int k a, .int k' b => if k = k' then (eqCells ks xs ys).map fun r => (a == b) && r else none
    | true, .string a, .string b => (eqCells ks xs ys).map fun r => (a == b) && r
    | _, _, _ => none
  | _, _, _ => none
def evBi (op : BinOp) (k : BK) (x y : D) : Option D :=
  match k, x, y with
  | .int, .v (.int k a), .v (.int k' b) => (evInt op k k' a b).map .v
  | .str, .v (.string a), .v (.string b) => (evStr op a b).map .v
  | .bool, .v (.bool a), .v (.bool b) => (evBool op a b).map .v
  | .ag ks, .agg xs, .agg ys => match op with
    | .eql => (eqCells ks xs ys).map fun r => .v (.bool r)
    | .neq => (eqCells ks xs ys).map fun r => .v (.bool (!r))
    | _ => none
  | _, _, _ => none
def evUn (op : UnOp) (x : D) : Option D :=
  match op, x with
  | .not, .v (.bool b) => some (.v (.bool (!b)))
  | .neg, .v (.int k n) => some (.v (.int k (k.wrap (0 - n))))
  | _, _ => none
def layd : List D → List (Nat × Nat × D) → Option (List D)
  | cells, [] => some cells
  | cells, (off, n, d) :: ps =>
    if (dcells d).length = n ∧ off + n ≤ cells.length ∧ (dcells d).all okc then layd (cells.take off ++ dcells d ++ cells.drop (off + n)) ps else none
def elems (zero : List D) (ps : List (Nat × D)) (len : Nat) : List (List D) :=
  ps.foldl (fun es p => es.set p.1 (dcells p.2)) (List.replicate len zero)
def bnd (C : Ctx) (fr : List (Nat × D)) (z : Int) : Option Opd → Option Int
  | none => some z
  | some o => (intOf' (evO C fr o)).map fun p => p.2
def sameK : Bool → Value → Value → Option Bool
  | false, .int k a, .int k' b => if k = k' then some (a == b) else none
  | true, .string a, .string b => some (a == b)
  | _, _, _ => none
def mfind (s : Bool) (k : Value) : List (Value × Value) → Nat → Option (Option (Nat × Value))
  | [], _ => some none
  | (k', v) :: es, i => match sameK s k k' with
    | some true => some (some (i, v))
    | some false => mfind s k es (i + 1)
    | none => none
def isK : Bool → Value → Bool
  | false, .int _ _ | true, .string _ => true
  | _, _ => false
def kone : K → Option Value
  | .nilS => none
  | k => some k.val
def newsOf (hp : List (Nat × Blk)) : D → Option (List (List D))
  | .lst _ es => some es
  | .own id n => match lkh hp id with
    | some (.row _ els) => if els.length = n then some els else none
    | _ => none
  | _ => none
def evQ (C : Ctx) (fr : List (Nat × D)) (hp : List (Nat × Blk)) : IOp → Option D
  | .mv x => some (evO C fr x)
  | .pick c a b => (boolOf (evO C fr c)).map fun c => if c then evO C fr a else evO C fr b
  | .ld ag n x => match evO C fr x with
    | .ptr id off => match lkh hp id with
      | some (.box cells) => if ag then (if off + n ≤ cells.length then some (.agg ((cells.drop off).take n)) else none) else cells[off]?
      | _ => none
    | .rp cs => if ag then (if n ≤ cs.length then some (.agg (cs.take n)) else none) else cs[0]?
    | _ => none
  | .fa off x => match evO C fr x with
    | .ptr id o => some (.ptr id (o + off))
    | .rp cs => some (.rp (cs.drop off))
    | _ => none
  | .ia sz x i => (intOf' (evO C fr i)).bind fun (_, i) => if 0 ≤ i then (match evO C fr x with
    | .lst _ es => (es[i.toNat]?).bind fun e => if e.length = sz then some (.rp e) else none
    | .own id n => match lkh hp id with
      | some (.row _ els) => if els.length = n then (els[i.toNat]?).bind fun e => if e.length = sz then some (.rp e) else none else none
      | _ => none
    | _ => none) else none
  | .iaa n sz x i => (intOf' (evO C fr i)).bind fun (_, i) => if 0 ≤ i ∧ i < (n : Int) then (match evO C fr x with
    | .ptr id o => some (.ptr id (o + i.toNat * sz))
    | .rp cs => some (.rp (cs.drop (i.toNat * sz)))
    | _ => none) else none
  | .fld ag n off x => match evO C fr x with
    | .agg ds => if ag then (if off + n ≤ ds.length then some (.agg ((ds.drop off).take n)) else none) else ds[off]?
    | _ => none
  | .nilc x => match evO C fr x with
    | .ptr id o => some (.ptr id o)
    | .rp cs => some (.rp cs)
    | .fn f ds => some (.fn f ds)
    | _ => none
  | .ext x i => match evO C fr x with
    | .tup ds => ds[i]?
    | _ => none
  | .bi op k x y => evBi op k (evO C fr x) (evO C fr y)
  | .un op x => evUn op (evO C fr x)
  | .cv k x => (intOf' (evO C fr x)).map fun (_, n) => .v (.int k (k.wrap n))
  | .bld zero parts => (layd (zero.map K.d) (parts.map fun (o, n, x) => (o, n, evO C fr x))).map .agg
  | .bsl sz zero len parts => (expo.expos hp (parts.map fun (_, x) => evO C fr x)).bind fun ds =>
      if (ds.all fun d => (dcells d).length == sz && (dcells d).all okc) && decide (len * sz ≤ 16777216) && decide (0 < sz) then
        some (.lst true (elems (zero.map K.d) ((parts.map (·.1)).zip ds) len)) else none
  | .len str x => match str with
    | false => (match evO C fr x with
      | .lst _ es => some (.v (.int .i64 es.length))
      | .own id n => match lkh hp id with
        | some (.row _ els) => if els.length = n then some (.v (.int .i64 els.length)) else none
        | _ => none
      | _ => none)
    | true => (match evO C fr x with
      | .v (.string s) => some (.v (.int .i64 s.size))
      | _ => none)
  | .mx mn x y => match evO C fr x, evO C fr y with
    | .v (.int k a), .v (.int k' b) => if k = k' then some (.v (.int k (if mn then min a b else max a b))) else none
    | _, _ => none
  | .call f args => match evO C fr f with
    | .fn f caps => match C.T f with
      | some s => (expo.expos hp (args.map (evO C fr) ++ caps)).bind s
      | none => none
    | _ => none
  | .mkf f caps => some (.fn f (caps.map (evO C fr)))
  | .sls x lo hi => match evO C fr x with
    | .v (.string s) => (bnd C fr 0 lo).bind fun l => (bnd C fr s.size hi).bind fun h =>
        if 0 ≤ l ∧ l ≤ h ∧ h ≤ (s.size : Int) then some (.v (.string (s.extract l.toNat h.toNat))) else none
    | _ => none
  | .mlk s ok zero m k => match evO C fr m, evO C fr k with
    | .mp id, .v k => match lkh hp id, kone zero with
      | some (.map es), some z => if isK s k then (mfind s k es 0).map fun r => match r, ok with
        | some (_, v), false => .v v
        | none, false => .v z
        | some (_, v), true => .tup [.v v, .v (.bool true)]
        | none, true => .tup [.v z, .v (.bool false)] else none
      | _, _ => none
    | _, _ => none
  | .apq sz bytes s x => match newsOf hp (evO C fr x), evO C fr s with
    | some news, .lst true es => if (news.all fun e => e.length == sz) && decide (0 < sz) && (es.isEmpty || !news.isEmpty) && (es.all fun e => e.length == sz) && decide ((es.length + news.length) * bytes ≤ 140737488355328) then
        some (.lst false (es ++ news)) else none
    | _, _ => none
  | .b2s x => match newsOf hp (evO C fr x) with
    | some [[.v (.int .u8 n)]] => some (.v (.string ⟨#[UInt8.ofNat n.toNat]⟩))
    | _ => none
  | .lenm x => match evO C fr x with
    | .lst _ es => some (.v (.int .i64 es.length))
    | .own id n => match lkh hp id with
      | some (.box _) => some (.v (.int .i64 n))
      | _ => none
    | _ => none
  | .iam sz x i => match evO C fr x, evO C fr i with
    | .own id n, .v (.int _ i) => match lkh hp id with
      | some (.box _) => if 0 ≤ i ∧ i < (n : Int) then some (.ptr id (i.toNat * sz)) else none
      | _ => none
    | _, _ => none
  | .nnil ne x => match evO C fr x with
    | .lst _ (_ :: _) => some (.v (.bool ne))
    | _ => none
  | .peek f args => match evO C fr f with
    | .fn f caps => match C.T f with
      | some s => ((expoP.expos hp (args.map (evO C fr) ++ caps)).bind s).bind fun r => if scal r then some r else none
      | none => none
    | _ => none
  | .slc x h => match evO C fr x, evO C fr h with
    | .lst _ es, .v (.int _ h) => if 0 ≤ h ∧ h ≤ (es.length : Int) then some (.lst false (es.take h.toNat)) else none
    | _, _ => none
  | .ixs x i => match evO C fr x, evO C fr i with
    | .v (.string s), .v (.int _ i) => if 0 ≤ i then (s.data[i.toNat]?).map fun b => .v (.int .u8 (b.toNat : Int)) else none
    | _, _ => none
  | _ => none
def isQ (C : Ctx) (fr : List (Nat × D)) : IOp → Bool
  | .alc _ | .box _ | .st _ _ _ | .app _ _ _ _ | .apm _ _ _ _ | .msm _ _ _ _ _ | .msl _ _ _ _ _ | .mmk | .mup _ _ _ _ | .men _ _ _ _ | .mes _ _ _ | .bso _ _ _ _ => false
  | .call f _ => match evO C fr f with
    | .fn f _ => (C.T f).isSome
    | _ => false
  | _ => true
def evE (C : Ctx) (fr : List (Nat × D)) (hp : List (Nat × Blk)) (nx : Nat) : IOp → Option (D × List (Nat × Blk) × Nat)
  | .alc zero => some (.ptr nx 0, (nx, .box (zero.map K.d)) :: hp, nx + 1)
  | .box x => if (dcells (evO C fr x)).all okc then some (.ptr nx 0, (nx, .box (dcells (evO C fr x))) :: hp, nx + 1) else none
  | .st n a x => match evO C fr a with
    | .ptr id off => match lkh hp id with
      | some (.box cells) =>
        if (dcells (evO C fr x)).length = n ∧ off + n ≤ cells.length ∧ (dcells (evO C fr x)).all okc then
          some (.tup [], uph hp id (.box (cells.take off ++ dcells (evO C fr x) ++ cells.drop (off + n))), nx)
        else none
      | _ => none
    | _ => none
  | .app sz bytes s x => (newsOf hp (evO C fr x)).bind fun news =>
    if news.all (fun e => e.length == sz) && decide (0 < sz) then (match evO C fr s with
      | .own id n => match lkh hp id with
        | some (.row z els) => if z = sz ∧ els.length = n ∧ (n + news.length) * bytes ≤ 140737488355328 then some (.own id (n + news.length), uph hp id (.row sz (els ++ news)), nx) else none
        | _ => none
      | .lst true es => if (es.isEmpty || !news.isEmpty) ∧ (es.all fun e => e.length == sz) ∧ (es.length + news.length) * bytes ≤ 140737488355328 then
          some (.own nx (es.length + news.length), (nx, .row sz (es ++ news)) :: hp, nx + 1) else none
      | _ => none) else none
  | .apm sz bytes s x => (newsOf hp (evO C fr x)).bind fun news =>
    if news.all (fun e => e.length == sz) && decide (0 < sz) && !news.isEmpty && decide (news.length * bytes ≤ 140737488355328) then (match evO C fr s with
      | .lst true [] => some (.own nx news.length, (nx, .box news.flatten) :: hp, nx + 1)
      | _ => none) else none
  | .bso sz zero len parts => (expo.expos hp (parts.map fun (_, x) => evO C fr x)).bind fun ds =>
      if (ds.all fun d => (dcells d).length == sz && (dcells d).all okc) && decide (len * sz ≤ 16777216) && decide (0 < sz) && decide (0 < len) then
        some (.own nx len, (nx, .row sz (elems (zero.map K.d) ((parts.map (·.1)).zip ds) len)) :: hp, nx + 1) else none
  | .msl sz bytes zero n c => match evO C fr n, evO C fr c with
    | .v (.int .i64 n), .v (.int .i64 c) => if 0 ≤ n ∧ n ≤ c ∧ c * bytes ≤ 140737488355328 ∧ zero.length = sz ∧ 0 < sz then
        some (.own nx n.toNat, (nx, .row sz (List.replicate n.toNat (zero.map K.d))) :: hp, nx + 1) else none
    | _, _ => none
  | .msm sz bytes zero n c => match evO C fr n, evO C fr c with
    | .v (.int .i64 n), .v (.int .i64 c) => if 0 < n ∧ n = c ∧ c * bytes ≤ 140737488355328 ∧ zero.length = sz ∧ 0 < sz then
        some (.own nx n.toNat, (nx, .box (List.replicate n.toNat (zero.map K.d)).flatten) :: hp, nx + 1) else none
    | _, _ => none
  | .mmk => some (.mp nx, (nx, .map []) :: hp, nx + 1)
  | .mup s m k x => match evO C fr m, evO C fr k, evO C fr x with
    | .mp id, .v k, .v x => match lkh hp id with
      | some (.map es) => if isK s k && plain x then (mfind s k es 0).map fun r => match r with
        | some (i, _) => (.tup [], uph hp id (.map (es.set i (k, x))), nx)
        | none => (.tup [], uph hp id (.map (es ++ [(k, x)])), nx) else none
      | _ => none
    | _, _, _ => none
  | .men s zero m k => match evO C fr m, evO C fr k with
    | .mp id, .v k => match lkh hp id, kone zero with
      | some (.map es), some z => if isK s k then (mfind s k es 0).map fun r => match r with
        | some (i, v) => (.tup [.v v, .v (.int .i64 i)], hp, nx)
        | none => (.tup [.v z, .v (.int .i64 es.length)], uph hp id (.map (es ++ [(k, z)])), nx) else none
      | _, _ => none
    | _, _ => none
  | .mes m i x => match evO C fr m, evO C fr i, evO C fr x with
    | .mp id, .v (.int _ i), .v x => match lkh hp id with
      | some (.map es) => if 0 ≤ i ∧ i < (es.length : Int) ∧ plain x = true then (es[i.toNat]?).map fun p => (.tup [], uph hp id (.map (es.set i.toNat (p.1, x))), nx) else none
      | _ => none
    | _, _, _ => none
  | .call f args => match evO C fr f with
    | .fn f caps => C.cal f (args.map (evO C fr) ++ caps) hp nx
    | _ => none
  | _ => none
def want (g : Option (Nat × Bool)) (fr : List (Nat × D)) : Option Bool :=
  match g with
  | none => some true
  | some (t, b) => match lkf fr t with
    | .v (.bool c) => some (c == b)
    | .tup [] => some false
    | _ => none
def hpl (l : Bool) (hp : List (Nat × Blk)) : List (Nat × Blk) :=
  match l with
  | true => []
  | false => hp
def evOps (C : Ctx) : List Iop → St → Option St
  | [], σ => some σ
  | o :: os, σ => match want o.gd σ.fr with
    | none => none
    | some false => evOps C os { σ with fr := put o.dst (.tup []) σ.fr }
    | some true =>
      if isQ C σ.fr o.op then (evQ C σ.fr (hpl o.lo σ.hp) o.op).bind fun d => evOps C os { σ with fr := put o.dst d σ.fr }
      else match o.lo with
        | true => none
        | false => (evE C σ.fr σ.hp σ.nx o.op).bind fun (d, hp, nx) => evOps C os ⟨put o.dst d σ.fr, hp, nx⟩
def idlt (n : Nat) : D → Bool
  | .v _ | .lst _ _ | .rp _ | .junk => true
  | .agg ds | .fn _ ds | .tup ds => idlts ds
  | .own id _ | .ptr id _ | .mp id => decide (id < n)
where idlts : List D → Bool
  | [] => true
  | d :: ds => idlt n d && idlts ds
def hplt (n : Nat) : List (Nat × Blk) → Bool
  | [] => true
  | (i, .box cells) :: hp => (decide (n ≤ i) || cells.all (idlt n)) && hplt n hp
  | (_, .row _ _) :: hp => hplt n hp
  | (_, .map _) :: hp => hplt n hp
def trim (keep : List Nat) (n : Nat) (σ : St) : Option St :=
  if (keep.all fun s => idlt n (lkf σ.fr s)) && hplt n σ.hp then
    some ⟨keep.map fun s => (s, lkf σ.fr s), σ.hp.filter (fun p => decide (p.1 < n)), n⟩
  else none
inductive Ex where
  | nm | ex (id : Nat) | rt
  deriving DecidableEq
def iter (f : St → Option (Ex × St)) (tr : St → Option St) : Nat → St → Option (Ex × St)
  | 0, _ => none
  | k + 1, σ => (tr σ).bind fun σ => match f σ with
    | some (.nm, σ') => iter f tr k σ'
    | r => r
def rnds (f : List D → St → Option (Ex × St)) (tr : St → Option St) : List (List D) → St → Option (Ex × St)
  | [], σ => some (.nm, σ)
  | x :: xs, σ => match f x σ with
    | some (.nm, σ') => (tr ⟨σ.fr, σ'.hp, σ'.nx⟩).bind (rnds f tr xs)
    | some (e, σ') => some (e, ⟨σ.fr, σ'.hp, σ'.nx⟩)
    | none => none
def putl : List Nat → List D → List (Nat × D) → List (Nat × D)
  | p :: ps, d :: ds, fr => putl ps ds ((p, d) :: fr)
  | _, _, fr => fr
def round (ps : List Nat) (A B : St → Option (Ex × St)) (x : List D) (τ : St) : Option (Ex × St) :=
  if x.length = ps.length ∧ cl.cls x = true then match A ⟨putl ps x τ.fr, τ.hp, τ.nx⟩ with
    | some (.nm, τ1) => B τ1
    | _ => none
  else none
def rmh (hp : List (Nat × Blk)) (id : Nat) : List (Nat × Blk) := hp.filter fun p => p.1 != id
def frz : List (Nat × Blk) → List D → Option (List (Nat × Blk) × List D)
  | hp, [] => some (hp, [])
  | hp, .ptr id 0 :: ds => match lkh hp id with
    | some (.box cells) => if cl.cls cells then (frz (rmh hp id) ds).map fun r => (r.1, .rp cells :: r.2) else none
    | _ => none
  | hp, d :: ds => if cl d then (frz hp ds).map fun r => (r.1, d :: r.2) else none
def cellOf (hp : List (Nat × Blk)) (off : Nat) : D → Option (Nat × Nat × List D)
  | .ptr id o => match lkh hp id with
    | some (.box cells) => match cells[o + off]? with
      | some (.lst true []) => some (id, o + off, cells)
      | _ => none
    | _ => none
  | _ => none
def ev (C : Ctx) (N : Nat) : IC → St → Option (Ex × St)
  | .skip, σ => some (.nm, σ)
  | .reg ops _, σ => (evOps C ops σ).map fun σ => (.nm, σ)
  | .seq a b, σ => match ev C N a σ with
    | some (.nm, σ') => ev C N b σ'
    | r => r
  | .cond x a b, σ => match boolOf (evO C σ.fr x) with
    | some c => if c then ev C N a σ else ev C N b σ
    | none => none
  | .blk id a, σ => match ev C N a σ with
    | some (.ex i, σ') => if i = id then some (.nm, σ') else some (.ex i, σ')
    | r => r
  | .loop keep a, σ => iter (ev C N a) (trim keep σ.nx) N σ
  | .exit id, σ => some (.ex id, σ)
  | .ret, σ => some (.rt, σ)
  | .bad, _ => none
  | .rng f ps keep a b, σ => match evO C σ.fr f with
    | .fn gf caps => (frz σ.hp caps).bind fun r => (C.I gf r.2).bind fun xs => (trim keep σ.nx ⟨σ.fr, r.1, σ.nx⟩).bind fun τ =>
      rnds (round ps (ev C N a) (ev C N b)) (trim keep σ.nx) xs τ
    | _ => none
  | .fz t a, σ => match lkf σ.fr t with
    | .ptr id 0 => match lkh σ.hp id with
      | some (.box cells) => if cl.cls cells then ev C N a ⟨(t, .rp cells) :: σ.fr, rmh σ.hp id, σ.nx⟩ else none
      | _ => none
    | _ => none
  | .fzo t a, σ => match lkf σ.fr t with
    | .own id n => match lkh σ.hp id with
      | some (.box cells) => if cells.length = n ∧ cl.cls cells = true then ev C N a ⟨(t, .lst false (cells.map fun c => [c])) :: σ.fr, rmh σ.hp id, σ.nx⟩ else none
      | _ => none
    | _ => none
  | .own t sz a, σ => match lkf σ.fr t with
    | .lst true [] => ev C N a ⟨(t, .own σ.nx 0) :: σ.fr, (σ.nx, .row sz []) :: σ.hp, σ.nx + 1⟩
    | _ => ev C N a σ
  | .ownb t off sz a, σ => match cellOf σ.hp off (lkf σ.fr t) with
    | some (id, o, cells) => ev C N a ⟨σ.fr, (σ.nx, .row sz []) :: uph σ.hp id (.box (cells.set o (.own σ.nx 0))), σ.nx + 1⟩
    | none => ev C N a σ
inductive RV where
  | t (i : Nat) | cell (ag : Bool) (n : Nat) (i : Nat)
  deriving DecidableEq
structure IFun where
  np : Nat
  res : List RV
  body : IC
def resD (fr : List (Nat × D)) (hp : List (Nat × Blk)) : RV → Option D
  | .t i => some (lkf fr i)
  | .cell ag n i => match lkf fr i with
    | .ptr id off => match lkh hp id with
      | some (.box cells) => if ag then (if off + n ≤ cells.length then some (.agg ((cells.drop off).take n)) else none) else cells[off]?
      | _ => none
    | _ => none
def resDs (fr : List (Nat × D)) (hp : List (Nat × Blk)) (rs : List RV) : Option D :=
  match rs with
  | [r] => resD fr hp r
  | rs => (rs.mapM (resD fr hp)).map .tup
def run (C : Ctx) (N : Nat) (F : IFun) (args : List D) (hp : List (Nat × Blk)) (nx : Nat) : Option (D × List (Nat × Blk) × Nat) :=
  if args.length = F.np then match ev C N F.body ⟨(List.range args.length).zip args, hp, nx⟩ with
    | some (.nm, σ) | some (.rt, σ) => (resDs σ.fr σ.hp F.res).map fun d => (d, σ.hp, σ.nx)
    | _ => none
  else none
def lookF {α : Type} : List (Nat × α) → Nat → Option α
  | [], _ => none
  | (j, x) :: l, i => if i = j then some x else lookF l i
def gcr (nx : Nat) : Option (D × List (Nat × Blk) × Nat) → Option (D × List (Nat × Blk) × Nat)
  | some (d, hp', nx') => if (idlt nx d && hplt nx hp') = true then some (d, hp'.filter (fun p => decide (p.1 < nx)), nx) else some (d, hp', nx')
  | none => none
def calF (G : Nat → Option (List D)) (T : Nat → Option (List D → Option D)) (I : Nat → List D → Option (List (List D))) (N : Nat) (fs : List (Nat × IFun)) : Nat → Nat → List D → List (Nat × Blk) → Nat → Option (D × List (Nat × Blk) × Nat)
  | 0, _, _, _, _ => none
  | k + 1, f, ds, hp, nx => match lookF fs f with
    | some F => gcr nx (run ⟨G, T, calF G T I N fs k, I⟩ N F ds hp nx)
    | none => none
end Go.Proofs.Dv
set_option linter.unusedVariables false
set_option linter.unusedSimpArgs false
namespace Go.Proofs.Dv
open Go.RowKit
section
variable (P : Program)
def keq : Value → K → Bool
  | .int k n, .int k' m => k == k' && n == m
  | .bool b, .bool c => b == c
  | .string s, .str bs => s.data == (bs.map UInt8.ofNat).toArray
  | .slice none 0 0, .nilS => true
  | .pointer none, .nilP => true
  | .nilFunc, .nilF => true
  | .nilIface, .nilI => true
  | .map none, .nilM => true
  | _, _ => false
theorem keq_val : ∀ {v : Value} {k : K}, keq v k = true → v = k.val := by
  intro v k h
  unfold keq at h
  split at h
  · simp only [Bool.and_eq_true, beq_iff_eq] at h; obtain ⟨rfl, rfl⟩ := h; rfl
  · simp only [beq_iff_eq] at h; subst h; rfl
  · simp only [beq_iff_eq] at h; simp only [K.val]; congr 1; cases ‹ByteArray›; simp_all
  all_goals first | rfl | simp at h
def oeq : Operand → Opd → Bool
  | .tmp t, .t i => t == i
  | .const v, .k k => keq v k
  | .func f, .f n => f == n
  | .global g, .g n => g == n
  | _, _ => false
def szIs (t n : Nat) : Bool := match P.info? t with
  | some i => i.size == n
  | none => false
def bytesIs (t n : Nat) : Bool := match P.info? t with
  | some i => i.bytes == n
  | none => false
def isAg (t : Nat) : Option Bool := match P.underlying t with
  | some (.struct _) | some (.array _ _) => some true
  | some _ => some false
  | none => none
def zeroIs (t : Nat) (zs : List K) : Bool := match P.info? t with
  | some i => match i.zero with
    | some z => z.cells.size == zs.length && (z.cells.toList.zip zs).all fun p => keq p.1 p.2
    | none => false
  | none => false
def elemIs (t : Nat) (f : Nat → Bool) : Bool := match P.underlying t with
  | some (.slice e) => f e
  | _ => false
def fieldIs (t i : Nat) (f : Field → Bool) : Bool := match P.underlying t with
  | some (.struct fs) => match fs[i]? with
    | some x => f x
    | none => false
  | _ => false
def oeqs : List Operand → List Opd → Bool
  | [], [] => true
  | x :: xs, y :: ys => oeq x y && oeqs xs ys
  | _, _ => false
def oopt : Option Operand → Option Opd → Bool
  | none, none => true
  | some x, some y => oeq x y
  | _, _ => false
def bldeq (t : Nat) : List (Nat × Operand) → List (Nat × Nat × Opd) → Bool
  | [], [] => true
  | (i, x) :: xs, (o, n, y) :: ys => oeq x y && fieldIs P t i (fun f => f.offset == o && szIs P f.type n) && bldeq t xs ys
  | _, _ => false
def bsleq (len : Nat) : List (Nat × Operand) → List (Nat × Opd) → Bool
  | [], [] => true
  | (i, x) :: xs, (j, y) :: ys => i == j && decide (i < len) && oeq x y && bsleq len xs ys
  | _, _ => false
def allInfo (t : Nat) : Bool := match P.underlying t with
  | some (.struct fs) => fs.toList.all fun f => (P.info? f.type).isSome
  | _ => false
def undIs (t : Nat) (d : TypeDesc → Bool) : Bool := match P.underlying t with
  | some x => d x
  | none => false
def agFs : List Field → List Bool → Nat → Bool
  | [], [], _ => true
  | f :: fs, k :: ks, off => f.name != "_" && f.offset == off && (match P.underlying f.type with | some (.int _) => !k | some .string => k | _ => false) && agFs fs ks (off + 1)
  | _, _, _ => false
def bkeq (t : Nat) : BK → Bool
  | .int => undIs P t fun | .int _ => true | _ => false
  | .str => undIs P t fun | .string => true | _ => false
  | .bool => undIs P t fun | .bool => true | _ => false
  | .ag ks => !P.stoodInHeld t && !P.eqGuardType P.depth t && undIs P t fun | .struct fs => agFs P fs.toList ks 0 | _ => false
  | _ => false
def mapIs (t : Nat) (f : Nat → Nat → Bool) : Bool := match P.underlying t with
  | some (.map k e) => f k e
  | _ => false
def keyIs (s : Bool) (k : Nat) : Bool := undIs P k fun | .int _ => !s | .string => s | _ => false
def zeroOne (t : Nat) (z : K) : Bool := match P.info? t with
  | some i => match i.zero with
    | some v => keq v z
    | none => false
  | none => false
def opeq : Op → IOp → Bool
  | .move x, .mv y => oeq x y
  | .assign x, .mv y => oeq x y
  | .pick c a b, .pick c' a' b' => oeq c c' && oeq a a' && oeq b b'
  | .load t x, .ld ag n y => oeq x y && szIs P t n && isAg P t == some ag
  | .store t a x, .st n b y => oeq a b && oeq x y && szIs P t n
  | .fieldAddr t x f, .fa off y => oeq x y && fieldIs P t f fun fd => fd.offset == off && (match P.info? fd.type with | some i => i.size != 0 | none => false)
  | .indexAddr t x i, .ia sz y j => oeq x y && oeq i j && elemIs P t fun e => szIs P e sz
  | .indexAddr t x i, .iam sz y j => oeq x y && oeq i j && elemIs P t fun e => szIs P e sz
  | .indexAddr t x i, .iaa n sz y j => oeq x y && oeq i j && undIs P t fun | .array k e => k == n && szIs P e sz | _ => false
  | .index t x i, .ixs y j => oeq x y && oeq i j && undIs P t fun | .string => true | _ => false
  | .slice t x lo hi none, .sls y l h => oeq x y && oopt lo l && oopt hi h && undIs P t fun | .string => true | _ => false
  | .field t x f, .fld ag n off y => oeq x y && fieldIs P t f fun fd => fd.offset == off && szIs P fd.type n && isAg P fd.type == some ag
  | .nilCheck x, .nilc y => oeq x y
  | .extract x i, .ext y j => oeq x y && i == j
  | .binOp op t x y _, .bi op' k a b => op == op' && oeq x a && oeq y b && bkeq P t k
  | .unOp op _ x, .un op' y => op == op' && oeq x y
  | .convert s d x, .cv k y => oeq x y && (P.underlying s).isSome && (match P.underlying d with | some (.int k') => k' == k | _ => false)
  | .convert s d x, .b2s y => oeq x y && (undIs P s fun | .slice e => undIs P e (fun | .int .u8 => true | _ => false) | _ => false) && undIs P d fun | .string => true | _ => false
  | .build t ps, .bld zs qs => zeroIs P t zs && allInfo P t && bldeq P t ps.toList qs
  | .buildSlice t n ps, .bsl sz zs m qs => n == m && bsleq n ps.toList qs && elemIs P t fun e => szIs P e sz && zeroIs P e zs && zs.length == sz
  | .buildSlice t n ps, .bso sz zs m qs => n == m && bsleq n ps.toList qs && elemIs P t fun e => szIs P e sz && zeroIs P e zs && zs.length == sz
  | .alloc t, .alc zs => zeroIs P t zs
  | .box _ x, .box y => oeq x y
  | .makeFunc (.func f) first caps, .mkf g ds => f == g && first.isEmpty && oeqs caps.toList ds
  | .call { callee := .builtin .len, args, argTypes }, .len s x => (match args.toList with | [y] => oeq y x | _ => false) && (match argTypes.toList with | [t] => undIs P t (fun | .slice _ => !s | .string => s | _ => false) | _ => false)
  | .call { callee := .builtin .len, args, argTypes }, .lenm x => (match args.toList with | [y] => oeq y x | _ => false) && (match argTypes.toList with | [t] => undIs P t (fun | .slice _ => true | _ => false) | _ => false)
  | .call { callee := .builtin .append, args, argTypes := ts }, .app sz bytes s x => (match args.toList with | [a, b] => oeq a s && oeq b x | _ => false) && (match ts.toList with
      | [t, t'] => t == t' && elemIs P t fun e => szIs P e sz && bytesIs P e bytes && decide (0 < bytes) && (match P.info? e with | some i => i.zero.any (fun z => z.cells.size == sz) | none => false)
      | _ => false)
  | .call { callee := .builtin .append, args, argTypes := ts }, .apq sz bytes s x => (match args.toList with | [a, b] => oeq a s && oeq b x | _ => false) && (match ts.toList with
      | [t, t'] => t == t' && elemIs P t fun e => szIs P e sz && bytesIs P e bytes && decide (0 < bytes) && (match P.info? e with | some i => i.zero.any (fun z => z.cells.size == sz) | none => false)
      | _ => false)
  | .call { callee := .builtin .append, args, argTypes := ts }, .apm sz bytes s x => (match args.toList with | [a, b] => oeq a s && oeq b x | _ => false) && (match ts.toList with
      | [t, t'] => t == t' && elemIs P t fun e => szIs P e sz && bytesIs P e bytes && decide (0 < bytes) && (match P.info? e with | some i => i.zero.any (fun z => z.cells.size == sz) | none => false)
      | _ => false)
  | .binOp .eql t x y _, .nnil false a => oeq x a && oeq y (.k .nilS) && undIs P t fun | .slice _ => true | _ => false
  | .binOp .neq t x y _, .nnil true a => oeq x a && oeq y (.k .nilS) && undIs P t fun | .slice _ => true | _ => false
  | .makeSlice t l c, .msl sz bytes zs n k => oeq l n && oeq c k && elemIs P t fun e => szIs P e sz && bytesIs P e bytes && decide (0 < bytes) && zeroIs P e zs && zs.length == sz
  | .makeSlice t l c, .msm sz bytes zs n k => oeq l n && oeq c k && elemIs P t fun e => szIs P e sz && bytesIs P e bytes && decide (0 < bytes) && zeroIs P e zs && zs.length == sz
  | .makeMap _ none, .mmk => true
  | .lookup t x k ok, .mlk s ok' z m i => ok == ok' && oeq x m && oeq k i && mapIs P t fun kt et => keyIs P s kt && zeroOne P et z
  | .mapUpdate t m k x, .mup s m' k' x' => oeq m m' && oeq k k' && oeq x x' && mapIs P t fun kt et => keyIs P s kt
  | .insert t m k x, .mup s m' k' x' => oeq m m' && oeq k k' && oeq x x' && mapIs P t fun kt et => keyIs P s kt
  | .slice t x none (some h) none, .slc y h' => oeq x y && oeq h h' && elemIs P t fun e => (P.info? e).isSome
  | _, .bad => true
  | .call { callee := .builtin .max, args, .. }, .mx false x y => (match args.toList with | [a, b] => oeq a x && oeq b y | _ => false)
  | .call { callee := .builtin .min, args, .. }, .mx true x y => (match args.toList with | [a, b] => oeq a x && oeq b y | _ => false)
  | .call { callee := .value f, args, .. }, .call g as => oeq f g && oeqs args.toList as
  | .call { callee := .value f, args, .. }, .peek g as => oeq f g && oeqs args.toList as
  | _, _ => false
end
end Go.Proofs.Dv
set_option linter.unusedVariables false
set_option linter.unusedSimpArgs false
namespace Go.Proofs.Dv
open Go.RowKit
theorem flat_len {α : Type} {sz : Nat} : ∀ {es : List (List α)}, (∀ e ∈ es, e.length = sz) → es.flatten.length = es.length * sz
  | [], _ => by simp
  | e :: es, h => by
    rw [List.flatten_cons, List.length_append, flat_len (fun x hx => h x (List.mem_cons_of_mem _ hx)), h e List.mem_cons_self, List.length_cons, Nat.add_mul, Nat.one_mul, Nat.add_comm]
theorem flat_get {α : Type} {sz : Nat} : ∀ {es : List (List α)}, (∀ e ∈ es, e.length = sz) → ∀ i j, j < sz → es.flatten[i * sz + j]? = (es[i]?).bind (·[j]?)
  | [], _, i, j, hj => by simp
  | e :: es, h, i, j, hj => by
    have he := h e List.mem_cons_self
    cases i with
    | zero =>
      rw [List.flatten_cons, Nat.zero_mul, Nat.zero_add, List.getElem?_append_left (by omega)]
      simp
    | succ i =>
      rw [List.flatten_cons, List.getElem?_append_right (by rw [Nat.add_mul]; omega), he]
      have : (i + 1) * sz + j - sz = i * sz + j := by rw [Nat.add_mul]; omega
      rw [this, flat_get (fun x hx => h x (List.mem_cons_of_mem _ hx)) i j hj]
      simp
theorem flat_set {α : Type} {sz : Nat} {p : List α} (hp : p.length = sz) : ∀ {es : List (List α)}, (∀ e ∈ es, e.length = sz) → ∀ i, i < es.length → (es.set i p).flatten = es.flatten.take (i * sz) ++ p ++ es.flatten.drop (i * sz + p.length)
  | [], _, i, hi => by simp at hi
  | e :: es, h, i, hi => by
    have he := h e List.mem_cons_self
    cases i with
    | zero =>
      simp only [List.set_cons_zero, List.flatten_cons, Nat.zero_mul, List.take_zero, List.nil_append, Nat.zero_add]
      rw [List.drop_append_of_le_length (by omega)]
      rw [hp, ← he, List.drop_length, List.nil_append]
    | succ i =>
      simp only [List.set_cons_succ, List.flatten_cons]
      rw [flat_set hp (fun x hx => h x (List.mem_cons_of_mem _ hx)) i (by simpa using hi)]
      have e1 : (i + 1) * sz = e.length + i * sz := by rw [Nat.add_mul, he]; omega
      rw [e1, List.take_length_add_append, show e.length + i * sz + p.length = e.length + (i * sz + p.length) by omega, List.drop_length_add_append]
      simp [List.append_assoc]
def ment : List (Value × Value) → Nat → List MapEntry
  | [], _ => []
  | (k, v) :: es, i => { key := k, val := v, born := i } :: ment es (i + 1)
structure Mp where
  ρ : Nat → Nat
  sv : Nat → Value
def rblk : Value → Option Nat
  | .slice (some a) _ (_ + 1) => some a.block
  | _ => none
def blkOf (m : Mp) (id : Nat) : Blk → Option Nat
  | .box _ => some (m.ρ id)
  | .row _ _ => rblk (m.sv id)
  | .map _ => some (m.ρ id)
def stab (S0 : Nat → Nat → Prop) (B : Nat) (m : Mp) (hp : List (Nat × Blk)) (w : World) : Nat → Nat → Prop := fun b o =>
  (b < B ∧ S0 b o) ∨ (B ≤ b ∧ b < w.heap.size ∧ (∀ id cs, lkh hp id = some (.box cs) → m.ρ id ≠ b) ∧ (∀ id z els, lkh hp id = some (.row z els) → rblk (m.sv id) = some b → o < els.length * z))
def env (m : Mp) (hp : List (Nat × Blk)) (nx : Nat) : Env where
  own id n v := id < nx ∧ (∃ A l c, v = .slice A l c) ∧ (∀ z els, lkh hp id = some (.row z els) → n ≤ els.length ∧ (els.length = n → v = m.sv id)) ∧
    ∀ cells, lkh hp id = some (.box cells) → ∃ c, v = .slice (some ⟨m.ρ id, 0, none⟩) n c ∧ n ≤ c ∧ c ≤ maxLen
  ptr id off v := id < nx ∧ v = .pointer (some ⟨m.ρ id, off, none⟩)
  mp id v := id < nx ∧ v = .map (some (m.ρ id))
section
variable (S0 : Nat → Nat → Prop) (B : Nat) (m : Mp) (hp : List (Nat × Blk)) (nx : Nat) (w : World)
abbrev RdS : D → Value → Prop := Rd w (stab S0 B m hp w) (some (env m hp nx))
abbrev Rd0 : D → Value → Prop := Rd w (stab S0 B m hp w) none
def BlkOK (id : Nat) : Blk → Prop
  | .box cells => ∃ arr T, w.heap[m.ρ id]? = some (.cells arr T (0, 0)) ∧ B ≤ m.ρ id ∧ cells.length ≤ arr.size ∧ ∀ j (h : j < cells.length), ∃ c, arr[j]? = some c ∧ c.oneCell' = true ∧ RdS S0 B m hp nx w cells[j] c
  | .row sz els => 0 < sz ∧ (∀ l ∈ els, l.length = sz) ∧ ((els = [] ∧ ∃ A, m.sv id = .slice A 0 0) ∨
      ∃ g cap cur e, m.sv id = .slice (some ⟨g, 0, none⟩) els.length (cap + 1) ∧ B ≤ g ∧ w.heap[g]? = some (.cells cur e (0, 0)) ∧ els.length ≤ cap + 1 ∧ cap + 1 ≤ maxLen ∧ cur.size = (cap + 1) * sz ∧
        ∀ k (h : k < els.flatten.length), ∃ c, cur[k]? = some c ∧ c.oneCell' = true ∧ Rd0 S0 B m hp w els.flatten[k] c)
  | .map es => ∃ ents, w.heap[m.ρ id]? = some (.map ents es.length) ∧ B ≤ m.ρ id ∧ ents.toList = ment es 0 ∧ ∀ p ∈ es, plain p.2 = true
structure HRel (G : Nat → Option (List D)) : Prop where
  hB : B ≤ w.heap.size
  bl : ∀ id blk, lkh hp id = some blk → id < nx ∧ BlkOK S0 B m hp nx w id blk
  dj : ∀ i j bi bj k, lkh hp i = some bi → lkh hp j = some bj → blkOf m i bi = some k → blkOf m j bj = some k → i = j
  gl : ∀ g cs, G g = some cs → Rd0 S0 B m hp w (.rp cs) (.pointer (some ⟨g, 0, none⟩))
def FRel (fr : List (Nat × D)) (a : Act) : Prop := ∀ t, RdS S0 B m hp nx w (lkf fr t) (a.tmps.getD t undef)
end
section
variable {S0 : Nat → Nat → Prop} {B : Nat} {m : Mp} {hp : List (Nat × Blk)} {nx : Nat} {w w' : World} {G : Nat → Option (List D)}
theorem cell_lt {w : World} {b o : Nat} {u : Value} (h : w.cell? ⟨b, o, none⟩ = some u) : b < w.heap.size := World.block_lt_of_cell? w ⟨b, o, none⟩ h
theorem stab_grow (hb : Below w.heap.size w w') : ∀ b o, stab S0 B m hp w b o → stab S0 B m hp w' b o := by
  rintro b o (h | ⟨h1, h2, h3, h4⟩)
  · exact .inl h
  · exact .inr ⟨h1, Nat.lt_of_lt_of_le h2 hb.size, h3, h4⟩
theorem cell_grow (hb : Below w.heap.size w w') {b o : Nat} {u : Value} (h : w.cell? ⟨b, o, none⟩ = some u) : w'.cell? ⟨b, o, none⟩ = some u :=
  (hb.cell (p := ⟨b, o, none⟩) (cell_lt h)).trans h
theorem Rd.grow {X : Option Env} {d : D} {u : Value} (hb : Below w.heap.size w w') (h : Rd w (stab S0 B m hp w) X d u) : Rd w' (stab S0 B m hp w') X d u :=
  Rd.mono (fun _ _ _ _ hc => cell_grow hb hc) (stab_grow hb) d X X u (fun E hE => ⟨E, hE, fun _ _ _ h => h, fun _ _ _ h => h, fun _ _ h => h⟩) h
theorem Rd.open_ {S : Nat → Nat → Prop} {E : Env} {d : D} {u : Value} (h : Rd w S none d u) : Rd w S (some E) d u :=
  Rd.mono (fun _ _ _ _ h => h) (fun _ _ h => h) d none (some E) u (fun E h => by cases h) h
theorem BlkOK.grow {id : Nat} {b : Blk} (hb : Below w.heap.size w w') (h : BlkOK S0 B m hp nx w id b) : BlkOK S0 B m hp nx w' id b := by
  cases b with
  | box cells =>
    obtain ⟨arr, T, h1, h2, h3, h4⟩ := h
    refine ⟨arr, T, (hb.block _ (Array.getElem?_eq_some_iff.1 h1).1).trans h1, h2, h3, fun j hj => ?_⟩
    obtain ⟨c, h5, h6, h7⟩ := h4 j hj
    exact ⟨c, h5, h6, h7.grow hb⟩
  | row sz els =>
    obtain ⟨h0, h1, h2⟩ := h
    refine ⟨h0, h1, h2.imp (fun x => x) ?_⟩
    rintro ⟨g, cap, cur, e, k1, k2, k3, k4, k5, k6, k7⟩
    refine ⟨g, cap, cur, e, k1, k2, (hb.block _ (Array.getElem?_eq_some_iff.1 k3).1).trans k3, k4, k5, k6, fun k hk => ?_⟩
    obtain ⟨c, h5, h6, h7⟩ := k7 k hk
    exact ⟨c, h5, h6, h7.grow hb⟩
  | map es =>
    obtain ⟨ents, h1, h2⟩ := h
    exact ⟨ents, (hb.block _ (Array.getElem?_eq_some_iff.1 h1).1).trans h1, h2⟩
theorem HRel.grow (hb : Below w.heap.size w w') (h : HRel S0 B m hp nx w G) : HRel S0 B m hp nx w' G :=
  ⟨Nat.le_trans h.hB hb.size, fun id blk hl => ⟨(h.bl id blk hl).1, (h.bl id blk hl).2.grow hb⟩, h.dj, fun g cs hg => (h.gl g cs hg).grow hb⟩
theorem FRel.grow {fr : List (Nat × D)} {a : Act} (hb : Below w.heap.size w w') (h : FRel S0 B m hp nx w fr a) : FRel S0 B m hp nx w' fr a := fun t => (h t).grow hb
theorem getD_set (a : Array Value) (i j : Nat) (v : Value) (h : i < a.size) : (a.setIfInBounds i v).getD j undef = if j = i then v else a.getD j undef := by
  simp only [Array.getD_eq_getD_getElem?, Array.getElem?_setIfInBounds]
  by_cases hij : i = j
  · subst hij; simp [h]
  · rw [if_neg hij, if_neg (fun e => hij e.symm)]
theorem FRel.put_ {fr : List (Nat × D)} {a : Act} {dst : Option Nat} {d : D} {v : Value} (h : FRel S0 B m hp nx w fr a) (hd : ∀ t, dst = some t → t < a.tmps.size) (hv : RdS S0 B m hp nx w d v) :
    FRel S0 B m hp nx w (put dst d fr) (a.put dst v) := by
  intro t
  cases dst with
  | none => exact h t
  | some i =>
    simp only [put, Act.put, lkf]
    rw [getD_set _ _ _ _ (hd i rfl)]
    by_cases ht : t = i
    · simp only [ht, if_true]; exact hv
    · simp only [ht, if_false]; exact h t
theorem K_rd (k : K) : Rd0 S0 B m hp w k.d k.val := by
  cases k with
  | nilS => exact Rd_lst.2 ⟨none, 0, 0, rfl, Nat.le_refl _, by simp [maxLen], fun _ => rfl, fun e he => by simp at he, fun h => by simp at h⟩
  | _ => exact Rd_v.2 ⟨rfl, rfl⟩
theorem O_rd {fr : List (Nat × D)} {a : Act} {C : Ctx} (hF : FRel S0 B m hp nx w fr a) (hH : HRel S0 B m hp nx w C.G) {x : Operand} {y : Opd} (h : oeq x y = true) :
    RdS S0 B m hp nx w (evO C fr y) (a.eval x) := by
  unfold oeq at h
  split at h
  · simp only [beq_iff_eq] at h; subst h; exact hF _
  · rw [show a.eval (Operand.const _) = _ from rfl, keq_val h]; exact (K_rd _).open_
  · simp only [beq_iff_eq] at h; subst h; exact Rd_fn.2 ⟨#[], rfl, rfl, fun j hj => by simp at hj⟩
  · simp only [beq_iff_eq] at h; subst h
    simp only [evO, Act.eval]
    split
    · exact (hH.gl _ _ ‹_›).open_
    · exact Rd_junk
  · simp at h
end
end Go.Proofs.Dv
set_option linter.unusedVariables false
set_option linter.unusedSimpArgs false
namespace Go.Proofs.Dv
open Go.RowKit
section
variable {P : Program} {w : World}
theorem run_und {t : Nat} {d : TypeDesc} (h : P.underlying t = some d) : (underlying t).run P w = .ok d w := Go.run_underlying h w
theorem run_isAg {t : Nat} {b : Bool} (h : isAg P t = some b) : (isAgg t).run P w = .ok b w := by
  unfold isAg at h
  cases hu : P.underlying t with
  | none => rw [hu] at h; simp at h
  | some d =>
    rw [hu] at h
    unfold isAgg
    rw [Sem.run_bind, run_und hu]
    cases d <;> simp at h ⊢ <;> exact h
theorem run_szOf {t n : Nat} (h : szIs P t n = true) : (Go.sizeOf t).run P w = .ok n w := by
  unfold szIs at h
  split at h
  · rename_i i hi
    simp only [beq_iff_eq] at h
    subst h
    simp [Go.sizeOf, typeInfo, hi]
  · simp at h
theorem run_ldOne {t : Nat} {a : Addr} {v : Value} (h : isAg P t = some false) (hc : w.cell? a = some v) : (loadVar t a).run P w = .ok v w := by
  unfold loadVar
  rw [Sem.run_bind, run_isAg h]
  simp [hc]
theorem run_ldAgg {t n : Nat} {a : Addr} {f : Nat → Value} (h : isAg P t = some true) (hs : szIs P t n = true) (hc : ∀ j, j < n → w.cell? (a.add j) = some (f j)) : (loadVar t a).run P w = .ok (.agg ((List.range n).map f).toArray) w := by
  unfold loadVar
  rw [Sem.run_bind, run_isAg h]
  simp only [Result.andThen_ok, if_true, Sem.run_bind, run_szOf hs, run_loadCells w a n f hc, Sem.run_pure]
theorem cell_blk {b o T : Nat} {arr : Array Value} {fz : Nat × Nat} (h : w.heap[b]? = some (.cells arr T fz)) : w.cell? ⟨b, o, none⟩ = arr[o]? := by
  simp [World.cell?, h]
theorem add_none (b o j : Nat) : (⟨b, o, none⟩ : Addr).add j = ⟨b, o + j, none⟩ := Addr.add_lit b o j
theorem wp_val {o : Oper} {a : Act} {w' : World} {v : Value} {K : Act → World → Prop} {Q : Exit → Act → World → Prop} (h : (execOp a.eval o).run P w = .ok (.value v) w') (hK : K (a.put o.dst v) w') : o.wp P a w K Q := by
  unfold Oper.wp; rw [h]; exact hK
theorem wp_skp {o : Oper} {a : Act} {w' : World} {K : Act → World → Prop} {Q : Exit → Act → World → Prop} (h : (execOp a.eval o).run P w = .ok .skip w') (hK : K (a.put o.dst undef) w') : o.wp P a w K Q := by
  unfold Oper.wp; rw [h]; exact hK
end
section
variable {P : Program} {C : Ctx} {S0 : Nat → Nat → Prop} {B : Nat} {m : Mp} {hp : List (Nat × Blk)} {nx : Nat} {w : World} {fr : List (Nat × D)} {a : Act} {d : D}
variable {dst : Option Nat} {ty : Nat} {pos : String} {after : Array Edge} {guard : Option (Nat × Bool)}
def QV (P : Program) (S0 : Nat → Nat → Prop) (B : Nat) (m : Mp) (hp : List (Nat × Blk)) (nx : Nat) (w : World) (a : Act) (o : Oper) (d : D) : Prop :=
  ∃ v, (execOp a.eval o).run P w = .ok (.value v) w ∧ RdS S0 B m hp nx w d v
theorem q_mv {x : Operand} {y : Opd} (h : oeq x y = true) (hF : FRel S0 B m hp nx w fr a) (hH : HRel S0 B m hp nx w C.G) (he : evQ C fr hp (.mv y) = some d) :
    QV P S0 B m hp nx w a ⟨dst, .move x, ty, pos, after, guard⟩ d ∧ QV P S0 B m hp nx w a ⟨dst, .assign x, ty, pos, after, guard⟩ d := by
  simp only [evQ, Option.some.injEq] at he
  subst he
  exact ⟨⟨_, rfl, O_rd hF hH h⟩, ⟨_, rfl, O_rd hF hH h⟩⟩
theorem boolOf_v {g : D} {c : Bool} (h : boolOf g = some c) : g = .v (.bool c) := by
  unfold boolOf at h; split at h <;> simp at h; subst h; rfl
theorem intOf_v {g : D} {k : IntKind} {n : Int} (h : intOf' g = some (k, n)) : g = .v (.int k n) := by
  unfold intOf' at h; split at h <;> simp at h; obtain ⟨rfl, rfl⟩ := h; rfl
theorem q_pick {c x y : Operand} {c' x' y' : Opd} (h : (oeq c c' && oeq x x' && oeq y y') = true) (hF : FRel S0 B m hp nx w fr a) (hH : HRel S0 B m hp nx w C.G) (he : evQ C fr hp (.pick c' x' y') = some d) :
    QV P S0 B m hp nx w a ⟨dst, .pick c x y, ty, pos, after, guard⟩ d := by
  simp only [Bool.and_eq_true] at h
  obtain ⟨⟨h1, h2⟩, h3⟩ := h
  simp only [evQ, Option.map_eq_some_iff] at he
  obtain ⟨b, hb, rfl⟩ := he
  have hc := O_rd hF hH h1
  rw [boolOf_v hb] at hc
  have hc' := (Rd_v.1 hc).1
  refine ⟨if b then a.eval x else a.eval y, ?_, ?_⟩
  · simp [execOp, hc', asBool]
  · cases b
    · exact O_rd hF hH h3
    · exact O_rd hF hH h2
theorem box_at {id : Nat} {cells : List D} (hH : HRel S0 B m hp nx w C.G) (hl : lkh hp id = some (.box cells)) :
    ∃ arr T, w.heap[m.ρ id]? = some (.cells arr T (0, 0)) ∧ cells.length ≤ arr.size ∧ ∀ j (h : j < cells.length), ∃ c, w.cell? ⟨m.ρ id, j, none⟩ = some c ∧ arr[j]? = some c ∧ c.oneCell' = true ∧ RdS S0 B m hp nx w cells[j] c := by
  obtain ⟨arr, T, h1, h2, h3, h4⟩ := (hH.bl _ _ hl).2
  refine ⟨arr, T, h1, h3, fun j hj => ?_⟩
  obtain ⟨c, h5, h6, h7⟩ := h4 j hj
  exact ⟨c, (cell_blk h1).trans h5, h5, h6, h7⟩
theorem agg_of {S : Nat → Nat → Prop} {X : Option Env} {ds : List D} {n : Nat} {f : Nat → Value} (hn : ds.length = n) (h : ∀ j (hj : j < ds.length), (f j).oneCell' = true ∧ Rd w S X ds[j] (f j)) : Rd w S X (.agg ds) (.agg ((List.range n).map f).toArray) := by
  subst hn
  refine Rd_agg.2 ⟨_, rfl, by simp, fun j hj => ⟨f j, ?_, h j hj⟩⟩
  simp [hj]
theorem q_ld {t n : Nat} {ag : Bool} {x : Operand} {y : Opd} (h : (oeq x y && szIs P t n && isAg P t == some ag) = true) (hF : FRel S0 B m hp nx w fr a) (hH : HRel S0 B m hp nx w C.G) (he : evQ C fr hp (.ld ag n y) = some d) :
    QV P S0 B m hp nx w a ⟨dst, .load t x, ty, pos, after, guard⟩ d := by
  simp only [Bool.and_eq_true, beq_iff_eq] at h
  obtain ⟨⟨h1, h2⟩, h3⟩ := h
  have hx := O_rd hF hH h1
  simp only [evQ] at he
  have run : ∀ (ad : Addr) (v : Value), a.eval x = .pointer (some ad) → (loadVar t ad).run P w = .ok v w → (execOp a.eval ⟨dst, .load t x, ty, pos, after, guard⟩).run P w = .ok (.value v) w := by
    intro ad v e1 e2
    simp [execOp, Instr.loadAt, Instr.sureAddr, e1, e2]
  cases hv : evO C fr y with
  | ptr id off =>
    rw [hv] at he hx
    have hp' := (Rd_ptr.1 hx).2
    simp only at he
    cases hl : lkh hp id with
    | none => rw [hl] at he; simp at he
    | some b =>
      rw [hl] at he
      cases b with
      | row z els => simp at he
      | map es => simp at he
      | box cells =>
        simp only at he
        obtain ⟨arr, T, g1, g2, g3⟩ := box_at hH hl
        cases ag with
        | true =>
          simp only [if_true] at he
          split at he
          · rename_i hle
            simp only [Option.some.injEq] at he
            subst he
            have hc : ∀ j, j < n → ∃ c, w.cell? ⟨m.ρ id, off + j, none⟩ = some c ∧ c.oneCell' = true ∧ ∀ hj : off + j < cells.length, RdS S0 B m hp nx w cells[off + j] c := by
              intro j hj
              obtain ⟨c, k1, k2, k3, k4⟩ := g3 (off + j) (by omega)
              exact ⟨c, k1, k3, fun _ => k4⟩
            let f : Nat → Value := fun j => if hj : j < n then (hc j hj).choose else undef
            have hf : ∀ j (hj : j < n), w.cell? ⟨m.ρ id, off + j, none⟩ = some (f j) ∧ (f j).oneCell' = true ∧ ∀ hj : off + j < cells.length, RdS S0 B m hp nx w cells[off + j] (f j) := by
              intro j hj
              simp only [f, hj, dif_pos]
              exact (hc j hj).choose_spec
            refine ⟨_, run _ _ hp' (run_ldAgg (f := f) h3 h2 fun j hj => by rw [add_none]; exact (hf j hj).1), ?_⟩
            refine agg_of (by simp; omega) fun j hj => ?_
            simp only [List.length_take, List.length_drop] at hj
            have := hf j (by omega)
            refine ⟨this.2.1, ?_⟩
            rw [List.getElem_take, List.getElem_drop]
            exact this.2.2 _
          · simp at he
        | false =>
          simp only [Bool.false_eq_true, if_false] at he
          obtain ⟨hlt, rfl⟩ := List.getElem?_eq_some_iff.1 he
          obtain ⟨c, k1, k2, k3, k4⟩ := g3 off hlt
          exact ⟨c, run _ _ hp' (run_ldOne h3 k1), k4⟩
  | rp cs =>
    rw [hv] at he hx
    obtain ⟨b, o, e1, e2⟩ := Rd_rp.1 hx
    simp only at he
    cases ag with
    | true =>
      simp only [if_true] at he
      split at he
      · rename_i hle
        simp only [Option.some.injEq] at he
        subst he
        have hc : ∀ j, j < n → ∃ c, w.cell? ⟨b, o + j, none⟩ = some c ∧ c.oneCell' = true ∧ ∀ hj : j < cs.length, RdS S0 B m hp nx w cs[j] c := by
          intro j hj
          obtain ⟨c, k1, k2, k3, k4⟩ := e2 j (by omega)
          exact ⟨c, k1, k3, fun _ => k4.open_⟩
        let f : Nat → Value := fun j => if hj : j < n then (hc j hj).choose else undef
        have hf : ∀ j (hj : j < n), w.cell? ⟨b, o + j, none⟩ = some (f j) ∧ (f j).oneCell' = true ∧ ∀ hj : j < cs.length, RdS S0 B m hp nx w cs[j] (f j) := by
          intro j hj
          simp only [f, hj, dif_pos]
          exact (hc j hj).choose_spec
        refine ⟨_, run _ _ e1 (run_ldAgg (f := f) h3 h2 fun j hj => by rw [add_none]; exact (hf j hj).1), ?_⟩
        refine agg_of (by simp; omega) fun j hj => ?_
        simp only [List.length_take] at hj
        have := hf j (by omega)
        refine ⟨this.2.1, ?_⟩
        rw [List.getElem_take]
        exact this.2.2 _
      · simp at he
    | false =>
      simp only [Bool.false_eq_true, if_false] at he
      obtain ⟨hlt, rfl⟩ := List.getElem?_eq_some_iff.1 he
      obtain ⟨c, k1, k2, k3, k4⟩ := e2 0 hlt
      exact ⟨c, run _ _ e1 (run_ldOne h3 k1), k4.open_⟩
  | _ => rw [hv] at he; simp at he
theorem q_fa {t f off : Nat} {x : Operand} {y : Opd} (h : (oeq x y && fieldIs P t f fun fd => fd.offset == off && (match P.info? fd.type with | some i => i.size != 0 | none => false)) = true)
    (hF : FRel S0 B m hp nx w fr a) (hH : HRel S0 B m hp nx w C.G) (he : evQ C fr hp (.fa off y) = some d) :
    QV P S0 B m hp nx w a ⟨dst, .fieldAddr t x f, ty, pos, after, guard⟩ d := by
  simp only [Bool.and_eq_true] at h
  obtain ⟨h1, h2⟩ := h
  have hx := O_rd hF hH h1
  unfold fieldIs at h2
  cases hu : P.underlying t with
  | none => rw [hu] at h2; simp at h2
  | some dd =>
    rw [hu] at h2
    cases dd with
    | struct fs =>
      simp only at h2
      cases hfi : fs[f]? with
      | none => rw [hfi] at h2; simp at h2
      | some fd =>
        rw [hfi] at h2
        simp only [Bool.and_eq_true, beq_iff_eq] at h2
        obtain ⟨h3, h4⟩ := h2
        cases hi : P.info? fd.type with
        | none => rw [hi] at h4; simp at h4
        | some i =>
          rw [hi] at h4
          simp only [bne_iff_ne, ne_eq] at h4
          have run : ∀ (ad : Addr), a.eval x = .pointer (some ad) → (execOp a.eval ⟨dst, .fieldAddr t x f, ty, pos, after, guard⟩).run P w = .ok (.value (.pointer (some (ad.add off)))) w := by
            intro ad e1
            simp [execOp, Instr.fieldAt, run_und hu, hfi, Instr.sureAddr, e1, fieldPlace, Go.sizeOf, typeInfo, hi, h4, h3]
          simp only [evQ] at he
          cases hv : evO C fr y with
          | ptr id o =>
            rw [hv] at he hx
            simp only [Option.some.injEq] at he
            subst he
            obtain ⟨e0, e1⟩ := Rd_ptr.1 hx
            refine ⟨_, run _ e1, Rd_ptr.2 ⟨e0, ?_⟩⟩
            rw [add_none]
          | rp cs =>
            rw [hv] at he hx
            simp only [Option.some.injEq] at he
            subst he
            obtain ⟨b, o, e1, e2⟩ := Rd_rp.1 hx
            refine ⟨_, run _ e1, Rd_rp.2 ⟨b, o + off, by rw [add_none], fun j hj => ?_⟩⟩
            simp only [List.length_drop] at hj
            obtain ⟨c, k1, k2, k3, k4⟩ := e2 (off + j) (by omega)
            rw [List.getElem_drop, Nat.add_assoc]
            exact ⟨c, k1, k2, k3, k4⟩
          | _ => rw [hv] at he; simp at he
    | _ => simp at h2
end
end Go.Proofs.Dv
set_option linter.unusedVariables false
set_option linter.unusedSimpArgs false
namespace Go.Proofs.Dv
open Go.RowKit
section
variable {P : Program} {C : Ctx} {S0 : Nat → Nat → Prop} {B : Nat} {m : Mp} {hp : List (Nat × Blk)} {nx : Nat} {w : World} {fr : List (Nat × D)} {a : Act} {d : D}
variable {dst : Option Nat} {ty : Nat} {pos : String} {after : Array Edge} {guard : Option (Nat × Bool)}
theorem und_some {t : Nat} {f : TypeDesc → Bool} (h : undIs P t f = true) : ∃ x, P.underlying t = some x ∧ f x = true := by
  unfold undIs at h
  split at h
  · exact ⟨_, ‹_›, h⟩
  · simp at h
theorem elem_some {t : Nat} {f : Nat → Bool} (h : elemIs P t f = true) : ∃ e, P.underlying t = some (.slice e) ∧ f e = true := by
  unfold elemIs at h
  split at h
  · exact ⟨_, ‹_›, h⟩
  · simp at h
theorem field_some {t i : Nat} {f : Field → Bool} (h : fieldIs P t i f = true) : ∃ fs x, P.underlying t = some (.struct fs) ∧ fs[i]? = some x ∧ f x = true := by
  unfold fieldIs at h
  split at h
  · split at h
    · exact ⟨_, _, ‹_›, ‹_›, h⟩
    · simp at h
  · simp at h
theorem row_at {id z : Nat} {els : List (List D)} (hH : HRel S0 B m hp nx w C.G) (hl : lkh hp id = some (.row z els)) (i : Nat) (hi : i < els.length) :
    ∃ g cap, m.sv id = .slice (some ⟨g, 0, none⟩) els.length cap ∧ els.length ≤ cap ∧ cap ≤ maxLen ∧ els[i].length = z ∧ ∀ j (hj : j < els[i].length), ∃ c, w.cell? ⟨g, i * z + j, none⟩ = some c ∧ stab S0 B m hp w g (i * z + j) ∧ c.oneCell' = true ∧ Rd0 S0 B m hp w els[i][j] c := by
  obtain ⟨h0, h1, h2⟩ := (hH.bl _ _ hl).2
  rcases h2 with ⟨rfl, _⟩ | ⟨g, cap, cur, e, k1, k2, k3, k4, k5, k6, k7⟩
  · simp at hi
  have hz : els[i].length = z := h1 _ (List.getElem_mem hi)
  refine ⟨g, cap + 1, k1, k4, k5, hz, fun j hj => ?_⟩
  have hflat := flat_get h1 i j (by omega)
  rw [List.getElem?_eq_getElem hi, Option.bind_some, List.getElem?_eq_getElem hj] at hflat
  obtain ⟨hlt, hfe⟩ := List.getElem?_eq_some_iff.1 hflat
  obtain ⟨c, g1, g2, g3⟩ := k7 (i * z + j) hlt
  rw [hfe] at g3
  rw [flat_len h1] at hlt
  have hb : rblk (m.sv id) = some g := by rw [k1]; rfl
  have hgs : g < w.heap.size := (Array.getElem?_eq_some_iff.1 k3).1
  refine ⟨c, (cell_blk k3).trans g1, ?_, g2, g3⟩
  refine .inr ⟨k2, hgs, fun id' cs hl' e' => ?_, fun id' z' els' hl' hb' => ?_⟩
  · have := hH.dj id id' _ _ g hl hl' hb (by simp [blkOf, e'])
    subst this
    rw [hl] at hl'; simp at hl'
  · have := hH.dj id id' _ _ g hl hl' hb hb'
    subst this
    rw [hl] at hl'
    simp only [Option.some.injEq, Blk.row.injEq] at hl'
    obtain ⟨rfl, rfl⟩ := hl'
    exact hlt
theorem q_ia {t sz : Nat} {x i : Operand} {y j : Opd} (h : (oeq x y && oeq i j && elemIs P t fun e => szIs P e sz) = true)
    (hF : FRel S0 B m hp nx w fr a) (hH : HRel S0 B m hp nx w C.G) (he : evQ C fr hp (.ia sz y j) = some d) :
    QV P S0 B m hp nx w a ⟨dst, .indexAddr t x i, ty, pos, after, guard⟩ d := by
  simp only [Bool.and_eq_true] at h
  obtain ⟨⟨h1, h2⟩, h3⟩ := h
  obtain ⟨e, hu, hs⟩ := elem_some h3
  have hx := O_rd hF hH h1
  have hi := O_rd hF hH h2
  simp only [evQ] at he
  cases hiv : intOf' (evO C fr j) with
  | none => rw [hiv] at he; simp at he
  | some p =>
    obtain ⟨k, n⟩ := p
    rw [hiv] at he
    rw [intOf_v hiv] at hi
    have hi' := (Rd_v.1 hi).1
    simp only [Option.bind_some] at he
    split at he
    · rename_i hn
      have run : ∀ (b o len cap : Nat), a.eval x = .slice (some ⟨b, o, none⟩) len cap → n.toNat < len → (execOp a.eval ⟨dst, .indexAddr t x i, ty, pos, after, guard⟩).run P w = .ok (.value (.pointer (some ⟨b, o + n.toNat * sz, none⟩))) w := by
        intro b o len cap e1 e2
        have e3 : 0 ≤ n ∧ n < len := by omega
        simp [execOp, Instr.indexAt, run_und hu, e1, hi', asIntOf, e3, run_szOf hs, add_none]
      cases hv : evO C fr y with
      | lst ex es =>
        rw [hv] at he hx
        simp only [Option.bind_eq_some_iff] at he
        obtain ⟨el, g1, g2⟩ := he
        obtain ⟨hlt, rfl⟩ := List.getElem?_eq_some_iff.1 g1
        split at g2
        · rename_i hsz
          simp only [Option.some.injEq] at g2
          subst g2
          obtain ⟨A, cap, sz', e1, e2, e3, e4, e5, e6⟩ := Rd_lst.1 hx
          obtain ⟨b, o, rfl, e7⟩ := e6 (by omega)
          have hszz : sz' = sz := by rw [← hsz]; exact (e5 _ (List.getElem_mem hlt)).symm
          subst hszz
          refine ⟨_, run _ _ _ _ e1 hlt, Rd_rp.2 ⟨b, o + n.toNat * sz', rfl, fun j hj => ?_⟩⟩
          obtain ⟨c, k1, k2, k3, k4⟩ := e7 n.toNat hlt j hj
          rw [Nat.add_assoc]
          exact ⟨c, k1, k2, k3, k4⟩
        · simp at g2
      | own id nn =>
        rw [hv] at he hx
        simp only at he
        cases hl : lkh hp id with
        | none => rw [hl] at he; simp at he
        | some b =>
          rw [hl] at he
          cases b with
          | box cs => simp at he
          | map es => simp at he
          | row z els =>
            simp only at he
            split at he
            · rename_i hlen
              simp only [Option.bind_eq_some_iff] at he
              obtain ⟨el, g1, g2⟩ := he
              obtain ⟨hlt, rfl⟩ := List.getElem?_eq_some_iff.1 g1
              split at g2
              · rename_i hsz
                simp only [Option.some.injEq] at g2
                subst g2
                obtain ⟨_, _, o1, _⟩ := Rd_own.1 hx
                have o2 := (o1 z els hl).2 hlen
                obtain ⟨g, cap, k1, k2, k3, k4, k5⟩ := row_at hH hl _ hlt
                have : z = sz := by omega
                subst this
                refine ⟨_, run g 0 _ _ (o2.trans k1) hlt, Rd_rp.2 ⟨g, _, rfl, fun j hj => ?_⟩⟩
                obtain ⟨c, c1, c2, c3, c4⟩ := k5 j hj
                rw [Nat.zero_add]
                exact ⟨c, c1, c2, c3, c4⟩
              · simp at g2
            · simp at he
      | _ => rw [hv] at he; simp at he
    · simp at he
theorem q_fld {t f n off : Nat} {ag : Bool} {x : Operand} {y : Opd} (h : (oeq x y && fieldIs P t f fun fd => fd.offset == off && szIs P fd.type n && isAg P fd.type == some ag) = true)
    (hF : FRel S0 B m hp nx w fr a) (hH : HRel S0 B m hp nx w C.G) (he : evQ C fr hp (.fld ag n off y) = some d) :
    QV P S0 B m hp nx w a ⟨dst, .field t x f, ty, pos, after, guard⟩ d := by
  simp only [Bool.and_eq_true] at h
  obtain ⟨h1, h2⟩ := h
  obtain ⟨fs, fd, hu, hf, h3⟩ := field_some h2
  simp only [Bool.and_eq_true, beq_iff_eq] at h3
  obtain ⟨⟨rfl, h4⟩, h5⟩ := h3
  have hx := O_rd hF hH h1
  simp only [evQ] at he
  cases hv : evO C fr y with
  | agg ds =>
    rw [hv] at he hx
    obtain ⟨cs, e1, e2, e3⟩ := Rd_agg.1 hx
    simp only at he
    have run : ∀ v, (part fd.type cs fd.offset).run P w = .ok v w → (execOp a.eval ⟨dst, .field t x f, ty, pos, after, guard⟩).run P w = .ok (.value v) w := by
      intro v hv
      simp [execOp, Instr.field, run_und hu, hf, e1, asAgg, hv]
    cases ag with
    | true =>
      simp only [if_true] at he
      split at he
      · rename_i hle
        simp only [Option.some.injEq] at he
        subst he
        refine ⟨.agg (cs.extract fd.offset (fd.offset + n)), run _ ?_, Rd_agg.2 ⟨_, rfl, by simp; omega, fun j hj => ?_⟩⟩
        · unfold part
          rw [Sem.run_bind, run_isAg h5]
          simp [run_szOf h4]
        · simp only [List.length_take, List.length_drop] at hj
          obtain ⟨c, c1, c2, c3⟩ := e3 (fd.offset + j) (by omega)
          refine ⟨c, ?_, c2, ?_⟩
          · rw [Array.getElem?_extract, if_pos (by omega)]; exact c1
          · rw [List.getElem_take, List.getElem_drop]; exact c3
      · simp at he
    | false =>
      simp only [Bool.false_eq_true, if_false] at he
      obtain ⟨hlt, rfl⟩ := List.getElem?_eq_some_iff.1 he
      obtain ⟨c, c1, c2, c3⟩ := e3 _ hlt
      refine ⟨c, run _ ?_, c3⟩
      unfold part
      rw [Sem.run_bind, run_isAg h5]
      simp [c1]
  | _ => rw [hv] at he; simp at he
theorem q_nilc {x : Operand} {y : Opd} (h : oeq x y = true) (hF : FRel S0 B m hp nx w fr a) (hH : HRel S0 B m hp nx w C.G) (he : evQ C fr hp (.nilc y) = some d) :
    QV P S0 B m hp nx w a ⟨dst, .nilCheck x, ty, pos, after, guard⟩ d := by
  have hx := O_rd hF hH h
  simp only [evQ] at he
  cases hv : evO C fr y with
  | ptr id o =>
    rw [hv] at he hx
    simp only [Option.some.injEq] at he; subst he
    obtain ⟨_, e1⟩ := Rd_ptr.1 hx
    exact ⟨a.eval x, by simp [execOp, e1], hx⟩
  | rp cs =>
    rw [hv] at he hx
    simp only [Option.some.injEq] at he; subst he
    obtain ⟨b, o, e1, _⟩ := Rd_rp.1 hx
    exact ⟨a.eval x, by simp [execOp, e1], hx⟩
  | fn f ds =>
    rw [hv] at he hx
    simp only [Option.some.injEq] at he; subst he
    obtain ⟨cs, e1, _⟩ := Rd_fn.1 hx
    exact ⟨a.eval x, by simp [execOp, e1], hx⟩
  | _ => rw [hv] at he; simp at he
theorem q_ext {x : Operand} {y : Opd} {i j : Nat} (h : (oeq x y && i == j) = true) (hF : FRel S0 B m hp nx w fr a) (hH : HRel S0 B m hp nx w C.G) (he : evQ C fr hp (.ext y j) = some d) :
    QV P S0 B m hp nx w a ⟨dst, .extract x i, ty, pos, after, guard⟩ d := by
  simp only [Bool.and_eq_true, beq_iff_eq] at h
  obtain ⟨h, rfl⟩ := h
  have hx := O_rd hF hH h
  simp only [evQ] at he
  cases hv : evO C fr y with
  | tup ds =>
    rw [hv] at he hx
    obtain ⟨cs, e1, e2, e3⟩ := Rd_tup.1 hx
    obtain ⟨hlt, rfl⟩ := List.getElem?_eq_some_iff.1 he
    obtain ⟨c, c1, c2⟩ := e3 _ hlt
    exact ⟨c, by simp [execOp, Instr.extract, e1, c1], c2⟩
  | _ => rw [hv] at he; simp at he
theorem q_un {op : UnOp} {t : Nat} {x : Operand} {y : Opd} {op' : UnOp} (h : (op == op' && oeq x y) = true) (hF : FRel S0 B m hp nx w fr a) (hH : HRel S0 B m hp nx w C.G) (he : evQ C fr hp (.un op' y) = some d) :
    QV P S0 B m hp nx w a ⟨dst, .unOp op t x, ty, pos, after, guard⟩ d := by
  simp only [Bool.and_eq_true, beq_iff_eq] at h
  obtain ⟨rfl, h⟩ := h
  have hx := O_rd hF hH h
  simp only [evQ] at he
  unfold evUn at he
  split at he
  · rename_i b hv
    rw [hv] at hx
    simp only [Option.some.injEq] at he; subst he
    have e1 := (Rd_v.1 hx).1
    exact ⟨_, by simp [execOp, Op.unary, e1], Rd_v.2 ⟨rfl, rfl⟩⟩
  · rename_i k n hv
    rw [hv] at hx
    simp only [Option.some.injEq] at he; subst he
    have e1 := (Rd_v.1 hx).1
    exact ⟨.int k (k.wrap (0 - n)), by simp [execOp, Op.unary, Op.intArith, e1], Rd_v.2 ⟨rfl, rfl⟩⟩
  · simp at he
theorem q_cv {s t : Nat} {x : Operand} {y : Opd} {k : IntKind} (h : (oeq x y && (P.underlying s).isSome && (match P.underlying t with | some (.int k') => k' == k | _ => false)) = true)
    (hF : FRel S0 B m hp nx w fr a) (hH : HRel S0 B m hp nx w C.G) (he : evQ C fr hp (.cv k y) = some d) :
    QV P S0 B m hp nx w a ⟨dst, .convert s t x, ty, pos, after, guard⟩ d := by
  simp only [Bool.and_eq_true] at h
  obtain ⟨⟨h, h2⟩, h3⟩ := h
  have hx := O_rd hF hH h
  simp only [evQ] at he
  cases hiv : intOf' (evO C fr y) with
  | none => rw [hiv] at he; simp at he
  | some p =>
    obtain ⟨k', n⟩ := p
    rw [hiv] at he
    simp only [Option.map_some, Option.some.injEq] at he
    subst he
    rw [intOf_v hiv] at hx
    have e1 := (Rd_v.1 hx).1
    split at h3
    · rename_i k2 hu
      simp only [beq_iff_eq] at h3
      subst h3
      obtain ⟨q, hq⟩ := Option.isSome_iff_exists.1 h2
      refine ⟨.int k2 (k2.wrap n), ?_, Rd_v.2 ⟨rfl, rfl⟩⟩
      simp [execOp, convert, run_und hq, run_und hu, e1, Conv.intToInt]
    · simp at h3
theorem q_len {y : Opd} {ts : Array Nat} {ex : Array Operand} {s : Bool} (h : ((match ex.toList with | [z] => oeq z y | _ => false) && (match ts.toList with | [t] => undIs P t (fun | .slice _ => !s | .string => s | _ => false) | _ => false)) = true)
    (hF : FRel S0 B m hp nx w fr a) (hH : HRel S0 B m hp nx w C.G) (he : evQ C fr hp (.len s y) = some d) :
    QV P S0 B m hp nx w a ⟨dst, .call { callee := .builtin .len, args := ex, argTypes := ts }, ty, pos, after, guard⟩ d := by
  simp only [Bool.and_eq_true] at h
  obtain ⟨h, h2⟩ := h
  split at h
  · rename_i z hz
    split at h2
    · rename_i t ht
      have hex : ex = #[z] := by rw [← Array.toList_inj]; exact hz
      have hts : ts = #[t] := by rw [← Array.toList_inj]; exact ht
      subst hex hts
      obtain ⟨dd, hu, hdd⟩ := und_some h2
      have hx := O_rd hF hH h
      simp only [evQ] at he
      cases s with
      | true =>
        simp only at he
        split at he
        · rename_i s hv
          rw [hv] at hx
          simp only [Option.some.injEq] at he; subst he
          have e1 := (Rd_v.1 hx).1
          split at hdd
          · simp at hdd
          · exact ⟨.int .i64 s.size, by simp [execOp, resolve, invoke, builtin, Builtin.len_, run_und hu, e1, goInt], Rd_v.2 ⟨rfl, rfl⟩⟩
          · simp at hdd
        · simp at he
      | false =>
        simp only at he
        split at hdd
        · have run : ∀ A n cap, a.eval z = .slice A n cap → (execOp a.eval ⟨dst, .call { callee := .builtin .len, args := #[z], argTypes := #[t] }, ty, pos, after, guard⟩).run P w = .ok (.value (.int .i64 n)) w := by
            intro A n cap e1
            simp [execOp, resolve, invoke, builtin, Builtin.len_, run_und hu, e1, goInt]
          cases hv : evO C fr y with
          | lst ex es =>
            rw [hv] at he hx
            simp only [Option.some.injEq] at he; subst he
            obtain ⟨A, cap, sz', e1, _⟩ := Rd_lst.1 hx
            exact ⟨_, run _ _ _ e1, Rd_v.2 ⟨rfl, rfl⟩⟩
          | own id nn =>
            rw [hv] at he hx
            simp only at he
            cases hl : lkh hp id with
            | none => rw [hl] at he; simp at he
            | some b =>
              rw [hl] at he
              cases b with
              | box cs => simp at he
              | map es => simp at he
              | row z' els =>
                simp only at he
                split at he
                · rename_i hlen
                  simp only [Option.some.injEq] at he; subst he
                  obtain ⟨_, _, o1, _⟩ := Rd_own.1 hx
                  have o2 := (o1 z' els hl).2 hlen
                  obtain ⟨h0, h1, h2⟩ := (hH.bl _ _ hl).2
                  have : ∃ A cap, m.sv id = .slice A els.length cap := by
                    rcases h2 with ⟨rfl, A, e1⟩ | ⟨g, cap, cur, e, k1, _⟩
                    · exact ⟨A, 0, e1⟩
                    · exact ⟨_, _, k1⟩
                  obtain ⟨A, cap, e1⟩ := this
                  exact ⟨_, run _ _ _ (o2.trans e1), Rd_v.2 ⟨rfl, rfl⟩⟩
                · simp at he
          | _ => rw [hv] at he; simp at he
        · simp at hdd
        · simp at hdd
    · simp at h2
  · simp at h
theorem q_bi {op op' : BinOp} {t : Nat} {x y : Operand} {x' y' : Opd} {k : BK} {pp : Bool} (h : (op == op' && oeq x x' && oeq y y' && bkeq P t k) = true)
    (hF : FRel S0 B m hp nx w fr a) (hH : HRel S0 B m hp nx w C.G) (he : evQ C fr hp (.bi op' k x' y') = some d) :
    ∃ v, (do eqGuard op t x y (a.eval x) (a.eval y); binOp op t (a.eval x) (a.eval y) : Sem Value).run P w = .ok v w ∧ RdS S0 B m hp nx w d v := by
  simp only [Bool.and_eq_true, beq_iff_eq] at h
  obtain ⟨⟨⟨rfl, hx⟩, hy⟩, hk⟩ := h
  have hx := O_rd hF hH hx
  have hy := O_rd hF hH hy
  simp only [evQ] at he
  unfold evBi at he
  split at he
  · rename_i k1 n1 k2 n2 hv1 hv2
    rw [hv1] at hx; rw [hv2] at hy
    have e1 := (Rd_v.1 hx).1
    have e2 := (Rd_v.1 hy).1
    rw [e1, e2]
    simp only [Option.map_eq_some_iff] at he
    obtain ⟨v, hv, rfl⟩ := he
    suffices (binOp op t (.int k1 n1) (.int k2 n2)).run P w = .ok v w ∧ plain v = true by
      refine ⟨v, ?_, Rd_v.2 ⟨rfl, this.2⟩⟩
      have hg : (eqGuard op t x y (.int k1 n1) (.int k2 n2)).run P w = .ok () w := by
        unfold eqGuard; cases op <;> simp
      rw [Sem.run_bind, hg]
      simp [this.1]
    unfold evInt at hv
    cases op <;> simp only [] at hv
    all_goals first
      | (split at hv
         · simp at hv
         · rename_i hb; simp only [Option.some.injEq] at hv; subst hv; exact ⟨by simp [binOp, Op.shift, hb], rfl⟩)
      | (split at hv
         · rename_i hkk
           subst hkk
           first
             | (simp only [Option.some.injEq] at hv; subst hv; exact ⟨by simp [binOp, Op.intArith, Op.intBits, Op.intCmp], rfl⟩)
             | (split at hv
                · simp at hv
                · rename_i hb; simp only [Option.some.injEq] at hv; subst hv; exact ⟨by simp [binOp, Op.intDiv, hb], rfl⟩)
             | simp at hv
         · simp at hv)
  · rename_i s1 s2 hv1 hv2
    rw [hv1] at hx; rw [hv2] at hy
    have e1 := (Rd_v.1 hx).1
    have e2 := (Rd_v.1 hy).1
    rw [e1, e2]
    simp only [Option.map_eq_some_iff] at he
    obtain ⟨v, hv, rfl⟩ := he
    suffices (binOp op t (.string s1) (.string s2)).run P w = .ok v w ∧ plain v = true by
      refine ⟨v, ?_, Rd_v.2 ⟨rfl, this.2⟩⟩
      have hg : (eqGuard op t x y (.string s1) (.string s2)).run P w = .ok () w := by
        unfold eqGuard; cases op <;> simp
      rw [Sem.run_bind, hg]
      simp [this.1]
    unfold evStr at hv
    cases op <;> simp only [] at hv
    all_goals first
      | (simp only [Option.some.injEq] at hv; subst hv; exact ⟨by simp [binOp, Op.stringOp], rfl⟩)
      | (split at hv
         · rename_i hb; simp only [Option.some.injEq] at hv; subst hv
           have hb' : ¬ ((s1.size + s2.size : Nat) : Int) > IntKind.i64.max := by
             have : IntKind.i64.max = 9223372036854775807 := by decide
             omega
           exact ⟨by simp only [binOp, Op.stringOp, hb', if_false, Sem.run_pure], rfl⟩
         · simp at hv)
      | simp at hv
  · rename_i s1 s2 hv1 hv2
    rw [hv1] at hx; rw [hv2] at hy
    have e1 := (Rd_v.1 hx).1
    have e2 := (Rd_v.1 hy).1
    rw [e1, e2]
    simp only [Option.map_eq_some_iff] at he
    obtain ⟨v, hv, rfl⟩ := he
    obtain ⟨dd, hu, hdd⟩ := und_some (show undIs P t (fun | .bool => true | _ => false) = true from hk)
    have hdd' : dd = .bool := by cases dd <;> simp at hdd <;> rfl
    subst hdd'
    suffices (binOp op t (.bool s1) (.bool s2)).run P w = .ok v w ∧ plain v = true by
      refine ⟨v, ?_, Rd_v.2 ⟨rfl, this.2⟩⟩
      have hg : (eqGuard op t x y (.bool s1) (.bool s2)).run P w = .ok () w := by
        unfold eqGuard; cases op <;> simp
      rw [Sem.run_bind, hg]
      simp [this.1]
    unfold evBool at hv
    have he : (Op.equal t (.bool s1) (.bool s2)).run P w = .ok (s1 == s2) w := by
      unfold Op.equal Op.maxDepth
      unfold Op.equalIn
      rw [Sem.run_bind, run_und hu]
      simp
    cases op <;> simp only [] at hv
    all_goals first
      | (simp only [Option.some.injEq] at hv; subst hv; exact ⟨by simp [binOp, he], rfl⟩)
      | simp at hv
  · rename_i ks xs ys hv1 hv2
    rw [hv1] at hx; rw [hv2] at hy
    obtain ⟨cx, e1, x1, x2⟩ := Rd_agg.1 hx
    obtain ⟨cy, e2, y1, y2⟩ := Rd_agg.1 hy
    rw [e1, e2]
    simp only [bkeq, Bool.and_eq_true, Bool.not_eq_true'] at hk
    obtain ⟨⟨hk1, hk2⟩, hk3⟩ := hk
    obtain ⟨dd, hu, hdd⟩ := und_some hk3
    split at hdd
    · rename_i fs
      have hfs : P.fieldsOf t = fs := by simp [Program.fieldsOf, hu]
      have key : ∀ (fs : List Field) (ks : List Bool) (off : Nat) (r : Bool), agFs P fs ks off = true → eqCells ks (xs.drop off) (ys.drop off) = some r → (Op.eqFields 9999 cx cy fs).run P w = .ok r w := by
        intro fs
        induction fs with
        | nil =>
          intro ks off r h1 h2
          cases ks with
          | nil =>
            generalize xs.drop off = a1 at h2
            generalize ys.drop off = a2 at h2
            cases a1 <;> cases a2 <;> simp [eqCells] at h2
            subst h2; rfl
          | cons k ks => simp [agFs] at h1
        | cons f fs ih =>
          intro ks off r h1 h2
          cases ks with
          | nil => simp [agFs] at h1
          | cons k ks =>
            simp only [agFs, Bool.and_eq_true, beq_iff_eq, bne_iff_ne, ne_eq] at h1
            obtain ⟨⟨⟨g1, g2⟩, g3⟩, g4⟩ := h1
            have hxl : off < xs.length := by
              rcases Nat.lt_or_ge off xs.length with h | h
              · exact h
              · rw [List.drop_eq_nil_of_le h] at h2; simp [eqCells] at h2
            have hyl : off < ys.length := by
              rcases Nat.lt_or_ge off ys.length with h | h
              · exact h
              · rw [List.drop_eq_nil_of_le h] at h2
                generalize xs.drop off = a1 at h2
                cases a1 with
                | nil => simp [eqCells] at h2
                | cons b bs => cases b <;> simp [eqCells] at h2
            rw [List.drop_eq_getElem_cons hxl, List.drop_eq_getElem_cons hyl] at h2
            obtain ⟨c, c1, c2, c3⟩ := x2 off hxl
            obtain ⟨d, d1, d2, d3⟩ := y2 off hyl
            generalize xs[off] = xo at h2 c3
            generalize ys[off] = yo at h2 d3
            have hpart : ∀ (cs : Array Value) (v : Value), cs[off]? = some v → isAg P f.type = some false → (part f.type cs f.offset).run P w = .ok v w := by
              intro cs v hv ha
              unfold part
              rw [Sem.run_bind, run_isAg ha, g2]
              simp [hv]
            cases xo with
            | v u1 =>
              cases yo with
              | v u2 =>
                have hc := (Rd_v.1 c3).1
                have hd := (Rd_v.1 d3).1
                subst hc hd
                cases k with
                | false =>
                  have hform : ∃ k1 n1 n2 r', c = .int k1 n1 ∧ d = .int k1 n2 ∧ eqCells ks (xs.drop (off + 1)) (ys.drop (off + 1)) = some r' ∧ r = ((n1 == n2) && r') := by
                    cases c <;> cases d <;> simp only [eqCells] at h2 <;> try (simp at h2; done)
                    split at h2
                    · rename_i hk
                      simp only [Option.map_eq_some_iff] at h2
                      obtain ⟨r', h3, h4⟩ := h2
                      exact ⟨_, _, _, r', rfl, by rw [hk], h3, h4.symm⟩
                    · simp at h2
                  obtain ⟨k1, n1, n2, r', rfl, rfl, h3, rfl⟩ := hform
                  cases hut : P.underlying f.type with
                  | none => rw [hut] at g3; simp at g3
                  | some ut =>
                    rw [hut] at g3
                    cases ut <;> simp at g3
                    rename_i k3
                    have ha : isAg P f.type = some false := by simp [isAg, hut]
                    have hi := ih ks (off + 1) r' g4 h3
                    unfold Op.eqFields
                    rw [if_pos g1]
                    rw [Sem.run_bind, hpart cx _ c1 ha]
                    simp only [Result.andThen_ok]
                    rw [Sem.run_bind, hpart cy _ d1 ha]
                    simp only [Result.andThen_ok]
                    rw [Sem.run_bind, run_equalIn_int w 9998 f.type k1 k3 n1 n2 hut]
                    simp only [Result.andThen_ok]
                    cases hb : (n1 == n2)
                    · simp
                    · simp [hi]
                | true =>
                  have hform : ∃ s1 s2 r', c = .string s1 ∧ d = .string s2 ∧ eqCells ks (xs.drop (off + 1)) (ys.drop (off + 1)) = some r' ∧ r = ((s1 == s2) && r') := by
                    cases c <;> cases d <;> simp only [eqCells] at h2 <;> try (simp at h2; done)
                    simp only [Option.map_eq_some_iff] at h2
                    obtain ⟨r', h3, h4⟩ := h2
                    exact ⟨_, _, r', rfl, rfl, h3, h4.symm⟩
                  obtain ⟨s1, s2, r', rfl, rfl, h3, rfl⟩ := hform
                  cases hut : P.underlying f.type with
                  | none => rw [hut] at g3; simp at g3
                  | some ut =>
                    rw [hut] at g3
                    cases ut <;> simp at g3
                    have ha : isAg P f.type = some false := by simp [isAg, hut]
                    have hi := ih ks (off + 1) r' g4 h3
                    unfold Op.eqFields
                    rw [if_pos g1]
                    rw [Sem.run_bind, hpart cx _ c1 ha]
                    simp only [Result.andThen_ok]
                    rw [Sem.run_bind, hpart cy _ d1 ha]
                    simp only [Result.andThen_ok]
                    rw [Sem.run_bind, run_equalIn_string w 9998 f.type s1 s2 hut, ← beq_toListBytes]
                    simp only [Result.andThen_ok]
                    cases hb : (s1 == s2)
                    · simp
                    · simp [hi]
              | _ => cases k <;> simp [eqCells] at h2
            | _ => simp [eqCells] at h2
      have hg : (eqGuard op t x y (.agg cx) (.agg cy)).run P w = .ok () w := run_eqGuard_agg w op t x y cx cy hk2
      have hrun : ∀ r, eqCells ks xs ys = some r → (Op.equalIn 10000 t (.agg cx) (.agg cy)).run P w = .ok r w := by
        intro r hr
        rw [run_equalIn_struct w 9999 t cx cy (by rw [hfs]; exact hu) hk1, hfs]
        exact key fs.toList ks 0 r hdd (by simpa using hr)
      split at he
      · simp only [Option.map_eq_some_iff] at he
        obtain ⟨r, hr, rfl⟩ := he
        refine ⟨.bool r, ?_, Rd_v.2 ⟨rfl, rfl⟩⟩
        rw [Sem.run_bind, hg]
        simp only [Result.andThen_ok]
        rw [run_eql_struct, hrun r hr]
        rfl
      · simp only [Option.map_eq_some_iff] at he
        obtain ⟨r, hr, rfl⟩ := he
        refine ⟨.bool (!r), ?_, Rd_v.2 ⟨rfl, rfl⟩⟩
        rw [Sem.run_bind, hg]
        simp only [Result.andThen_ok]
        rw [run_neq_struct, hrun r hr]
        rfl
      · simp at he
    · simp at hdd
  · simp at he
theorem q_iaa {t n sz : Nat} {x i : Operand} {y j : Opd} (h : (oeq x y && oeq i j && undIs P t fun | .array k e => k == n && szIs P e sz | _ => false) = true)
    (hF : FRel S0 B m hp nx w fr a) (hH : HRel S0 B m hp nx w C.G) (he : evQ C fr hp (.iaa n sz y j) = some d) :
    QV P S0 B m hp nx w a ⟨dst, .indexAddr t x i, ty, pos, after, guard⟩ d := by
  simp only [Bool.and_eq_true] at h
  obtain ⟨⟨h1, h2⟩, h3⟩ := h
  obtain ⟨dd, hu, hdd⟩ := und_some h3
  have hx := O_rd hF hH h1
  have hi := O_rd hF hH h2
  split at hdd
  · rename_i k e
    simp only [Bool.and_eq_true, beq_iff_eq] at hdd
    obtain ⟨rfl, hs⟩ := hdd
    simp only [evQ, Option.bind_eq_some_iff] at he
    obtain ⟨⟨kk, q⟩, hiv, he⟩ := he
    rw [intOf_v hiv] at hi
    have hi' := (Rd_v.1 hi).1
    dsimp only at he
    split at he
    · rename_i hq
      have run : ∀ (ad : Addr), a.eval x = .pointer (some ad) → (execOp a.eval ⟨dst, .indexAddr t x i, ty, pos, after, guard⟩).run P w = .ok (.value (.pointer (some (ad.add (q.toNat * sz))))) w := by
        intro ad e1
        simp [execOp, Instr.indexAt, run_und hu, e1, hi', asIntOf, hq, run_szOf hs, Instr.sureAddr]
      cases hv : evO C fr y with
      | ptr id o =>
        rw [hv] at he hx
        simp only [Option.some.injEq] at he
        subst he
        obtain ⟨e0, e1⟩ := Rd_ptr.1 hx
        refine ⟨_, run _ e1, Rd_ptr.2 ⟨e0, ?_⟩⟩
        rw [add_none]
      | rp cs =>
        rw [hv] at he hx
        simp only [Option.some.injEq] at he
        subst he
        obtain ⟨b, o, e1, e2⟩ := Rd_rp.1 hx
        refine ⟨_, run _ e1, Rd_rp.2 ⟨b, o + q.toNat * sz, by rw [add_none], fun j hj => ?_⟩⟩
        simp only [List.length_drop] at hj
        obtain ⟨c, k1, k2, k3, k4⟩ := e2 (q.toNat * sz + j) (by omega)
        rw [List.getElem_drop, Nat.add_assoc]
        exact ⟨c, k1, k2, k3, k4⟩
      | _ => rw [hv] at he; simp at he
    · simp at he
  · simp at hdd
theorem q_ixs {t : Nat} {x i : Operand} {y j : Opd} (h : (oeq x y && oeq i j && undIs P t fun | .string => true | _ => false) = true)
    (hF : FRel S0 B m hp nx w fr a) (hH : HRel S0 B m hp nx w C.G) (he : evQ C fr hp (.ixs y j) = some d) :
    QV P S0 B m hp nx w a ⟨dst, .index t x i, ty, pos, after, guard⟩ d := by
  simp only [Bool.and_eq_true] at h
  obtain ⟨⟨h1, h2⟩, h3⟩ := h
  obtain ⟨dd, hu, hdd⟩ := und_some h3
  have hdd' : dd = .string := by cases dd <;> simp at hdd <;> rfl
  subst hdd'
  have hx := O_rd hF hH h1
  have hi := O_rd hF hH h2
  simp only [evQ] at he
  split at he
  · rename_i s k n hv1 hv2
    rw [hv1] at hx; rw [hv2] at hi
    have e1 := (Rd_v.1 hx).1
    have e2 := (Rd_v.1 hi).1
    split at he
    · rename_i hn
      simp only [Option.map_eq_some_iff] at he
      obtain ⟨b, hb, rfl⟩ := he
      obtain ⟨hlt, hbe⟩ := Array.getElem?_eq_some_iff.1 hb
      have hsb : s[n.toNat]? = some b := by
        have hlt' : n.toNat < s.size := hlt
        rw [getElem?_pos s n.toNat hlt']
        exact congrArg some hbe
      refine ⟨_, ?_, Rd_v.2 ⟨rfl, rfl⟩⟩
      simp [execOp, Instr.index, run_und hu, e1, e2, asIntOf, hn, hsb]
    · simp at he
  · simp at he
theorem q_sls {t : Nat} {x : Operand} {lo hi : Option Operand} {y : Opd} {l' h' : Option Opd} (h : (oeq x y && oopt lo l' && oopt hi h' && undIs P t fun | .string => true | _ => false) = true)
    (hF : FRel S0 B m hp nx w fr a) (hH : HRel S0 B m hp nx w C.G) (he : evQ C fr hp (.sls y l' h') = some d) :
    QV P S0 B m hp nx w a ⟨dst, .slice t x lo hi none, ty, pos, after, guard⟩ d := by
  simp only [Bool.and_eq_true] at h
  obtain ⟨⟨⟨h1, h2⟩, h3⟩, h4⟩ := h
  obtain ⟨dd, hu, hdd⟩ := und_some h4
  have hdd' : dd = .string := by cases dd <;> simp at hdd <;> rfl
  subst hdd'
  have hx := O_rd hF hH h1
  simp only [evQ] at he
  split at he
  · rename_i s hv
    rw [hv] at hx
    have e1 := (Rd_v.1 hx).1
    simp only [Option.bind_eq_some_iff] at he
    obtain ⟨ln, hl, hn, hh, he⟩ := he
    split at he
    · rename_i hc
      obtain ⟨c1, c2, c3⟩ := hc
      simp only [Option.some.injEq] at he
      subst he
      have bound : ∀ {z : Int} {o : Option Operand} {o' : Option Opd} {n : Int}, oopt o o' = true → bnd C fr z o' = some n → (o = none ∧ n = z) ∨ ∃ v k, o = some v ∧ a.eval v = .int k n := by
        intro z o o' n ho hb
        cases o <;> cases o' <;> simp [oopt] at ho
        · simp only [bnd, Option.some.injEq] at hb; exact .inl ⟨rfl, hb.symm⟩
        · rename_i v v'
          simp only [bnd, Option.map_eq_some_iff] at hb
          obtain ⟨⟨k, q⟩, hq, rfl⟩ := hb
          have := O_rd hF hH ho
          rw [intOf_v hq] at this
          exact .inr ⟨v, k, rfl, (Rd_v.1 this).1⟩
      refine ⟨.string (s.extract ln.toNat hn.toNat), ?_, Rd_v.2 ⟨rfl, rfl⟩⟩
      rcases bound h2 hl with ⟨rfl, rfl⟩ | ⟨v1, k1, rfl, f1⟩ <;> rcases bound h3 hh with ⟨rfl, rfl⟩ | ⟨v2, k2, rfl, f2⟩
      · simp [execOp, Instr.sliceAt, Instr.slice, run_und hu, e1, Instr.sliceBounds]
      · have g : 0 ≤ hn ∧ hn ≤ (s.size : Int) := ⟨by omega, c3⟩
        simp [execOp, Instr.sliceAt, Instr.slice, run_und hu, e1, Instr.sliceBounds, Instr.sliceBound, f2, asIntOf, g]
      · have g : 0 ≤ ln ∧ ln ≤ (s.size : Int) := ⟨c1, c2⟩
        simp [execOp, Instr.sliceAt, Instr.slice, run_und hu, e1, Instr.sliceBounds, Instr.sliceBound, f1, asIntOf, g]
      · have g : 0 ≤ hn ∧ hn ≤ (s.size : Int) := ⟨by omega, c3⟩
        obtain ⟨q, rfl⟩ := Int.eq_ofNat_of_zero_le g.1
        have g2 : 0 ≤ ln ∧ ln ≤ (q : Int) := ⟨c1, c2⟩
        have g3 : q ≤ s.size := by omega
        simp [execOp, Instr.sliceAt, Instr.slice, run_und hu, e1, Instr.sliceBounds, Instr.sliceBound, f1, f2, asIntOf, g3, g2]
    · simp at he
  · simp at he
theorem q_iam {t sz : Nat} {x i : Operand} {y j : Opd} (h : (oeq x y && oeq i j && elemIs P t fun e => szIs P e sz) = true)
    (hF : FRel S0 B m hp nx w fr a) (hH : HRel S0 B m hp nx w C.G) (he : evQ C fr hp (.iam sz y j) = some d) :
    QV P S0 B m hp nx w a ⟨dst, .indexAddr t x i, ty, pos, after, guard⟩ d := by
  simp only [Bool.and_eq_true] at h
  obtain ⟨⟨h1, h2⟩, h3⟩ := h
  obtain ⟨e, hu, hs⟩ := elem_some h3
  have hx := O_rd hF hH h1
  have hi := O_rd hF hH h2
  simp only [evQ] at he
  split at he
  · rename_i id n k q hv1 hv2
    rw [hv1] at hx
    rw [hv2] at hi
    have hi' := (Rd_v.1 hi).1
    split at he
    · rename_i cells hl
      split at he
      · rename_i hq
        simp only [Option.some.injEq] at he
        subst he
        obtain ⟨o0, _, _, o1⟩ := Rd_own.1 hx
        obtain ⟨c, e1, _, _⟩ := o1 _ hl
        refine ⟨.pointer (some ⟨m.ρ id, 0 + q.toNat * sz, none⟩), ?_, Rd_ptr.2 ⟨o0, by rw [Nat.zero_add]⟩⟩
        simp [execOp, Instr.indexAt, run_und hu, e1, hi', asIntOf, hq, run_szOf hs, add_none]
      · simp at he
    · simp at he
  · simp at he
theorem q_lenm {y : Opd} {ts : Array Nat} {ex : Array Operand} (h : ((match ex.toList with | [z] => oeq z y | _ => false) && (match ts.toList with | [t] => undIs P t (fun | .slice _ => true | _ => false) | _ => false)) = true)
    (hF : FRel S0 B m hp nx w fr a) (hH : HRel S0 B m hp nx w C.G) (he : evQ C fr hp (.lenm y) = some d) :
    QV P S0 B m hp nx w a ⟨dst, .call { callee := .builtin .len, args := ex, argTypes := ts }, ty, pos, after, guard⟩ d := by
  simp only [Bool.and_eq_true] at h
  obtain ⟨h, h2⟩ := h
  split at h
  · rename_i z hz
    split at h2
    · rename_i t ht
      have hex : ex = #[z] := by rw [← Array.toList_inj]; exact hz
      have hts : ts = #[t] := by rw [← Array.toList_inj]; exact ht
      subst hex hts
      obtain ⟨dd, hu, hdd⟩ := und_some h2
      have hx := O_rd hF hH h
      simp only [evQ] at he
      split at hdd
      · have run : ∀ A n cap, a.eval z = .slice A n cap → (execOp a.eval ⟨dst, .call { callee := .builtin .len, args := #[z], argTypes := #[t] }, ty, pos, after, guard⟩).run P w = .ok (.value (.int .i64 n)) w := by
          intro A n cap e1
          simp [execOp, resolve, invoke, builtin, Builtin.len_, run_und hu, e1, goInt]
        split at he
        · rename_i ex es hv
          rw [hv] at hx
          simp only [Option.some.injEq] at he; subst he
          obtain ⟨A, cap, sz', e1, _⟩ := Rd_lst.1 hx
          exact ⟨_, run _ _ _ e1, Rd_v.2 ⟨rfl, rfl⟩⟩
        · rename_i id n hv
          rw [hv] at hx
          split at he
          · rename_i cells hl
            simp only [Option.some.injEq] at he
            subst he
            obtain ⟨_, _, _, o1⟩ := Rd_own.1 hx
            obtain ⟨c, e1, _, _⟩ := o1 _ hl
            exact ⟨_, run _ _ _ e1, Rd_v.2 ⟨rfl, rfl⟩⟩
          · simp at he
        · simp at he
      · simp at hdd
    · simp at h2
  · simp at h
theorem q_nnil {ne : Bool} {op : BinOp} {pp : Nat} (hop : (op = .eql ∧ ne = false) ∨ (op = .neq ∧ ne = true)) {t : Nat} {x y : Operand} {x' : Opd}
    (h : (oeq x x' && oeq y (.k .nilS) && undIs P t fun | .slice _ => true | _ => false) = true)
    (hF : FRel S0 B m hp nx w fr a) (hH : HRel S0 B m hp nx w C.G) (he : evQ C fr hp (.nnil ne x') = some d) :
    QV P S0 B m hp nx w a ⟨dst, .binOp op t x y pp, ty, pos, after, guard⟩ d := by
  simp only [Bool.and_eq_true] at h
  obtain ⟨⟨h1, h2⟩, h3⟩ := h
  obtain ⟨dd, hu, hdd⟩ := und_some h3
  have hx := O_rd hF hH h1
  have hy : a.eval y = .slice none 0 0 := by
    cases y <;> simp [oeq] at h2
    rename_i v
    have : v = K.nilS.val := keq_val h2
    rw [this]; rfl
  simp only [evQ] at he
  split at he
  · rename_i ex e0 es hv
    rw [hv] at hx
    simp only [Option.some.injEq] at he
    subst he
    obtain ⟨A, cap, sz, e1, _, _, _, _, e6⟩ := Rd_lst.1 hx
    obtain ⟨b, o, rfl, _⟩ := e6 (by simp)
    split at hdd
    · have hq : ∀ n, (Op.equal t (.slice (some ⟨b, o, none⟩) n cap) (.slice none 0 0)).run P w = .ok false w := by
        intro n
        unfold Op.equal Op.maxDepth
        unfold Op.equalIn
        rw [Sem.run_bind, run_und hu]
        simp
      refine ⟨.bool ne, ?_, Rd_v.2 ⟨rfl, rfl⟩⟩
      have hg : (eqGuard op t x y (.slice (some ⟨b, o, none⟩) (e0 :: es).length cap) (.slice none 0 0)).run P w = .ok () w := by
        unfold eqGuard; rcases hop with ⟨rfl, _⟩ | ⟨rfl, _⟩ <;> simp
      rcases hop with ⟨rfl, rfl⟩ | ⟨rfl, rfl⟩
      · simp only [execOp, e1, hy]
        rw [Sem.run_bind, Sem.run_bind, hg]
        simp [binOp, hq]
      · simp only [execOp, e1, hy]
        rw [Sem.run_bind, Sem.run_bind, hg]
        simp [binOp, hq]
    · simp at hdd
  · simp at he
end
end Go.Proofs.Dv
set_option linter.unusedVariables false
set_option linter.unusedSimpArgs false
namespace Go.Proofs.Dv
open Go.RowKit
def CR (w : World) (S : Nat → Nat → Prop) (X : Option Env) (cs : Array Value) (ds : List D) : Prop :=
  cs.size = ds.length ∧ ∀ j (h : j < ds.length), ∃ c, cs[j]? = some c ∧ c.oneCell' = true ∧ Rd w S X ds[j] c
def EnvOK (X : Option Env) : Prop := ∀ E, X = some E → (∀ id n u, E.own id n u → ∃ A l c, u = .slice A l c) ∧ (∀ id o u, E.ptr id o u → ∃ p, u = .pointer p) ∧ (∀ id u, E.mp id u → ∃ p, u = .map p)
theorem envOK {m : Mp} {hp : List (Nat × Blk)} {nx : Nat} : EnvOK (some (env m hp nx)) := by
  intro E h
  cases h
  exact ⟨fun id n u h => h.2.1, fun id o u h => ⟨_, h.2⟩, fun id u h => ⟨_, h.2⟩⟩
theorem envOK0 : EnvOK none := fun E h => by cases h
section
variable {w : World} {S : Nat → Nat → Prop} {X : Option Env}
theorem CR.append {as bs : Array Value} {xs ys : List D} (h : CR w S X as xs) (k : CR w S X bs ys) : CR w S X (as ++ bs) (xs ++ ys) := by
  refine ⟨by simp [h.1, k.1], fun j hj => ?_⟩
  by_cases hlt : j < xs.length
  · obtain ⟨c, h1, h2, h3⟩ := h.2 j hlt
    exact ⟨c, by rw [Array.getElem?_append_left (by rw [h.1]; exact hlt)]; exact h1, h2, by rw [List.getElem_append_left hlt]; exact h3⟩
  · simp only [List.length_append] at hj
    obtain ⟨c, h1, h2, h3⟩ := k.2 (j - xs.length) (by omega)
    exact ⟨c, by rw [Array.getElem?_append_right (by rw [h.1]; omega), h.1]; exact h1, h2, by rw [List.getElem_append_right (by omega)]; exact h3⟩
theorem cells_of (hX : EnvOK X) {d : D} {v : Value} (h : Rd w S X d v) (ho : (dcells d).all okc = true) : CR w S X v.cells (dcells d) := by
  have one : ∀ {d v}, dcells d = [d] → Rd w S X d v → v.oneCell' = true → CR w S X v.cells (dcells d) := by
    intro d v h1 h2 h3
    have hc : v.cells = #[v] := by cases v <;> first | rfl | simp [Value.oneCell'] at h3
    rw [h1, hc]
    refine ⟨rfl, fun j hj => ⟨v, ?_, h3, ?_⟩⟩
    · have : j = 0 := by simpa using hj
      subst this; rfl
    · have : j = 0 := by simpa using hj
      subst this; exact h2
  cases d with
  | v x => exact one rfl h (by have := Rd_v.1 h; rw [this.1]; cases x <;> simp_all [plain, Value.oneCell'])
  | agg ds => obtain ⟨cs, rfl, h1, h2⟩ := Rd_agg.1 h; exact ⟨h1, h2⟩
  | lst b es => exact one rfl h (by obtain ⟨A, cap, sz, rfl, _⟩ := Rd_lst.1 h; rfl)
  | rp cs => exact one rfl h (by obtain ⟨b, o, rfl, _⟩ := Rd_rp.1 h; rfl)
  | fn f ds => exact one rfl h (by obtain ⟨cs, rfl, _⟩ := Rd_fn.1 h; rfl)
  | tup ds => simp [dcells, okc] at ho
  | junk => simp [dcells, okc] at ho
  | own id n =>
    refine one rfl h ?_
    cases X with
    | none => exact (Rd_own0 h).elim
    | some E => obtain ⟨A, l, c, rfl⟩ := (hX E rfl).1 _ _ _ (Rd_own.1 h); rfl
  | ptr id n =>
    refine one rfl h ?_
    cases X with
    | none => exact (Rd_ptr0 h).elim
    | some E => obtain ⟨p, rfl⟩ := (hX E rfl).2.1 _ _ _ (Rd_ptr.1 h); rfl
  | mp id =>
    refine one rfl h ?_
    cases X with
    | none => exact (Rd_mp0 h).elim
    | some E => obtain ⟨p, rfl⟩ := (hX E rfl).2.2 _ _ (Rd_mp.1 h); rfl
theorem CR.lay {cs : Array Value} {ds ps : List D} {v : Value} {off : Nat} (h : CR w S X cs ds) (hv : CR w S X v.cells ps) (hle : off + ps.length ≤ ds.length) :
    CR w S X (v.cells.zipIdx.foldl (fun cs (x : Value × Nat) => cs.setIfInBounds (off + x.2) x.1) cs) (ds.take off ++ ps ++ ds.drop (off + ps.length)) := by
  obtain ⟨g1, g2⟩ := Go.Great.foldl_set off v.cells.toList 0 cs
  have e : (v.cells.zipIdx.foldl (fun cs (x : Value × Nat) => cs.setIfInBounds (off + x.2) x.1) cs) = ((v.cells.toList.zipIdx 0).foldl (fun cs (x : Value × Nat) => cs.setIfInBounds (off + x.2) x.1) cs) := by
    rw [← Array.foldl_toList, Array.toList_zipIdx]
  rw [e]
  have hl : (ds.take off ++ ps ++ ds.drop (off + ps.length)).length = ds.length := by simp; omega
  refine ⟨by rw [g1, hl, h.1], fun j hj => ?_⟩
  rw [g2 j]
  rw [hl] at hj
  have hs : v.cells.toList.length = ps.length := by simpa using hv.1
  simp only [Nat.add_zero, hs, h.1]
  by_cases h1 : off ≤ j ∧ j < off + ps.length
  · rw [if_pos ⟨h1.1, h1.2, hj⟩]
    obtain ⟨c, k1, k2, k3⟩ := hv.2 (j - off) (by omega)
    refine ⟨c, by simpa using k1, k2, ?_⟩
    rw [List.getElem_append_left (by simp; omega), List.getElem_append_right (by simp; omega)]
    simp only [List.length_take]
    have : j - min off ds.length = j - off := by omega
    simp only [this]
    exact k3
  · rw [if_neg (fun h => h1 ⟨h.1, h.2.1⟩)]
    obtain ⟨c, k1, k2, k3⟩ := h.2 j hj
    refine ⟨c, k1, k2, ?_⟩
    by_cases h2 : j < off
    · rw [List.getElem_append_left (by simp; omega), List.getElem_append_left (by simp; omega)]
      simpa using k3
    · rw [List.getElem_append_right (by simp; omega)]
      simp only [List.length_append, List.length_take, List.getElem_drop]
      have : off + ps.length + (j - (min off ds.length + ps.length)) = j := by omega
      simp only [this]
      exact k3
theorem CR.fill (hX : EnvOK X) (place : Nat → Option (Nat × Nat)) : ∀ (vs : List (Nat × Value)) (qs : List (Nat × Nat × D)) (cs : Array Value) (ds ds' : List D), CR w S X cs ds →
    vs.length = qs.length → (∀ j (h : j < vs.length) (h' : j < qs.length), place (vs[j]).1 = some (qs[j].1, qs[j].2.1) ∧ Rd w S X qs[j].2.2 vs[j].2) → layd ds qs = some ds' →
    ∃ cs', Instr.fill place cs vs = some cs' ∧ CR w S X cs' ds'
  | [], [], cs, ds, ds', hc, _, _, hl => by
    simp only [layd, Option.some.injEq] at hl
    subst hl
    exact ⟨cs, rfl, hc⟩
  | (i, v) :: vs, (off, n, d) :: qs, cs, ds, ds', hc, hlen, hr, hl => by
    simp only [layd] at hl
    split at hl
    · rename_i hcond
      obtain ⟨c1, c2, c3⟩ := hcond
      have h0 := hr 0 (by simp) (by simp)
      simp only [List.getElem_cons_zero] at h0
      have hv := cells_of hX h0.2 c3
      have hlay := hc.lay (off := off) hv (by omega)
      rw [c1] at hlay
      obtain ⟨cs', e1, e2⟩ := CR.fill hX place vs qs _ _ ds' hlay (by simpa using hlen) (fun j h h' => by
        have := hr (j + 1) (by simpa using h) (by simpa using h')
        simpa using this) hl
      refine ⟨cs', ?_, e2⟩
      unfold Instr.fill
      simp only [h0.1]
      rw [if_neg]
      · exact e1
      · simp only [Bool.or_eq_true, decide_eq_true_eq, not_or, ne_eq, Decidable.not_not, gt_iff_lt, Nat.not_lt]
        rw [hv.1, hc.1]
        omega
    · simp at hl
  | [], _ :: _, _, _, _, _, hlen, _, _ => by simp at hlen
  | _ :: _, [], _, _, _, _, hlen, _, _ => by simp at hlen
end
end Go.Proofs.Dv
set_option linter.unusedVariables false
set_option linter.unusedSimpArgs false
namespace Go.Proofs.Dv
open Go.RowKit
section
variable {P : Program} {C : Ctx} {S0 : Nat → Nat → Prop} {B : Nat} {m : Mp} {hp : List (Nat × Blk)} {nx : Nat} {w : World} {fr : List (Nat × D)} {a : Act} {d : D}
variable {dst : Option Nat} {ty : Nat} {pos : String} {after : Array Edge} {guard : Option (Nat × Bool)}
theorem row_rd {G : Nat → Option (List D)} {id z : Nat} {els : List (List D)} (hH : HRel S0 B m hp nx w G) (hl : lkh hp id = some (.row z els)) : Rd0 S0 B m hp w (.lst false els) (m.sv id) := by
  obtain ⟨h0, h1, h2⟩ := (hH.bl _ _ hl).2
  by_cases hz : 0 < els.length
  · obtain ⟨g, cap, k1, k2, k3, _⟩ := row_at (C := ⟨G, fun _ => none, fun _ _ _ _ => none, fun _ _ => none⟩) hH hl 0 hz
    refine Rd_lst.2 ⟨some ⟨g, 0, none⟩, cap, z, k1, k2, k3, fun h => by simp at h, h1, fun _ => ⟨g, 0, rfl, fun i hi j hj => ?_⟩⟩
    obtain ⟨g', cap', k1', _, _, k4, k5⟩ := row_at (C := ⟨G, fun _ => none, fun _ _ _ _ => none, fun _ _ => none⟩) hH hl i hi
    obtain rfl : g = g' := by rw [k1] at k1'; simp at k1'; exact k1'.1
    obtain ⟨c, c1, c2, c3, c4⟩ := k5 j hj
    rw [Nat.zero_add]
    exact ⟨c, c1, c2, c3, c4⟩
  · have he : els = [] := List.eq_nil_of_length_eq_zero (by omega)
    subst he
    rcases h2 with ⟨_, A, e1⟩ | ⟨g, cap, cur, e, k1, k2, k3, k4, k5, _⟩
    · exact Rd_lst.2 ⟨A, 0, z, e1, by simp, by simp [maxLen], fun _ => rfl, by simp, fun h => by simp at h⟩
    · exact Rd_lst.2 ⟨_, cap + 1, z, k1, k4, k5, fun h => by simp at h, by simp, fun h => by simp at h⟩
theorem expos_get : ∀ (ds es : List D), expo.expos hp ds = some es → es.length = ds.length ∧ ∀ j (h : j < ds.length) (h' : j < es.length), expo hp ds[j] = some es[j] := by
  intro ds
  induction ds with
  | nil => intro es h; simp only [expo.expos, Option.some.injEq] at h; subst h; simp
  | cons d ds ih =>
    intro es h
    simp only [expo.expos, Option.bind_eq_some_iff, Option.map_eq_some_iff] at h
    obtain ⟨e, h1, es', h2, rfl⟩ := h
    obtain ⟨g1, g2⟩ := ih es' h2
    refine ⟨by simp [g1], fun j h h' => ?_⟩
    cases j with
    | zero => exact h1
    | succ j => exact g2 j (by simpa using h) (by simpa using h')
theorem expo_rd {G : Nat → Option (List D)} (hH : HRel S0 B m hp nx w G) : ∀ (d e : D) (v : Value), expo hp d = some e → RdS S0 B m hp nx w d v → Rd0 S0 B m hp w e v
  | .v x, e, v, h, hr => by simp only [expo, Option.some.injEq] at h; subst h; exact Rd_v.2 (Rd_v.1 hr)
  | .lst b es, e, v, h, hr => by simp only [expo, Option.some.injEq] at h; subst h; exact Rd.closed _ _ _ rfl hr
  | .rp cs, e, v, h, hr => by simp only [expo, Option.some.injEq] at h; subst h; exact Rd.closed _ _ _ rfl hr
  | .agg ds, e, v, h, hr => by
    simp only [expo, Option.map_eq_some_iff] at h
    obtain ⟨es, h1, rfl⟩ := h
    obtain ⟨g1, g2⟩ := expos_get _ _ h1
    obtain ⟨cs, rfl, h3, h4⟩ := Rd_agg.1 hr
    refine Rd_agg.2 ⟨cs, rfl, h3.trans g1.symm, fun j hj => ?_⟩
    obtain ⟨c, c1, c2, c3⟩ := h4 j (by omega)
    exact ⟨c, c1, c2, expo_rd hH ds[j] es[j] c (g2 j (by omega) hj) c3⟩
  | .fn f ds, e, v, h, hr => by
    simp only [expo, Option.map_eq_some_iff] at h
    obtain ⟨es, h1, rfl⟩ := h
    obtain ⟨g1, g2⟩ := expos_get _ _ h1
    obtain ⟨cs, rfl, h3, h4⟩ := Rd_fn.1 hr
    refine Rd_fn.2 ⟨cs, rfl, h3.trans g1.symm, fun j hj => ?_⟩
    obtain ⟨c, c1, c3⟩ := h4 j (by omega)
    exact ⟨c, c1, expo_rd hH ds[j] es[j] c (g2 j (by omega) hj) c3⟩
  | .tup ds, e, v, h, hr => by
    simp only [expo, Option.map_eq_some_iff] at h
    obtain ⟨es, h1, rfl⟩ := h
    obtain ⟨g1, g2⟩ := expos_get _ _ h1
    obtain ⟨cs, rfl, h3, h4⟩ := Rd_tup.1 hr
    refine Rd_tup.2 ⟨cs, rfl, h3.trans g1.symm, fun j hj => ?_⟩
    obtain ⟨c, c1, c3⟩ := h4 j (by omega)
    exact ⟨c, c1, expo_rd hH ds[j] es[j] c (g2 j (by omega) hj) c3⟩
  | .own id n, e, v, h, hr => by
    simp only [expo] at h
    split at h
    · rename_i z els hl
      split at h
      · rename_i hn
        simp only [Option.some.injEq] at h
        subst h
        obtain ⟨_, _, h1, _⟩ := Rd_own.1 hr
        rw [(h1 _ _ hl).2 hn]
        exact row_rd hH hl
      · simp at h
    · simp at h
  | .ptr id o, e, v, h, hr => by simp [expo] at h
  | .mp id, e, v, h, hr => by simp [expo] at h
  | .junk, e, v, h, hr => by simp [expo] at h
termination_by d => SizeOf.sizeOf d
decreasing_by
  all_goals
    have := sz_get (ds := ds) (j := j) (by omega)
    simp; omega
def QW (P : Program) (S0 : Nat → Nat → Prop) (B : Nat) (m : Mp) (hp : List (Nat × Blk)) (nx : Nat) (w : World) (a : Act) (o : Oper) (d : D) : Prop :=
  ∀ (K : Act → World → Prop) (Q : Exit → Act → World → Prop), (∀ v w', Below w.heap.size w w' → RdS S0 B m hp nx w' d v → K (a.put o.dst v) w') → o.wp P a w K Q
theorem QV.qw {o : Oper} (h : QV P S0 B m hp nx w a o d) : QW P S0 B m hp nx w a o d := by
  intro K Q hK
  obtain ⟨v, h1, h2⟩ := h
  exact wp_val h1 (hK v w (Below.refl _ _) h2)
theorem zero_cr {S : Nat → Nat → Prop} {X : Option Env} {z : Value} {zs : List K} (h1 : z.cells.size = zs.length) (h2 : ((z.cells.toList.zip zs).all fun p => keq p.1 p.2) = true) : CR w S X z.cells (zs.map K.d) := by
  refine ⟨by simp [h1], fun j hj => ?_⟩
  simp only [List.length_map] at hj
  refine ⟨z.cells[j], by simp, ?_⟩
  have : keq z.cells[j] zs[j] = true := by
    rw [List.all_eq_true] at h2
    exact h2 (z.cells[j], zs[j]) (by
      rw [List.mem_iff_getElem]
      refine ⟨j, by simp; omega, by simp⟩)
  rw [keq_val this]
  simp only [List.getElem_map]
  refine ⟨by cases zs[j] <;> rfl, ?_⟩
  cases hk : zs[j] with
  | nilS => exact Rd_lst.2 ⟨none, 0, 0, rfl, Nat.le_refl _, by simp [maxLen], fun _ => rfl, fun e he => by simp at he, fun h => by simp at h⟩
  | _ => exact Rd_v.2 ⟨rfl, rfl⟩
theorem zero_some {t : Nat} {zs : List K} (h : zeroIs P t zs = true) : ∃ i z, P.info? t = some i ∧ i.zero = some z ∧ z.cells.size = zs.length ∧ ((z.cells.toList.zip zs).all fun p => keq p.1 p.2) = true := by
  unfold zeroIs at h
  split at h
  · split at h
    · simp only [Bool.and_eq_true, beq_iff_eq] at h
      exact ⟨_, _, ‹_›, ‹_›, h.1, h.2⟩
    · simp at h
  · simp at h
theorem mapM_places : ∀ (fs : List Field), (fs.all fun f => (P.info? f.type).isSome) = true → ∃ ps, fs.mapM (fun f => (P.info? f.type).map fun i => (f.offset, i.size)) = some ps ∧ ps.length = fs.length ∧
    ∀ (j : Nat) (f : Field) (n : Nat), fs[j]? = some f → szIs P f.type n = true → ps[j]? = some (f.offset, n) := by
  intro fs
  induction fs with
  | nil => intro _; exact ⟨[], rfl, rfl, by simp⟩
  | cons f fs ih =>
    intro h
    simp only [List.all_cons, Bool.and_eq_true] at h
    obtain ⟨ps, h1, h2, h3⟩ := ih h.2
    obtain ⟨i, hi⟩ := Option.isSome_iff_exists.1 h.1
    refine ⟨(f.offset, i.size) :: ps, by simp [List.mapM_cons, hi, h1], by simp [h2], fun j g n hj hn => ?_⟩
    cases j with
    | zero =>
      simp only [List.getElem?_cons_zero, Option.some.injEq] at hj
      subst hj
      simp only [szIs, hi, beq_iff_eq] at hn
      simp [hn]
    | succ j => simpa using h3 j g n (by simpa using hj) hn
theorem bld_places {t : Nat} {fs : Array Field} {ps : List (Nat × Nat)} (hu : P.underlying t = some (.struct fs)) (hF : FRel S0 B m hp nx w fr a) (hH : HRel S0 B m hp nx w C.G)
    (hps : ∀ (j : Nat) (f : Field) (n : Nat), fs[j]? = some f → szIs P f.type n = true → ps[j]? = some (f.offset, n)) :
    ∀ (xs : List (Nat × Operand)) (ys : List (Nat × Nat × Opd)), bldeq P t xs ys = true → xs.length = ys.length ∧ ∀ j (h : j < xs.length) (h' : j < ys.length),
      ps[(xs[j]).1]? = some (ys[j].1, ys[j].2.1) ∧ RdS S0 B m hp nx w (evO C fr ys[j].2.2) (a.eval (xs[j]).2)
  | [], [], _ => by simp
  | (i, x) :: xs, (o, n, y) :: ys, h => by
    simp only [bldeq, Bool.and_eq_true] at h
    obtain ⟨⟨h1, h2⟩, h3⟩ := h
    obtain ⟨fs', fd, hu', hf, h4⟩ := field_some h2
    rw [hu] at hu'
    simp only [Option.some.injEq, TypeDesc.struct.injEq] at hu'
    subst hu'
    simp only [Bool.and_eq_true, beq_iff_eq] at h4
    obtain ⟨g1, g2⟩ := bld_places hu hF hH hps xs ys h3
    refine ⟨by simp [g1], fun j h h' => ?_⟩
    cases j with
    | zero =>
      simp only [List.getElem_cons_zero]
      refine ⟨?_, O_rd hF hH h1⟩
      rw [← h4.1]
      exact hps _ _ _ hf h4.2
    | succ j => simpa using g2 j (by simpa using h) (by simpa using h')
  | [], _ :: _, h => by simp [bldeq] at h
  | _ :: _, [], h => by simp [bldeq] at h
theorem q_bld {t : Nat} {ps : Array (Nat × Operand)} {zs : List K} {qs : List (Nat × Nat × Opd)} (h : (zeroIs P t zs && allInfo P t && bldeq P t ps.toList qs) = true)
    (hF : FRel S0 B m hp nx w fr a) (hH : HRel S0 B m hp nx w C.G) (he : evQ C fr hp (.bld zs qs) = some d) :
    QV P S0 B m hp nx w a ⟨dst, .build t ps, ty, pos, after, guard⟩ d := by
  simp only [Bool.and_eq_true] at h
  obtain ⟨⟨h1, h2⟩, h3⟩ := h
  obtain ⟨it, z, hi, hz, hs, hk⟩ := zero_some h1
  simp only [evQ, Option.map_eq_some_iff] at he
  obtain ⟨ds, he, rfl⟩ := he
  unfold allInfo at h2
  cases hu : P.underlying t with
  | none => rw [hu] at h2; simp at h2
  | some dd =>
    rw [hu] at h2
    cases dd with
    | struct fs =>
      simp only at h2
      obtain ⟨pl, p1, p2, p3⟩ := mapM_places _ h2
      obtain ⟨g1, g2⟩ := bld_places (ps := pl) hu hF hH (fun j f n hj hn => p3 j f n (by simpa using hj) hn) _ _ h3
      obtain ⟨cs', f1, f2⟩ := CR.fill (w := w) (S := stab S0 B m hp w) (X := some (env m hp nx)) envOK (fun i => pl[i]?) (ps.toList.map fun (i, x) => (i, a.eval x)) (qs.map fun (o, n, x) => (o, n, evO C fr x)) z.cells (zs.map K.d) ds (zero_cr hs hk) (by simpa using g1) (fun j h h' => by
        have := g2 j (by simpa using h) (by simpa using h')
        simpa using this) he
      have hb : P.built t (ps.map fun (i, x) => (i, a.eval x)).toList = some cs' := by
        unfold Program.built
        simp only [hi, hu, hz, p1]
        rw [← f1]
        simp
      refine ⟨.agg cs', ?_, Rd_agg.2 ⟨cs', rfl, f2.1, f2.2⟩⟩
      have := run_build (P := P) w t (ps.map fun (i, x) => (i, a.eval x)) cs' hb
      simp [execOp, this]
    | _ => simp at h2
theorem q_mkf {f g : Nat} {first caps : Array Operand} {ds : List Opd} (h : (f == g && first.isEmpty && oeqs caps.toList ds) = true)
    (hF : FRel S0 B m hp nx w fr a) (hH : HRel S0 B m hp nx w C.G) (he : evQ C fr hp (.mkf g ds) = some d) :
    QV P S0 B m hp nx w a ⟨dst, .makeFunc (.func f) first caps, ty, pos, after, guard⟩ d := by
  simp only [Bool.and_eq_true, beq_iff_eq] at h
  obtain ⟨⟨rfl, h1⟩, h2⟩ := h
  simp only [evQ, Option.some.injEq] at he
  subst he
  have hf : first = #[] := by simpa using h1
  subst hf
  have key : ∀ (xs : List Operand) (ys : List Opd), oeqs xs ys = true → xs.length = ys.length ∧ ∀ j (h : j < xs.length) (h' : j < ys.length), RdS S0 B m hp nx w (evO C fr ys[j]) (a.eval xs[j]) := by
    intro xs
    induction xs with
    | nil => intro ys h; cases ys <;> simp [oeqs] at h ⊢
    | cons x xs ih =>
      intro ys h
      cases ys with
      | nil => simp [oeqs] at h
      | cons y ys =>
        simp only [oeqs, Bool.and_eq_true] at h
        obtain ⟨g1, g2⟩ := ih ys h.2
        refine ⟨by simp [g1], fun j h3 h4 => ?_⟩
        cases j with
        | zero => exact O_rd hF hH h.1
        | succ j => simpa using g2 j (by simpa using h3) (by simpa using h4)
  obtain ⟨g1, g2⟩ := key _ _ h2
  refine ⟨.func (.func f) #[] (caps.map a.eval), by simp [execOp, Instr.makeFunc], Rd_fn.2 ⟨_, rfl, by simpa using g1, fun j hj => ?_⟩⟩
  simp only [List.length_map] at hj
  have hj' : j < caps.toList.length := by omega
  refine ⟨a.eval caps.toList[j], ?_, ?_⟩
  · have : j < caps.size := by simpa using hj'
    simp [this]
  · simpa using g2 j hj' hj
end
end Go.Proofs.Dv
set_option linter.unusedVariables false
set_option linter.unusedSimpArgs false
namespace Go.Proofs.Dv
open Go.RowKit
section
variable {P : Program} {C : Ctx} {S0 : Nat → Nat → Prop} {B : Nat} {m : Mp} {hp : List (Nat × Blk)} {nx : Nat} {w : World} {fr : List (Nat × D)} {a : Act} {d : D}
variable {dst : Option Nat} {ty : Nat} {pos : String} {after : Array Edge} {guard : Option (Nat × Bool)}
theorem CR.fillRow {S : Nat → Nat → Prop} {X : Option Env} (hX : EnvOK X) {sz : Nat} (hsz : 0 < sz) : ∀ (vs : List (Nat × Value)) (qs : List (Nat × D)) (cs : Array Value) (es : List (List D)), CR w S X cs es.flatten → (∀ e ∈ es, e.length = sz) →
    vs.length = qs.length → (∀ j (h : j < vs.length) (h' : j < qs.length), (vs[j]).1 = qs[j].1 ∧ qs[j].1 < es.length ∧ Rd w S X qs[j].2 vs[j].2 ∧ (dcells qs[j].2).length = sz ∧ (dcells qs[j].2).all okc = true) →
    ∃ cs', Instr.fill (fun i => some (i * sz, sz)) cs vs = some cs' ∧ CR w S X cs' (qs.foldl (fun es p => es.set p.1 (dcells p.2)) es).flatten ∧ (∀ e ∈ qs.foldl (fun es p => es.set p.1 (dcells p.2)) es, e.length = sz) ∧ (qs.foldl (fun es p => es.set p.1 (dcells p.2)) es).length = es.length
  | [], [], cs, es, hc, hes, _, _ => ⟨cs, rfl, hc, hes, rfl⟩
  | (i, v) :: vs, (k, d) :: qs, cs, es, hc, hes, hlen, hr => by
      have h0 := hr 0 (by simp) (by simp)
      simp only [List.getElem_cons_zero] at h0
      obtain ⟨rfl, hi, hrd, hl, ho⟩ := h0
      have hv := cells_of hX hrd ho
      have hfl := flat_len hes
      have hle : i * sz + (dcells d).length ≤ es.flatten.length := by
        rw [hfl, hl]
        have : (i + 1) * sz ≤ es.length * sz := Nat.mul_le_mul_right sz (by omega)
        rw [Nat.add_mul, Nat.one_mul] at this
        exact this
      have hlay := hc.lay (off := i * sz) hv hle
      rw [← flat_set hl hes i hi] at hlay
      have hes' : ∀ e ∈ es.set i (dcells d), e.length = sz := by
        intro e he
        rcases List.mem_or_eq_of_mem_set he with h | h
        · exact hes e h
        · rw [h]; exact hl
      obtain ⟨cs', e1, e2, e3, e4⟩ := CR.fillRow hX hsz vs qs _ (es.set i (dcells d)) hlay hes' (by simpa using hlen) (fun j h h' => by
        have := hr (j + 1) (by simpa using h) (by simpa using h')
        simpa using this)
      refine ⟨cs', ?_, e2, e3, by simpa using e4⟩
      unfold Instr.fill
      simp only []
      rw [if_neg]
      · exact e1
      · simp only [Bool.or_eq_true, decide_eq_true_eq, not_or, ne_eq, Decidable.not_not, gt_iff_lt, Nat.not_lt]
        rw [hv.1, hc.1]
        exact ⟨hl, hle⟩
  | [], _ :: _, _, _, _, _, hlen, _ => by simp at hlen
  | _ :: _, [], _, _, _, _, hlen, _ => by simp at hlen
theorem CR.zeros {S : Nat → Nat → Prop} {X : Option Env} {z : Array Value} {zs : List D} {sz len : Nat} (h : CR w S X z zs) (hl : zs.length = sz) (hsz : 0 < sz) :
    CR w S X ((Array.range (len * sz)).map (z[· % z.size]!)) (List.replicate len zs).flatten := by
  have hall : ∀ e ∈ List.replicate len zs, e.length = sz := fun e he => by rw [List.eq_of_mem_replicate he]; exact hl
  have hfl := flat_len hall
  rw [List.length_replicate] at hfl
  refine ⟨by simp [hfl, ], fun j hj => ?_⟩
  rw [hfl] at hj
  have hm : j % sz < sz := Nat.mod_lt _ hsz
  have hd : j / sz < len := (Nat.div_lt_iff_lt_mul hsz).2 hj
  have hjj : (List.replicate len zs).flatten[j]? = zs[j % sz]? := by
    have := flat_get hall (j / sz) (j % sz) hm
    rw [Nat.mul_comm, Nat.div_add_mod] at this
    rw [this]
    simp [hd]
  obtain ⟨c, c1, c2, c3⟩ := h.2 (j % sz) (by omega)
  refine ⟨c, ?_, c2, ?_⟩
  · have hzs : z.size = sz := h.1.trans hl
    simp only [Array.getElem?_map, hzs]
    rw [Array.getElem?_eq_getElem (by simpa using hj)]
    simp only [Option.map_some, Array.getElem_range]
    rw [getElem!_pos z (j % sz) (by omega)]
    rw [← c1, Array.getElem?_eq_getElem (by omega)]
  · have e : (List.replicate len zs).flatten[j] = zs[j % sz]'(by omega) := by
      have e2 : zs[j % sz]? = some (zs[j % sz]'(by omega)) := List.getElem?_eq_getElem (by omega)
      rw [e2] at hjj
      exact (List.getElem?_eq_some_iff.1 hjj).2
    rw [e]; exact c3
theorem stab_new {G : Nat → Option (List D)} (hH : HRel S0 B m hp nx w G) {w' : World} (hs : w.heap.size < w'.heap.size) (o : Nat) : stab S0 B m hp w' w.heap.size o := by
  refine .inr ⟨hH.hB, hs, fun id cs hl e => ?_, fun id z els hl e => ?_⟩
  · obtain ⟨arr, T, h1, _⟩ := (hH.bl _ _ hl).2
    have := (Array.getElem?_eq_some_iff.1 h1).1
    omega
  · obtain ⟨h0, h1, h2⟩ := (hH.bl _ _ hl).2
    rcases h2 with ⟨_, A, h1⟩ | ⟨g, cap, cur, e', k1, k2, k3, _⟩
    · rw [h1] at e; cases A <;> simp [rblk] at e
    · rw [k1] at e
      simp only [rblk, Option.some.injEq] at e
      have := (Array.getElem?_eq_some_iff.1 k3).1
      omega
theorem below_alloc (w : World) (o : Obj) : Below w.heap.size w (w.alloc o) := (Below.refl _ w).alloc (Nat.le_refl _) o
theorem lst_new {G : Nat → Option (List D)} (hH : HRel S0 B m hp nx w G) {w' : World} {cs : Array Value} {T : Nat} {es : List (List D)} {sz : Nat} (hb : Below w.heap.size w w')
    (hg : w'.heap[w.heap.size]? = some (.cells cs T (0, 0))) (hes : ∀ e ∈ es, e.length = sz) (hc : CR w' (stab S0 B m hp w') none cs es.flatten) (hm : es.length ≤ maxLen) :
    Rd0 S0 B m hp w' (.lst true es) (.slice (some ⟨w.heap.size, 0, none⟩) es.length es.length) := by
  refine Rd_lst.2 ⟨_, es.length, sz, rfl, Nat.le_refl _, hm, fun _ => rfl, hes, fun _ => ⟨w.heap.size, 0, rfl, fun i hi j hj => ?_⟩⟩
  have he : es[i].length = sz := hes _ (List.getElem_mem hi)
  have hflat := flat_get hes i j (by omega)
  rw [List.getElem?_eq_getElem hi, Option.bind_some, List.getElem?_eq_getElem hj] at hflat
  obtain ⟨hlt, hfe⟩ := List.getElem?_eq_some_iff.1 hflat
  obtain ⟨c, c1, c2, c3⟩ := hc.2 (i * sz + j) hlt
  rw [hfe] at c3
  rw [Nat.zero_add]
  exact ⟨c, (cell_blk hg).trans c1, stab_new hH (Array.getElem?_eq_some_iff.1 hg).1 _, c2, c3⟩
theorem bsl_parts (hF : FRel S0 B m hp nx w fr a) (hH : HRel S0 B m hp nx w C.G) {len : Nat} : ∀ (xs : List (Nat × Operand)) (ys : List (Nat × Opd)), bsleq len xs ys = true → xs.length = ys.length ∧
    ∀ j (h : j < xs.length) (h' : j < ys.length), xs[j].1 = ys[j].1 ∧ xs[j].1 < len ∧ RdS S0 B m hp nx w (evO C fr ys[j].2) (a.eval xs[j].2)
  | [], [], _ => by simp
  | (i, x) :: xs, (k, y) :: ys, h => by
    simp only [bsleq, Bool.and_eq_true, beq_iff_eq, decide_eq_true_eq] at h
    obtain ⟨⟨⟨rfl, h1⟩, h2⟩, h3⟩ := h
    obtain ⟨g1, g2⟩ := bsl_parts hF hH xs ys h3
    refine ⟨by simp [g1], fun j h h' => ?_⟩
    cases j with
    | zero => exact ⟨rfl, h1, O_rd hF hH h2⟩
    | succ j => simpa using g2 j (by simpa using h) (by simpa using h')
  | [], _ :: _, h => by simp [bsleq] at h
  | _ :: _, [], h => by simp [bsleq] at h
theorem q_bsl {t n n' sz : Nat} {ps : Array (Nat × Operand)} {zs : List K} {qs : List (Nat × Opd)} (h : (n == n' && bsleq n ps.toList qs && elemIs P t fun e => szIs P e sz && zeroIs P e zs && zs.length == sz) = true)
    (hF : FRel S0 B m hp nx w fr a) (hH : HRel S0 B m hp nx w C.G) (he : evQ C fr hp (.bsl sz zs n' qs) = some d) :
    QW P S0 B m hp nx w a ⟨dst, .buildSlice t n ps, ty, pos, after, guard⟩ d := by
  simp only [Bool.and_eq_true, beq_iff_eq] at h
  obtain ⟨⟨rfl, h1⟩, h2⟩ := h
  obtain ⟨e, hu, h3⟩ := elem_some h2
  simp only [Bool.and_eq_true, beq_iff_eq] at h3
  obtain ⟨⟨h4, h5⟩, h6⟩ := h3
  obtain ⟨ie, z, hi, hz, hs, hk⟩ := zero_some h5
  simp only [evQ, Option.bind_eq_some_iff] at he
  obtain ⟨ds, he1, he2⟩ := he
  split at he2
  · rename_i hcond
    simp only [Option.some.injEq] at he2
    subst he2
    simp only [Bool.and_eq_true, decide_eq_true_eq, List.all_eq_true, beq_iff_eq] at hcond
    obtain ⟨⟨hall, hsm⟩, hsz⟩ := hcond
    obtain ⟨g1, g2⟩ := expos_get _ _ he1
    obtain ⟨b1, b2⟩ := bsl_parts hF hH _ _ h1
    have hisz : ie.size = sz := by unfold szIs at h4; rw [hi] at h4; simpa using h4
    have hzero : CR w (stab S0 B m hp w) none z.cells (zs.map K.d) := zero_cr hs hk
    have hz0 := hzero.zeros (len := n) (sz := sz) (by simpa using h6) hsz
    have hrep : ∀ e ∈ List.replicate n (zs.map K.d), e.length = sz := fun e he => by rw [List.eq_of_mem_replicate he]; simpa using h6
    simp only [List.length_map] at g1
    obtain ⟨cs', f1, f2, f3, f4⟩ := CR.fillRow envOK0 hsz (ps.toList.map fun (i, x) => (i, a.eval x)) ((qs.map (·.1)).zip ds) _ _ hz0 hrep (by simp [b1, g1]) (fun j h h' => by
      simp only [List.length_map, List.length_zip] at h h'
      have hj : j < ds.length := by omega
      obtain ⟨k1, k2, k3⟩ := b2 j h (by omega)
      simp only [List.getElem_map, List.getElem_zip, List.length_replicate]
      have hq : j < qs.length := by omega
      have hge := g2 j (by simpa using hq) hj
      rw [List.getElem_map] at hge
      have hx := expo_rd hH _ _ _ hge k3
      exact ⟨k1, by omega, hx, (hall _ (List.getElem_mem hj)).1, (by
        have := (hall _ (List.getElem_mem hj)).2
        simpa using this)⟩)
    intro KK Q hK
    have hmax : n ≤ maxLen := by
      have : n * 1 ≤ n * sz := Nat.mul_le_mul_left n hsz
      simp [maxLen]; omega
    have hlen : (elems (zs.map K.d) ((qs.map (·.1)).zip ds) n).length = n := by unfold elems; rw [f4]; simp
    have run : (execOp a.eval ⟨dst, .buildSlice t n ps, ty, pos, after, guard⟩).run P w = .ok (.value (.slice (some ⟨w.heap.size, 0, none⟩) n n)) (w.alloc (.cells cs' e)) := by
      by_cases hn : n = 0
      · subst hn
        have hp0 : ps.toList = [] := by
          rcases hq : ps.toList with _ | ⟨x, xs⟩
          · rfl
          · rw [hq] at b2 b1
            have := (b2 0 (by simp) (by rw [← b1]; simp)).2.1
            omega
        have hp1 : ps = #[] := by rw [← Array.toList_inj]; exact hp0
        subst hp1
        simp only [List.map_nil, Instr.fill, Option.some.injEq, Nat.zero_mul] at f1
        rw [← f1]
        simp [execOp, Instr.buildSlice, run_und hu, Go.sizeOf, typeInfo, hi, Instr.fill, newRow, Array.range_zero']
      · have := run_buildSlice (P := P) w t e n (ps.map fun (i, x) => (i, a.eval x)) cs' ie z hu hi hz (by rw [hisz]; omega) (by rw [hisz]; intro h0; rcases Nat.mul_eq_zero.1 h0 with h | h <;> omega) (by
          rw [hisz, ← f1]; simp)
        simp [execOp, this]
    have hb := below_alloc w (.cells cs' e)
    refine wp_val run (hK _ _ hb ?_)
    have f2' : CR (w.alloc (.cells cs' e)) (stab S0 B m hp (w.alloc (.cells cs' e))) none cs' (elems (zs.map K.d) ((qs.map (·.1)).zip ds) n).flatten := by
      refine ⟨f2.1, fun j hj => ?_⟩
      obtain ⟨c, c1, c2, c3⟩ := f2.2 j hj
      exact ⟨c, c1, c2, c3.grow hb⟩
    have := lst_new hH hb (heap_alloc_new w _) (es := elems (zs.map K.d) ((qs.map (·.1)).zip ds) n) (by unfold elems; exact f3) f2' (by rw [hlen]; exact hmax)
    rw [hlen] at this
    exact this.open_
  · simp at he2
theorem q_mx {x' y' : Opd} {mn : Bool} {ts : Array Nat} {ex : Array Operand} (h : (match ex.toList with | [a, b] => oeq a x' && oeq b y' | _ => false) = true)
    (hF : FRel S0 B m hp nx w fr a) (hH : HRel S0 B m hp nx w C.G) (he : evQ C fr hp (.mx mn x' y') = some d) :
    QV P S0 B m hp nx w a ⟨dst, .call { callee := .builtin (if mn then .min else .max), args := ex, argTypes := ts }, ty, pos, after, guard⟩ d := by
  split at h
  · rename_i z1 z2 hz
    have hex : ex = #[z1, z2] := by rw [← Array.toList_inj]; exact hz
    subst hex
    simp only [Bool.and_eq_true] at h
    have hx := O_rd hF hH h.1
    have hy := O_rd hF hH h.2
    simp only [evQ] at he
    split at he
    · rename_i k1 n1 k2 n2 hv1 hv2
      rw [hv1] at hx; rw [hv2] at hy
      have e1 := (Rd_v.1 hx).1
      have e2 := (Rd_v.1 hy).1
      split at he
      · rename_i hk
        subst hk
        simp only [Option.some.injEq] at he
        subst he
        refine ⟨_, ?_, Rd_v.2 ⟨rfl, rfl⟩⟩
        cases mn
        · simp [execOp, resolve, invoke, builtin, Builtin.max_, Builtin.max2, e1, e2]
          omega
        · simp [execOp, resolve, invoke, builtin, Builtin.min_, Builtin.min2, e1, e2]
          omega
      · simp at he
    · simp at he
  · simp at h
end
end Go.Proofs.Dv
set_option linter.unusedVariables false
set_option linter.unusedSimpArgs false
namespace Go.Proofs.Dv
open Go.RowKit
def oth : Obj → Bool
  | .cells .. => false
  | .map .. => false
  | _ => true
structure Up (S0 : Nat → Nat → Prop) (B : Nat) (m : Mp) (hp : List (Nat × Blk)) (nx : Nat) (w : World) (m' : Mp) (hp' : List (Nat × Blk)) (nx' : Nat) (w' : World) : Prop where
  cell : ∀ b o u, stab S0 B m hp w b o → w.cell? ⟨b, o, none⟩ = some u → w'.cell? ⟨b, o, none⟩ = some u
  st : ∀ b o, stab S0 B m hp w b o → stab S0 B m' hp' w' b o
  own : ∀ id n u, (env m hp nx).own id n u → (env m' hp' nx').own id n u
  ptr : ∀ id n u, (env m hp nx).ptr id n u → (env m' hp' nx').ptr id n u
  mp : ∀ id u, (env m hp nx).mp id u → (env m' hp' nx').mp id u
  oth : ∀ (k : Nat) (o : Obj), w.heap[k]? = some o → Dv.oth o = true → w'.heap[k]? = some o
section
variable {S0 : Nat → Nat → Prop} {B : Nat} {m m' m2 : Mp} {hp hp' hp2 : List (Nat × Blk)} {nx nx' nx2 : Nat} {w w' w2 : World} {G : Nat → Option (List D)} {fr : List (Nat × D)} {a : Act}
theorem Up.rd (h : Up S0 B m hp nx w m' hp' nx' w') {d : D} {v : Value} (hr : RdS S0 B m hp nx w d v) : RdS S0 B m' hp' nx' w' d v :=
  Rd.mono h.cell h.st d _ _ v (fun E hE => by cases hE; exact ⟨_, rfl, h.own, h.ptr, h.mp⟩) hr
theorem Up.rd0 (h : Up S0 B m hp nx w m' hp' nx' w') {d : D} {v : Value} (hr : Rd0 S0 B m hp w d v) : Rd0 S0 B m' hp' w' d v :=
  Rd.mono h.cell h.st d _ _ v (fun E hE => by cases hE) hr
theorem Up.frel (h : Up S0 B m hp nx w m' hp' nx' w') (hF : FRel S0 B m hp nx w fr a) : FRel S0 B m' hp' nx' w' fr a := fun t => h.rd (hF t)
theorem Up.refl : Up S0 B m hp nx w m hp nx w := ⟨fun _ _ _ _ h => h, fun _ _ h => h, fun _ _ _ h => h, fun _ _ _ h => h, fun _ _ h => h, fun _ _ h _ => h⟩
theorem Up.trans (h : Up S0 B m hp nx w m' hp' nx' w') (k : Up S0 B m' hp' nx' w' m2 hp2 nx2 w2) : Up S0 B m hp nx w m2 hp2 nx2 w2 :=
  ⟨fun b o u hs hc => k.cell b o u (h.st b o hs) (h.cell b o u hs hc), fun b o hs => k.st b o (h.st b o hs), fun id n u hs => k.own _ _ _ (h.own _ _ _ hs), fun id n u hs => k.ptr _ _ _ (h.ptr _ _ _ hs), fun id u hs => k.mp _ _ (h.mp _ _ hs), fun j o hj ho => k.oth _ _ (h.oth _ _ hj ho) ho⟩
theorem Up.grow (hb : Below w.heap.size w w') : Up S0 B m hp nx w m hp nx w' :=
  ⟨fun _ _ _ _ hc => cell_grow hb hc, stab_grow hb, fun _ _ _ h => h, fun _ _ _ h => h, fun _ _ h => h, fun k o hk _ => (hb.block k (Array.getElem?_eq_some_iff.1 hk).1).trans hk⟩
def mine (m : Mp) (hp : List (Nat × Blk)) (id k : Nat) : Prop := ∃ b, lkh hp id = some b ∧ blkOf m id b = some k
theorem blk_lt {id : Nat} {b : Blk} {k : Nat} (h : BlkOK S0 B m hp nx w id b) (hk : blkOf m id b = some k) : B ≤ k ∧ k < w.heap.size := by
  cases b with
  | box cells =>
    simp only [blkOf, Option.some.injEq] at hk
    subst hk
    obtain ⟨arr, T, h1, h2, _⟩ := h
    exact ⟨h2, (Array.getElem?_eq_some_iff.1 h1).1⟩
  | row z els =>
    obtain ⟨h0, h1, h2⟩ := h
    simp only [blkOf] at hk
    rcases h2 with ⟨_, A, e⟩ | ⟨g, cap, cur, e', k1, k2, k3, _⟩
    · rw [e] at hk; cases A <;> simp [rblk] at hk
    · rw [k1] at hk
      simp only [rblk, Option.some.injEq] at hk
      subst hk
      exact ⟨k2, (Array.getElem?_eq_some_iff.1 k3).1⟩
  | map es =>
    simp only [blkOf, Option.some.injEq] at hk
    subst hk
    obtain ⟨ents, h1, h2, _⟩ := h
    exact ⟨h2, (Array.getElem?_eq_some_iff.1 h1).1⟩
theorem blk_kind {id : Nat} {b : Blk} {k : Nat} (h : BlkOK S0 B m hp nx w id b) (hk : blkOf m id b = some k) : ∃ o : Obj, w.heap[k]? = some o ∧ oth o = false := by
  cases b with
  | box cells =>
    simp only [blkOf, Option.some.injEq] at hk
    subst hk
    obtain ⟨arr, T, h1, _⟩ := h
    exact ⟨_, h1, rfl⟩
  | row z els =>
    obtain ⟨h0, h1, h2⟩ := h
    simp only [blkOf] at hk
    rcases h2 with ⟨_, A, e⟩ | ⟨g, cap, cur, e', k1, k2, k3, _⟩
    · rw [e] at hk; cases A <;> simp [rblk] at hk
    · rw [k1] at hk
      simp only [rblk, Option.some.injEq] at hk
      subst hk
      exact ⟨_, k3, rfl⟩
  | map es =>
    simp only [blkOf, Option.some.injEq] at hk
    subst hk
    obtain ⟨ents, h1, _⟩ := h
    exact ⟨_, h1, rfl⟩
structure Chg (m : Mp) (hp : List (Nat × Blk)) (nx : Nat) (w : World) (id : Nat) (blk : Blk) (m' : Mp) (hp' : List (Nat × Blk)) (nx' : Nat) (w' : World) (S0 : Nat → Nat → Prop) (B : Nat) : Prop where
  idl : id < nx'
  nxl : nx ≤ nx'
  lk : ∀ i, lkh hp' i = if i = id then some blk else lkh hp i
  rho : ∀ i, i < nx → (m'.ρ i = m.ρ i)
  sv : ∀ i, i ≠ id → m'.sv i = m.sv i
  size : w.heap.size ≤ w'.heap.size
  heap : ∀ k, k < w.heap.size → mine m hp id k ∨ w'.heap[k]? = w.heap[k]?
  cell : ∀ k o u, mine m hp id k → stab S0 B m hp w k o → w.cell? ⟨k, o, none⟩ = some u → w'.cell? ⟨k, o, none⟩ = some u
  new : ∀ k, blkOf m' id blk = some k → mine m hp id k ∨ w.heap.size ≤ k
  kind : ∀ k o, (∀ es, blk ≠ .map es) → blkOf m' id blk = some k → mine m hp id k → stab S0 B m hp w k o → (∃ z els, blk = .row z els ∧ o < els.length * z)
  own : ∀ n u, (env m hp nx).own id n u → (env m' hp' nx').own id n u
theorem Chg.below {id : Nat} {blk : Blk} (h : Chg m hp nx w id blk m' hp' nx' w' S0 B) (hH : HRel S0 B m hp nx w G) : ∀ k, k < B → w'.heap[k]? = w.heap[k]? := by
  intro k hk
  rcases h.heap k (Nat.lt_of_lt_of_le hk hH.hB) with ⟨b, h1, h2⟩ | h1
  · have := (blk_lt (hH.bl _ _ h1).2 h2).1
    omega
  · exact h1
theorem Chg.up {id : Nat} {blk : Blk} (h : Chg m hp nx w id blk m' hp' nx' w' S0 B) (hH : HRel S0 B m hp nx w G) : Up S0 B m hp nx w m' hp' nx' w' := by
  refine ⟨fun b o u hs hc => ?_, fun b o hs => ?_, fun i n u ho => ?_, fun i n u ho => ?_, fun i u ho => ?_, fun k o hk ho => ?_⟩
  · rcases h.heap b (cell_lt hc) with h1 | h1
    · exact h.cell b o u h1 hs hc
    · exact (World.cell?_of_block (a := ⟨b, o, none⟩) h1).trans hc
  · rcases hs with hs | ⟨h1, h2, h3, h4⟩
    · exact .inl hs
    · have hsb : stab S0 B m hp w b o := .inr ⟨h1, h2, h3, h4⟩
      refine .inr ⟨h1, Nat.lt_of_lt_of_le h2 h.size, fun i cs hl e => ?_, fun i z els hl e => ?_⟩
      · rw [h.lk] at hl
        split at hl
        · rename_i hi
          simp only [Option.some.injEq] at hl
          subst hi hl
          have hb : blkOf m' i (.box cs) = some b := by simp [blkOf, e]
          rcases h.new b hb with h5 | h5
          · obtain ⟨z, els, h6, _⟩ := h.kind b o (by simp) hb h5 hsb
            simp at h6
          · omega
        · rw [h.rho _ (hH.bl _ _ hl).1] at e
          exact h3 i cs hl e
      · rw [h.lk] at hl
        split at hl
        · rename_i hi
          simp only [Option.some.injEq] at hl
          subst hi hl
          have hb : blkOf m' i (.row z els) = some b := e
          rcases h.new b hb with h5 | h5
          · obtain ⟨z', els', h6, h7⟩ := h.kind b o (by simp) hb h5 hsb
            simp only [Blk.row.injEq] at h6
            obtain ⟨rfl, rfl⟩ := h6
            exact h7
          · omega
        · rename_i hi
          rw [h.sv i hi] at e
          exact h4 i z els hl e
  · by_cases hi : i = id
    · subst hi; exact h.own n u ho
    · obtain ⟨h1, h2, h3, h4⟩ := ho
      refine ⟨Nat.lt_of_lt_of_le h1 h.nxl, h2, fun z els hl => ?_, fun cells hl => ?_⟩
      · rw [h.lk, if_neg hi] at hl
        rw [h.sv i hi]
        exact h3 z els hl
      · rw [h.lk, if_neg hi] at hl
        rw [h.rho i h1]
        exact h4 cells hl
  · obtain ⟨h1, h2⟩ := ho
    exact ⟨Nat.lt_of_lt_of_le h1 h.nxl, by rw [h.rho i h1]; exact h2⟩
  · obtain ⟨h1, h2⟩ := ho
    exact ⟨Nat.lt_of_lt_of_le h1 h.nxl, by rw [h.rho i h1]; exact h2⟩
  · rcases h.heap k (Array.getElem?_eq_some_iff.1 hk).1 with ⟨b, h1, h2⟩ | h1
    · obtain ⟨o', h3, h4⟩ := blk_kind (hH.bl _ _ h1).2 h2
      rw [hk] at h3
      simp only [Option.some.injEq] at h3
      rw [h3, h4] at ho
      simp at ho
    · exact h1.trans hk
theorem Chg.hrel {id : Nat} {blk : Blk} (h : Chg m hp nx w id blk m' hp' nx' w' S0 B) (hH : HRel S0 B m hp nx w G) (hok : BlkOK S0 B m' hp' nx' w' id blk) : HRel S0 B m' hp' nx' w' G := by
  have hup := h.up hH
  have same : ∀ i b, i ≠ id → lkh hp i = some b → blkOf m' i b = blkOf m i b := by
    intro i b hi hl
    cases b with
    | box cs => simp [blkOf, h.rho i (hH.bl _ _ hl).1]
    | row z els => simp [blkOf, h.sv i hi]
    | map es => simp [blkOf, h.rho i (hH.bl _ _ hl).1]
  have keep : ∀ i b k, i ≠ id → lkh hp i = some b → blkOf m i b = some k → w'.heap[k]? = w.heap[k]? := by
    intro i b k hi hl hk
    rcases h.heap k (blk_lt (hH.bl _ _ hl).2 hk).2 with ⟨b', h1, h2⟩ | h1
    · exact absurd (hH.dj i id b b' k hl h1 hk h2) hi
    · exact h1
  refine ⟨Nat.le_trans hH.hB h.size, fun i b hl => ?_, fun i j bi bj k hi hj hki hkj => ?_, fun g cs hg => hup.rd0 (hH.gl g cs hg)⟩
  · rw [h.lk] at hl
    split at hl
    · rename_i hi
      simp only [Option.some.injEq] at hl
      subst hi hl
      exact ⟨h.idl, hok⟩
    · rename_i hi
      obtain ⟨h1, h2⟩ := hH.bl _ _ hl
      refine ⟨Nat.lt_of_lt_of_le h1 h.nxl, ?_⟩
      cases b with
      | box cells =>
        obtain ⟨arr, T, g1, g2, g3, g4⟩ := h2
        have hk := keep i _ _ hi hl (by rfl : blkOf m i (.box cells) = some (m.ρ i))
        refine ⟨arr, T, ?_, ?_, g3, fun j hj => ?_⟩
        · rw [h.rho i h1, hk]; exact g1
        · rw [h.rho i h1]; exact g2
        · obtain ⟨c, c1, c2, c3⟩ := g4 j hj
          exact ⟨c, c1, c2, hup.rd c3⟩
      | row z els =>
        obtain ⟨g1, g2, g3⟩ := h2
        refine ⟨g1, g2, ?_⟩
        rcases g3 with g3 | ⟨g, cap, cur, e, k1, k2, k3, k4, k5, k6, k7⟩
        · left; rw [h.sv i hi]; exact g3
        · right
          have hk := keep i _ g hi hl (by simp [blkOf, k1, rblk])
          refine ⟨g, cap, cur, e, by rw [h.sv i hi]; exact k1, k2, by rw [hk]; exact k3, k4, k5, k6, fun k hk => ?_⟩
          obtain ⟨c, c1, c2, c3⟩ := k7 k hk
          exact ⟨c, c1, c2, hup.rd0 c3⟩
      | map es =>
        obtain ⟨ents, g1, g2, g3⟩ := h2
        have hk := keep i _ _ hi hl (by rfl : blkOf m i (.map es) = some (m.ρ i))
        exact ⟨ents, by rw [h.rho i h1, hk]; exact g1, by rw [h.rho i h1]; exact g2, g3⟩
  · rw [h.lk] at hi hj
    by_cases h1 : i = id
    · by_cases h2 : j = id
      · omega
      · rw [if_pos h1] at hi
        rw [if_neg h2] at hj
        simp only [Option.some.injEq] at hi
        subst h1 hi
        rw [same j bj h2 hj] at hkj
        rcases h.new k hki with ⟨b', h5, h6⟩ | h5
        · exact hH.dj i j b' bj k h5 hj h6 hkj
        · have := (blk_lt (hH.bl _ _ hj).2 hkj).2
          omega
    · rw [if_neg h1] at hi
      rw [same i bi h1 hi] at hki
      by_cases h2 : j = id
      · rw [if_pos h2] at hj
        simp only [Option.some.injEq] at hj
        subst h2 hj
        rcases h.new k hkj with ⟨b', h5, h6⟩ | h5
        · exact hH.dj i j bi b' k hi h5 hki h6
        · have := (blk_lt (hH.bl _ _ hi).2 hki).2
          omega
      · rw [if_neg h2] at hj
        rw [same j bj h2 hj] at hkj
        exact hH.dj i j bi bj k hi hj hki hkj
theorem lkh_nx (hH : HRel S0 B m hp nx w G) : lkh hp nx = none := by
  cases h : lkh hp nx with
  | none => rfl
  | some b => have := (hH.bl _ _ h).1; omega
def upd {α : Type} (f : Nat → α) (i : Nat) (x : α) : Nat → α := fun j => if j = i then x else f j
def CRp (w : World) (S : Nat → Nat → Prop) (X : Option Env) (cs : Array Value) (ds : List D) : Prop :=
  ds.length ≤ cs.size ∧ ∀ j (h : j < ds.length), ∃ c, cs[j]? = some c ∧ c.oneCell' = true ∧ Rd w S X ds[j] c
theorem CR.p {S : Nat → Nat → Prop} {X : Option Env} {cs : Array Value} {ds : List D} (h : CR w S X cs ds) : CRp w S X cs ds := ⟨by rw [h.1]; exact Nat.le_refl _, h.2⟩
theorem new_box {cells : List D} {arr : Array Value} {T : Nat} (hH : HRel S0 B m hp nx w G) (hb : Below w.heap.size w w') (hg : w'.heap[w.heap.size]? = some (.cells arr T (0, 0)))
    (hc : CRp w (stab S0 B m hp w) (some (env m hp nx)) arr cells) :
    HRel S0 B ⟨upd m.ρ nx w.heap.size, m.sv⟩ ((nx, .box cells) :: hp) (nx + 1) w' G ∧ Up S0 B m hp nx w ⟨upd m.ρ nx w.heap.size, m.sv⟩ ((nx, .box cells) :: hp) (nx + 1) w' ∧
      RdS S0 B ⟨upd m.ρ nx w.heap.size, m.sv⟩ ((nx, .box cells) :: hp) (nx + 1) w' (.ptr nx 0) (.pointer (some ⟨w.heap.size, 0, none⟩)) := by
  have hn := lkh_nx hH
  have hnm : ∀ k, ¬ mine m hp nx k := by rintro k ⟨b, h, _⟩; rw [hn] at h; simp at h
  have hc' : Chg m hp nx w nx (.box cells) ⟨upd m.ρ nx w.heap.size, m.sv⟩ ((nx, .box cells) :: hp) (nx + 1) w' S0 B := by
    refine ⟨by omega, by omega, fun i => by simp [lkh], fun i hi => by simp [upd]; omega, fun i _ => rfl, hb.size, fun k hk => .inr (hb.block k hk), fun k o u h => (hnm k h).elim, fun k hk => ?_, fun k o _ hk h => (hnm k h).elim, fun n u h => ?_⟩
    · simp only [blkOf, upd, if_true, Option.some.injEq] at hk
      exact .inr (by omega)
    · have := h.1; omega
  have hup := hc'.up hH
  refine ⟨hc'.hrel hH ⟨arr, T, by simpa [upd] using hg, by simpa [upd] using hH.hB, hc.1, fun j hj => ?_⟩, hup, Rd_ptr.2 ⟨by omega, by simp [upd]⟩⟩
  obtain ⟨c, c1, c2, c3⟩ := hc.2 j hj
  exact ⟨c, c1, c2, hup.rd c3⟩
theorem new_row {sz : Nat} {els : List (List D)} {v : Value} (hH : HRel S0 B m hp nx w G) (hb : Below w.heap.size w w') (hsz : 0 < sz) (hall : ∀ l ∈ els, l.length = sz)
    (hv : (els = [] ∧ ∃ A, v = .slice A 0 0) ∨
      ∃ cap cur e, v = .slice (some ⟨w.heap.size, 0, none⟩) els.length (cap + 1) ∧ w'.heap[w.heap.size]? = some (.cells cur e (0, 0)) ∧ els.length ≤ cap + 1 ∧ cap + 1 ≤ maxLen ∧ cur.size = (cap + 1) * sz ∧
        ∀ k (h : k < els.flatten.length), ∃ c, cur[k]? = some c ∧ c.oneCell' = true ∧ Rd0 S0 B m hp w els.flatten[k] c) :
    HRel S0 B ⟨m.ρ, upd m.sv nx v⟩ ((nx, .row sz els) :: hp) (nx + 1) w' G ∧ Up S0 B m hp nx w ⟨m.ρ, upd m.sv nx v⟩ ((nx, .row sz els) :: hp) (nx + 1) w' ∧
      RdS S0 B ⟨m.ρ, upd m.sv nx v⟩ ((nx, .row sz els) :: hp) (nx + 1) w' (.own nx els.length) v := by
  have hn := lkh_nx hH
  have hnm : ∀ k, ¬ mine m hp nx k := by rintro k ⟨b, h, _⟩; rw [hn] at h; simp at h
  have hc' : Chg m hp nx w nx (.row sz els) ⟨m.ρ, upd m.sv nx v⟩ ((nx, .row sz els) :: hp) (nx + 1) w' S0 B := by
    refine ⟨by omega, by omega, fun i => by simp [lkh], fun i hi => rfl, fun i hi => by simp [upd, hi], hb.size, fun k hk => .inr (hb.block k hk), fun k o u h => (hnm k h).elim, fun k hk => ?_, fun k o _ hk h => (hnm k h).elim, fun n u h => ?_⟩
    · simp only [blkOf, upd, if_true] at hk
      rcases hv with ⟨_, A, rfl⟩ | ⟨cap, cur, e, rfl, _⟩
      · cases A <;> simp [rblk] at hk
      · simp only [rblk, Option.some.injEq] at hk
        exact .inr (by omega)
    · have := h.1; omega
  have hup := hc'.up hH
  refine ⟨hc'.hrel hH ⟨hsz, hall, ?_⟩, hup, Rd_own.2 ⟨by omega, ?_, fun z els' hl => ?_, fun cells hl => by simp [lkh] at hl⟩⟩
  · rcases hv with ⟨h1, A, rfl⟩ | ⟨cap, cur, e, rfl, k1, k2, k3, k4, k5⟩
    · exact .inl ⟨h1, A, by simp [upd]⟩
    · refine .inr ⟨_, cap, cur, e, by simp only [upd, if_true], hH.hB, k1, k2, k3, k4, fun k hk => ?_⟩
      obtain ⟨c, c1, c2, c3⟩ := k5 k hk
      exact ⟨c, c1, c2, hup.rd0 c3⟩
  · rcases hv with ⟨_, A, rfl⟩ | ⟨cap, cur, e, rfl, _⟩
    · exact ⟨_, _, _, rfl⟩
    · exact ⟨_, _, _, rfl⟩
  · simp only [lkh, if_true, Option.some.injEq, Blk.row.injEq] at hl
    obtain ⟨rfl, rfl⟩ := hl
    exact ⟨Nat.le_refl _, fun _ => by simp [upd]⟩
theorem lkh_uph {id : Nat} {b b' : Blk} : ∀ (hp : List (Nat × Blk)), lkh hp id = some b → ∀ i, lkh (uph hp id b') i = if i = id then some b' else lkh hp i
  | [], h, i => by simp [lkh] at h
  | (j, c) :: hp, h, i => by
    simp only [lkh, uph] at h ⊢
    by_cases hj : id = j
    · subst hj
      simp only [if_true, lkh]
      by_cases hi : i = id <;> simp [hi]
    · simp only [if_neg hj] at h ⊢
      simp only [lkh]
      by_cases hi : i = j
      · have : i ≠ id := fun e => hj (e.symm.trans hi)
        simp [hi, this]
        intro e; exact absurd e.symm hj
      · simp only [if_neg hi]
        exact lkh_uph hp h i
theorem set_box {id : Nat} {cells cells' : List D} {arr : Array Value} {T : Nat} (hH : HRel S0 B m hp nx w G) (hl : lkh hp id = some (.box cells))
    (hs : w'.heap.size = w.heap.size) (ho : ∀ k, k ≠ m.ρ id → w'.heap[k]? = w.heap[k]?) (hg : w'.heap[m.ρ id]? = some (.cells arr T (0, 0)))
    (hc : CRp w (stab S0 B m hp w) (some (env m hp nx)) arr cells') :
    HRel S0 B m (uph hp id (.box cells')) nx w' G ∧ Up S0 B m hp nx w m (uph hp id (.box cells')) nx w' := by
  have hid := (hH.bl _ _ hl).1
  have hm : ∀ k, mine m hp id k → k = m.ρ id := by
    rintro k ⟨b, h1, h2⟩
    rw [hl] at h1; simp only [Option.some.injEq] at h1; subst h1
    simp only [blkOf, Option.some.injEq] at h2; exact h2.symm
  have hns : ∀ o, ¬ stab S0 B m hp w (m.ρ id) o := by
    rintro o (⟨h1, _⟩ | ⟨_, _, h3, _⟩)
    · have := (blk_lt (hH.bl _ _ hl).2 (k := m.ρ id) rfl).1; omega
    · exact h3 id cells hl rfl
  have hc' : Chg m hp nx w id (.box cells') m (uph hp id (.box cells')) nx w' S0 B := by
    refine ⟨hid, Nat.le_refl _, lkh_uph hp hl, fun _ _ => rfl, fun _ _ => rfl, by omega, fun k hk => ?_, fun k o u h h2 => ?_, fun k hk => ?_, fun k o _ hk h h2 => ?_, fun n u h => ?_⟩
    · by_cases hk' : k = m.ρ id
      · exact .inl ⟨_, hl, by simp [blkOf, hk']⟩
      · exact .inr (ho k hk')
    · have := hm k h; subst this; exact (hns o h2).elim
    · exact .inl ⟨_, hl, by simpa [blkOf] using hk⟩
    · have := hm k h; subst this; exact (hns o h2).elim
    · refine ⟨h.1, h.2.1, fun z els hl' => ?_, fun cells2 _ => h.2.2.2 _ hl⟩
      rw [lkh_uph hp hl, if_pos rfl] at hl'
      simp at hl'
  have hup := hc'.up hH
  refine ⟨hc'.hrel hH ⟨arr, T, hg, (blk_lt (hH.bl _ _ hl).2 (k := m.ρ id) rfl).1, hc.1, fun j hj => ?_⟩, hup⟩
  obtain ⟨c, c1, c2, c3⟩ := hc.2 j hj
  exact ⟨c, c1, c2, hup.rd c3⟩
theorem set_row {id z : Nat} {els news : List (List D)} {v : Value} (hH : HRel S0 B m hp nx w G) (hl : lkh hp id = some (.row z els)) (hnw : news ≠ []) (hall : ∀ l ∈ news, l.length = z)
    (hs : w.heap.size ≤ w'.heap.size) (ho : ∀ k, k < w.heap.size → rblk v ≠ some k → w'.heap[k]? = w.heap[k]?)
    (hv : ∃ g cap cur e, v = .slice (some ⟨g, 0, none⟩) (els ++ news).length (cap + 1) ∧ (rblk (m.sv id) = some g ∨ g = w.heap.size) ∧ w'.heap[g]? = some (.cells cur e (0, 0)) ∧ (els ++ news).length ≤ cap + 1 ∧ cap + 1 ≤ maxLen ∧ cur.size = (cap + 1) * z ∧
        ∀ k (h : k < (els ++ news).flatten.length), ∃ c, cur[k]? = some c ∧ c.oneCell' = true ∧ Rd0 S0 B m hp w (els ++ news).flatten[k] c)
    (hkeep : ∀ g o u, rblk (m.sv id) = some g → o < els.length * z → w.cell? ⟨g, o, none⟩ = some u → w'.cell? ⟨g, o, none⟩ = some u) :
    HRel S0 B ⟨m.ρ, upd m.sv id v⟩ (uph hp id (.row z (els ++ news))) nx w' G ∧ Up S0 B m hp nx w ⟨m.ρ, upd m.sv id v⟩ (uph hp id (.row z (els ++ news))) nx w' ∧
      RdS S0 B ⟨m.ρ, upd m.sv id v⟩ (uph hp id (.row z (els ++ news))) nx w' (.own id (els.length + news.length)) v := by
  obtain ⟨g, cap, cur, e, rfl, q1, q2, q3, q4, q5, q6⟩ := hv
  have hid := (hH.bl _ _ hl).1
  obtain ⟨b0, b1, b2⟩ := (hH.bl _ _ hl).2
  have hnl : 0 < news.length := List.length_pos_iff.2 hnw
  have hm : ∀ k, mine m hp id k ↔ rblk (m.sv id) = some k := by
    intro k
    constructor
    · rintro ⟨b, h1, h2⟩
      rw [hl] at h1; simp only [Option.some.injEq] at h1; subst h1
      exact h2
    · intro h; exact ⟨_, hl, h⟩
  have hstab : ∀ k o, rblk (m.sv id) = some k → stab S0 B m hp w k o → o < els.length * z := by
    rintro k o hk (⟨h1, _⟩ | ⟨_, _, _, h4⟩)
    · have := (blk_lt (hH.bl _ _ hl).2 (k := k) hk).1; omega
    · exact h4 id z els hl hk
  have hc' : Chg m hp nx w id (.row z (els ++ news)) ⟨m.ρ, upd m.sv id (.slice (some ⟨g, 0, none⟩) (els ++ news).length (cap + 1))⟩ (uph hp id (.row z (els ++ news))) nx w' S0 B := by
    refine ⟨hid, Nat.le_refl _, lkh_uph hp hl, fun _ _ => rfl, fun i hi => by simp [upd, hi], hs, fun k hk => ?_, fun k o u h h2 h3 => ?_, fun k hk => ?_, fun k o _ hk h h2 => ?_, fun n u h => ?_⟩
    · rw [hm]
      by_cases hk' : rblk (m.sv id) = some k
      · exact .inl hk'
      · refine .inr (ho k hk fun h => ?_)
        simp only [rblk, Option.some.injEq] at h
        subst h
        rcases q1 with q1 | q1
        · exact hk' q1
        · omega
    · exact hkeep k o u ((hm k).1 h) (hstab k o ((hm k).1 h) h2) h3
    · simp only [blkOf, upd, if_true, rblk, Option.some.injEq] at hk
      subst hk
      rw [hm]
      exact q1.imp (fun x => x) (fun h => by omega)
    · refine ⟨_, _, rfl, ?_⟩
      have := hstab k o ((hm k).1 h) h2
      have h5 : els.length * z ≤ (els ++ news).length * z := Nat.mul_le_mul_right z (by simp)
      omega
    · refine ⟨h.1, h.2.1, fun z' els' hl' => ?_, fun cells2 hl' => by
        rw [lkh_uph hp hl, if_pos rfl] at hl'
        simp at hl'⟩
      rw [lkh_uph hp hl, if_pos rfl] at hl'
      simp only [Option.some.injEq, Blk.row.injEq] at hl'
      obtain ⟨rfl, rfl⟩ := hl'
      have := (h.2.2.1 _ _ hl).1
      simp only [List.length_append]
      exact ⟨by omega, fun h => by omega⟩
  have hup := hc'.up hH
  have hallx : ∀ l ∈ els ++ news, l.length = z := fun l hl => by
    rcases List.mem_append.1 hl with h | h
    · exact b1 l h
    · exact hall l h
  refine ⟨hc'.hrel hH ⟨b0, hallx, .inr ⟨g, cap, cur, e, by simp only [upd, if_true], ?_, q2, q3, q4, q5, fun k hk => ?_⟩⟩, hup, Rd_own.2 ⟨hid, ⟨_, _, _, rfl⟩, fun z' els' hl' => ?_, fun cells2 hl' => by
      rw [lkh_uph hp hl, if_pos rfl] at hl'
      simp at hl'⟩⟩
  · rcases q1 with q1 | q1
    · exact (blk_lt (hH.bl _ _ hl).2 (k := g) q1).1
    · rw [q1]; exact hH.hB
  · obtain ⟨c, c1, c2, c3⟩ := q6 k hk
    exact ⟨c, c1, c2, hup.rd0 c3⟩
  · rw [lkh_uph hp hl, if_pos rfl] at hl'
    simp only [Option.some.injEq, Blk.row.injEq] at hl'
    obtain ⟨rfl, rfl⟩ := hl'
    exact ⟨by simp, fun _ => by simp [upd]⟩
end
end Go.Proofs.Dv
set_option linter.unusedVariables false
set_option linter.unusedSimpArgs false
namespace Go.Proofs.Dv
open Go.RowKit
section
variable {P : Program} {C : Ctx} {S0 : Nat → Nat → Prop} {B : Nat} {m : Mp} {hp hp' : List (Nat × Blk)} {nx nx' : Nat} {w : World} {fr : List (Nat × D)} {a : Act} {d : D}
variable {dst : Option Nat} {ty : Nat} {pos : String} {after : Array Edge} {guard : Option (Nat × Bool)}
def EV (P : Program) (S0 : Nat → Nat → Prop) (B : Nat) (G : Nat → Option (List D)) (m : Mp) (hp : List (Nat × Blk)) (nx : Nat) (w : World) (a : Act) (o : Oper) (d : D) (hp' : List (Nat × Blk)) (nx' : Nat) : Prop :=
  ∀ (K : Act → World → Prop) (Q : Exit → Act → World → Prop), (∀ v m' w', HRel S0 B m' hp' nx' w' G → Up S0 B m hp nx w m' hp' nx' w' → Below B w w' → RdS S0 B m' hp' nx' w' d v → K (a.put o.dst v) w') → o.wp P a w K Q
theorem QW.ev {o : Oper} {G : Nat → Option (List D)} (hH : HRel S0 B m hp nx w G) (h : QW P S0 B m hp nx w a o d) : EV P S0 B G m hp nx w a o d hp nx :=
  fun K Q hK => h K Q fun v w' hb hr => hK v m w' (hH.grow hb) (Up.grow hb) (hb.mono hH.hB) hr
theorem e_alc {t : Nat} {zs : List K} (h : zeroIs P t zs = true) (hH : HRel S0 B m hp nx w C.G) (he : evE C fr hp nx (.alc zs) = some (d, hp', nx')) :
    EV P S0 B C.G m hp nx w a ⟨dst, .alloc t, ty, pos, after, guard⟩ d hp' nx' := by
  simp only [evE, Option.some.injEq, Prod.mk.injEq] at he
  obtain ⟨rfl, rfl, rfl⟩ := he
  obtain ⟨it, z, hi, hz, hs, hk⟩ := zero_some h
  intro KK Q hK
  have hb := below_alloc w (.cells z.cells t)
  obtain ⟨h1, h2, h3⟩ := new_box (cells := zs.map K.d) hH hb (heap_alloc_new w _) (zero_cr hs hk).p
  refine wp_val (v := .pointer (some ⟨w.heap.size, 0, none⟩)) (w' := w.alloc (.cells z.cells t)) ?_ (hK _ _ _ h1 h2 (hb.mono hH.hB) h3)
  simp [execOp, Instr.alloc, zeroValue, typeInfo, hi, hz, newVar, newRow]
theorem e_box {t : Nat} {x : Operand} {y : Opd} (h : oeq x y = true) (hF : FRel S0 B m hp nx w fr a) (hH : HRel S0 B m hp nx w C.G) (he : evE C fr hp nx (.box y) = some (d, hp', nx')) :
    EV P S0 B C.G m hp nx w a ⟨dst, .box t x, ty, pos, after, guard⟩ d hp' nx' := by
  simp only [evE] at he
  split at he
  · rename_i hok
    simp only [Option.some.injEq, Prod.mk.injEq] at he
    obtain ⟨rfl, rfl, rfl⟩ := he
    intro KK Q hK
    have hb := below_alloc w (.cells (a.eval x).cells t)
    obtain ⟨h1, h2, h3⟩ := new_box hH hb (heap_alloc_new w _) (cells_of envOK (O_rd hF hH h) hok).p
    refine wp_val (v := .pointer (some ⟨w.heap.size, 0, none⟩)) (w' := w.alloc (.cells (a.eval x).cells t)) ?_ (hK _ _ _ h1 h2 (hb.mono hH.hB) h3)
    simp [execOp, Instr.box, newVar, newRow]
  · simp at he
theorem CR.appendp {S : Nat → Nat → Prop} {X : Option Env} {as bs : Array Value} {xs ys : List D} (h : CR w S X as xs) (k : CRp w S X bs ys) : CRp w S X (as ++ bs) (xs ++ ys) := by
  refine ⟨by simp [h.1, k.1], fun j hj => ?_⟩
  by_cases hlt : j < xs.length
  · obtain ⟨c, h1, h2, h3⟩ := h.2 j hlt
    exact ⟨c, by rw [Array.getElem?_append_left (by rw [h.1]; exact hlt)]; exact h1, h2, by rw [List.getElem_append_left hlt]; exact h3⟩
  · simp only [List.length_append] at hj
    obtain ⟨c, h1, h2, h3⟩ := k.2 (j - xs.length) (by omega)
    exact ⟨c, by rw [Array.getElem?_append_right (by rw [h.1]; omega), h.1]; exact h1, h2, by rw [List.getElem_append_right (by omega)]; exact h3⟩
theorem cr_array {S : Nat → Nat → Prop} {X : Option Env} {arr : Array Value} {cells ps : List D} {vs : List Value} {off : Nat} (h : CRp w S X arr cells) (hv : CR w S X vs.toArray ps) (hle : off + ps.length ≤ cells.length) :
    CRp w S X (arr.toList.take off ++ vs ++ arr.toList.drop (off + vs.length)).toArray (cells.take off ++ ps ++ cells.drop (off + ps.length)) := by
  have hvl : vs.length = ps.length := by simpa using hv.1
  have hal : cells.length ≤ arr.size := h.1
  have h1 : CR w S X (arr.toList.take off).toArray (cells.take off) := by
    refine ⟨by simp; omega, fun j hj => ?_⟩
    simp only [List.length_take] at hj
    obtain ⟨c, c1, c2, c3⟩ := h.2 j (by omega)
    refine ⟨c, ?_, c2, by simpa using c3⟩
    simp only [List.getElem?_toArray, List.getElem?_take, if_pos (by omega : j < off)]
    simpa using c1
  have h2 : CRp w S X (arr.toList.drop (off + vs.length)).toArray (cells.drop (off + ps.length)) := by
    refine ⟨by simp; omega, fun j hj => ?_⟩
    simp only [List.length_drop] at hj
    obtain ⟨c, c1, c2, c3⟩ := h.2 (off + ps.length + j) (by omega)
    refine ⟨c, ?_, c2, by simpa using c3⟩
    simp only [List.getElem?_toArray, List.getElem?_drop, hvl]
    simpa using c1
  have := (h1.append hv).appendp h2
  simpa using this
theorem e_st {t n : Nat} {x y : Operand} {x' y' : Opd} (h : (oeq x x' && oeq y y' && szIs P t n) = true) (hF : FRel S0 B m hp nx w fr a) (hH : HRel S0 B m hp nx w C.G) (he : evE C fr hp nx (.st n x' y') = some (d, hp', nx')) :
    EV P S0 B C.G m hp nx w a ⟨dst, .store t x y, ty, pos, after, guard⟩ d hp' nx' := by
  simp only [Bool.and_eq_true] at h
  obtain ⟨⟨h1, h2⟩, h3⟩ := h
  have hx := O_rd hF hH h1
  have hy := O_rd hF hH h2
  simp only [evE] at he
  cases hv : evO C fr x' with
  | ptr id off =>
    rw [hv] at he hx
    simp only at he
    cases hl : lkh hp id with
    | none => rw [hl] at he; simp at he
    | some b =>
      rw [hl] at he
      cases b with
      | row z els => simp at he
      | map es => simp at he
      | box cells =>
        simp only at he
        split at he
        · rename_i hcond
          obtain ⟨c1, c2, c3⟩ := hcond
          simp only [Option.some.injEq, Prod.mk.injEq] at he
          obtain ⟨rfl, rfl, rfl⟩ := he
          intro KK Q hK
          have hp' := (Rd_ptr.1 hx).2
          obtain ⟨arr, T, g1, g2, g3, g4⟩ := (hH.bl _ _ hl).2
          have hc : CRp w (stab S0 B m hp w) (some (env m hp nx)) arr cells := ⟨g3, g4⟩
          have hcv := cells_of envOK hy c3
          have hvl : (a.eval y).cells.toList.length = n := by simpa [c1] using hcv.1
          have hst := run_storeCells_at P (m.ρ id) off T (a.eval y).cells.toList 0 arr w g1 (by rw [hvl]; omega) (fun u hu => by
            obtain ⟨j, hj, rfl⟩ := List.mem_iff_getElem.1 hu
            obtain ⟨c, k1, k2, _⟩ := hcv.2 j (by simpa [hcv.1] using hj)
            have : (a.eval y).cells.toList[j] = c := by
              have hj' : j < (a.eval y).cells.size := by simpa using hj
              rw [Array.getElem?_eq_getElem hj'] at k1
              simpa using k1
            rw [this]; exact k2)
          simp only [Nat.add_zero] at hst
          have hrow := cr_array (off := off) hc (vs := (a.eval y).cells.toList) (by simpa using hcv) (by omega)
          rw [c1, hvl] at hrow
          rw [hvl] at hst
          obtain ⟨r1, r2⟩ := set_box (w' := w.setRow (m.ρ id) (arr.toList.take off ++ (a.eval y).cells.toList ++ arr.toList.drop (off + n)).toArray) hH hl (by simp [World.setRow]) (fun k hk => setRow_other w _ k _ hk) (setRow_heap w _ _ _ T _ g1) hrow
          refine wp_skp ?_ (hK _ _ _ r1 r2 ⟨rfl, rfl, rfl, by simp [World.setRow], fun k hk => setRow_other w _ k _ (by omega)⟩ (Rd_tup.2 ⟨#[], rfl, rfl, fun j hj => by simp at hj⟩))
          have hsz : (a.eval y).cells.size = n := by simpa using hvl
          simp only [execOp, Instr.storeAt, hp', Instr.sureAddr, Sem.run_bind, Sem.run_pure, Result.andThen_ok, storeVar, run_szOf h3, hsz, ne_eq, not_true, if_false, hst]
        · simp at he
  | _ => rw [hv] at he; simp at he
theorem lst_cells {S : Nat → Nat → Prop} {ex : Bool} {es : List (List D)} {v : Value} {sz : Nat} (h : Rd w S none (.lst ex es) v) (hall : ∀ e ∈ es, e.length = sz) (hsz : 0 < sz) (hne : es ≠ []) :
    ∃ (b o cap : Nat) (vals : List Value), v = .slice (some ⟨b, o, none⟩) es.length cap ∧ es.length ≤ cap ∧ (ex = true → cap = es.length) ∧ vals.length = es.length * sz ∧ CR w S none vals.toArray es.flatten ∧
      (∀ j u, vals[j]? = some u → w.cell? ((⟨b, o, none⟩ : Addr).add j) = some u) ∧ ∀ u ∈ vals, u.oneCell' = true := by
  obtain ⟨A, cap, sz', rfl, e1, e2, e3, e4, e5⟩ := Rd_lst.1 h
  have hl : 0 < es.length := List.length_pos_iff.2 hne
  obtain ⟨b, o, rfl, e6⟩ := e5 hl
  have hszz : sz' = sz := by rw [← e4 _ (List.getElem_mem hl), hall _ (List.getElem_mem hl)]
  subst hszz
  have hfl := flat_len hall
  have key : ∀ k (hk : k < es.flatten.length), ∃ c, w.cell? ⟨b, o + k, none⟩ = some c ∧ c.oneCell' = true ∧ Rd w S none es.flatten[k] c := by
    intro k hk
    have hk' := hk
    rw [hfl] at hk'
    have hm : k % sz' < sz' := Nat.mod_lt _ hsz
    have hd : k / sz' < es.length := (Nat.div_lt_iff_lt_mul hsz).2 hk'
    have he := hall _ (List.getElem_mem hd)
    have hm' : k % sz' < es[k / sz'].length := by rw [he]; exact hm
    obtain ⟨c, c1, c2, c3, c4⟩ := e6 (k / sz') hd (k % sz') hm'
    have hflat := flat_get hall (k / sz') (k % sz') hm
    rw [List.getElem?_eq_getElem hd, Option.bind_some, List.getElem?_eq_getElem hm'] at hflat
    have hkk : k / sz' * sz' + k % sz' = k := by rw [Nat.mul_comm]; exact Nat.div_add_mod k sz'
    rw [hkk] at hflat c1
    have hfe := (List.getElem?_eq_some_iff.1 hflat).2
    exact ⟨c, c1, c3, by rw [hfe]; exact c4⟩
  let f : Nat → Value := fun k => (w.cell? ⟨b, o + k, none⟩).getD undef
  have hf : ∀ k (hk : k < es.flatten.length), w.cell? ⟨b, o + k, none⟩ = some (f k) ∧ (f k).oneCell' = true ∧ Rd w S none es.flatten[k] (f k) := by
    intro k hk
    obtain ⟨c, c1, c2, c3⟩ := key k hk
    have : f k = c := by simp [f, c1]
    rw [this]; exact ⟨c1, c2, c3⟩
  refine ⟨b, o, cap, (List.range (es.length * sz')).map f, rfl, e1, e3, by simp, ⟨by simp [hfl], fun j hj => ⟨f j, ?_, (hf j hj).2⟩⟩, fun j u hu => ?_, fun u hu => ?_⟩
  · rw [hfl] at hj; simp [hj]
  · simp only [List.getElem?_map, Option.map_eq_some_iff] at hu
    obtain ⟨k, hk, rfl⟩ := hu
    obtain ⟨hlt, rfl⟩ := List.getElem?_eq_some_iff.1 hk
    simp only [List.getElem_range, add_none]
    rw [List.length_range] at hlt
    exact (hf j (by rw [hfl]; exact hlt)).1
  · obtain ⟨k, hk, rfl⟩ := List.mem_map.1 hu
    rw [List.mem_range] at hk
    exact (hf k (by rw [hfl]; exact hk)).2.1
theorem newsOf_rd {G : Nat → Option (List D)} {x : D} {news : List (List D)} {v : Value} (hH : HRel S0 B m hp nx w G) (h : newsOf hp x = some news) (hr : RdS S0 B m hp nx w x v) : ∃ ex, Rd0 S0 B m hp w (.lst ex news) v := by
  unfold newsOf at h
  split at h
  · simp only [Option.some.injEq] at h; subst h
    exact ⟨_, Rd.closed _ _ _ rfl hr⟩
  · split at h
    · split at h
      · simp only [Option.some.injEq] at h; subst h
        refine ⟨false, expo_rd hH _ _ _ ?_ hr⟩
        simp only [expo]
        rename_i hl hn
        simp [hl, hn]
      · simp at h
    · simp at h
  · simp at h
theorem q_b2s {s t : Nat} {x : Operand} {y : Opd} (h : (oeq x y && (undIs P s fun | .slice e => undIs P e (fun | .int .u8 => true | _ => false) | _ => false) && undIs P t fun | .string => true | _ => false) = true)
    (hF : FRel S0 B m hp nx w fr a) (hH : HRel S0 B m hp nx w C.G) (he : evQ C fr hp (.b2s y) = some d) :
    QV P S0 B m hp nx w a ⟨dst, .convert s t x, ty, pos, after, guard⟩ d := by
  simp only [Bool.and_eq_true] at h
  obtain ⟨⟨h1, h2⟩, h3⟩ := h
  obtain ⟨d1, hu1, hd1⟩ := und_some h2
  obtain ⟨d2, hu2, hd2⟩ := und_some h3
  have hx := O_rd hF hH h1
  simp only [evQ] at he
  split at he
  · rename_i n hn
    simp only [Option.some.injEq] at he
    subst he
    obtain ⟨ex, hr⟩ := newsOf_rd hH hn hx
    obtain ⟨A, cap, sz, e1, _, _, _, _, e6⟩ := Rd_lst.1 hr
    obtain ⟨b, o, rfl, e7⟩ := e6 (by simp)
    obtain ⟨c, c1, _, _, c4⟩ := e7 0 (by simp) 0 (by simp)
    simp only [Nat.zero_mul, Nat.zero_add, Nat.add_zero, List.getElem_cons_zero] at c1 c4
    obtain ⟨rfl, _⟩ := Rd_v.1 c4
    split at hd1
    · rename_i e
      obtain ⟨d3, hu3, hd3⟩ := und_some hd1
      split at hd3
      · split at hd2
        · have hl : (loadCells ⟨b, o, none⟩ 1).run P w = .ok #[.int .u8 n] w := by
            have := run_loadCells (P := P) w ⟨b, o, none⟩ 1 (fun _ => .int .u8 n) (fun j hj => by
              obtain rfl : j = 0 := by omega
              rw [add_none]; simpa using c1)
            simpa using this
          refine ⟨_, ?_, Rd_v.2 ⟨rfl, rfl⟩⟩
          simp only [List.length_singleton] at e1
          simp [execOp, convert, run_und hu1, run_und hu2, run_und hu3, e1, Conv.bytesToString, hl]
          rfl
        · simp at hd2
      · simp at hd3
    · simp at hd1
  · simp at he
theorem run_app0 {t ty e : Nat} {i : TypeInfo} (ht : P.underlying t = some (.slice e)) (hi : P.info? e = some i) (A A' : Option Addr) (n cap c' : Nat) (hn : n ≤ cap) :
    (Builtin.append_ #[t, t] ty #[.slice A n cap, .slice A' 0 c']).run P w = .ok (.slice A n cap) w := by
  have hf : ∀ w, (Builtin.firstCells i.size 0 (.slice A' 0 c')).run P w = .ok #[] w := by
    intro w
    cases A' with
    | none => simp [Builtin.firstCells]
    | some b => simp [Builtin.firstCells, loadCells, loadCellsFrom]
  cases A with
  | none => simp [Builtin.append_, run_und ht, Go.sizeOf, typeInfo, hi, Builtin.lenOf, hn, hf]
  | some b => simp [Builtin.append_, run_und ht, Go.sizeOf, typeInfo, hi, Builtin.lenOf, hn, hf, storeCells]
theorem run_appG {t ty e : Nat} {i : TypeInfo} {z : Value} {sz bytes : Nat} (ht : P.underlying t = some (.slice e)) (hi : P.info? e = some i) (hz : i.zero = some z) (hsz : i.size = sz) (hby : i.bytes = bytes) (hzs : z.cells.size = sz)
    (A : Option Addr) (n cap : Nat) (olds : List Value) (hA : A = none → n = 0 ∧ cap = 0) (hlo : olds.length = n * sz) (holds : ∀ b, A = some b → ∀ j v, olds[j]? = some v → w.cell? (b.add j) = some v)
    (b : Addr) (k c : Nat) (news : List Value) (hl : news.length = k * sz) (hnews : ∀ j v, news[j]? = some v → w.cell? (b.add j) = some v) (hk : 0 < k)
    (hg : cap < n + k) (hbytes : (n + k) * bytes ≤ 140737488355328) (h63 : n + k ≤ maxLen) :
    ∃ cap' cur w', (Builtin.append_ #[t, t] ty #[.slice A n cap, .slice (some b) k c]).run P w = .ok (.slice (some ⟨w.heap.size, 0, none⟩) (n + k) (cap' + 1)) w' ∧ Below w.heap.size w w' ∧
      w'.heap[w.heap.size]? = some (.cells cur e (0, 0)) ∧ n + k ≤ cap' + 1 ∧ cap' + 1 ≤ maxLen ∧ cur.size = (cap' + 1) * sz ∧ ∀ j, j < (olds ++ news).length → cur[j]? = (olds ++ news)[j]? := by
  subst hsz hby
  have hge := grownCap_ge w (n + k) cap e
  have hcm : grownCap w (n + k) cap e ≤ maxLen := grownCap_le_maxLen w (n + k) cap e h63
  have h63' : ((n + k : Nat) : Int) ≤ 9223372036854775807 := by simp only [maxLen] at h63; omega
  have hfit := growslice_fits hg hbytes
  have hr : (Builtin.append_ #[t, t] ty #[.slice A n cap, .slice (some b) k c]).run P w =
      .ok (.slice (some ⟨w.heap.size, 0, none⟩) (n + k) (grownCap w (n + k) cap e)) (w.drew.alloc (.cells (olds.toArray ++ news.toArray ++ Builtin.zeroCells z.cells (grownCap w (n + k) cap e - (n + k))) e)) := by
    cases A with
    | some a' => exact run_append_grow (P := P) w t ty e i z ht hi hz a' n cap olds hlo (holds a' rfl) b k c news hl hnews hg h63' hfit
    | none =>
      obtain ⟨rfl, rfl⟩ := hA rfl
      have ho : olds = [] := List.eq_nil_of_length_eq_zero (by simpa using hlo)
      subst ho
      simp only [Nat.zero_add] at h63' hbytes ⊢
      have := run_append_nil (P := P) w t ty e i z ht hi hz b k c news hl hnews hk h63' (by omega)
      simpa using this
  obtain ⟨cap', hcap⟩ : ∃ c', grownCap w (n + k) cap e = c' + 1 := ⟨grownCap w (n + k) cap e - 1, by omega⟩
  rw [hcap] at hr hge hcm
  refine ⟨cap', olds.toArray ++ news.toArray ++ Builtin.zeroCells z.cells (cap' + 1 - (n + k)), _, hr, (Below.drew (Below.refl _ w)).alloc (Nat.le_refl _) _, ?_, hge, hcm, ?_, fun j hj => ?_⟩
  · have := heap_alloc_new w.drew (.cells (olds.toArray ++ news.toArray ++ Builtin.zeroCells z.cells (cap' + 1 - (n + k))) e)
    exact this
  · simp only [Array.size_append, List.size_toArray, size_zeroCells, hzs, hlo, hl, ← Nat.add_mul]
    congr 1
    omega
  · rw [Array.getElem?_append_left (by simpa using hj)]
    have h : olds.toArray ++ news.toArray = (olds ++ news).toArray := by simp
    rw [h]; simp
theorem run_appR {t ty e : Nat} {i : TypeInfo} {sz : Nat} (ht : P.underlying t = some (.slice e)) (hi : P.info? e = some i) (hsz : i.size = sz)
    (g n cap : Nat) (cur : Array Value) (e0 : Nat) (hg : w.heap[g]? = some (.cells cur e0 (0, 0)))
    (b : Addr) (k c : Nat) (news : List Value) (hl : news.length = k * sz) (hnews : ∀ j u, news[j]? = some u → w.cell? (b.add j) = some u) (h1 : ∀ u ∈ news, u.oneCell' = true)
    (hroom : n + k ≤ cap) (hfit : n * sz + news.length ≤ cur.size) :
    (Builtin.append_ #[t, t] ty #[.slice (some ⟨g, 0, none⟩) n cap, .slice (some b) k c]).run P w =
      .ok (.slice (some ⟨g, 0, none⟩) (n + k) cap) (w.setRow g (cur.toList.take (n * sz) ++ news ++ cur.toList.drop (n * sz + news.length)).toArray) := by
  subst hsz
  have hf := run_firstCells_some (P := P) w i.size k b k c news hl hnews
  have hst := run_storeCells_at P g (n * i.size) e0 news 0 cur w hg (by simpa using hfit) h1
  simp only [Nat.add_zero] at hst
  simp [Builtin.append_, run_und ht, Go.sizeOf, typeInfo, hi, Builtin.lenOf, hroom, hf, Addr.add_lit, hst]
theorem uph_same {id : Nat} {b : Blk} : ∀ {hp : List (Nat × Blk)}, lkh hp id = some b → uph hp id b = hp
  | [], h => by simp [lkh] at h
  | (j, c) :: hp, h => by
    simp only [lkh, uph] at h ⊢
    split
    · rename_i hj
      rw [if_pos hj] at h
      simp only [Option.some.injEq] at h
      rw [h]
    · rename_i hj
      rw [if_neg hj] at h
      rw [uph_same h]
theorem cr_pre {S : Nat → Nat → Prop} {X : Option Env} {cs : List Value} {ds : List D} {cur : Array Value} (h : CR w S X cs.toArray ds) (hc : ∀ j, j < cs.length → cur[j]? = cs[j]?) : ∀ k (hk : k < ds.length), ∃ c, cur[k]? = some c ∧ c.oneCell' = true ∧ Rd w S X ds[k] c := by
  intro k hk
  obtain ⟨c, c1, c2, c3⟩ := h.2 k hk
  have : cs.length = ds.length := by simpa using h.1
  exact ⟨c, by rw [hc k (by omega)]; simpa using c1, c2, c3⟩
theorem app_lit {t ty e : Nat} {i : TypeInfo} {z : Value} {sz bytes : Nat} (hu : P.underlying t = some (.slice e)) (hi : P.info? e = some i) (hz : i.zero = some z) (hisz : i.size = sz) (hiby : i.bytes = bytes) (hzs : z.cells.size = sz) (hbp : 0 < bytes) (hszp : 0 < sz)
    {es news : List (List D)} {v1 v2 : Value} {exx : Bool} (hs0 : Rd w (stab S0 B m hp w) none (.lst true es) v1) (hxr : Rd w (stab S0 B m hp w) none (.lst exx news) v2)
    (q1 : es = [] ∨ ¬ news = []) (q2 : ∀ l ∈ es, l.length = sz) (hall : ∀ l ∈ news, l.length = sz) (hbytes : (es.length + news.length) * bytes ≤ 140737488355328) :
    ∃ v w', (Builtin.append_ #[t, t] ty #[v1, v2]).run P w = .ok v w' ∧ Below w.heap.size w w' ∧ ((es ++ news = [] ∧ ∃ A, v = .slice A 0 0) ∨
      ∃ cap cur e, v = .slice (some ⟨w.heap.size, 0, none⟩) (es ++ news).length (cap + 1) ∧ w'.heap[w.heap.size]? = some (.cells cur e (0, 0)) ∧ (es ++ news).length ≤ cap + 1 ∧ cap + 1 ≤ maxLen ∧ cur.size = (cap + 1) * sz ∧
        ∀ k (h : k < (es ++ news).flatten.length), ∃ c, cur[k]? = some c ∧ c.oneCell' = true ∧ Rd0 S0 B m hp w (es ++ news).flatten[k] c) := by
  have hmaxl : es.length + news.length ≤ maxLen := by
    have : (es.length + news.length) * 1 ≤ (es.length + news.length) * bytes := Nat.mul_le_mul_left _ hbp
    simp only [maxLen]; omega
  have hlen : (es ++ news).length = es.length + news.length := List.length_append
  by_cases hne : news = []
  · subst hne
    have hes : es = [] := by
      rcases q1 with h | h
      · exact h
      · simp at h
    subst hes
    obtain ⟨A', cap', _, e1', _⟩ := Rd_lst.1 hxr
    obtain ⟨A, cap, _, e1, _, _, e2, _⟩ := Rd_lst.1 hs0
    have hcap := e2 rfl
    simp only [List.length_nil] at hcap e1 e1'
    subst hcap
    exact ⟨.slice A 0 0, w, by rw [e1, e1']; exact run_app0 hu hi _ _ _ _ _ (Nat.le_refl _), Below.refl _ _, .inl ⟨rfl, A, rfl⟩⟩
  · obtain ⟨b, o, cap', vals, hxv, _, _, v1', v2', v3, v4⟩ := lst_cells hxr hall hszp hne
    have hk : 0 < news.length := List.length_pos_iff.2 hne
    have hbase : ∃ (A : Option Addr) (olds : List Value), v1 = .slice A es.length es.length ∧ (A = none → es.length = 0 ∧ es.length = 0) ∧ olds.length = es.length * sz ∧ CR w (stab S0 B m hp w) none olds.toArray es.flatten ∧ (∀ b, A = some b → ∀ j v, olds[j]? = some v → w.cell? (b.add j) = some v) := by
      by_cases hes : es = []
      · subst hes
        obtain ⟨A, cap, _, e1, _, _, e2, _⟩ := Rd_lst.1 hs0
        have hcap := e2 rfl
        simp only [List.length_nil] at hcap e1
        subst hcap
        exact ⟨A, [], e1, fun _ => ⟨rfl, rfl⟩, by simp, ⟨rfl, fun j hj => by simp at hj⟩, fun _ _ j v hv => by simp at hv⟩
      · obtain ⟨b', o', cp, olds, k1, k2, k3, k4, k5, k6, k7⟩ := lst_cells hs0 q2 hszp hes
        rw [k3 rfl] at k1
        exact ⟨_, olds, k1, fun h => by simp at h, k4, k5, fun b hb => by simp only [Option.some.injEq] at hb; subst hb; exact k6⟩
    obtain ⟨A, olds, t1, t2, t3, t4, t5⟩ := hbase
    obtain ⟨cap2, cur2, w', r1, r2, r3, r4, r5, r6, r7⟩ := run_appG (w := w) (ty := ty) hu hi hz hisz hiby hzs A es.length es.length olds t2 t3 t5 ⟨b, o, none⟩ news.length cap' vals v1' v3 hk (by omega) hbytes hmaxl
    have hcrall : CR w (stab S0 B m hp w) none (olds ++ vals).toArray (es ++ news).flatten := by
      have := t4.append v2'
      simpa using this
    exact ⟨_, w', by rw [t1, hxv]; exact r1, r2, .inr ⟨cap2, cur2, e, by rw [hlen], r3, by rw [hlen]; exact r4, r5, r6, cr_pre hcrall r7⟩⟩
theorem e_app {sz bytes : Nat} {ex : Array Operand} {ts : Array Nat} {s' x' : Opd} (h : ((match ex.toList with | [a, b] => oeq a s' && oeq b x' | _ => false) && (match ts.toList with
      | [t, t'] => t == t' && elemIs P t fun e => szIs P e sz && bytesIs P e bytes && decide (0 < bytes) && (match P.info? e with | some i => i.zero.any (fun z => z.cells.size == sz) | none => false)
      | _ => false)) = true) (hF : FRel S0 B m hp nx w fr a) (hH : HRel S0 B m hp nx w C.G) (he : evE C fr hp nx (.app sz bytes s' x') = some (d, hp', nx')) :
    EV P S0 B C.G m hp nx w a ⟨dst, .call { callee := .builtin .append, args := ex, argTypes := ts }, ty, pos, after, guard⟩ d hp' nx' := by
  simp only [Bool.and_eq_true] at h
  obtain ⟨h1, h2⟩ := h
  split at h1
  · rename_i s x hz0
    have hex : ex = #[s, x] := by rw [← Array.toList_inj]; exact hz0
    subst hex
    split at h2
    · rename_i t t' ht0
      have hts : ts = #[t, t'] := by rw [← Array.toList_inj]; exact ht0
      subst hts
      simp only [Bool.and_eq_true, beq_iff_eq] at h1 h2
      obtain ⟨rfl, h2⟩ := h2
      obtain ⟨e, hu, h3⟩ := elem_some h2
      simp only [Bool.and_eq_true, decide_eq_true_eq] at h3
      obtain ⟨⟨⟨h4, h5⟩, hbp⟩, h6⟩ := h3
      cases hi : P.info? e with
      | none => rw [hi] at h6; simp at h6
      | some i =>
        rw [hi] at h6
        simp only [Option.any_eq_true, beq_iff_eq] at h6
        obtain ⟨z, hz, hzs⟩ := h6
        have hisz : i.size = sz := by unfold szIs at h4; rw [hi] at h4; simpa using h4
        have hiby : i.bytes = bytes := by unfold bytesIs at h5; rw [hi] at h5; simpa using h5
        have hs := O_rd hF hH h1.1
        have hx := O_rd hF hH h1.2
        simp only [evE, Option.bind_eq_some_iff] at he
        obtain ⟨news, hn, he⟩ := he
        obtain ⟨exx, hxr⟩ := newsOf_rd hH hn hx
        split at he
        · rename_i hcond
          simp only [Bool.and_eq_true, List.all_eq_true, beq_iff_eq, decide_eq_true_eq] at hcond
          obtain ⟨hall, hszp⟩ := hcond
          have run : ∀ v w', (Builtin.append_ #[t, t] ty #[a.eval s, a.eval x]).run P w = .ok v w' → (execOp a.eval ⟨dst, .call { callee := .builtin .append, args := #[s, x], argTypes := #[t, t] }, ty, pos, after, guard⟩).run P w = .ok (.value v) w' := by
            intro v w' hv
            simp [execOp, resolve, invoke, builtin, hv]
          have hnews : news = [] ∧ (∃ A' c', a.eval x = .slice A' 0 c') ∨ ∃ (b o cap : Nat) (vals : List Value), news ≠ [] ∧ a.eval x = .slice (some ⟨b, o, none⟩) news.length cap ∧ vals.length = news.length * sz ∧ CR w (stab S0 B m hp w) none vals.toArray news.flatten ∧
              (∀ j u, vals[j]? = some u → w.cell? ((⟨b, o, none⟩ : Addr).add j) = some u) ∧ ∀ u ∈ vals, u.oneCell' = true := by
            by_cases hne : news = []
            · subst hne
              obtain ⟨A, cap, _, e1, _⟩ := Rd_lst.1 hxr
              exact .inl ⟨rfl, A, cap, e1⟩
            · obtain ⟨b, o, cap, vals, k1, _, _, k2, k3, k4, k5⟩ := lst_cells hxr hall hszp hne
              exact .inr ⟨b, o, cap, vals, hne, k1, k2, k3, k4, k5⟩
          split at he
          ·
            rename_i id n hsv
            rw [hsv] at hs
            cases hl : lkh hp id with
            | none => rw [hl] at he; simp at he
            | some b =>
              rw [hl] at he
              cases b with
              | box cs => simp at he
              | map es => simp at he
              | row zz els =>
                simp only at he
                split at he
                · rename_i hcond
                  obtain ⟨rfl, rfl, hbytes⟩ := hcond
                  simp only [Option.some.injEq, Prod.mk.injEq] at he
                  obtain ⟨rfl, rfl, rfl⟩ := he
                  intro KK Q hK
                  obtain ⟨hid, _, hown, _⟩ := Rd_own.1 hs
                  have hsv' := (hown _ _ hl).2 rfl
                  obtain ⟨b0, b1, b2⟩ := (hH.bl _ _ hl).2
                  rcases hnews with ⟨rfl, A', c', hxv⟩ | ⟨b, o, cap', vals, hne, hxv, v1, v2, v3, v4⟩
                  ·
                    have hform : ∃ A cap, m.sv id = .slice A els.length cap ∧ els.length ≤ cap := by
                      rcases b2 with ⟨rfl, A, e1⟩ | ⟨g, cap, cur, e, k1, k2, k3, k4, _⟩
                      · exact ⟨A, 0, e1, by simp⟩
                      · exact ⟨_, _, k1, k4⟩
                    obtain ⟨A, cap, e1, e2⟩ := hform
                    simp only [List.append_nil, List.length_nil, Nat.add_zero] at hK ⊢
                    rw [uph_same hl] at hK
                    rw [e1] at hsv'
                    refine wp_val (run _ _ ?_) (hK (.slice A els.length cap) m w hH Up.refl (Below.refl _ _) ?_)
                    · rw [hsv', hxv]; exact run_app0 hu hi _ _ _ _ _ e2
                    · rw [hsv'] at hs; exact hs
                  · have hk : 0 < news.length := List.length_pos_iff.2 hne
                    have hmaxl : els.length + news.length ≤ maxLen := by
                      have : (els.length + news.length) * 1 ≤ (els.length + news.length) * bytes := Nat.mul_le_mul_left _ hbp
                      simp only [maxLen]; omega
                    have hlen : (els ++ news).length = els.length + news.length := List.length_append
                    rw [hsv'] at run
                    rw [hxv] at run
                    rcases b2 with ⟨rfl, A, e1⟩ | ⟨g, cap, cur, e0, k1, k2, k3, k4, k5, k6, k7⟩
                    ·
                      rw [e1] at run
                      obtain ⟨cap2, cur, w', r1, r2, r3, r4, r5, r6, r7⟩ := run_appG (w := w) hu hi hz hisz hiby hzs A 0 0 [] (fun _ => ⟨rfl, rfl⟩) (by simp) (fun b _ j v hv => by simp at hv) ⟨b, o, none⟩ news.length cap' vals v1 v3 hk (by omega) (by simpa using hbytes) (by simpa using hmaxl)
                      obtain ⟨s1, s2, s3⟩ := set_row (v := .slice (some ⟨w.heap.size, 0, none⟩) (0 + news.length) (cap2 + 1)) hH hl hne hall r2.size (fun k hk _ => r2.block k hk)
                        ⟨w.heap.size, cap2, cur, e, by simp, .inr rfl, r3, by simpa using r4, r5, r6, by simpa using cr_pre v2 (by simpa using r7)⟩ (fun g o u hg => by
                          rw [e1] at hg; cases A <;> simp [rblk] at hg <;> simp)
                      exact wp_val (run _ _ r1) (hK _ _ _ s1 s2 (r2.mono hH.hB) s3)
                    · rw [k1] at run
                      have hgs : g < w.heap.size := (Array.getElem?_eq_some_iff.1 k3).1
                      have hn' : els.length * zz ≤ cur.size := by rw [k6]; exact Nat.mul_le_mul_right _ k4
                      have hfl : els.flatten.length = els.length * zz := flat_len b1
                      have holdcr : CR w (stab S0 B m hp w) none (cur.toList.take (els.length * zz)).toArray els.flatten := by
                        refine ⟨by simp [hfl]; omega, fun j hj => ?_⟩
                        obtain ⟨c, c1, c2, c3⟩ := k7 j hj
                        refine ⟨c, ?_, c2, c3⟩
                        simp only [List.getElem?_toArray, List.getElem?_take, if_pos (by omega : j < els.length * zz)]
                        simpa using c1
                      have hcrall : CR w (stab S0 B m hp w) none (cur.toList.take (els.length * zz) ++ vals).toArray (els ++ news).flatten := by
                        have := holdcr.append v2
                        simpa using this
                      by_cases hroom : els.length + news.length ≤ cap + 1
                      · have hfit : els.length * zz + vals.length ≤ cur.size := by
                          rw [v1, k6, ← Nat.add_mul]; exact Nat.mul_le_mul_right _ hroom
                        have r1 := run_appR (w := w) (ty := ty) hu hi hisz g els.length (cap + 1) cur e0 k3 ⟨b, o, none⟩ news.length cap' vals v1 v3 v4 hroom hfit
                        obtain ⟨s1, s2, s3⟩ := set_row (v := .slice (some ⟨g, 0, none⟩) (els.length + news.length) (cap + 1)) (w' := w.setRow g (cur.toList.take (els.length * zz) ++ vals ++ cur.toList.drop (els.length * zz + vals.length)).toArray) hH hl hne hall (by simp [World.setRow])
                          (fun k hk h => setRow_other w _ k _ (fun e => h (by simp [rblk, e])))
                          ⟨g, cap, _, e0, by rw [hlen], .inl (by rw [k1]; rfl), setRow_heap w g _ _ _ _ k3, by rw [hlen]; exact hroom, k5, by simp; omega, cr_pre hcrall (fun j hj => by
                            simp only [List.getElem?_toArray]
                            rw [List.getElem?_append_left hj])⟩ (fun g' o' u hg' ho' hc' => by
                              rw [k1] at hg'
                              simp only [rblk, Option.some.injEq] at hg'
                              subst hg'
                              rw [cell_setRow_same w g o' _ _ _ _ k3]
                              rw [cell_blk k3] at hc'
                              simp only [List.getElem?_toArray, List.append_assoc]
                              rw [List.getElem?_append_left (by simp; omega), List.getElem?_take, if_pos ho']
                              simpa using hc')
                        exact wp_val (run _ _ r1) (hK _ _ _ s1 s2 ⟨rfl, rfl, rfl, by simp [World.setRow], fun k hk => setRow_other w _ k _ (by omega)⟩ s3)
                      · obtain ⟨cap2, cur2, w', r1, r2, r3, r4, r5, r6, r7⟩ := run_appG (w := w) hu hi hz hisz hiby hzs (some ⟨g, 0, none⟩) els.length (cap + 1) (cur.toList.take (els.length * zz)) (fun h => by simp at h) (by simp; omega)
                          (fun b hb j v hv => by
                            simp only [Option.some.injEq] at hb
                            subst hb
                            rw [add_none, Nat.zero_add, cell_blk k3]
                            rw [List.getElem?_take] at hv
                            split at hv
                            · simpa using hv
                            · simp at hv) ⟨b, o, none⟩ news.length cap' vals v1 v3 hk (by omega) hbytes hmaxl
                        obtain ⟨s1, s2, s3⟩ := set_row (v := .slice (some ⟨w.heap.size, 0, none⟩) (els.length + news.length) (cap2 + 1)) hH hl hne hall r2.size (fun k hk _ => r2.block k hk)
                          ⟨w.heap.size, cap2, cur2, e, by rw [hlen], .inr rfl, r3, by rw [hlen]; exact r4, r5, r6, cr_pre hcrall r7⟩ (fun g' o' u hg' ho' hc' => cell_grow r2 hc')
                        exact wp_val (run _ _ r1) (hK _ _ _ s1 s2 (r2.mono hH.hB) s3)
                · simp at he
          ·
            rename_i es hsv
            rw [hsv] at hs
            split at he
            · rename_i hcond
              obtain ⟨q1, q2, hbytes⟩ := hcond
              simp only [Option.some.injEq, Prod.mk.injEq] at he
              obtain ⟨rfl, rfl, rfl⟩ := he
              simp only [Bool.or_eq_true, Bool.not_eq_true', List.isEmpty_iff] at q1
              simp only [List.all_eq_true, beq_iff_eq] at q2
              have hs0 : Rd w (stab S0 B m hp w) none (.lst true es) (a.eval s) := Rd.closed _ _ _ rfl hs
              intro KK Q hK
              have hallx : ∀ l ∈ es ++ news, l.length = sz := fun l hl => by
                rcases List.mem_append.1 hl with h | h
                · exact q2 l h
                · exact hall l h
              obtain ⟨v, w', r1, r2, r3⟩ := app_lit (ty := ty) hu hi hz hisz hiby hzs hbp hszp hs0 hxr (q1.imp (fun h => h) fun h hn => by simp [hn] at h) q2 hall hbytes
              obtain ⟨s1, s2, s3⟩ := new_row hH r2 hszp hallx r3
              rw [List.length_append] at s3
              exact wp_val (run _ _ r1) (hK _ _ _ s1 s2 (r2.mono hH.hB) s3)
            · simp at he
          · simp at he
        · simp at he
    · simp at h2
  · simp at h1
theorem q_apq {sz bytes : Nat} {ex : Array Operand} {ts : Array Nat} {s' x' : Opd} (h : ((match ex.toList with | [a, b] => oeq a s' && oeq b x' | _ => false) && (match ts.toList with
      | [t, t'] => t == t' && elemIs P t fun e => szIs P e sz && bytesIs P e bytes && decide (0 < bytes) && (match P.info? e with | some i => i.zero.any (fun z => z.cells.size == sz) | none => false)
      | _ => false)) = true) (hF : FRel S0 B m hp nx w fr a) (hH : HRel S0 B m hp nx w C.G) (he : evQ C fr hp (.apq sz bytes s' x') = some d) :
    QW P S0 B m hp nx w a ⟨dst, .call { callee := .builtin .append, args := ex, argTypes := ts }, ty, pos, after, guard⟩ d := by
  simp only [Bool.and_eq_true] at h
  obtain ⟨h1, h2⟩ := h
  split at h1
  · rename_i s x hz0
    have hex : ex = #[s, x] := by rw [← Array.toList_inj]; exact hz0
    subst hex
    split at h2
    · rename_i t t' ht0
      have hts : ts = #[t, t'] := by rw [← Array.toList_inj]; exact ht0
      subst hts
      simp only [Bool.and_eq_true, beq_iff_eq] at h1 h2
      obtain ⟨rfl, h2⟩ := h2
      obtain ⟨e, hu, h3⟩ := elem_some h2
      simp only [Bool.and_eq_true, decide_eq_true_eq] at h3
      obtain ⟨⟨⟨h4, h5⟩, hbp⟩, h6⟩ := h3
      cases hi : P.info? e with
      | none => rw [hi] at h6; simp at h6
      | some i =>
        rw [hi] at h6
        simp only [Option.any_eq_true, beq_iff_eq] at h6
        obtain ⟨z, hz, hzs⟩ := h6
        have hisz : i.size = sz := by unfold szIs at h4; rw [hi] at h4; simpa using h4
        have hiby : i.bytes = bytes := by unfold bytesIs at h5; rw [hi] at h5; simpa using h5
        have hs := O_rd hF hH h1.1
        have hx := O_rd hF hH h1.2
        simp only [evQ] at he
        split at he
        · rename_i news es hn hsv
          obtain ⟨exx, hxr⟩ := newsOf_rd hH hn hx
          rw [hsv] at hs
          split at he
          · rename_i hcond
            simp only [Bool.and_eq_true, Bool.or_eq_true, Bool.not_eq_true', List.isEmpty_iff, List.isEmpty_eq_false_iff, List.all_eq_true, beq_iff_eq, decide_eq_true_eq] at hcond
            obtain ⟨⟨⟨⟨hall, hszp⟩, q1⟩, q2⟩, hbytes⟩ := hcond
            simp only [Option.some.injEq] at he
            subst he
            have hs0 : Rd w (stab S0 B m hp w) none (.lst true es) (a.eval s) := Rd.closed _ _ _ rfl hs
            obtain ⟨v, w', r1, r2, r3⟩ := app_lit (ty := ty) hu hi hz hisz hiby hzs hbp hszp hs0 hxr q1 q2 hall hbytes
            have hallx : ∀ l ∈ es ++ news, l.length = sz := fun l hl => by
              rcases List.mem_append.1 hl with h | h
              · exact q2 l h
              · exact hall l h
            have run : (execOp a.eval ⟨dst, .call { callee := .builtin .append, args := #[s, x], argTypes := #[t, t] }, ty, pos, after, guard⟩).run P w = .ok (.value v) w' := by
              simp [execOp, resolve, invoke, builtin, r1]
            intro KK Q hK
            refine wp_val run (hK _ _ r2 (Rd_lst.2 ?_))
            rcases r3 with ⟨e0, A, rfl⟩ | ⟨cap, cur, e, rfl, k1, k2, k3, k4, k5⟩
            · rw [e0]
              exact ⟨A, 0, 0, rfl, Nat.le_refl _, by simp [maxLen], fun h => by simp at h, fun e he => by simp at he, fun h => by simp at h⟩
            · refine ⟨_, _, sz, rfl, k2, k3, fun h => by simp at h, hallx, fun _ => ⟨_, _, rfl, fun i hi j hj => ?_⟩⟩
              have hj' : j < sz := by rw [hallx _ (List.getElem_mem hi)] at hj; exact hj
              have hf := flat_get hallx i j hj'
              have hlt : i * sz + j < (es ++ news).flatten.length := by
                rw [flat_len hallx]
                have : (i + 1) * sz ≤ (es ++ news).length * sz := Nat.mul_le_mul_right _ hi
                rw [Nat.add_mul] at this; omega
              obtain ⟨c, c1, c2, c3⟩ := k5 (i * sz + j) hlt
              have hval : (es ++ news).flatten[i * sz + j] = (es ++ news)[i][j] := by
                rw [List.getElem?_eq_getElem hlt, List.getElem?_eq_getElem hi, Option.bind_some, List.getElem?_eq_getElem hj] at hf
                simpa using hf
              refine ⟨c, ?_, ?_, c2, ?_⟩
              · simp only [World.cell?, k1, Nat.zero_add]; exact c1
              · have hlt' : w.heap.size < w'.heap.size := (Array.getElem?_eq_some_iff.1 k1).1
                refine .inr ⟨hH.hB, hlt', fun id cs hl e => ?_, fun id z els hl e => ?_⟩
                · have := (blk_lt (hH.bl _ _ hl).2 (k := m.ρ id) rfl).2; omega
                · have := (blk_lt (hH.bl _ _ hl).2 (k := w.heap.size) e).2; omega
              · rw [← hval]
                exact c3.grow r2
          · simp at he
        · simp at he
    · simp at h2
  · simp at h1
theorem e_apm {sz bytes : Nat} {ex : Array Operand} {ts : Array Nat} {s' x' : Opd} (h : ((match ex.toList with | [a, b] => oeq a s' && oeq b x' | _ => false) && (match ts.toList with
      | [t, t'] => t == t' && elemIs P t fun e => szIs P e sz && bytesIs P e bytes && decide (0 < bytes) && (match P.info? e with | some i => i.zero.any (fun z => z.cells.size == sz) | none => false)
      | _ => false)) = true) (hF : FRel S0 B m hp nx w fr a) (hH : HRel S0 B m hp nx w C.G) (he : evE C fr hp nx (.apm sz bytes s' x') = some (d, hp', nx')) :
    EV P S0 B C.G m hp nx w a ⟨dst, .call { callee := .builtin .append, args := ex, argTypes := ts }, ty, pos, after, guard⟩ d hp' nx' := by
  simp only [Bool.and_eq_true] at h
  obtain ⟨h1, h2⟩ := h
  split at h1
  · rename_i s x hz0
    have hex : ex = #[s, x] := by rw [← Array.toList_inj]; exact hz0
    subst hex
    split at h2
    · rename_i t t' ht0
      have hts : ts = #[t, t'] := by rw [← Array.toList_inj]; exact ht0
      subst hts
      simp only [Bool.and_eq_true, beq_iff_eq] at h1 h2
      obtain ⟨rfl, h2⟩ := h2
      obtain ⟨e, hu, h3⟩ := elem_some h2
      simp only [Bool.and_eq_true, decide_eq_true_eq] at h3
      obtain ⟨⟨⟨h4, h5⟩, hbp⟩, h6⟩ := h3
      cases hi : P.info? e with
      | none => rw [hi] at h6; simp at h6
      | some i =>
        rw [hi] at h6
        simp only [Option.any_eq_true, beq_iff_eq] at h6
        obtain ⟨z, hz, hzs⟩ := h6
        have hisz : i.size = sz := by unfold szIs at h4; rw [hi] at h4; simpa using h4
        have hiby : i.bytes = bytes := by unfold bytesIs at h5; rw [hi] at h5; simpa using h5
        have hs := O_rd hF hH h1.1
        have hx := O_rd hF hH h1.2
        simp only [evE, Option.bind_eq_some_iff] at he
        obtain ⟨news, hn, he⟩ := he
        obtain ⟨exx, hxr⟩ := newsOf_rd hH hn hx
        split at he
        · rename_i hcond
          simp only [Bool.and_eq_true, Bool.not_eq_true', List.isEmpty_eq_false_iff, List.all_eq_true, beq_iff_eq, decide_eq_true_eq] at hcond
          obtain ⟨⟨⟨hall, hszp⟩, hne⟩, hbytes⟩ := hcond
          split at he
          · rename_i hsv
            rw [hsv] at hs
            simp only [Option.some.injEq, Prod.mk.injEq] at he
            obtain ⟨rfl, rfl, rfl⟩ := he
            have hs0 : Rd w (stab S0 B m hp w) none (.lst true []) (a.eval s) := Rd.closed _ _ _ rfl hs
            obtain ⟨v, w', r1, r2, r3⟩ := app_lit (ty := ty) hu hi hz hisz hiby hzs hbp hszp hs0 hxr (.inl rfl) (by simp) hall (by simpa using hbytes)
            have run : (execOp a.eval ⟨dst, .call { callee := .builtin .append, args := #[s, x], argTypes := #[t, t] }, ty, pos, after, guard⟩).run P w = .ok (.value v) w' := by
              simp [execOp, resolve, invoke, builtin, r1]
            intro KK Q hK
            simp only [List.nil_append] at r3
            rcases r3 with ⟨e0, _⟩ | ⟨cap, cur, e, rfl, k1, k2, k3, k4, k5⟩
            · exact absurd e0 hne
            · have hfl : news.flatten.length = news.length * sz := flat_len hall
              have hcr : CRp w (stab S0 B m hp w) (some (env m hp nx)) cur news.flatten := by
                refine ⟨by rw [hfl, k4]; exact Nat.mul_le_mul_right _ k2, fun j hj => ?_⟩
                obtain ⟨c, c1, c2, c3⟩ := k5 j hj
                exact ⟨c, c1, c2, c3.open_⟩
              obtain ⟨s1, s2, s3⟩ := new_box hH r2 k1 hcr
              refine wp_val run (hK _ _ _ s1 s2 (r2.mono hH.hB) (Rd_own.2 ⟨by omega, ⟨_, _, _, rfl⟩, fun z els hl => by simp [lkh] at hl, fun cells hl => ⟨cap + 1, by simp [upd], k2, k3⟩⟩))
          · simp at he
        · simp at he
    · simp at h2
  · simp at h1
theorem e_msl {t sz bytes : Nat} {l c : Operand} {l' c' : Opd} {zs : List K} (h : (oeq l l' && oeq c c' && elemIs P t fun e => szIs P e sz && bytesIs P e bytes && decide (0 < bytes) && zeroIs P e zs && zs.length == sz) = true)
    (hF : FRel S0 B m hp nx w fr a) (hH : HRel S0 B m hp nx w C.G) (he : evE C fr hp nx (.msl sz bytes zs l' c') = some (d, hp', nx')) :
    EV P S0 B C.G m hp nx w a ⟨dst, .makeSlice t l c, ty, pos, after, guard⟩ d hp' nx' := by
  simp only [Bool.and_eq_true] at h
  obtain ⟨⟨h1, h2⟩, h3⟩ := h
  obtain ⟨e, hu, h4⟩ := elem_some h3
  simp only [Bool.and_eq_true, decide_eq_true_eq, beq_iff_eq] at h4
  obtain ⟨⟨⟨⟨g1, g2⟩, g3⟩, g4⟩, g5⟩ := h4
  obtain ⟨i, z, hi, hz, hs, hk⟩ := zero_some g4
  have hisz : i.size = sz := by unfold szIs at g1; rw [hi] at g1; simpa using g1
  have hiby : i.bytes = bytes := by unfold bytesIs at g2; rw [hi] at g2; simpa using g2
  have hl := O_rd hF hH h1
  have hc := O_rd hF hH h2
  simp only [evE] at he
  split at he
  · rename_i n k hv1 hv2
    rw [hv1] at hl
    rw [hv2] at hc
    have e1 := (Rd_v.1 hl).1
    have e2 := (Rd_v.1 hc).1
    split at he
    · rename_i hcond
      obtain ⟨q1, q2, q3, q4, q5⟩ := hcond
      simp only [Option.some.injEq, Prod.mk.injEq] at he
      obtain ⟨rfl, rfl, rfl⟩ := he
      intro KK Q hK
      have hkb : k ≤ 140737488355328 := by
        have : k * 1 ≤ k * (bytes : Int) := Int.mul_le_mul_of_nonneg_left (by omega) (by omega)
        omega
      have hr := run_make (P := P) w t e i z hu hi hz .i64 .i64 n k q1 q2 (by rw [hiby, Int.mul_comm]; omega) (by omega)
      have hb := below_alloc w (.cells (madeCells z.cells (k.toNat * i.size)) e)
      have run : (execOp a.eval ⟨dst, .makeSlice t l c, ty, pos, after, guard⟩).run P w = .ok (.value (.slice (some ⟨w.heap.size, 0, none⟩) n.toNat k.toNat)) (w.alloc (.cells (madeCells z.cells (k.toNat * i.size)) e)) := by
        simp only [execOp, e1, e2, Sem.run_bind, hr, Result.andThen_ok, Sem.run_pure]
      have hall : ∀ l ∈ List.replicate n.toNat (zs.map K.d), l.length = sz := fun l hl => by rw [List.eq_of_mem_replicate hl]; simpa using q4
      have hzero : CR w (stab S0 B m hp w) none z.cells (zs.map K.d) := zero_cr hs hk
      have hz0 := hzero.zeros (len := k.toNat) (sz := sz) (by simpa using q4) q5
      have hpre : (List.replicate k.toNat (zs.map K.d)).flatten = (List.replicate n.toNat (zs.map K.d)).flatten ++ (List.replicate (k.toNat - n.toNat) (zs.map K.d)).flatten := by
        rw [← List.flatten_append, List.replicate_append_replicate]
        congr 2; omega
      obtain ⟨s1, s2, s3⟩ := new_row (v := .slice (some ⟨w.heap.size, 0, none⟩) n.toNat k.toNat) (w' := w.alloc (.cells (madeCells z.cells (k.toNat * i.size)) e)) (els := List.replicate n.toNat (zs.map K.d)) hH hb q5 hall (by
        by_cases h0 : k = 0
        · have hn0 : n = 0 := by omega
          subst h0 hn0
          exact .inl ⟨rfl, _, rfl⟩
        · refine .inr ⟨k.toNat - 1, madeCells z.cells (k.toNat * i.size), e, by simp; omega, heap_alloc_new w _, by simp; omega, by simp [maxLen]; omega, by simp [madeCells, hisz]; congr 1; omega, fun j hj => ?_⟩
          obtain ⟨c, c1, c2, c3⟩ := hz0.2 j (by rw [hpre, List.length_append]; omega)
          refine ⟨c, by rw [hisz]; exact c1, c2, ?_⟩
          have : (List.replicate k.toNat (zs.map K.d)).flatten[j]'(by rw [hpre, List.length_append]; omega) = (List.replicate n.toNat (zs.map K.d)).flatten[j] := by
            simp only [hpre]
            rw [List.getElem_append_left hj]
          rw [← this]; exact c3)
      rw [List.length_replicate] at s3
      exact wp_val run (hK _ _ _ s1 s2 (hb.mono hH.hB) s3)
    · simp at he
  · simp at he
theorem e_msm {t sz bytes : Nat} {l c : Operand} {l' c' : Opd} {zs : List K} (h : (oeq l l' && oeq c c' && elemIs P t fun e => szIs P e sz && bytesIs P e bytes && decide (0 < bytes) && zeroIs P e zs && zs.length == sz) = true)
    (hF : FRel S0 B m hp nx w fr a) (hH : HRel S0 B m hp nx w C.G) (he : evE C fr hp nx (.msm sz bytes zs l' c') = some (d, hp', nx')) :
    EV P S0 B C.G m hp nx w a ⟨dst, .makeSlice t l c, ty, pos, after, guard⟩ d hp' nx' := by
  simp only [Bool.and_eq_true] at h
  obtain ⟨⟨h1, h2⟩, h3⟩ := h
  obtain ⟨e, hu, h4⟩ := elem_some h3
  simp only [Bool.and_eq_true, decide_eq_true_eq, beq_iff_eq] at h4
  obtain ⟨⟨⟨⟨g1, g2⟩, g3⟩, g4⟩, g5⟩ := h4
  obtain ⟨i, z, hi, hz, hs, hk⟩ := zero_some g4
  have hisz : i.size = sz := by unfold szIs at g1; rw [hi] at g1; simpa using g1
  have hiby : i.bytes = bytes := by unfold bytesIs at g2; rw [hi] at g2; simpa using g2
  have hl := O_rd hF hH h1
  have hc := O_rd hF hH h2
  simp only [evE] at he
  split at he
  · rename_i n k hv1 hv2
    rw [hv1] at hl
    rw [hv2] at hc
    have e1 := (Rd_v.1 hl).1
    have e2 := (Rd_v.1 hc).1
    split at he
    · rename_i hcond
      obtain ⟨q1, q2, q3, q4, q5⟩ := hcond
      simp only [Option.some.injEq, Prod.mk.injEq] at he
      obtain ⟨rfl, rfl, rfl⟩ := he
      intro KK Q hK
      have hkb : k ≤ 140737488355328 := by
        have : k * 1 ≤ k * (bytes : Int) := Int.mul_le_mul_of_nonneg_left (by omega) (by omega)
        omega
      have hr := run_make (P := P) w t e i z hu hi hz .i64 .i64 n k (by omega) (by omega) (by rw [hiby, Int.mul_comm]; omega) (by omega)
      have hb := below_alloc w (.cells (madeCells z.cells (k.toNat * i.size)) e)
      have run : (execOp a.eval ⟨dst, .makeSlice t l c, ty, pos, after, guard⟩).run P w = .ok (.value (.slice (some ⟨w.heap.size, 0, none⟩) n.toNat k.toNat)) (w.alloc (.cells (madeCells z.cells (k.toNat * i.size)) e)) := by
        simp only [execOp, e1, e2, Sem.run_bind, hr, Result.andThen_ok, Sem.run_pure]
      have hzero : CR w (stab S0 B m hp w) none z.cells (zs.map K.d) := zero_cr hs hk
      have hz0 := hzero.zeros (len := k.toNat) (sz := sz) (by simpa using q4) q5
      subst q2
      have hcr : CRp w (stab S0 B m hp w) (some (env m hp nx)) (madeCells z.cells (n.toNat * i.size)) (List.replicate n.toNat (zs.map K.d)).flatten := by
        refine ⟨by rw [hisz]; exact hz0.p.1, fun j hj => ?_⟩
        obtain ⟨c, c1, c2, c3⟩ := hz0.2 j hj
        exact ⟨c, by rw [hisz]; exact c1, c2, c3.open_⟩
      obtain ⟨s1, s2, s3⟩ := new_box hH hb (heap_alloc_new w _) hcr
      refine wp_val run (hK _ _ _ s1 s2 (hb.mono hH.hB) (Rd_own.2 ⟨by omega, ⟨_, _, _, rfl⟩, fun z els hl => by simp [lkh] at hl, fun cells hl => ⟨n.toNat, by simp [upd], Nat.le_refl _, by simp [maxLen]; omega⟩⟩))
    · simp at he
  · simp at he
theorem e_bso {t n n' sz : Nat} {ps : Array (Nat × Operand)} {zs : List K} {qs : List (Nat × Opd)} (h : (n == n' && bsleq n ps.toList qs && elemIs P t fun e => szIs P e sz && zeroIs P e zs && zs.length == sz) = true)
    (hF : FRel S0 B m hp nx w fr a) (hH : HRel S0 B m hp nx w C.G) (he : evE C fr hp nx (.bso sz zs n' qs) = some (d, hp', nx')) :
    EV P S0 B C.G m hp nx w a ⟨dst, .buildSlice t n ps, ty, pos, after, guard⟩ d hp' nx' := by
  simp only [Bool.and_eq_true, beq_iff_eq] at h
  obtain ⟨⟨rfl, h1⟩, h2⟩ := h
  obtain ⟨e, hu, h3⟩ := elem_some h2
  simp only [Bool.and_eq_true, beq_iff_eq] at h3
  obtain ⟨⟨h4, h5⟩, h6⟩ := h3
  obtain ⟨ie, z, hi, hz, hs, hk⟩ := zero_some h5
  simp only [evE, Option.bind_eq_some_iff] at he
  obtain ⟨ds, he1, he2⟩ := he
  split at he2
  · rename_i hcond
    simp only [Option.some.injEq, Prod.mk.injEq] at he2
    obtain ⟨rfl, rfl, rfl⟩ := he2
    simp only [Bool.and_eq_true, decide_eq_true_eq, List.all_eq_true, beq_iff_eq] at hcond
    obtain ⟨⟨⟨hall, hsm⟩, hsz⟩, hn0⟩ := hcond
    obtain ⟨g1, g2⟩ := expos_get _ _ he1
    obtain ⟨b1, b2⟩ := bsl_parts hF hH _ _ h1
    have hisz : ie.size = sz := by unfold szIs at h4; rw [hi] at h4; simpa using h4
    have hzero : CR w (stab S0 B m hp w) none z.cells (zs.map K.d) := zero_cr hs hk
    have hz0 := hzero.zeros (len := n) (sz := sz) (by simpa using h6) hsz
    have hrep : ∀ e ∈ List.replicate n (zs.map K.d), e.length = sz := fun e he => by rw [List.eq_of_mem_replicate he]; simpa using h6
    simp only [List.length_map] at g1
    obtain ⟨cs', f1, f2, f3, f4⟩ := CR.fillRow envOK0 hsz (ps.toList.map fun (i, x) => (i, a.eval x)) ((qs.map (·.1)).zip ds) _ _ hz0 hrep (by simp [b1, g1]) (fun j h h' => by
      simp only [List.length_map, List.length_zip] at h h'
      have hj : j < ds.length := by omega
      obtain ⟨k1, k2, k3⟩ := b2 j h (by omega)
      simp only [List.getElem_map, List.getElem_zip, List.length_replicate]
      have hq : j < qs.length := by omega
      have hge := g2 j (by simpa using hq) hj
      rw [List.getElem_map] at hge
      have hx := expo_rd hH _ _ _ hge k3
      exact ⟨k1, by omega, hx, (hall _ (List.getElem_mem hj)).1, (by
        have := (hall _ (List.getElem_mem hj)).2
        simpa using this)⟩)
    intro KK Q hK
    have hmax : n ≤ maxLen := by
      have : n * 1 ≤ n * sz := Nat.mul_le_mul_left n hsz
      simp [maxLen]; omega
    have hlen : (elems (zs.map K.d) ((qs.map (·.1)).zip ds) n).length = n := by unfold elems; rw [f4]; simp
    have run : (execOp a.eval ⟨dst, .buildSlice t n ps, ty, pos, after, guard⟩).run P w = .ok (.value (.slice (some ⟨w.heap.size, 0, none⟩) n n)) (w.alloc (.cells cs' e)) := by
      by_cases hn : n = 0
      · subst hn
        have hp0 : ps.toList = [] := by
          rcases hq : ps.toList with _ | ⟨x, xs⟩
          · rfl
          · rw [hq] at b2 b1
            have := (b2 0 (by simp) (by rw [← b1]; simp)).2.1
            omega
        have hp1 : ps = #[] := by rw [← Array.toList_inj]; exact hp0
        subst hp1
        simp only [List.map_nil, Instr.fill, Option.some.injEq, Nat.zero_mul] at f1
        rw [← f1]
        simp [execOp, Instr.buildSlice, run_und hu, Go.sizeOf, typeInfo, hi, Instr.fill, newRow, Array.range_zero']
      · have := run_buildSlice (P := P) w t e n (ps.map fun (i, x) => (i, a.eval x)) cs' ie z hu hi hz (by rw [hisz]; omega) (by rw [hisz]; intro h0; rcases Nat.mul_eq_zero.1 h0 with h | h <;> omega) (by
          rw [hisz, ← f1]; simp)
        simp [execOp, this]
    have hb := below_alloc w (.cells cs' e)
    obtain ⟨s1, s2, s3⟩ := new_row (v := .slice (some ⟨w.heap.size, 0, none⟩) n n) (w' := w.alloc (.cells cs' e)) (els := elems (zs.map K.d) ((qs.map (·.1)).zip ds) n) hH hb hsz (by unfold elems; exact f3) (.inr ⟨n - 1, cs', e, by rw [hlen]; congr 1; omega, heap_alloc_new w _, by rw [hlen]; omega, by omega, (by rw [show n - 1 + 1 = n by omega, f2.1, flat_len f3, f4]; simp), fun j hj => by
      obtain ⟨c, c1, c2, c3⟩ := f2.2 j hj
      exact ⟨c, c1, c2, c3⟩⟩)
    rw [hlen] at s3
    exact wp_val run (hK _ _ _ s1 s2 (hb.mono hH.hB) s3)
  · simp at he2
end
end Go.Proofs.Dv
set_option linter.unusedVariables false
set_option linter.unusedSimpArgs false
namespace Go.Proofs.Dv
open Go.RowKit
structure Turn (B : Nat) (w w' : World) : Prop where
  os : w'.os = w.os
  tape : w'.tape = w.tape
  output : w'.output = w.output
  size : w.heap.size ≤ w'.heap.size
  keep : ∀ (k : Nat) (o : Obj), w.heap[k]? = some o → (oth o = false ∨ k < B) → w'.heap[k]? = some o
section
variable {S0 : Nat → Nat → Prop} {B L : Nat} {m m' : Mp} {hp hp' : List (Nat × Blk)} {nx nx' : Nat} {w w' w0 : World} {G : Nat → Option (List D)} {fr : List (Nat × D)} {a : Act}
theorem Turn.refl (B : Nat) (w : World) : Turn B w w := ⟨rfl, rfl, rfl, Nat.le_refl _, fun _ _ h _ => h⟩
theorem Turn.trans {w2 : World} (h : Turn L w w') (k : Turn L w' w2) : Turn L w w2 :=
  ⟨k.os.trans h.os, k.tape.trans h.tape, k.output.trans h.output, Nat.le_trans h.size k.size, fun j o hj ho => k.keep j o (h.keep j o hj ho) ho⟩
theorem cell_oth {w : World} {b o : Nat} {u : Value} (h : w.cell? ⟨b, o, none⟩ = some u) : ∃ ob : Obj, w.heap[b]? = some ob ∧ oth ob = false := by
  unfold World.cell? at h
  simp only at h
  cases hb : w.heap[b]? with
  | none => simp [hb] at h
  | some ob => exact ⟨ob, rfl, by cases ob <;> simp_all [oth]⟩
theorem Turn.cell (h : Turn L w w') {b o : Nat} {u : Value} (hc : w.cell? ⟨b, o, none⟩ = some u) : w'.cell? ⟨b, o, none⟩ = some u := by
  obtain ⟨ob, h1, h2⟩ := cell_oth hc
  exact (World.cell?_of_block (a := ⟨b, o, none⟩) ((h.keep b ob h1 (.inl h2)).trans h1.symm)).trans hc
theorem Turn.stab (h : Turn L w w') : ∀ b o, Dv.stab S0 B m hp w b o → Dv.stab S0 B m hp w' b o := by
  rintro b o (h1 | ⟨h1, h2, h3, h4⟩)
  · exact .inl h1
  · exact .inr ⟨h1, Nat.lt_of_lt_of_le h2 h.size, h3, h4⟩
theorem Turn.rd (h : Turn L w w') {X : Option Env} {d : D} {u : Value} (hr : Rd w (Dv.stab S0 B m hp w) X d u) : Rd w' (Dv.stab S0 B m hp w') X d u :=
  Rd.mono (fun _ _ _ _ hc => h.cell hc) h.stab d X X u (fun E hE => ⟨E, hE, fun _ _ _ h => h, fun _ _ _ h => h, fun _ _ h => h⟩) hr
theorem Turn.blk (h : Turn L w w') {id : Nat} {b : Blk} (hb : BlkOK S0 B m hp nx w id b) : BlkOK S0 B m hp nx w' id b := by
  cases b with
  | box cells =>
    obtain ⟨arr, T, h1, h2, h3, h4⟩ := hb
    refine ⟨arr, T, h.keep _ _ h1 (.inl rfl), h2, h3, fun j hj => ?_⟩
    obtain ⟨c, h5, h6, h7⟩ := h4 j hj
    exact ⟨c, h5, h6, h.rd h7⟩
  | row sz els =>
    obtain ⟨h0, h1, h2⟩ := hb
    refine ⟨h0, h1, h2.imp (fun x => x) ?_⟩
    rintro ⟨g, cap, cur, e, k1, k2, k3, k4, k5, k6, k7⟩
    refine ⟨g, cap, cur, e, k1, k2, h.keep _ _ k3 (.inl rfl), k4, k5, k6, fun k hk => ?_⟩
    obtain ⟨c, h5, h6, h7⟩ := k7 k hk
    exact ⟨c, h5, h6, h.rd h7⟩
  | map es =>
    obtain ⟨ents, h1, h2⟩ := hb
    exact ⟨ents, h.keep _ _ h1 (.inl rfl), h2⟩
theorem Turn.hrel (h : Turn L w w') (hH : HRel S0 B m hp nx w G) : HRel S0 B m hp nx w' G :=
  ⟨Nat.le_trans hH.hB h.size, fun id blk hl => ⟨(hH.bl _ _ hl).1, h.blk (hH.bl _ _ hl).2⟩, hH.dj, fun g cs hg => h.rd (hH.gl g cs hg)⟩
theorem Turn.frel (h : Turn L w w') (hF : FRel S0 B m hp nx w fr a) : FRel S0 B m hp nx w' fr a := fun t => h.rd (hF t)
theorem Turn.up (h : Turn w0.heap.size w w') {m0 : Mp} {hp0 : List (Nat × Blk)} {nx0 : Nat} (hU : Up S0 B m0 hp0 nx0 w0 m hp nx w) : Up S0 B m0 hp0 nx0 w0 m hp nx w' :=
  ⟨fun b o u hs hc => h.cell (hU.cell b o u hs hc), fun b o hs => h.stab b o (hU.st b o hs), hU.own, hU.ptr, hU.mp, fun k o hk ho => h.keep k o (hU.oth k o hk ho) (.inr (Array.getElem?_eq_some_iff.1 hk).1)⟩
theorem Turn.below (h : Turn w0.heap.size w w') (hB : B ≤ w0.heap.size) (hb : Below B w0 w) : Below B w0 w' :=
  ⟨h.os.trans hb.os, h.tape.trans hb.tape, h.output.trans hb.output, Nat.le_trans hb.size h.size, fun k hk => by
    cases hw : w0.heap[k]? with
    | none =>
      have := Array.getElem?_eq_none_iff.1 hw
      omega
    | some o => exact h.keep k o ((hb.block k hk).trans hw) (.inr (by omega))⟩
theorem Turn.putObj {D : Nat} {o o' : Obj} (hD : w.heap[D]? = some o) (ho : oth o = true) (hl : L ≤ D) : Turn L w (w.putObj D o') :=
  ⟨rfl, rfl, rfl, by simp, fun k ob hk hc => by
    by_cases e : k = D
    · subst e
      rw [hD] at hk
      simp only [Option.some.injEq] at hk
      subst hk
      rcases hc with hc | hc
      · rw [ho] at hc; simp at hc
      · omega
    · exact (World.putObj_heap_other e).trans hk⟩
theorem Turn.alloc (o : Obj) : Turn L w (w.alloc o) :=
  ⟨rfl, rfl, rfl, by simp, fun k ob hk _ => (Below.heap_alloc w o k (Array.getElem?_eq_some_iff.1 hk).1).trans hk⟩
def marks (Ds : List Nat) : List Deferred := Ds.map fun D => { target := .collected D, args := #[] }
def Marks (B : Nat) (M : Nat → Prop) (w : World) (ds : List Deferred) : Prop := ∃ Ds : List Nat, ds = marks Ds ∧ Ds.Nodup ∧ ∀ D ∈ Ds, B ≤ D ∧ M D ∧ w.heap[D]? = some (.deferred (some []))
theorem Marks.keep {M : Nat → Prop} {ds : List Deferred} (h : Marks B M w ds) (hk : ∀ (k : Nat) (o : Obj), w.heap[k]? = some o → oth o = true → w'.heap[k]? = some o) : Marks B M w' ds := by
  obtain ⟨Ds, h1, h2, h3⟩ := h
  exact ⟨Ds, h1, h2, fun D hD => ⟨(h3 D hD).1, (h3 D hD).2.1, hk D _ (h3 D hD).2.2 rfl⟩⟩
theorem Marks.nil {M : Nat → Prop} : Marks B M w [] := ⟨[], rfl, List.nodup_nil, fun D hD => by simp at hD⟩
end
end Go.Proofs.Dv
set_option linter.unusedVariables false
set_option linter.unusedSimpArgs false
namespace Go.Proofs.Dv
open Go.RowKit
section
variable {P : Program} {C : Ctx} {S0 : Nat → Nat → Prop} {B : Nat} {m : Mp} {hp hp' : List (Nat × Blk)} {nx nx' : Nat} {w w' : World} {fr : List (Nat × D)} {a : Act} {d : D}
variable {dst : Option Nat} {ty : Nat} {pos : String} {after : Array Edge} {guard : Option (Nat × Bool)} {G : Nat → Option (List D)}
theorem ment_app : ∀ (es fs : List (Value × Value)) (i : Nat), ment (es ++ fs) i = ment es i ++ ment fs (i + es.length)
  | [], fs, i => by simp [ment]
  | (k, v) :: es, fs, i => by
    simp only [List.cons_append, ment, ment_app es fs (i + 1), List.length_cons]
    congr 3; omega
theorem ment_set : ∀ (es : List (Value × Value)) (i j : Nat) (p : Value × Value), (ment (es.set j p) i) = (ment es i).modify j fun e => { e with key := p.1, val := p.2 }
  | [], i, j, p => by simp [ment]
  | (k, v) :: es, i, 0, p => by simp [ment]
  | (k, v) :: es, i, j + 1, p => by simp [ment, ment_set es (i + 1) j p]
theorem ment_get : ∀ (es : List (Value × Value)) (i j : Nat), (ment es i)[j]? = (es[j]?).map fun p => { key := p.1, val := p.2, born := i + j }
  | [], i, j => by simp [ment]
  | (k, v) :: es, i, 0 => by simp [ment]
  | (k, v) :: es, i, j + 1 => by
    simp only [ment, List.getElem?_cons_succ, ment_get es (i + 1) j]
    cases es[j]? <;> simp; omega
def kd (s : Bool) (d : TypeDesc) : Bool := match d with | .int _ => !s | .string => s | _ => false
theorem sameK_now {s : Bool} {d : TypeDesc} (hd : kd s d = true) {k k' : Value} {r : Bool} (h : sameK s k k' = some r) : Instr.sameNow d k k' = some r := by
  unfold sameK at h
  split at h
  · cases d <;> simp [kd] at hd
    simpa [Instr.sameNow] using h
  · cases d <;> simp [kd] at hd
    simpa [Instr.sameNow] using h
  · simp at h
theorem mfind_now {s : Bool} {d : TypeDesc} (hd : kd s d = true) {k : Value} : ∀ (es : List (Value × Value)) (i : Nat) (r : Option (Nat × Value)), mfind s k es i = some r → Instr.findNow d k (ment es i) i = some r
  | [], i, r, h => by simp only [mfind, Option.some.injEq] at h; subst h; rfl
  | (k', v) :: es, i, r, h => by
    simp only [mfind] at h
    split at h
    · rename_i hs
      simp only [Option.some.injEq] at h
      subst h
      simp [ment, Instr.findNow, sameK_now hd hs]
    · rename_i hs
      simp [ment, Instr.findNow, sameK_now hd hs, mfind_now hd es (i + 1) r h]
    · simp at h
theorem mfind_at {s : Bool} {k : Value} : ∀ (es : List (Value × Value)) (i j : Nat) (v : Value), mfind s k es i = some (some (j, v)) → ∃ k', i ≤ j ∧ es[j - i]? = some (k', v) ∧ sameK s k k' = some true
  | [], i, j, v, h => by simp [mfind] at h
  | (k', v') :: es, i, j, v, h => by
    simp only [mfind] at h
    split at h
    · rename_i hs
      simp only [Option.some.injEq, Prod.mk.injEq] at h
      obtain ⟨rfl, rfl⟩ := h
      exact ⟨k', Nat.le_refl _, by simp, hs⟩
    · obtain ⟨k2, h1, h2, h3⟩ := mfind_at es (i + 1) j v h
      exact ⟨k2, by omega, by rw [show j - i = (j - (i + 1)) + 1 by omega, List.getElem?_cons_succ]; exact h2, h3⟩
    · simp at h
theorem check_key {t : Nat} {dd : TypeDesc} {s : Bool} (hu : P.underlying t = some dd) (hk : kd s dd = true) (em : Bool) (k : Value) : (Instr.checkKey em 10000 t k).run P w = .ok () w := by
  unfold Instr.checkKey
  rw [Sem.run_bind, run_und hu]
  simp only [Result.andThen_ok]
  cases dd <;> simp [kd] at hk <;> cases k <;> rfl
theorem key_some {s : Bool} {t : Nat} (h : keyIs P s t = true) : ∃ dd, P.underlying t = some dd ∧ kd s dd = true := by
  obtain ⟨dd, h1, h2⟩ := und_some h
  exact ⟨dd, h1, by cases dd <;> simp [kd] at h2 ⊢ <;> exact h2⟩
theorem map_some' {t : Nat} {f : Nat → Nat → Bool} (h : mapIs P t f = true) : ∃ k e, P.underlying t = some (.map k e) ∧ f k e = true := by
  unfold mapIs at h
  split at h
  · exact ⟨_, _, ‹_›, h⟩
  · simp at h
theorem zeroOne_run {t : Nat} {z : K} (h : zeroOne P t z = true) : (zeroValue t).run P w = .ok z.val w := by
  unfold zeroOne at h
  split at h
  · rename_i i hi
    split at h
    · rename_i v hv
      rw [← keq_val h]
      simp [zeroValue, typeInfo, hi, hv]
    · simp at h
  · simp at h
theorem kone_val {z : K} {v : Value} (h : kone z = some v) : v = z.val ∧ plain v = true := by
  cases z <;> simp [kone] at h <;> subst h <;> exact ⟨rfl, rfl⟩
theorem q_mlk {t : Nat} {x k : Operand} {x' k' : Opd} {s ok ok' : Bool} {z : K} (h : (ok == ok' && oeq x x' && oeq k k' && mapIs P t fun kt et => keyIs P s kt && zeroOne P et z) = true)
    (hF : FRel S0 B m hp nx w fr a) (hH : HRel S0 B m hp nx w C.G) (he : evQ C fr hp (.mlk s ok' z x' k') = some d) :
    QV P S0 B m hp nx w a ⟨dst, .lookup t x k ok, ty, pos, after, guard⟩ d := by
  simp only [Bool.and_eq_true, beq_iff_eq] at h
  obtain ⟨⟨⟨rfl, h1⟩, h2⟩, h3⟩ := h
  obtain ⟨kt, et, hu, h4⟩ := map_some' h3
  simp only [Bool.and_eq_true] at h4
  obtain ⟨dd, hk1, hk2⟩ := key_some h4.1
  have hx := O_rd hF hH h1
  have hk := O_rd hF hH h2
  simp only [evQ] at he
  split at he
  · rename_i id kv hv1 hv2
    rw [hv1] at hx; rw [hv2] at hk
    have e2 := (Rd_v.1 hk).1
    obtain ⟨_, e1⟩ := Rd_mp.1 hx
    split at he
    · rename_i es zv hl hz
      split at he
      · simp only [Option.map_eq_some_iff] at he
        obtain ⟨r, hr, he⟩ := he
        obtain ⟨ents, g1, g2, g3, g4⟩ := (hH.bl _ _ hl).2
        obtain ⟨rfl, hzp⟩ := kone_val hz
        have hfind : (Instr.findKey kt kv ents.toList).run P w = .ok r w := Go.MapKept.run_findKey hk1 (by rw [g3]; exact mfind_now hk2 es 0 r hr)
        have hget := Go.MapKept.run_getObj_map (P := P) g1
        have run : (execOp a.eval ⟨dst, .lookup t x k ok, ty, pos, after, guard⟩).run P w = .ok (.value (match r with | some (_, v) => if ok then .tuple #[v, .bool true] else v | none => if ok then .tuple #[z.val, .bool false] else z.val)) w := by
          simp only [execOp, Instr.lookup, Sem.run_bind, run_und hu, Result.andThen_ok, e1, e2, hget, Sem.run_pure, check_key hk1 hk2, hfind]
          cases r with
          | none => simp only [Sem.run_bind, zeroOne_run h4.2, Result.andThen_ok, Sem.run_pure]; all_goals (cases ok <;> rfl)
          | some p => obtain ⟨i, v⟩ := p; simp only [Sem.run_pure, Result.andThen_ok]; all_goals (cases ok <;> rfl)
        have pr : ∀ i v, r = some (i, v) → plain v = true := by
          intro i v hri
          rw [hri] at hr
          obtain ⟨k2, _, p2, _⟩ := mfind_at es 0 i v hr
          exact g4 _ (List.mem_of_getElem? p2)
        refine ⟨_, run, ?_⟩
        subst he
        have tup : ∀ (v : Value) (b : Bool), plain v = true → RdS S0 B m hp nx w (.tup [.v v, .v (.bool b)]) (.tuple #[v, .bool b]) := by
          intro v b hv
          refine Rd_tup.2 ⟨_, rfl, rfl, fun j hj => ?_⟩
          match j, hj with
          | 0, _ => exact ⟨v, rfl, Rd_v.2 ⟨rfl, hv⟩⟩
          | 1, _ => exact ⟨.bool b, rfl, Rd_v.2 ⟨rfl, rfl⟩⟩
          | j + 2, hj => exact absurd hj (by simp)
        cases r with
        | none =>
          cases ok
          · exact Rd_v.2 ⟨rfl, hzp⟩
          · exact tup _ _ hzp
        | some p =>
          obtain ⟨i, v⟩ := p
          cases ok
          · exact Rd_v.2 ⟨rfl, pr i v rfl⟩
          · exact tup _ _ (pr i v rfl)
      · simp at he
    · simp at he
  · simp at he
theorem q_slc {t : Nat} {x hi : Operand} {x' h' : Opd} (h : (oeq x x' && oeq hi h' && elemIs P t fun e => (P.info? e).isSome) = true)
    (hF : FRel S0 B m hp nx w fr a) (hH : HRel S0 B m hp nx w C.G) (he : evQ C fr hp (.slc x' h') = some d) :
    QV P S0 B m hp nx w a ⟨dst, .slice t x none (some hi) none, ty, pos, after, guard⟩ d := by
  simp only [Bool.and_eq_true] at h
  obtain ⟨⟨h1, h2⟩, h3⟩ := h
  obtain ⟨e, hu, h4⟩ := elem_some h3
  obtain ⟨i, hi'⟩ := Option.isSome_iff_exists.1 h4
  have hx := O_rd hF hH h1
  have hk := O_rd hF hH h2
  simp only [evQ] at he
  split at he
  · rename_i ex es kk n hv1 hv2
    rw [hv1] at hx; rw [hv2] at hk
    have e2 := (Rd_v.1 hk).1
    obtain ⟨A, cap, sz, e1, c1, c2, c3, c4, c5⟩ := Rd_lst.1 hx
    split at he
    · rename_i hn
      obtain ⟨n1, n2⟩ := hn
      simp only [Option.some.injEq] at he
      subst he
      obtain ⟨q, rfl⟩ := Int.eq_ofNat_of_zero_le n1
      have hq : q ≤ es.length := by omega
      have hqc : (q : Int) ≤ (cap : Int) := by omega
      have hqc' : q ≤ cap := by omega
      have run : (execOp a.eval ⟨dst, .slice t x none (some hi) none, ty, pos, after, guard⟩).run P w = .ok (.value (.slice A q cap)) w := by
        simp [execOp, Instr.sliceAt, Instr.slice, run_und hu, e1, e2, Instr.sliceBounds, Instr.sliceBound, asIntOf, hqc', Go.sizeOf, typeInfo, hi']
        intro _
        cases A with
        | none => rfl
        | some ad => simp only [Option.map_some, Option.some.injEq]; unfold Addr.add; rcases ad with ⟨b, o, _ | s⟩ <;> simp
      refine ⟨_, run, Rd_lst.2 ⟨A, cap, sz, ?_, ?_, c2, fun h => by simp at h, fun e he => c4 e (List.mem_of_mem_take he), fun hp => ?_⟩⟩
      · simp; omega
      · simp; omega
      · simp only [List.length_take] at hp
        obtain ⟨b, o, rfl, c6⟩ := c5 (by omega)
        refine ⟨b, o, rfl, fun i hi j hj => ?_⟩
        simp only [List.length_take] at hi
        simp only [List.getElem_take] at hj ⊢
        exact c6 i (by omega) j hj
    · simp at he
  · simp at he
theorem setBlock_other {w : World} {r k : Nat} {o : Obj} (h : k ≠ r) : ({ w with heap := w.heap.setIfInBounds r o } : World).heap[k]? = w.heap[k]? := by
  simp only [Array.getElem?_setIfInBounds]
  rw [if_neg (fun e => h e.symm)]
theorem set_map {id : Nat} {es es' : List (Value × Value)} {ents : Array MapEntry} (hH : HRel S0 B m hp nx w G) (hl : lkh hp id = some (.map es))
    (hs : w'.heap.size = w.heap.size) (ho : ∀ k, k ≠ m.ρ id → w'.heap[k]? = w.heap[k]?) (hg : w'.heap[m.ρ id]? = some (.map ents es'.length)) (he : ents.toList = ment es' 0) (hpl : ∀ p ∈ es', plain p.2 = true) :
    HRel S0 B m (uph hp id (.map es')) nx w' G ∧ Up S0 B m hp nx w m (uph hp id (.map es')) nx w' := by
  have hid := (hH.bl _ _ hl).1
  have hm : ∀ k, mine m hp id k → k = m.ρ id := by
    rintro k ⟨b, h1, h2⟩
    rw [hl] at h1; simp only [Option.some.injEq] at h1; subst h1
    simp only [blkOf, Option.some.injEq] at h2; exact h2.symm
  obtain ⟨ents0, g1, g2, _⟩ := (hH.bl _ _ hl).2
  have hc' : Chg m hp nx w id (.map es') m (uph hp id (.map es')) nx w' S0 B := by
    refine ⟨hid, Nat.le_refl _, lkh_uph hp hl, fun _ _ => rfl, fun _ _ => rfl, by omega, fun k hk => ?_, fun k o u h h2 h3 => ?_, fun k hk => ?_, fun k o hn hk h h2 => ?_, fun n u h => ?_⟩
    · by_cases hk' : k = m.ρ id
      · exact .inl ⟨_, hl, by simp [blkOf, hk']⟩
      · exact .inr (ho k hk')
    · have := hm k h; subst this
      simp [World.cell?, g1] at h3
    · exact .inl ⟨_, hl, by simpa [blkOf] using hk⟩
    · exact absurd rfl (hn es')
    · refine ⟨h.1, h.2.1, fun z els hl' => ?_, fun cells hl' => by
        rw [lkh_uph hp hl, if_pos rfl] at hl'
        simp at hl'⟩
      rw [lkh_uph hp hl, if_pos rfl] at hl'
      simp at hl'
  have hup := hc'.up hH
  exact ⟨hc'.hrel hH ⟨ents, hg, g2, he, hpl⟩, hup⟩
theorem new_map (hH : HRel S0 B m hp nx w G) (hb : Below w.heap.size w w') (hg : w'.heap[w.heap.size]? = some (.map #[] 0)) :
    HRel S0 B ⟨upd m.ρ nx w.heap.size, m.sv⟩ ((nx, .map []) :: hp) (nx + 1) w' G ∧ Up S0 B m hp nx w ⟨upd m.ρ nx w.heap.size, m.sv⟩ ((nx, .map []) :: hp) (nx + 1) w' ∧
      RdS S0 B ⟨upd m.ρ nx w.heap.size, m.sv⟩ ((nx, .map []) :: hp) (nx + 1) w' (.mp nx) (.map (some w.heap.size)) := by
  have hn := lkh_nx hH
  have hnm : ∀ k, ¬ mine m hp nx k := by rintro k ⟨b, h, _⟩; rw [hn] at h; simp at h
  have hc' : Chg m hp nx w nx (.map []) ⟨upd m.ρ nx w.heap.size, m.sv⟩ ((nx, .map []) :: hp) (nx + 1) w' S0 B := by
    refine ⟨by omega, by omega, fun i => by simp [lkh], fun i hi => by simp [upd]; omega, fun i _ => rfl, hb.size, fun k hk => .inr (hb.block k hk), fun k o u h => (hnm k h).elim, fun k hk => ?_, fun k o _ hk h => (hnm k h).elim, fun n u h => ?_⟩
    · simp only [blkOf, upd, if_true, Option.some.injEq] at hk
      exact .inr (by omega)
    · have := h.1; omega
  have hup := hc'.up hH
  exact ⟨hc'.hrel hH ⟨#[], by simpa [upd] using hg, by simpa [upd] using hH.hB, rfl, by simp⟩, hup, Rd_mp.2 ⟨by omega, by simp [upd]⟩⟩
theorem e_mmk {t : Nat} (hH : HRel S0 B m hp nx w C.G) (he : evE C fr hp nx .mmk = some (d, hp', nx')) :
    EV P S0 B C.G m hp nx w a ⟨dst, .makeMap t none, ty, pos, after, guard⟩ d hp' nx' := by
  simp only [evE, Option.some.injEq, Prod.mk.injEq] at he
  obtain ⟨rfl, rfl, rfl⟩ := he
  intro KK Q hK
  have hb := below_alloc w (.map #[] 0)
  obtain ⟨h1, h2, h3⟩ := new_map hH hb (heap_alloc_new w _)
  refine wp_val (v := .map (some w.heap.size)) (w' := w.alloc (.map #[] 0)) ?_ (hK _ _ _ h1 h2 (hb.mono hH.hB) h3)
  simp [execOp, Instr.makeMap]
theorem sameBits_of {s : Bool} {k k' : Value} (h : sameK s k k' = some true) : Instr.sameBits 10000 k' k = true := by
  unfold sameK at h
  split at h
  · split at h
    · rename_i hk
      simp only [Option.some.injEq, beq_iff_eq] at h
      subst hk h
      simp [Instr.sameBits]
    · simp at h
  · simp only [Option.some.injEq] at h
    simp only [Instr.sameBits]
    rw [Go.MapKept.bytes_beq] at h ⊢
    exact h.symm
  · simp at h
theorem e_mup {t : Nat} {x k y : Operand} {x' k' y' : Opd} {s : Bool} (h : (oeq x x' && oeq k k' && oeq y y' && mapIs P t fun kt et => keyIs P s kt) = true)
    (hF : FRel S0 B m hp nx w fr a) (hH : HRel S0 B m hp nx w C.G) (he : evE C fr hp nx (.mup s x' k' y') = some (d, hp', nx')) :
    EV P S0 B C.G m hp nx w a ⟨dst, .mapUpdate t x k y, ty, pos, after, guard⟩ d hp' nx' ∧ EV P S0 B C.G m hp nx w a ⟨dst, .insert t x k y, ty, pos, after, guard⟩ d hp' nx' := by
  simp only [Bool.and_eq_true] at h
  obtain ⟨⟨⟨h1, h2⟩, h3⟩, h4⟩ := h
  obtain ⟨kt, et, hu, h5⟩ := map_some' h4
  obtain ⟨dd, hk1, hk2⟩ := key_some h5
  have hx := O_rd hF hH h1
  have hk := O_rd hF hH h2
  have hy := O_rd hF hH h3
  simp only [evE] at he
  split at he
  · rename_i id kv yv hv1 hv2 hv3
    rw [hv1] at hx; rw [hv2] at hk; rw [hv3] at hy
    have e2 := (Rd_v.1 hk).1
    have e3 := (Rd_v.1 hy).1
    obtain ⟨_, e1⟩ := Rd_mp.1 hx
    split at he
    · rename_i es hl
      split at he
      · rename_i hc
        simp only [Bool.and_eq_true] at hc
        simp only [Option.map_eq_some_iff] at he
        obtain ⟨r, hr, he⟩ := he
        obtain ⟨ents, g1, g2, g3, g4⟩ := (hH.bl _ _ hl).2
        have hfind : (Instr.findKey kt kv ents.toList).run P w = .ok r w := Go.MapKept.run_findKey hk1 (by rw [g3]; exact mfind_now hk2 es 0 r hr)
        have hget := Go.MapKept.run_getObj_map (P := P) g1
        suffices hh : ∃ ents' es', d = .tup [] ∧ hp' = uph hp id (.map es') ∧ nx' = nx ∧ ents'.toList = ment es' 0 ∧ (∀ p ∈ es', plain p.2 = true) ∧
            (Instr.mapUpdate t (a.eval x) (a.eval k) (a.eval y)).run P w = .ok () { w with heap := w.heap.setIfInBounds (m.ρ id) (.map ents' es'.length) } by
          obtain ⟨ents', es', rfl, rfl, rfl, q1, q2, q3⟩ := hh
          have hlt : m.ρ id < w.heap.size := (Array.getElem?_eq_some_iff.1 g1).1
          obtain ⟨s1, s2⟩ := set_map (w' := { w with heap := w.heap.setIfInBounds (m.ρ id) (.map ents' es'.length) }) (es' := es') hH hl (by simp) (fun k hk => setBlock_other hk) (by simp [hlt]) q1 q2
          have hbel : Below B w { w with heap := w.heap.setIfInBounds (m.ρ id) (.map ents' es'.length) } := ⟨rfl, rfl, rfl, by simp, fun k hk => setBlock_other (by omega)⟩
          have hrd : RdS S0 B m (uph hp id (.map es')) nx' { w with heap := w.heap.setIfInBounds (m.ρ id) (.map ents' es'.length) } (.tup []) undef := Rd_tup.2 ⟨#[], rfl, rfl, fun j hj => by simp at hj⟩
          constructor <;>
          · intro KK Q hK
            refine wp_skp ?_ (hK _ _ _ s1 s2 hbel hrd)
            simp only [execOp, Sem.run_bind, q3, Result.andThen_ok, Sem.run_pure]
        have hcap : m.ρ id < w.heap.size := (Array.getElem?_eq_some_iff.1 g1).1
        cases r with
        | none =>
          simp only [Prod.mk.injEq] at he
          obtain ⟨rfl, rfl, rfl⟩ := he
          refine ⟨ents.push { key := kv, val := yv, born := es.length }, es ++ [(kv, yv)], rfl, rfl, rfl, ?_, ?_, ?_⟩
          · simp [g3, ment_app, ment]
          · intro p hp
            rcases List.mem_append.1 hp with h | h
            · exact g4 p h
            · simp only [List.mem_singleton] at h; subst h; exact hc.2
          · simp only [Instr.mapUpdate, Sem.run_bind, run_und hu, Result.andThen_ok, e1, e2, e3, hget, check_key hk1 hk2, hfind, Go.MapKept.run_setObj_map _ g1]
            simp
        | some p =>
          obtain ⟨i, v⟩ := p
          simp only [Prod.mk.injEq] at he
          obtain ⟨rfl, rfl, rfl⟩ := he
          obtain ⟨k2, _, p2, p3⟩ := mfind_at es 0 i v hr
          simp only [Nat.sub_zero] at p2
          have hent : ents[i]? = some { key := k2, val := v, born := i } := by
            have := ment_get es 0 i
            rw [p2] at this
            rw [← Array.getElem?_toList, g3, this]
            simp
          refine ⟨ents.modify i fun e => { e with key := kv, val := yv }, es.set i (kv, yv), rfl, rfl, rfl, ?_, ?_, ?_⟩
          · rw [ment_set, Array.toList_modify, g3]
          · intro p hp
            rcases List.mem_or_eq_of_mem_set hp with h | h
            · exact g4 p h
            · subst h; exact hc.2
          · have hbits := sameBits_of p3
            have hstay : (Instr.keyThatStays k2 kv).run P w = .ok kv w := by
              unfold Instr.keyThatStays
              rw [if_pos hbits]; rfl
            simp only [Instr.mapUpdate, Sem.run_bind, run_und hu, Result.andThen_ok, e1, e2, e3, hget, check_key hk1 hk2, hfind, hent, Option.map_some, Option.getD_some, hstay, Go.MapKept.run_setObj_map _ g1]
            simp
      · simp at he
    · simp at he
  · simp at he
end
end Go.Proofs.Dv
set_option linter.unusedVariables false
set_option linter.unusedSimpArgs false
namespace Go.Proofs.Dv
open Go.RowKit
def Ret (R : Value → World → Prop) : Ending → World → Prop
  | .returned v, w => R v w
  | _, _ => False
def callable (P : Program) (f : Nat) : Bool := match P.funcs[f]? with
  | some fn => fn.name != "runtime.NumGoroutine" && fn.body.isSome
  | none => false
def Args (w : World) (S : Nat → Nat → Prop) (X : Option Env) (vs : Array Value) (ds : List D) : Prop := vs.size = ds.length ∧ ∀ j (h : j < ds.length), ∃ v, vs[j]? = some v ∧ Rd w S X ds[j] v
def PureC (P : Program) (G : Nat → Option (List D)) (f : Nat) (s : List D → Option D) : Prop :=
  callable P f = true ∧ ∀ (w : World) (S : Nat → Nat → Prop) (vs : Array Value) (ds : List D) (r : D), (∀ b o, S b o → b < w.heap.size) →
    (∀ g cs, G g = some cs → Rd w S none (.rp cs) (.pointer (some ⟨g, 0, none⟩))) → Args w S none vs ds → s ds = some r →
    Calls P f vs w (Ret fun v w' => Below w.heap.size w w' ∧ Rd w' (fun b o => S b o ∨ (w.heap.size ≤ b ∧ b < w'.heap.size)) none r v)
def CalC (P : Program) (G : Nat → Option (List D)) (f : Nat) (ds : List D) (hp : List (Nat × Blk)) (nx : Nat) (d : D) (hp' : List (Nat × Blk)) (nx' : Nat) : Prop :=
  callable P f = true ∧ ∀ (S0 : Nat → Nat → Prop) (B : Nat) (m : Mp) (w : World) (vs : Array Value), HRel S0 B m hp nx w G → Args w (stab S0 B m hp w) (some (env m hp nx)) vs ds →
    Calls P f vs w (Ret fun v w' => ∃ m', HRel S0 B m' hp' nx' w' G ∧ Up S0 B m hp nx w m' hp' nx' w' ∧ Below B w w' ∧ nx ≤ nx' ∧ RdS S0 B m' hp' nx' w' d v)
def IterC (P : Program) (g : Nat) (cs : Array Value) (xs : List (List D)) (S : Nat → Nat → Prop) (w : World) : Prop :=
  ∀ (l : Nat) (J : Nat → (Nat → Nat → Prop) → World → Prop) (Jx : World → Prop) (W : World), Below w.heap.size w W →
    (∀ k T X Y, J k T X → Turn W.heap.size X Y → J k (fun b o => T b o ∨ (X.heap.size ≤ b ∧ b < Y.heap.size)) Y) →
    (∀ X Y, Jx X → Turn W.heap.size X Y → Jx Y) →
    (∀ k x T X ds, xs[k]? = some ds → Args X T none x ds → J k T X → YieldAt Fence.wide 0 P l x X fun e Y =>
      (e = .returned (.bool true) ∧ J (k + 1) T Y ∧ X.heap.size ≤ Y.heap.size ∧ (∀ b o u, T b o → X.cell? ⟨b, o, none⟩ = some u → Y.cell? ⟨b, o, none⟩ = some u) ∧ (∀ b ob, X.heap[b]? = some ob → oth ob = true → b ≠ l → Y.heap[b]? = some ob)) ∨
      (e = .returned (.bool false) ∧ Jx Y)) →
    J 0 S W → Calls P g (#[.func (.yield l) #[] #[]] ++ cs) W fun e W' => (∃ v, e = .returned v) ∧ ((∃ T, J xs.length T W') ∨ Jx W')
def IterOK (P : Program) (gf : Nat) (caps : List D) (xs : List (List D)) : Prop :=
  callable P gf = true ∧ ∀ (w : World) (S : Nat → Nat → Prop) (cs : Array Value), (∀ b o, S b o → b < w.heap.size) → Args w S none cs caps → IterC P gf cs xs S w
structure CtxOK (P : Program) (C : Ctx) : Prop where
  T : ∀ f s, C.T f = some s → PureC P C.G f s
  cal : ∀ f ds hp nx d hp' nx', C.cal f ds hp nx = some (d, hp', nx') → CalC P C.G f ds hp nx d hp' nx'
  I : ∀ gf caps xs, C.I gf caps = some xs → IterOK P gf caps xs
section
variable {P : Program} {C : Ctx} {S0 : Nat → Nat → Prop} {B : Nat} {m : Mp} {hp hp' : List (Nat × Blk)} {nx nx' : Nat} {w : World} {fr : List (Nat × D)} {a : Act} {d : D}
variable {dst : Option Nat} {ty : Nat} {pos : String} {after : Array Edge} {guard : Option (Nat × Bool)}
theorem args_rd (hF : FRel S0 B m hp nx w fr a) (hH : HRel S0 B m hp nx w C.G) : ∀ {xs : List Operand} {ys : List Opd}, oeqs xs ys = true → xs.length = ys.length ∧ ∀ j (h : j < xs.length) (h' : j < ys.length), RdS S0 B m hp nx w (evO C fr ys[j]) (a.eval xs[j]) := by
  intro xs
  induction xs with
  | nil => intro ys h; cases ys <;> simp [oeqs] at h ⊢
  | cons x xs ih =>
    intro ys h
    cases ys with
    | nil => simp [oeqs] at h
    | cons y ys =>
      simp only [oeqs, Bool.and_eq_true] at h
      obtain ⟨g1, g2⟩ := ih h.2
      refine ⟨by simp [g1], fun j h3 h4 => ?_⟩
      cases j with
      | zero => exact O_rd hF hH h.1
      | succ j => simpa using g2 j (by simpa using h3) (by simpa using h4)
theorem call_args {as : Array Operand} {args : List Opd} {caps : List D} {cs : Array Value} (h : oeqs as.toList args = true) (hF : FRel S0 B m hp nx w fr a) (hH : HRel S0 B m hp nx w C.G)
    (hc : cs.size = caps.length) (hcr : ∀ j (h : j < caps.length), ∃ c, cs[j]? = some c ∧ RdS S0 B m hp nx w caps[j] c) :
    Args w (stab S0 B m hp w) (some (env m hp nx)) (as.map a.eval ++ cs) (args.map (evO C fr) ++ caps) := by
  obtain ⟨g1, g2⟩ := args_rd hF hH h
  have hs : as.size = args.length := by simpa using g1
  refine ⟨by simp [hs, hc], fun j hj => ?_⟩
  by_cases hlt : j < args.length
  · have hj' : j < as.size := by omega
    refine ⟨a.eval as[j], ?_, ?_⟩
    · rw [Array.getElem?_append_left (by simpa [hs] using hlt)]
      simp [hj']
    · rw [List.getElem_append_left (by simpa using hlt)]
      have := g2 j (by simpa using hj') hlt
      simpa using this
  · simp only [List.length_append, List.length_map] at hj
    obtain ⟨c, c1, c2⟩ := hcr (j - args.length) (by omega)
    refine ⟨c, ?_, ?_⟩
    · rw [Array.getElem?_append_right (by simp; omega)]
      simpa [hs] using c1
    · rw [List.getElem_append_right (by simp; omega)]
      simpa using c2
theorem run_call {f : Operand} {as : Array Operand} {ts : Array Nat} {n : Nat} {cs : Array Value} (hf : a.eval f = .func (.func n) #[] cs) (hc : callable P n = true) :
    (execOp a.eval ⟨dst, .call { callee := .value f, args := as, argTypes := ts }, ty, pos, after, guard⟩).run P w = .ok (.enter n (as.map a.eval ++ cs)) w := by
  unfold callable at hc
  split at hc
  · rename_i fn hfn
    simp only [Bool.and_eq_true, bne_iff_ne, ne_eq, Option.isSome_iff_exists] at hc
    obtain ⟨h1, b, h2⟩ := hc
    have e1 : (fn.name == "runtime.NumGoroutine") = false := by simpa using h1
    have e2 : fn.body.isNone = false := by rw [h2]; rfl
    simp only [execOp, resolve, hf, Deferred.ofValue, Sem.run_bind, Sem.run_pure, Result.andThen_ok, invoke, callFunc, run_program, hfn, e1, e2, Bool.false_eq_true, if_false]
    simp
  · simp at hc
theorem rd_expos {G : Nat → Option (List D)} {vs : Array Value} {ds es : List D} (hH : HRel S0 B m hp nx w G) (h : expo.expos hp ds = some es) (hr : Args w (stab S0 B m hp w) (some (env m hp nx)) vs ds) : Args w (stab S0 B m hp w) none vs es := by
  obtain ⟨g1, g2⟩ := expos_get _ _ h
  refine ⟨hr.1.trans g1.symm, fun j hj => ?_⟩
  obtain ⟨v, v1, v2⟩ := hr.2 j (by omega)
  exact ⟨v, v1, expo_rd hH _ _ _ (g2 j (by omega) hj) v2⟩
theorem stab_bound (hB : B ≤ w.heap.size) (b o : Nat) (h : stab S0 B m hp w b o) : b < w.heap.size := by
  rcases h with h | h
  · exact Nat.lt_of_lt_of_le h.1 hB
  · exact h.2.1
theorem stab_call {G : Nat → Option (List D)} (hH : HRel S0 B m hp nx w G) {w' : World} (hb : Below w.heap.size w w') (b o : Nat) (h : stab S0 B m hp w b o ∨ (w.heap.size ≤ b ∧ b < w'.heap.size)) : stab S0 B m hp w' b o := by
  rcases h with h | ⟨h1, h2⟩
  · exact stab_grow hb b o h
  · refine .inr ⟨Nat.le_trans hH.hB h1, h2, fun id cs hl e => ?_, fun id z els hl e => ?_⟩
    · have := (blk_lt (hH.bl _ _ hl).2 (k := m.ρ id) rfl).2; omega
    · have := (blk_lt (hH.bl _ _ hl).2 (k := b) e).2; omega
theorem q_call (hC : CtxOK P C) {f : Operand} {as : Array Operand} {ts : Array Nat} {g : Opd} {args : List Opd} (h : (oeq f g && oeqs as.toList args) = true)
    (hF : FRel S0 B m hp nx w fr a) (hH : HRel S0 B m hp nx w C.G) (he : evQ C fr hp (.call g args) = some d) :
    QW P S0 B m hp nx w a ⟨dst, .call { callee := .value f, args := as, argTypes := ts }, ty, pos, after, guard⟩ d := by
  simp only [Bool.and_eq_true] at h
  have hf := O_rd hF hH h.1
  simp only [evQ] at he
  cases hv : evO C fr g with
  | fn n caps =>
    rw [hv] at he hf
    simp only at he
    obtain ⟨cs, e1, e2, e3⟩ := Rd_fn.1 hf
    cases hT : C.T n with
    | none => rw [hT] at he; simp at he
    | some s =>
      rw [hT] at he
      simp only [Option.bind_eq_some_iff] at he
      obtain ⟨ds, he1, he2⟩ := he
      obtain ⟨hcl, hpu⟩ := hC.T n s hT
      intro KK Q hK
      have hargs := rd_expos hH he1 (call_args h.2 hF hH e2 e3)
      have := hpu w (stab S0 B m hp w) _ ds d (stab_bound hH.hB) hH.gl hargs he2
      unfold Oper.wp
      rw [run_call e1 hcl]
      rw [Oper.upon_enter]
      refine Calls.mono this fun e w' hr => ?_
      cases e with
      | returned v =>
        obtain ⟨hb, hrd⟩ := hr
        refine hK v w' hb ?_
        exact (Rd.mono (fun _ _ _ _ h => h) (stab_call hH hb) d none none v (fun E h => by cases h) hrd).open_
      | _ => exact hr.elim
  | _ => rw [hv] at he; simp at he
theorem exposP_get : ∀ (ds es : List D), expoP.expos hp ds = some es → es.length = ds.length ∧ ∀ j (h : j < ds.length) (h' : j < es.length), expoP hp ds[j] = some es[j] := by
  intro ds
  induction ds with
  | nil => intro es h; simp only [expoP.expos, Option.some.injEq] at h; subst h; simp
  | cons d ds ih =>
    intro es h
    simp only [expoP.expos, Option.bind_eq_some_iff, Option.map_eq_some_iff] at h
    obtain ⟨e, h1, es', h2, rfl⟩ := h
    obtain ⟨g1, g2⟩ := ih es' h2
    refine ⟨by simp [g1], fun j h h' => ?_⟩
    cases j with
    | zero => exact h1
    | succ j => exact g2 j (by simpa using h) (by simpa using h')
theorem expoP_rd {G : Nat → Option (List D)} {S : Nat → Nat → Prop} (hH : HRel S0 B m hp nx w G) (hS : ∀ b o, stab S0 B m hp w b o → S b o) (hS2 : ∀ b o, B ≤ b → b < w.heap.size → S b o) :
    ∀ (d e : D) (v : Value), expoP hp d = some e → RdS S0 B m hp nx w d v → Rd w S none e v
  | .v x, e, v, h, hr => by simp only [expoP, Option.some.injEq] at h; subst h; exact Rd_v.2 (Rd_v.1 hr)
  | .lst b es, e, v, h, hr => by simp only [expoP, Option.some.injEq] at h; subst h; exact Rd.mono (fun _ _ _ _ h => h) hS _ none none _ (fun E h => by cases h) (Rd.closed _ _ _ rfl hr)
  | .rp cs, e, v, h, hr => by simp only [expoP, Option.some.injEq] at h; subst h; exact Rd.mono (fun _ _ _ _ h => h) hS _ none none _ (fun E h => by cases h) (Rd.closed _ _ _ rfl hr)
  | .agg ds, e, v, h, hr => by
    simp only [expoP, Option.map_eq_some_iff] at h
    obtain ⟨es, h1, rfl⟩ := h
    obtain ⟨g1, g2⟩ := exposP_get _ _ h1
    obtain ⟨cs, rfl, h3, h4⟩ := Rd_agg.1 hr
    refine Rd_agg.2 ⟨cs, rfl, h3.trans g1.symm, fun j hj => ?_⟩
    obtain ⟨c, c1, c2, c3⟩ := h4 j (by omega)
    exact ⟨c, c1, c2, expoP_rd hH hS hS2 ds[j] es[j] c (g2 j (by omega) hj) c3⟩
  | .fn f ds, e, v, h, hr => by
    simp only [expoP, Option.map_eq_some_iff] at h
    obtain ⟨es, h1, rfl⟩ := h
    obtain ⟨g1, g2⟩ := exposP_get _ _ h1
    obtain ⟨cs, rfl, h3, h4⟩ := Rd_fn.1 hr
    refine Rd_fn.2 ⟨cs, rfl, h3.trans g1.symm, fun j hj => ?_⟩
    obtain ⟨c, c1, c3⟩ := h4 j (by omega)
    exact ⟨c, c1, expoP_rd hH hS hS2 ds[j] es[j] c (g2 j (by omega) hj) c3⟩
  | .tup ds, e, v, h, hr => by
    simp only [expoP, Option.map_eq_some_iff] at h
    obtain ⟨es, h1, rfl⟩ := h
    obtain ⟨g1, g2⟩ := exposP_get _ _ h1
    obtain ⟨cs, rfl, h3, h4⟩ := Rd_tup.1 hr
    refine Rd_tup.2 ⟨cs, rfl, h3.trans g1.symm, fun j hj => ?_⟩
    obtain ⟨c, c1, c3⟩ := h4 j (by omega)
    exact ⟨c, c1, expoP_rd hH hS hS2 ds[j] es[j] c (g2 j (by omega) hj) c3⟩
  | .own id n, e, v, h, hr => by
    simp only [expoP] at h
    split at h
    · rename_i z els hl
      split at h
      · rename_i hn
        simp only [Option.some.injEq] at h
        subst h
        obtain ⟨_, _, h1, _⟩ := Rd_own.1 hr
        rw [(h1 _ _ hl).2 hn]
        exact Rd.mono (fun _ _ _ _ h => h) hS _ none none _ (fun E h => by cases h) (row_rd hH hl)
      · simp at h
    · rename_i cells hl
      split at h
      · rename_i hn
        simp only [Option.some.injEq] at h
        subst h
        obtain ⟨_, _, _, h1⟩ := Rd_own.1 hr
        obtain ⟨c, e1, e2, e3⟩ := h1 _ hl
        obtain ⟨arr, T, g1, g2, g3, g4⟩ := (hH.bl _ _ hl).2
        have hlt : m.ρ id < w.heap.size := (Array.getElem?_eq_some_iff.1 g1).1
        refine Rd_lst.2 ⟨some ⟨m.ρ id, 0, none⟩, c, 1, by simp [e1, hn.1], by simpa [hn.1] using e2, e3, fun h => by simp at h, fun e he => ?_, fun _ => ⟨_, _, rfl, fun i hi j hj => ?_⟩⟩
        · obtain ⟨x, _, rfl⟩ := List.mem_map.1 he; rfl
        · simp only [List.length_map] at hi
          simp only [List.getElem_map, List.length_singleton] at hj
          obtain rfl : j = 0 := by omega
          obtain ⟨u, u1, u2, u3⟩ := g4 i hi
          refine ⟨u, ?_, hS2 _ _ g2 hlt, u2, ?_⟩
          · rw [cell_blk g1]
            simpa using u1
          · simp only [List.getElem_map, List.getElem_cons_zero]
            exact Rd.mono (fun _ _ _ _ h => h) hS _ none none _ (fun E h => by cases h) (Rd.closed _ _ _ (cls_get hn.2 i hi) u3)
      · simp at h
    · simp at h
  | .ptr id o, e, v, h, hr => by simp [expoP] at h
  | .mp id, e, v, h, hr => by simp [expoP] at h
  | .junk, e, v, h, hr => by simp [expoP] at h
termination_by d => SizeOf.sizeOf d
decreasing_by
  all_goals
    have := sz_get (ds := ds) (j := j) (by omega)
    simp; omega
theorem q_peek (hC : CtxOK P C) {f : Operand} {as : Array Operand} {ts : Array Nat} {g : Opd} {args : List Opd} (h : (oeq f g && oeqs as.toList args) = true)
    (hF : FRel S0 B m hp nx w fr a) (hH : HRel S0 B m hp nx w C.G) (he : evQ C fr hp (.peek g args) = some d) :
    QW P S0 B m hp nx w a ⟨dst, .call { callee := .value f, args := as, argTypes := ts }, ty, pos, after, guard⟩ d := by
  simp only [Bool.and_eq_true] at h
  have hf := O_rd hF hH h.1
  simp only [evQ] at he
  cases hv : evO C fr g with
  | fn n caps =>
    rw [hv] at he hf
    simp only at he
    obtain ⟨cs, e1, e2, e3⟩ := Rd_fn.1 hf
    cases hT : C.T n with
    | none => rw [hT] at he; simp at he
    | some s =>
      rw [hT] at he
      simp only [Option.bind_eq_some_iff] at he
      obtain ⟨r, ⟨ds, he1, he2⟩, he3⟩ := he
      split at he3
      · rename_i hsc
        simp only [Option.some.injEq] at he3
        subst he3
        obtain ⟨hcl, hpu⟩ := hC.T n s hT
        intro KK Q hK
        have hS : ∀ b o, stab S0 B m hp w b o → b < w.heap.size := stab_bound hH.hB
        have hr := call_args h.2 hF hH e2 e3
        have hargs : Args w (fun b _ => b < w.heap.size) none (as.map a.eval ++ cs) ds := by
          obtain ⟨g1, g2⟩ := exposP_get _ _ he1
          refine ⟨hr.1.trans g1.symm, fun j hj => ?_⟩
          obtain ⟨v, v1, v2⟩ := hr.2 j (by omega)
          exact ⟨v, v1, expoP_rd hH hS (fun _ _ _ h => h) _ _ _ (g2 j (by omega) hj) v2⟩
        have := hpu w (fun b _ => b < w.heap.size) _ ds r (fun _ _ h => h) (fun g cs hg => Rd.mono (fun _ _ _ _ h => h) hS _ none none _ (fun E h => by cases h) (hH.gl g cs hg)) hargs he2
        unfold Oper.wp
        rw [run_call e1 hcl]
        rw [Oper.upon_enter]
        refine Calls.mono this fun e w' hr => ?_
        cases e with
        | returned v =>
          obtain ⟨hb, hrd⟩ := hr
          refine hK v w' hb ?_
          cases r <;> simp [scal] at hsc
          exact Rd_v.2 (Rd_v.1 hrd)
        | _ => exact hr.elim
      · simp at he3
  | _ => rw [hv] at he; simp at he
def EV' (P : Program) (S0 : Nat → Nat → Prop) (B : Nat) (G : Nat → Option (List D)) (m : Mp) (hp : List (Nat × Blk)) (nx : Nat) (w : World) (a : Act) (o : Oper) (d : D) (hp' : List (Nat × Blk)) (nx' : Nat) : Prop :=
  ∀ (K : Act → World → Prop) (Q : Exit → Act → World → Prop), (∀ v m' w', nx ≤ nx' → HRel S0 B m' hp' nx' w' G → Up S0 B m hp nx w m' hp' nx' w' → Below B w w' → RdS S0 B m' hp' nx' w' d v → K (a.put o.dst v) w') → o.wp P a w K Q
theorem EV.of {o : Oper} {G : Nat → Option (List D)} (hn : nx ≤ nx') (h : EV P S0 B G m hp nx w a o d hp' nx') : EV' P S0 B G m hp nx w a o d hp' nx' :=
  fun K Q hK => h K Q fun v m' w' => hK v m' w' hn
theorem e_call (hC : CtxOK P C) {f : Operand} {as : Array Operand} {ts : Array Nat} {g : Opd} {args : List Opd} (h : (oeq f g && oeqs as.toList args) = true)
    (hF : FRel S0 B m hp nx w fr a) (hH : HRel S0 B m hp nx w C.G) (he : evE C fr hp nx (.call g args) = some (d, hp', nx')) :
    EV' P S0 B C.G m hp nx w a ⟨dst, .call { callee := .value f, args := as, argTypes := ts }, ty, pos, after, guard⟩ d hp' nx' := by
  simp only [Bool.and_eq_true] at h
  have hf := O_rd hF hH h.1
  simp only [evE] at he
  cases hv : evO C fr g with
  | fn n caps =>
    rw [hv] at he hf
    simp only at he
    obtain ⟨cs, e1, e2, e3⟩ := Rd_fn.1 hf
    obtain ⟨hcl, hpc⟩ := hC.cal _ _ _ _ _ _ _ he
    intro KK Q hK
    have := hpc S0 B m w _ hH (call_args h.2 hF hH e2 e3)
    unfold Oper.wp
    rw [run_call e1 hcl, Oper.upon_enter]
    refine Calls.mono this fun e w' hr => ?_
    cases e with
    | returned v =>
      obtain ⟨m', h1, h2, h3, h5, h4⟩ := hr
      exact hK v m' w' h5 h1 h2 h3 h4
    | _ => exact hr.elim
  | _ => rw [hv] at he; simp at he
set_option maxHeartbeats 1000000 in
theorem q_all (hC : CtxOK P C) {o : Oper} {i : IOp} (h : opeq P o.op i = true) (hF : FRel S0 B m hp nx w fr a) (hH : HRel S0 B m hp nx w C.G) (hq : isQ C fr i = true) (he : evQ C fr hp i = some d) :
    QW P S0 B m hp nx w a o d := by
  obtain ⟨dst, op, ty, pos, after, guard⟩ := o
  simp only at h
  unfold opeq at h
  split at h
  all_goals first
    | exact (q_mv h hF hH he).1.qw
    | exact (q_mv h hF hH he).2.qw
    | exact (q_pick h hF hH he).qw
    | exact (q_ld h hF hH he).qw
    | exact (q_fa h hF hH he).qw
    | exact (q_ia h hF hH he).qw
    | exact (q_iaa h hF hH he).qw
    | exact (q_ixs h hF hH he).qw
    | exact (q_sls h hF hH he).qw
    | exact (q_slc h hF hH he).qw
    | exact (q_mlk h hF hH he).qw
    | exact (q_fld h hF hH he).qw
    | exact (q_nilc h hF hH he).qw
    | exact (q_ext h hF hH he).qw
    | exact (q_nnil (op := .eql) (.inl ⟨rfl, rfl⟩) h hF hH he).qw
    | exact (q_nnil (op := .neq) (.inr ⟨rfl, rfl⟩) h hF hH he).qw
    | (obtain ⟨v, h1, h2⟩ := q_bi (pp := true) h hF hH he
       exact QV.qw ⟨v, by simp only [execOp]; rw [Sem.run_bind, h1]; rfl, h2⟩)
    | exact (q_un h hF hH he).qw
    | exact (q_cv h hF hH he).qw
    | exact (q_bld h hF hH he).qw
    | exact q_bsl h hF hH he
    | exact q_apq h hF hH he
    | exact (q_mkf h hF hH he).qw
    | exact QV.qw (q_len h hF hH he)
    | exact (q_mx (mn := false) h hF hH he).qw
    | exact (q_mx (mn := true) h hF hH he).qw
    | exact q_call hC h hF hH he
    | exact q_peek hC h hF hH he
    | exact (q_iam h hF hH he).qw
    | exact (q_b2s h hF hH he).qw
    | exact QV.qw (q_lenm h hF hH he)
    | (simp [isQ] at hq; done)
    | (simp [evQ] at he; done)
    | (simp at h; done)
set_option maxHeartbeats 1000000 in
theorem e_all (hC : CtxOK P C) {o : Oper} {i : IOp} (h : opeq P o.op i = true) (hF : FRel S0 B m hp nx w fr a) (hH : HRel S0 B m hp nx w C.G) (hq : isQ C fr i = false) (he : evE C fr hp nx i = some (d, hp', nx')) :
    EV' P S0 B C.G m hp nx w a o d hp' nx' := by
  obtain ⟨dst, op, ty, pos, after, guard⟩ := o
  simp only at h
  have nxle : ∀ {i : IOp}, (∀ f g, i ≠ .call f g) → evE C fr hp nx i = some (d, hp', nx') → nx ≤ nx' := by
    intro i hne he
    cases i with
    | call f g => exact absurd rfl (hne f g)
    | app sz bytes s x =>
      simp only [evE, Option.bind_eq_some_iff] at he
      obtain ⟨news, _, he⟩ := he
      repeat' split at he
      all_goals first
        | (simp only [Option.some.injEq, Prod.mk.injEq] at he; omega)
        | (simp at he; done)
    | apm sz bytes s x =>
      simp only [evE, Option.bind_eq_some_iff] at he
      obtain ⟨news, _, he⟩ := he
      repeat' split at he
      all_goals first
        | (simp only [Option.some.injEq, Prod.mk.injEq] at he; omega)
        | (simp at he; done)
    | bso sz z n ps =>
      simp only [evE, Option.bind_eq_some_iff] at he
      obtain ⟨ds, _, he⟩ := he
      split at he
      · simp only [Option.some.injEq, Prod.mk.injEq] at he; omega
      · simp at he
    | mup s a b c =>
      simp only [evE] at he
      repeat' split at he
      all_goals first
        | (simp only [Option.map_eq_some_iff] at he
           obtain ⟨r, _, he⟩ := he
           cases r <;> (simp only [Prod.mk.injEq] at he; omega))
        | (simp at he; done)
    | men s z a b =>
      simp only [evE] at he
      repeat' split at he
      all_goals first
        | (simp only [Option.map_eq_some_iff] at he
           obtain ⟨r, _, he⟩ := he
           cases r <;> (simp only [Prod.mk.injEq] at he; omega))
        | (simp at he; done)
    | mes a b c =>
      simp only [evE] at he
      repeat' split at he
      all_goals first
        | (simp only [Option.map_eq_some_iff] at he
           obtain ⟨r, _, he⟩ := he
           simp only [Prod.mk.injEq] at he; omega)
        | (simp at he; done)
    | _ =>
      simp only [evE] at he
      repeat' split at he
      all_goals first
        | (simp only [Option.some.injEq, Prod.mk.injEq] at he; omega)
        | (simp at he; done)
  unfold opeq at h
  split at h
  all_goals first
    | (simp [isQ] at hq; done)
    | (simp at h; done)
    | exact EV.of (nxle (by simp) he) (e_st h hF hH he)
    | exact EV.of (nxle (by simp) he) (e_alc h hH he)
    | exact EV.of (nxle (by simp) he) (e_box h hF hH he)
    | exact EV.of (nxle (by simp) he) (e_mmk hH he)
    | exact EV.of (nxle (by simp) he) (e_mup h hF hH he).1
    | exact EV.of (nxle (by simp) he) (e_mup h hF hH he).2
    | exact EV.of (nxle (by simp) he) (e_msl h hF hH he)
    | exact EV.of (nxle (by simp) he) (e_msm h hF hH he)
    | exact EV.of (nxle (by simp) he) (e_bso h hF hH he)
    | exact e_call hC h hF hH he
    | exact EV.of (nxle (by simp) he) (e_app h hF hH he)
    | exact EV.of (nxle (by simp) he) (e_apm h hF hH he)
end
end Go.Proofs.Dv
