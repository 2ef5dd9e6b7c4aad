/- A part of the proof of one statement about the given program: a verified evaluator of the model's code, and contracts of functions (Dve Dvf Dvg Dvh Ir0 Ir1). No condition of its own. -/
import Derived.LoopN
import Derived.LoopNIn
import Derived.OrdersIn
import Derived.ControlIn
import Derived.RangeFuncLeaves
import Derived.Test.YtkfjdlbkmomffaaGreatDoorV00
set_option linter.unusedVariables false
set_option linter.unusedSimpArgs false
set_option linter.defProp false
set_option linter.constructorNameAsVariable false
set_option linter.unusedVariables false
set_option linter.unusedSimpArgs false
namespace Go.Proofs.Dv
open Go.RowKit
def res1 (C : Ctx) (o : Iop) (fr : List (Nat × D)) (hp : List (Nat × Blk)) (nx : Nat) : Option (D × List (Nat × Blk) × Nat) :=
  match want o.gd fr with
  | none => none
  | some false => some (.tup [], hp, nx)
  | some true =>
    if isQ C fr o.op then (evQ C fr (hpl o.lo hp) o.op).map fun d => (d, hp, nx)
    else match o.lo with
      | true => none
      | false => evE C fr hp nx o.op
theorem evOps_cons {C : Ctx} {o : Iop} {os : List Iop} {σ : St} : evOps C (o :: os) σ = (res1 C o σ.fr σ.hp σ.nx).bind fun r => evOps C os ⟨put o.dst r.1 σ.fr, r.2.1, r.2.2⟩ := by
  simp only [evOps, res1]
  cases want o.gd σ.fr with
  | none => rfl
  | some b =>
    cases b with
    | false => rfl
    | true =>
      simp only []
      split
      · cases evQ C σ.fr (hpl o.lo σ.hp) o.op <;> rfl
      · cases o.lo <;> rfl
section
variable (P : Program)
def gdeq (ops : Array Oper) (nt : Nat) : Option (Nat × Bool) → Option (Nat × Bool) → Bool
  | none, none => true
  | some (g, b), some (t, c) => b == c && ((ops[g]?).bind (·.dst)) == some t && decide (t < nt)
  | _, _ => false
def ioeq (ops : Array Oper) (nt : Nat) (o : Oper) (io : Iop) : Bool :=
  opeq P o.op io.op && o.dst == io.dst && (match o.dst with | some t => decide (t < nt) | none => true) && gdeq ops nt o.guard io.gd
def ioeqs (ops : Array Oper) (nt : Nat) : List Oper → List Iop → Bool
  | [], [] => true
  | o :: os, i :: is => ioeq P ops nt o i && ioeqs ops nt os is
  | _, _ => false
end
def fw : Option Nat → Fence
  | none => Fence.wide
  | some l => Fence.wide.inRound l
theorem fw_fn (ro : Option Nat) (f : Nat) : (fw ro).fn f := by cases ro <;> trivial
theorem fw_depth (ro : Option Nat) : ((fw ro).depth.isSome = true) → 1 ≤ 0 := by cases ro <;> intro h <;> cases h
theorem opIn_of {P : Program} {ro : Option Nat} {o : Oper} {a : Act} {w : World} {K : Act → World → Prop} {Q : Exit → Act → World → Prop} (hd : ∀ c, o.op ≠ .defer c) (h : o.wp P a w K Q) : o.wpIn (fw ro) 0 P a w K Q := by
  refine ⟨fun f _ => fw_fn ro f, ?_⟩
  rw [Oper.semAt_eq _ _ _ hd]
  unfold Oper.wp at h
  generalize (execOp a.eval o).run P w = r at h
  have hc : ∀ {f : FuncId} {args : Array Value} {w : World} {R : Ending → World → Prop}, Calls P f args w R → CallsIn (fw ro) 0 P f args w R := by
    intro f args w R h
    have := (callsIn_wide (n := 0)).2 h
    cases ro with
    | none => exact this
    | some l => exact this
  have hr : ∀ {row : String} {args : Array Value} {w : World} {R : Value → World → Prop}, Rows P row args w R → RowsIn (fw ro) 0 P row args w R := by
    intro row args w R h c cs _
    obtain ⟨v, w', r1, s⟩ := h c cs
    cases ro with
    | none => exact ⟨v, w', r1, stepsIn_wide.2 s⟩
    | some l => exact ⟨v, w', r1, stepsIn_wide.2 s⟩
  cases r with
  | ok x w' =>
    cases x <;> simp only [Oper.upon, Oper.uponIn] at h ⊢ <;> first
      | exact h
      | exact ⟨fw_depth ro, hc h⟩
      | exact ⟨fw_depth ro, hr h⟩
  | halt x w' => cases x <;> simp only [Oper.upon, Oper.uponIn] at h ⊢ <;> exact h
theorem opeq_nd {P : Program} {op : Op} {i : IOp} (h : opeq P op i = true) (hb : i ≠ .bad) : ∀ c, op ≠ .defer c := by
  rintro c rfl
  cases i <;> simp [opeq] at h hb
structure Ent where
  S0 : Nat → Nat → Prop
  B : Nat
  m : Mp
  hp : List (Nat × Blk)
  nx : Nat
  w : World
  L : Nat → Prop
def RelM (E : Ent) (G : Nat → Option (List D)) (nt : Nat) (m : Mp) (σ : St) (a : Act) (w : World) : Prop :=
  HRel E.S0 E.B m σ.hp σ.nx w G ∧ FRel E.S0 E.B m σ.hp σ.nx w σ.fr a ∧ Up E.S0 E.B E.m E.hp E.nx E.w m σ.hp σ.nx w ∧ Below E.B E.w w ∧ E.nx ≤ σ.nx ∧ a.tmps.size = nt ∧ Marks E.B E.L w a.defers
def Rel (E : Ent) (G : Nat → Option (List D)) (nt : Nat) (σ : St) (a : Act) (w : World) : Prop :=
  ∃ m, RelM E G nt m σ a w
section
variable {P : Program} {C : Ctx} {E : Ent} {nt : Nat}
theorem expo_mono {hp : List (Nat × Blk)} : ∀ (d e : D), expo [] d = some e → expo hp d = some e
  | .v x, e, h => by simpa [expo] using h
  | .lst b es, e, h => by simpa [expo] using h
  | .rp cs, e, h => by simpa [expo] using h
  | .agg ds, e, h => by
    simp only [expo, Option.map_eq_some_iff] at h ⊢
    obtain ⟨es, h1, h2⟩ := h
    exact ⟨es, go ds es h1, h2⟩
  | .fn f ds, e, h => by
    simp only [expo, Option.map_eq_some_iff] at h ⊢
    obtain ⟨es, h1, h2⟩ := h
    exact ⟨es, go ds es h1, h2⟩
  | .tup ds, e, h => by
    simp only [expo, Option.map_eq_some_iff] at h ⊢
    obtain ⟨es, h1, h2⟩ := h
    exact ⟨es, go ds es h1, h2⟩
  | .own id n, e, h => by simp [expo, lkh] at h
  | .ptr id o, e, h => by simp [expo] at h
  | .mp id, e, h => by simp [expo] at h
  | .junk, e, h => by simp [expo] at h
where go : ∀ (ds es : List D), expo.expos [] ds = some es → expo.expos hp ds = some es
  | [], es, h => by simpa [expo.expos] using h
  | d :: ds, es, h => by
    simp only [expo.expos, Option.bind_eq_some_iff, Option.map_eq_some_iff] at h ⊢
    obtain ⟨e, h1, es', h2, h3⟩ := h
    exact ⟨e, expo_mono d e h1, es', go ds es' h2, h3⟩
theorem expoP_mono {hp : List (Nat × Blk)} : ∀ (d e : D), expoP [] d = some e → expoP hp d = some e
  | .v x, e, h => by simpa [expoP] using h
  | .lst b es, e, h => by simpa [expoP] using h
  | .rp cs, e, h => by simpa [expoP] using h
  | .agg ds, e, h => by
    simp only [expoP, Option.map_eq_some_iff] at h ⊢
    obtain ⟨es, h1, h2⟩ := h
    exact ⟨es, go ds es h1, h2⟩
  | .fn f ds, e, h => by
    simp only [expoP, Option.map_eq_some_iff] at h ⊢
    obtain ⟨es, h1, h2⟩ := h
    exact ⟨es, go ds es h1, h2⟩
  | .tup ds, e, h => by
    simp only [expoP, Option.map_eq_some_iff] at h ⊢
    obtain ⟨es, h1, h2⟩ := h
    exact ⟨es, go ds es h1, h2⟩
  | .own id n, e, h => by simp [expoP, lkh] at h
  | .ptr id o, e, h => by simp [expoP] at h
  | .mp id, e, h => by simp [expoP] at h
  | .junk, e, h => by simp [expoP] at h
where go : ∀ (ds es : List D), expoP.expos [] ds = some es → expoP.expos hp ds = some es
  | [], es, h => by simpa [expoP.expos] using h
  | d :: ds, es, h => by
    simp only [expoP.expos, Option.bind_eq_some_iff, Option.map_eq_some_iff] at h ⊢
    obtain ⟨e, h1, es', h2, h3⟩ := h
    exact ⟨e, expoP_mono d e h1, es', go ds es' h2, h3⟩
theorem evQ_mono {fr : List (Nat × D)} {hp : List (Nat × Blk)} {i : IOp} {d : D} (h : evQ C fr [] i = some d) : evQ C fr hp i = some d := by
  cases i with
  | ld ag n x =>
    simp only [evQ] at h ⊢
    cases hv : evO C fr x <;> rw [hv] at h <;> simp [lkh] at h ⊢ <;> exact h
  | ia sz x i =>
    simp only [evQ, Option.bind_eq_some_iff] at h ⊢
    obtain ⟨⟨k, n⟩, h1, h2⟩ := h
    refine ⟨(k, n), h1, ?_⟩
    dsimp only at h2 ⊢
    split at h2
    · rename_i hc
      rw [if_pos hc]
      cases hv : evO C fr x <;> rw [hv] at h2 <;> simp [lkh] at h2 ⊢ <;> exact h2
    · simp at h2
  | mlk s ok z m k =>
    simp only [evQ] at h ⊢
    cases hv : evO C fr m <;> rw [hv] at h <;> cases hv2 : evO C fr k <;> rw [hv2] at h <;> simp [lkh] at h
  | len s x =>
    simp only [evQ] at h ⊢
    cases s
    · simp only at h ⊢
      cases hv : evO C fr x <;> rw [hv] at h <;> simp [lkh] at h ⊢ <;> exact h
    · exact h
  | apq sz b s x =>
    simp only [evQ] at h ⊢
    cases hv : evO C fr x <;> rw [hv] at h <;> simp [lkh, newsOf] at h ⊢ <;> exact h
  | bsl sz z n ps =>
    simp only [evQ, Option.bind_eq_some_iff] at h ⊢
    obtain ⟨ds, h1, h2⟩ := h
    exact ⟨ds, expo_mono.go _ _ h1, h2⟩
  | call f args =>
    simp only [evQ] at h ⊢
    cases hv : evO C fr f <;> rw [hv] at h <;> simp at h ⊢
    rename_i n caps
    cases hT : C.T n <;> rw [hT] at h <;> simp at h ⊢
    simp only [Option.bind_eq_some_iff] at h ⊢
    obtain ⟨ds, h1, h2⟩ := h
    exact ⟨ds, expo_mono.go _ _ h1, h2⟩
  | b2s x =>
    simp only [evQ] at h ⊢
    cases hv : evO C fr x <;> rw [hv] at h <;> simp [lkh, newsOf] at h ⊢ <;> exact h
  | lenm x =>
    simp only [evQ] at h ⊢
    cases hv : evO C fr x <;> rw [hv] at h <;> first
      | exact h
      | (simp [lkh] at h; done)
  | iam sz x i =>
    simp only [evQ] at h ⊢
    cases hv : evO C fr x <;> rw [hv] at h <;> (try (simp at h; done))
    cases hv2 : evO C fr i <;> rw [hv2] at h <;> (try (simp at h; done))
    rename_i u
    cases u <;> simp [lkh] at h
  | peek f args =>
    simp only [evQ] at h ⊢
    cases hv : evO C fr f <;> rw [hv] at h <;> simp at h ⊢
    rename_i n caps
    cases hT : C.T n <;> rw [hT] at h <;> simp at h ⊢
    simp only [Option.bind_eq_some_iff] at h ⊢
    obtain ⟨r, ⟨ds, h3, h4⟩, h2⟩ := h
    exact ⟨r, ⟨ds, expoP_mono.go _ _ h3, h4⟩, h2⟩
  | _ => exact h
def Ext (hp hp' : List (Nat × Blk)) : Prop := ∀ id b, lkh hp id = some b → lkh hp' id = some b
theorem expo_ext {hp hp' : List (Nat × Blk)} (hx : Ext hp hp') : ∀ (d e : D), expo hp d = some e → expo hp' d = some e
  | .v x, e, h => by simpa [expo] using h
  | .lst b es, e, h => by simpa [expo] using h
  | .rp cs, e, h => by simpa [expo] using h
  | .agg ds, e, h => by
    simp only [expo, Option.map_eq_some_iff] at h ⊢
    obtain ⟨es, h1, h2⟩ := h
    exact ⟨es, go ds es h1, h2⟩
  | .fn f ds, e, h => by
    simp only [expo, Option.map_eq_some_iff] at h ⊢
    obtain ⟨es, h1, h2⟩ := h
    exact ⟨es, go ds es h1, h2⟩
  | .tup ds, e, h => by
    simp only [expo, Option.map_eq_some_iff] at h ⊢
    obtain ⟨es, h1, h2⟩ := h
    exact ⟨es, go ds es h1, h2⟩
  | .own id n, e, h => by
    simp only [expo] at h ⊢
    cases hl : lkh hp id with
    | none => rw [hl] at h; simp at h
    | some b => rw [hl] at h; rw [hx _ _ hl]; exact h
  | .ptr id o, e, h => by simp [expo] at h
  | .mp id, e, h => by simp [expo] at h
  | .junk, e, h => by simp [expo] at h
where go : ∀ (ds es : List D), expo.expos hp ds = some es → expo.expos hp' ds = some es
  | [], es, h => by simpa [expo.expos] using h
  | d :: ds, es, h => by
    simp only [expo.expos, Option.bind_eq_some_iff, Option.map_eq_some_iff] at h ⊢
    obtain ⟨e, h1, es', h2, h3⟩ := h
    exact ⟨e, expo_ext hx d e h1, es', go ds es' h2, h3⟩
theorem expoP_ext {hp hp' : List (Nat × Blk)} (hx : Ext hp hp') : ∀ (d e : D), expoP hp d = some e → expoP hp' d = some e
  | .v x, e, h => by simpa [expoP] using h
  | .lst b es, e, h => by simpa [expoP] using h
  | .rp cs, e, h => by simpa [expoP] using h
  | .agg ds, e, h => by
    simp only [expoP, Option.map_eq_some_iff] at h ⊢
    obtain ⟨es, h1, h2⟩ := h
    exact ⟨es, go ds es h1, h2⟩
  | .fn f ds, e, h => by
    simp only [expoP, Option.map_eq_some_iff] at h ⊢
    obtain ⟨es, h1, h2⟩ := h
    exact ⟨es, go ds es h1, h2⟩
  | .tup ds, e, h => by
    simp only [expoP, Option.map_eq_some_iff] at h ⊢
    obtain ⟨es, h1, h2⟩ := h
    exact ⟨es, go ds es h1, h2⟩
  | .own id n, e, h => by
    simp only [expoP] at h ⊢
    cases hl : lkh hp id with
    | none => rw [hl] at h; simp at h
    | some b => rw [hl] at h; rw [hx _ _ hl]; exact h
  | .ptr id o, e, h => by simp [expoP] at h
  | .mp id, e, h => by simp [expoP] at h
  | .junk, e, h => by simp [expoP] at h
where go : ∀ (ds es : List D), expoP.expos hp ds = some es → expoP.expos hp' ds = some es
  | [], es, h => by simpa [expoP.expos] using h
  | d :: ds, es, h => by
    simp only [expoP.expos, Option.bind_eq_some_iff, Option.map_eq_some_iff] at h ⊢
    obtain ⟨e, h1, es', h2, h3⟩ := h
    exact ⟨e, expoP_ext hx d e h1, es', go ds es' h2, h3⟩
theorem evQ_ext {fr : List (Nat × D)} {hp hp' : List (Nat × Blk)} (hx : Ext hp hp') {i : IOp} {d : D} (h : evQ C fr hp i = some d) : evQ C fr hp' i = some d := by
  have lk : ∀ {α : Type} (id : Nat) (f : Option Blk → Option α) (r : α), f none = none → f (lkh hp id) = some r → f (lkh hp' id) = some r := by
    intro α id f r h0 hf
    cases hl : lkh hp id with
    | none => rw [hl, h0] at hf; simp at hf
    | some b => rw [hl] at hf; rw [hx _ _ hl]; exact hf
  cases i with
  | ld ag n x =>
    simp only [evQ] at h ⊢
    cases hv : evO C fr x <;> rw [hv] at h <;> simp only at h ⊢ <;> first
      | exact h
      | exact lk _ (fun q => match q with | some (.box cells) => if ag then (if _ + n ≤ cells.length then some (D.agg ((cells.drop _).take n)) else none) else cells[_]? | _ => none) _ rfl h
  | ia sz x i =>
    simp only [evQ, Option.bind_eq_some_iff] at h ⊢
    obtain ⟨⟨k, n⟩, h1, h2⟩ := h
    refine ⟨(k, n), h1, ?_⟩
    dsimp only at h2 ⊢
    split at h2
    · rename_i hc
      rw [if_pos hc]
      cases hv : evO C fr x <;> rw [hv] at h2 <;> simp only at h2 ⊢ <;> first
        | exact h2
        | (rename_i id m
           cases hl : lkh hp id with
           | none => rw [hl] at h2; simp at h2
           | some b => rw [hl] at h2; rw [hx _ _ hl]; exact h2)
    · simp at h2
  | mlk s ok z m k =>
    simp only [evQ] at h ⊢
    cases hv : evO C fr m <;> rw [hv] at h <;> cases hv2 : evO C fr k <;> rw [hv2] at h <;> simp only at h ⊢ <;> first
      | (simp at h; done)
      | (rename_i id m
         cases hl : lkh hp id with
         | none => rw [hl] at h; simp at h
         | some b => rw [hl] at h; rw [hx _ _ hl]; exact h)
  | len s x =>
    simp only [evQ] at h ⊢
    cases s
    · simp only at h ⊢
      cases hv : evO C fr x <;> rw [hv] at h <;> simp only at h ⊢ <;> first
        | exact h
        | (rename_i id m
           cases hl : lkh hp id with
           | none => rw [hl] at h; simp at h
           | some b => rw [hl] at h; rw [hx _ _ hl]; exact h)
    · exact h
  | apq sz b s x =>
    simp only [evQ] at h ⊢
    cases hv : evO C fr x <;> rw [hv] at h <;> simp only [newsOf] at h ⊢ <;> first
      | exact h
      | (rename_i id m
         cases hl : lkh hp id with
         | none => rw [hl] at h; simp at h
         | some b => rw [hl] at h; rw [hx _ _ hl]; exact h)
  | bsl sz z n ps =>
    simp only [evQ, Option.bind_eq_some_iff] at h ⊢
    obtain ⟨ds, h1, h2⟩ := h
    exact ⟨ds, expo_ext.go hx _ _ h1, h2⟩
  | call f args =>
    simp only [evQ] at h ⊢
    cases hv : evO C fr f <;> rw [hv] at h <;> simp at h ⊢
    rename_i n caps
    cases hT : C.T n <;> rw [hT] at h <;> simp at h ⊢
    simp only [Option.bind_eq_some_iff] at h ⊢
    obtain ⟨ds, h1, h2⟩ := h
    exact ⟨ds, expo_ext.go hx _ _ h1, h2⟩
  | b2s x =>
    simp only [evQ] at h ⊢
    cases hv : evO C fr x <;> rw [hv] at h <;> simp only [newsOf] at h ⊢ <;> first
      | exact h
      | (rename_i id m
         cases hl : lkh hp id with
         | none => rw [hl] at h; simp at h
         | some b => rw [hl] at h; rw [hx _ _ hl]; exact h)
  | lenm x =>
    simp only [evQ] at h ⊢
    cases hv : evO C fr x <;> rw [hv] at h <;> simp only at h ⊢ <;> first
      | exact h
      | (simp at h; done)
      | (rename_i id m
         cases hl : lkh hp id with
         | none => rw [hl] at h; simp at h
         | some b => rw [hl] at h; rw [hx _ _ hl]; exact h)
  | iam sz x i =>
    simp only [evQ] at h ⊢
    cases hv : evO C fr x <;> rw [hv] at h <;> (try (simp at h; done))
    cases hv2 : evO C fr i <;> rw [hv2] at h <;> (try (simp at h; done))
    rename_i id m u
    cases u <;> simp only at h ⊢ <;> first
      | (simp at h; done)
      | (cases hl : lkh hp id with
         | none => rw [hl] at h; simp at h
         | some b => rw [hl] at h; rw [hx _ _ hl]; exact h)
  | peek f args =>
    simp only [evQ] at h ⊢
    cases hv : evO C fr f <;> rw [hv] at h <;> simp at h ⊢
    rename_i n caps
    cases hT : C.T n <;> rw [hT] at h <;> simp at h ⊢
    simp only [Option.bind_eq_some_iff] at h ⊢
    obtain ⟨r, ⟨ds, h3, h4⟩, h2⟩ := h
    exact ⟨r, ⟨ds, expoP_ext.go hx _ _ h3, h4⟩, h2⟩
  | _ => exact h
theorem wanted_want {ops : Array Oper} {o : Oper} {gd : Option (Nat × Bool)} {σ : St} {a : Act} {w : World} {S0 : Nat → Nat → Prop} {B : Nat} {m : Mp} {b : Bool}
    (h : gdeq ops nt o.guard gd = true) (hF : FRel S0 B m σ.hp σ.nx w σ.fr a) (hn : a.tmps.size = nt) (hw : want gd σ.fr = some b) : Region.wanted o (yielded ops a.tmps) = b := by
  unfold gdeq at h
  split at h
  · rename_i h1
    simp only [want, Option.some.injEq] at hw
    subst hw
    simp [Region.wanted, h1]
  · rename_i g bb t c h1
    simp only [Bool.and_eq_true, beq_iff_eq, decide_eq_true_eq] at h
    obtain ⟨⟨rfl, h2⟩, h3⟩ := h
    have hd : a.tmps[t]? = some (a.tmps.getD t undef) := by
      rw [Array.getElem?_eq_getElem (by omega)]
      simp [Array.getD_eq_getD_getElem?, Array.getElem?_eq_getElem (by omega : t < a.tmps.size)]
    have hy : yielded ops a.tmps g = match some (a.tmps.getD t undef) with | some (.bool b) => some b | _ => none := by
      unfold yielded
      rw [h2, Option.bind_some, hd]
      cases a.tmps.getD t undef <;> rfl
    have hr := hF t
    simp only [want] at hw
    unfold Region.wanted
    rw [h1]
    simp only []
    rw [hy]
    split at hw
    · rename_i c hv
      rw [hv] at hr
      have := (Rd_v.1 hr).1
      rw [this]
      simp only [Option.some.injEq] at hw
      rw [← hw]
      rfl
    · rename_i hv
      rw [hv] at hr
      obtain ⟨cs, e1, _⟩ := Rd_tup.1 hr
      rw [e1]
      simp only [Option.some.injEq] at hw
      rw [← hw]
      rfl
    · simp at hw
  · simp at h
theorem put_size {a : Act} {dst : Option Nat} {v : Value} : (a.put dst v).tmps.size = a.tmps.size := by
  cases dst <;> simp [Act.put]
theorem put_defers {a : Act} {dst : Option Nat} {v : Value} : (a.put dst v).defers = a.defers := by
  cases dst <;> rfl
theorem step_wp (hC : CtxOK P C) {ops : Array Oper} {o : Oper} {io : Iop} {i : Nat} {σ : St} {a : Act} {w : World} {d : D} {hp' : List (Nat × Blk)} {nx' : Nat} {K : Act → World → Prop} {Q : Exit → Act → World → Prop}
    (ho : ops[i]? = some o) (h : ioeq P ops nt o io = true) (hR : Rel E C.G nt σ a w) (hr : res1 C io σ.fr σ.hp σ.nx = some (d, hp', nx'))
    (hK : ∀ a' w', Rel E C.G nt ⟨put io.dst d σ.fr, hp', nx'⟩ a' w' → K a' w') {ro : Option Nat} : wpOpIn (fw ro) 0 P ops Q i K a w := by
  simp only [ioeq, Bool.and_eq_true, beq_iff_eq] at h
  obtain ⟨⟨⟨h1, h2⟩, h3⟩, h4⟩ := h
  obtain ⟨m, hH, hF, hU, hB, hnx, hsz, hdf⟩ := hR
  have hdl : ∀ t, io.dst = some t → t < a.tmps.size := by
    intro t ht
    rw [h2, ht] at h3
    simpa [hsz] using h3
  unfold wpOpIn
  rw [ho]
  simp only []
  unfold res1 at hr
  cases hw : want io.gd σ.fr with
  | none => simp only [hw] at hr; simp at hr
  | some b =>
    simp only [hw] at hr
    rw [wanted_want h4 hF hsz hw]
    cases b with
    | false =>
      dsimp only at hr
      simp only [Option.some.injEq, Prod.mk.injEq] at hr
      obtain ⟨rfl, rfl, rfl⟩ := hr
      simp only [Bool.false_eq_true, if_false]
      refine ⟨fun f _ => fw_fn ro f, ?_⟩
      refine hK _ _ ⟨m, hH, ?_, hU, hB, hnx, by rw [put_size]; exact hsz, by rw [put_defers]; exact hdf⟩
      rw [h2]
      exact hF.put_ hdl (Rd_tup.2 ⟨#[], rfl, rfl, fun j hj => by simp at hj⟩)
    | true =>
      dsimp only at hr
      simp only [if_true]
      have hnb : io.op ≠ .bad := by
        intro hb
        rw [hb] at hr
        simp [isQ, evQ] at hr
      refine opIn_of (opeq_nd h1 hnb) ?_
      split at hr
      · rename_i hq
        simp only [Option.map_eq_some_iff, Prod.mk.injEq] at hr
        obtain ⟨d', he, rfl, rfl, rfl⟩ := hr
        have he' : evQ C σ.fr σ.hp io.op = some d' := by
          cases hl : io.lo with
          | true => rw [hl] at he; exact evQ_mono he
          | false => rw [hl] at he; exact he
        refine q_all hC h1 hF hH hq he' K Q fun v w' hb hv => ?_
        refine hK _ _ ⟨m, hH.grow hb, ?_, hU.trans (Up.grow hb), hB.trans (hb.mono hH.hB), hnx, by rw [put_size]; exact hsz, by rw [put_defers]; exact hdf.keep fun k o hk _ => (hb.block k (Array.getElem?_eq_some_iff.1 hk).1).trans hk⟩
        rw [h2]
        exact (hF.grow hb).put_ hdl hv
      · rename_i hq
        split at hr
        · simp at hr
        · have hev := e_all hC h1 hF hH (by simpa using hq) hr
          refine hev K Q fun v m' w' n1 g1 g2 g3 g4 => ?_
          refine hK _ _ ⟨m', g1, ?_, hU.trans g2, hB.trans g3, by simp only; omega, by rw [put_size]; exact hsz, by rw [put_defers]; exact hdf.keep g2.oth⟩
          rw [h2]
          exact (g2.frel hF).put_ hdl g4
theorem ops_wp (hC : CtxOK P C) {ops : Array Oper} {Q : Exit → Act → World → Prop} : ∀ (os : List Oper) (is : List Iop) (k : Nat) (σ σ' : St) (a : Act) (w : World), (∀ j, os[j]? = ops[k + j]?) → ioeqs P ops nt os is = true →
    Rel E C.G nt σ a w → evOps C is σ = some σ' → (∀ a' w', Rel E C.G nt σ' a' w' → Q .normal a' w') → ∀ {ro : Option Nat}, wpOpsIn (fw ro) 0 P ops Q (List.range' k os.length) a w
  | [], [], k, σ, σ', a, w, _, _, hR, he, hQ, ro => by
    simp only [evOps, Option.some.injEq] at he
    subst he
    exact hQ a w hR
  | o :: os, i :: is, k, σ, σ', a, w, hk, hi, hR, he, hQ, ro => by
    simp only [ioeqs, Bool.and_eq_true] at hi
    rw [evOps_cons] at he
    simp only [Option.bind_eq_some_iff] at he
    obtain ⟨⟨d, hp', nx'⟩, h1, h2⟩ := he
    rw [List.length_cons, List.range'_succ, wpOpsIn_cons]
    have hok : ops[k]? = some o := by have := hk 0; simpa using this.symm
    refine step_wp hC hok hi.1 hR h1 fun a' w' hR' => ?_
    exact ops_wp hC os is (k + 1) _ σ' a' w' (fun j => by have := hk (j + 1); simp only [List.getElem?_cons_succ] at this; rw [this]; congr 1; omega) hi.2 hR' h2 hQ
  | [], _ :: _, _, _, _, _, _, _, hi, _, _, _, _ => by simp [ioeqs] at hi
  | _ :: _, [], _, _, _, _, _, _, hi, _, _, _, _ => by simp [ioeqs] at hi
end
end Go.Proofs.Dv
set_option linter.unusedVariables false
set_option linter.unusedSimpArgs false
namespace Go.Proofs.Dv
open Go.RowKit
def opds : IOp → List Opd
  | .mv x | .ld _ _ x | .fa _ x | .fld _ _ _ x | .nilc x | .ext x _ | .un _ x | .cv _ x | .box x | .len _ x | .b2s x | .lenm x | .nnil _ x => [x]
  | .pick c a b => [c, a, b]
  | .st _ a x | .apq _ _ a x | .ia _ a x | .iam _ a x | .apm _ _ a x | .iaa _ _ a x | .bi _ _ a x | .app _ _ a x | .mx _ a x | .ixs a x | .msl _ _ _ a x | .msm _ _ _ a x | .mlk _ _ _ a x | .men _ _ a x | .slc a x => [a, x]
  | .mup _ a x y | .mes a x y => [a, x, y]
  | .bld _ ps => ps.map fun p => p.2.2
  | .bsl _ _ _ ps | .bso _ _ _ ps => ps.map fun p => p.2
  | .alc _ | .mmk | .bad => []
  | .call f as | .peek f as => f :: as
  | .mkf _ cs => cs
  | .sls x lo hi => x :: (lo.toList ++ hi.toList)
def slot : Opd → Option Nat
  | .t i => some i
  | _ => none
def rds (o : Iop) : List Nat := (opds o.op).filterMap slot ++ (match o.gd with | some (t, _) => [t] | none => [])
def effp : IOp → Bool
  | .alc _ | .box _ | .st _ _ _ | .app _ _ _ _ | .apm _ _ _ _ | .msm _ _ _ _ _ | .msl _ _ _ _ _ | .mmk | .mup _ _ _ _ | .men _ _ _ _ | .mes _ _ _ | .bso _ _ _ _ | .call _ _ => true
  | _ => false
def newb : IOp → Bool
  | .alc _ => true
  | _ => false
def conf (a b : Iop) : Bool :=
  (match a.dst with | some t => (rds b).contains t || b.dst == some t | none => false) || (match b.dst with | some t => (rds a).contains t | none => false) ||
  (!a.lo && !b.lo && (effp a.op || (effp b.op && !newb b.op)))
def maskOf (o : Oper) (acc : List Nat) : Nat := o.after.toList.foldl (fun s e => if Region.binds .any e then s ||| 2 ^ e.on ||| acc.getD e.on 0 else s) 0
def masks : List Oper → List Nat → List Nat
  | [], acc => acc
  | o :: os, acc => masks os (acc ++ [maskOf o acc])
def backw : List Oper → Nat → Bool
  | [], _ => true
  | o :: os, k => o.after.toList.all (fun e => !Region.binds .any e || decide (e.on < k)) && backw os (k + 1)
def drok (ops : List Oper) (is : List Iop) : Bool :=
  backw ops 0 && (List.range is.length).all fun j => (List.range j).all fun i => !(match is[i]?, is[j]? with | some a, some b => conf a b | _, _ => false) || ((masks ops []).getD j 0).testBit i
theorem evO_congr {C : Ctx} {fr fr' : List (Nat × D)} {x : Opd} (h : ∀ t, slot x = some t → lkf fr t = lkf fr' t) : evO C fr x = evO C fr' x := by
  cases x <;> first | rfl | exact h _ rfl
theorem bnd_congr {C : Ctx} {fr fr' : List (Nat × D)} {z : Int} {x : Option Opd} (h : ∀ y ∈ x.toList, evO C fr y = evO C fr' y) : bnd C fr z x = bnd C fr' z x := by
  cases x with
  | none => rfl
  | some y => simp only [bnd]; rw [h y (by simp)]
theorem evQ_congr {C : Ctx} {fr fr' : List (Nat × D)} {hp : List (Nat × Blk)} {i : IOp} (h : ∀ x ∈ opds i, evO C fr x = evO C fr' x) : evQ C fr hp i = evQ C fr' hp i := by
  cases i with
  | bld z ps =>
    simp only [evQ]
    congr 2
    apply List.map_congr_left
    intro p hp'
    simp only [Prod.mk.injEq, true_and]
    exact h _ (List.mem_map_of_mem (f := fun p : Nat × Nat × Opd => p.2.2) hp')
  | bsl sz z n ps =>
    simp only [evQ]
    have : (ps.map fun x => evO C fr x.2) = ps.map fun x => evO C fr' x.2 := by
      apply List.map_congr_left
      intro p hp'
      exact h _ (List.mem_map_of_mem (f := fun p : Nat × Opd => p.2) hp')
    rw [this]
  | call f as =>
    simp only [evQ]
    rw [h f (by simp [opds])]
    have : as.map (evO C fr) = as.map (evO C fr') := List.map_congr_left fun p hp' => h _ (by simp [opds, hp'])
    rw [this]
  | peek f as =>
    simp only [evQ]
    rw [h f (by simp [opds])]
    have : as.map (evO C fr) = as.map (evO C fr') := List.map_congr_left fun p hp' => h _ (by simp [opds, hp'])
    rw [this]
  | mkf f cs =>
    simp only [evQ]
    have : cs.map (evO C fr) = cs.map (evO C fr') := List.map_congr_left fun p hp' => h _ (by simp [opds, hp'])
    rw [this]
  | sls x lo hi =>
    simp only [evQ]
    rw [h x (by simp [opds])]
    have e1 : ∀ z, bnd C fr z lo = bnd C fr' z lo := fun z => bnd_congr fun y hy => h y (by simp only [opds, List.mem_cons, List.mem_append]; exact .inr (.inl hy))
    have e2 : ∀ z, bnd C fr z hi = bnd C fr' z hi := fun z => bnd_congr fun y hy => h y (by simp only [opds, List.mem_cons, List.mem_append]; exact .inr (.inr hy))
    cases evO C fr' x with
    | v u => cases u <;> simp only [e1, e2]
    | _ => rfl
  | _ =>
    simp only [opds, List.mem_cons, List.not_mem_nil, or_false, forall_eq_or_imp, forall_eq, forall_const, false_implies, implies_true] at h
    simp only [evQ]
    try simp only [h]
theorem evE_congr {C : Ctx} {fr fr' : List (Nat × D)} {hp : List (Nat × Blk)} {nx : Nat} {i : IOp} (h : ∀ x ∈ opds i, evO C fr x = evO C fr' x) : evE C fr hp nx i = evE C fr' hp nx i := by
  cases i with
  | call f as =>
    simp only [evE]
    rw [h f (by simp [opds])]
    have : as.map (evO C fr) = as.map (evO C fr') := List.map_congr_left fun p hp' => h _ (by simp [opds, hp'])
    rw [this]
  | bso sz z n ps =>
    simp only [evE]
    have : (ps.map fun x => evO C fr x.2) = ps.map fun x => evO C fr' x.2 := by
      apply List.map_congr_left
      intro p hp'
      exact h _ (List.mem_map_of_mem (f := fun p : Nat × Opd => p.2) hp')
    rw [this]
  | box x => simp only [evE]; rw [h x (by simp [opds])]
  | st n a x => simp only [evE]; rw [h a (by simp [opds]), h x (by simp [opds])]
  | apm sz b a x => simp only [evE]; rw [h a (by simp [opds]), h x (by simp [opds])]
  | app sz b a x => simp only [evE]; rw [h a (by simp [opds]), h x (by simp [opds])]
  | msm sz b z a x => simp only [evE]; rw [h a (by simp [opds]), h x (by simp [opds])]
  | msl sz b z a x => simp only [evE]; rw [h a (by simp [opds]), h x (by simp [opds])]
  | mup s a x y => simp only [evE]; rw [h a (by simp [opds]), h x (by simp [opds]), h y (by simp [opds])]
  | men s z a x => simp only [evE]; rw [h a (by simp [opds]), h x (by simp [opds])]
  | mes a x y => simp only [evE]; rw [h a (by simp [opds]), h x (by simp [opds]), h y (by simp [opds])]
  | _ => simp only [evE]
theorem isQ_congr {C : Ctx} {fr fr' : List (Nat × D)} {i : IOp} (h : ∀ x ∈ opds i, evO C fr x = evO C fr' x) : isQ C fr i = isQ C fr' i := by
  cases i with
  | call f as => simp only [isQ]; rw [h f (by simp [opds])]
  | _ => rfl
theorem res1_congr {C : Ctx} {o : Iop} {fr fr' : List (Nat × D)} {hp : List (Nat × Blk)} {nx : Nat} (h : ∀ t ∈ rds o, lkf fr t = lkf fr' t) : res1 C o fr hp nx = res1 C o fr' hp nx := by
  have h1 : ∀ x ∈ opds o.op, evO C fr x = evO C fr' x := fun x hx => evO_congr fun t ht => h t (by
    simp only [rds, List.mem_append, List.mem_filterMap]
    exact .inl ⟨x, hx, ht⟩)
  have h2 : want o.gd fr = want o.gd fr' := by
    unfold want
    cases hg : o.gd with
    | none => rfl
    | some p =>
      obtain ⟨t, b⟩ := p
      have := h t (by simp [rds, hg])
      simp only [this]
  simp only [res1, h2, isQ_congr h1, evQ_congr h1, evE_congr h1]
theorem res1_lo {C : Ctx} {o : Iop} {fr : List (Nat × D)} {hp hp' : List (Nat × Blk)} {nx nx' : Nat} {r : D × List (Nat × Blk) × Nat} (hl : o.lo = true) (h : res1 C o fr hp nx = some r) : r.2 = (hp, nx) ∧ res1 C o fr hp' nx' = some (r.1, hp', nx') := by
  unfold res1 at h ⊢
  rw [hl] at h ⊢
  cases hw : want o.gd fr with
  | none => simp only [hw] at h; simp at h
  | some b =>
    simp only [hw] at h
    cases b with
    | false =>
      dsimp only at h ⊢
      simp only [Option.some.injEq] at h
      subst h
      simp
    | true =>
      dsimp only at h ⊢
      split at h
      · rename_i hq
        rw [if_pos hq]
        simp only [Option.map_eq_some_iff] at h
        obtain ⟨d, h1, rfl⟩ := h
        simp only [hpl] at h1 ⊢
        simp [h1]
      · simp at h
theorem res1_keep {C : Ctx} {o : Iop} {fr : List (Nat × D)} {hp : List (Nat × Blk)} {nx : Nat} {r : D × List (Nat × Blk) × Nat} (hl : effp o.op = false) (h : res1 C o fr hp nx = some r) : r.2 = (hp, nx) := by
  unfold res1 at h
  have hq : isQ C fr o.op = true := by cases ho : o.op <;> rw [ho] at hl <;> simp [effp] at hl <;> rfl
  cases hw : want o.gd fr with
  | none => simp only [hw] at h; simp at h
  | some b =>
    simp only [hw] at h
    cases b with
    | false =>
      dsimp only at h
      simp only [Option.some.injEq] at h
      subst h; rfl
    | true =>
      dsimp only at h
      rw [if_pos hq] at h
      simp only [Option.map_eq_some_iff] at h
      obtain ⟨d, h1, rfl⟩ := h
      rfl
def stAt (C : Ctx) : List Iop → St → Nat → St
  | o :: os, σ, k + 1 => stAt C os (match res1 C o σ.fr σ.hp σ.nx with | some r => ⟨put o.dst r.1 σ.fr, r.2.1, r.2.2⟩ | none => σ) k
  | _, σ, _ => σ
theorem stAt_spec {C : Ctx} : ∀ (is : List Iop) (σ σ' : St), evOps C is σ = some σ' → stAt C is σ is.length = σ' ∧ ∀ j (h : j < is.length), ∃ r, res1 C is[j] (stAt C is σ j).fr (stAt C is σ j).hp (stAt C is σ j).nx = some r ∧ stAt C is σ (j + 1) = ⟨put is[j].dst r.1 (stAt C is σ j).fr, r.2.1, r.2.2⟩
  | [], σ, σ', h => by simp only [evOps, Option.some.injEq] at h; subst h; exact ⟨rfl, fun j hj => by simp at hj⟩
  | o :: os, σ, σ', h => by
    rw [evOps_cons] at h
    simp only [Option.bind_eq_some_iff] at h
    obtain ⟨r, h1, h2⟩ := h
    have h0 : ∀ k, stAt C (o :: os) σ (k + 1) = stAt C os ⟨put o.dst r.1 σ.fr, r.2.1, r.2.2⟩ k := fun k => by simp only [stAt, h1]
    have hz : ∀ (l : List Iop) (τ : St), stAt C l τ 0 = τ := fun l τ => by cases l <;> rfl
    obtain ⟨g1, g2⟩ := stAt_spec os _ σ' h2
    refine ⟨by rw [List.length_cons, h0]; exact g1, fun j hj => ?_⟩
    cases j with
    | zero =>
      refine ⟨r, ?_, ?_⟩
      · rw [hz]; exact h1
      · rw [h0, hz, hz]; rfl
    | succ j =>
      obtain ⟨r', k1, k2⟩ := g2 j (by simpa using hj)
      refine ⟨r', ?_, ?_⟩
      · rw [h0]; exact k1
      · rw [h0, h0]; exact k2
theorem masks_pre : ∀ (os : List Oper) (acc : List Nat) (j : Nat), j < acc.length → (masks os acc).getD j 0 = acc.getD j 0
  | [], acc, j, h => rfl
  | o :: os, acc, j, h => by
    rw [masks, masks_pre os _ j (by simp; omega)]
    simp only [List.getD_eq_getElem?_getD]
    rw [List.getElem?_append_left h]
theorem masks_at : ∀ (os : List Oper) (acc : List Nat) (j : Nat) (h : j < os.length), (masks os acc).getD (acc.length + j) 0 = maskOf os[j] ((masks os acc).take (acc.length + j))
  | [], acc, j, h => by simp at h
  | o :: os, acc, 0, h => by
    rw [masks, masks_pre _ _ _ (by simp)]
    have h1 : ∀ (l : List Oper) (acc : List Nat), ∃ t, masks l acc = acc ++ t := by
      intro l
      induction l with
      | nil => intro acc; exact ⟨[], by simp [masks]⟩
      | cons o l ih => intro acc; obtain ⟨t, ht⟩ := ih (acc ++ [maskOf o acc]); exact ⟨maskOf o acc :: t, by rw [masks, ht]; simp⟩
    obtain ⟨t, ht⟩ := h1 os (acc ++ [maskOf o acc])
    rw [ht]
    simp [List.take_append_of_le_length]
  | o :: os, acc, j + 1, h => by
    rw [masks]
    have := masks_at os (acc ++ [maskOf o acc]) j (by simpa using h)
    rw [List.length_append, List.length_singleton] at this
    rw [show acc.length + (j + 1) = acc.length + 1 + j by omega, this]
    simp
theorem maskOf_bit {o : Oper} {acc : List Nat} {i : Nat} (h : (maskOf o acc).testBit i = true) : ∃ e ∈ o.after.toList, Region.binds .any e = true ∧ (e.on = i ∨ (acc.getD e.on 0).testBit i = true) := by
  unfold maskOf at h
  have key : ∀ (l : List Edge) (s : Nat), (l.foldl (fun s e => if Region.binds .any e then s ||| 2 ^ e.on ||| acc.getD e.on 0 else s) s).testBit i = true → s.testBit i = true ∨ ∃ e ∈ l, Region.binds .any e = true ∧ (e.on = i ∨ (acc.getD e.on 0).testBit i = true) := by
    intro l
    induction l with
    | nil => intro s h; exact .inl h
    | cons e l ih =>
      intro s h
      rw [List.foldl_cons] at h
      rcases ih _ h with h | ⟨e', h1, h2⟩
      · split at h
        · rename_i hb
          rw [Nat.testBit_or, Nat.testBit_or, Bool.or_eq_true, Bool.or_eq_true] at h
          rcases h with (h | h) | h
          · exact .inl h
          · rw [Nat.testBit_two_pow] at h
            exact .inr ⟨e, List.mem_cons_self, hb, .inl (by simpa using h)⟩
          · exact .inr ⟨e, List.mem_cons_self, hb, .inr h⟩
        · exact .inl h
      · exact .inr ⟨e', List.mem_cons_of_mem _ h1, h2⟩
  rcases key _ _ h with h | h
  · simp at h
  · exact h
theorem backw_at : ∀ (os : List Oper) (k j : Nat) (h : j < os.length), backw os k = true → ∀ e ∈ os[j].after.toList, Region.binds .any e = true → e.on < k + j
  | [], _, _, h, _ => by simp at h
  | o :: os, k, 0, h, hb => by
    simp only [backw, Bool.and_eq_true, List.all_eq_true, Bool.or_eq_true, Bool.not_eq_true', decide_eq_true_eq] at hb
    intro e he hbi
    rcases hb.1 e he with h | h
    · rw [hbi] at h; simp at h
    · simpa using h
  | o :: os, k, j + 1, h, hb => by
    simp only [backw, Bool.and_eq_true] at hb
    intro e he hbi
    have := backw_at os (k + 1) j (by simpa using h) hb.2 e (by simpa using he) hbi
    omega
def ClosedM (ops : List Oper) (L : Array Bool) : Prop := ∀ j, L.getD j false = true → ∀ i, ((masks ops []).getD j 0).testBit i = true → L.getD i false = true
theorem ready_pre {ops : List Oper} {L : Array Bool} {j : Nat} (hj : j < ops.length) (hb : backw ops 0 = true) (hL : ClosedM ops L) (hr : ∀ e ∈ ops[j].after.toList, Region.binds .any e = true → L.getD e.on false = true) :
    ∀ i, ((masks ops []).getD j 0).testBit i = true → L.getD i false = true := by
  intro i hi
  have := masks_at ops [] j hj
  simp only [List.length_nil, Nat.zero_add] at this
  rw [this] at hi
  obtain ⟨e, he, h1, h2⟩ := maskOf_bit hi
  have hlt := backw_at ops 0 j hj hb e he h1
  rcases h2 with rfl | h2
  · exact hr e he h1
  · refine hL e.on (hr e he h1) i ?_
    rw [← h2]
    simp only [List.getD_eq_getElem?_getD, List.getElem?_take]
    rw [if_pos (by omega)]
theorem getD_upd {L : Array Bool} {i j : Nat} (hi : i < L.size) : (L.setIfInBounds i true).getD j false = if j = i then true else L.getD j false := by
  simp only [Array.getD_eq_getD_getElem?, Array.getElem?_setIfInBounds]
  by_cases h : i = j
  · subst h; simp [hi]
  · rw [if_neg h, if_neg (fun e => h e.symm)]
theorem slot_same {C : Ctx} {is : List Iop} {σ σ' : St} (he : evOps C is σ = some σ') {t : Nat} : ∀ (k p : Nat), p + k ≤ is.length → (∀ i (h : i < is.length), p ≤ i → i < p + k → is[i].dst ≠ some t) → lkf (stAt C is σ (p + k)).fr t = lkf (stAt C is σ p).fr t
  | 0, p, _, _ => rfl
  | k + 1, p, hl, hw => by
    have hlt : p + k < is.length := by omega
    obtain ⟨r, h1, h2⟩ := (stAt_spec is σ σ' he).2 (p + k) hlt
    rw [← Nat.add_assoc, h2]
    have hd := hw (p + k) hlt (by omega) (by omega)
    have : lkf (put is[p + k].dst r.1 (stAt C is σ (p + k)).fr) t = lkf (stAt C is σ (p + k)).fr t := by
      cases hdd : is[p + k].dst with
      | none => rfl
      | some u =>
        rw [hdd] at hd
        simp only [put, lkf]
        rw [if_neg (fun e => hd (by rw [e]))]
    rw [this]
    exact slot_same he k p (by omega) fun i h h3 h4 => hw i h h3 (by omega)
theorem heap_same {C : Ctx} {is : List Iop} {σ σ' : St} (he : evOps C is σ = some σ') : ∀ (k p : Nat), p + k ≤ is.length → (∀ i (h : i < is.length), p ≤ i → i < p + k → is[i].lo = true ∨ effp is[i].op = false) → (stAt C is σ (p + k)).hp = (stAt C is σ p).hp ∧ (stAt C is σ (p + k)).nx = (stAt C is σ p).nx
  | 0, p, _, _ => ⟨rfl, rfl⟩
  | k + 1, p, hl, hw => by
    have hlt : p + k < is.length := by omega
    obtain ⟨r, h1, h2⟩ := (stAt_spec is σ σ' he).2 (p + k) hlt
    rw [← Nat.add_assoc, h2]
    have hr : r.2 = ((stAt C is σ (p + k)).hp, (stAt C is σ (p + k)).nx) := by
      rcases hw (p + k) hlt (by omega) (by omega) with h | h
      · exact (res1_lo (hp' := []) (nx' := 0) h h1).1
      · exact res1_keep h h1
    rw [hr]
    exact heap_same he k p (by omega) fun i h h3 h4 => hw i h h3 (by omega)
theorem res1_alc {C : Ctx} {o : Iop} {fr : List (Nat × D)} {hp : List (Nat × Blk)} {nx : Nat} {r : D × List (Nat × Blk) × Nat} (hl : newb o.op = true) (h : res1 C o fr hp nx = some r) : r.2.1 = hp ∨ ∃ b, r.2.1 = (nx, b) :: hp := by
  unfold res1 at h
  cases hw : want o.gd fr with
  | none => simp only [hw] at h; simp at h
  | some b =>
    simp only [hw] at h
    cases b with
    | false =>
      dsimp only at h
      simp only [Option.some.injEq] at h
      subst h; exact .inl rfl
    | true =>
      dsimp only at h
      cases ho : o.op <;> rw [ho] at hl h <;> simp [newb] at hl
      simp only [isQ, Bool.false_eq_true, if_false] at h
      split at h
      · simp at h
      · simp only [evE, Option.some.injEq] at h
        subst h; exact .inr ⟨_, rfl⟩
theorem heap_ext {C : Ctx} {is : List Iop} {σ σ' : St} (he : evOps C is σ = some σ') : ∀ (k p : Nat), p + k ≤ is.length → (∀ i (h : i < is.length), p ≤ i → i < p + k → is[i].lo = true ∨ effp is[i].op = false ∨ (newb is[i].op = true ∧ lkh (stAt C is σ i).hp (stAt C is σ i).nx = none)) → Ext (stAt C is σ p).hp (stAt C is σ (p + k)).hp
  | 0, p, _, _ => fun _ _ h => h
  | k + 1, p, hl, hw => by
    have hlt : p + k < is.length := by omega
    obtain ⟨r, h1, h2⟩ := (stAt_spec is σ σ' he).2 (p + k) hlt
    rw [← Nat.add_assoc, h2]
    have ih := heap_ext he k p (by omega) fun i h h3 h4 => hw i h h3 (by omega)
    have same : r.2 = ((stAt C is σ (p + k)).hp, (stAt C is σ (p + k)).nx) → Ext (stAt C is σ p).hp r.2.1 := fun hr => by rw [hr]; exact ih
    rcases hw (p + k) hlt (by omega) (by omega) with h | h | ⟨h, hz⟩
    · exact same (res1_lo (hp' := []) (nx' := 0) h h1).1
    · exact same (res1_keep h h1)
    · rcases res1_alc h h1 with e | ⟨b, e⟩
      · simp only [e]; exact ih
      · simp only [e]
        intro id b' hb
        have := ih id b' hb
        simp only [lkh]
        split
        · rename_i hid; subst hid; rw [hz] at this; simp at this
        · exact this
theorem res1_ext {C : Ctx} {o : Iop} {fr : List (Nat × D)} {hp hp' : List (Nat × Blk)} {nx nx' : Nat} {r : D × List (Nat × Blk) × Nat} (hx : Ext hp hp') (hlo : o.lo = false) (hl : effp o.op = false) (h : res1 C o fr hp nx = some r) : res1 C o fr hp' nx' = some (r.1, hp', nx') := by
  unfold res1 at h ⊢
  have hq : isQ C fr o.op = true := by cases ho : o.op <;> rw [ho] at hl <;> simp [effp] at hl <;> rfl
  cases hw : want o.gd fr with
  | none => simp only [hw] at h; simp at h
  | some b =>
    simp only [hw] at h
    cases b with
    | false =>
      dsimp only at h ⊢
      simp only [Option.some.injEq] at h
      subst h; rfl
    | true =>
      dsimp only at h ⊢
      rw [if_pos hq] at h ⊢
      simp only [Option.map_eq_some_iff, hlo, hpl] at h ⊢
      obtain ⟨d, h1, rfl⟩ := h
      exact ⟨d, evQ_ext hx h1, rfl⟩
section
variable {P : Program} {C : Ctx} {E : Ent} {nt : Nat}
theorem ioeqs_get {ops : Array Oper} : ∀ {os : List Oper} {is : List Iop}, ioeqs P ops nt os is = true → os.length = is.length ∧ ∀ j (h : j < os.length) (h' : j < is.length), ioeq P ops nt os[j] is[j] = true
  | [], [], _ => by simp
  | o :: os, i :: is, h => by
    simp only [ioeqs, Bool.and_eq_true] at h
    obtain ⟨g1, g2⟩ := ioeqs_get h.2
    refine ⟨by simp [g1], fun j h1 h2 => ?_⟩
    cases j with
    | zero => exact h.1
    | succ j => simpa using g2 j (by simpa using h1) (by simpa using h2)
  | [], _ :: _, h => by simp [ioeqs] at h
  | _ :: _, [], h => by simp [ioeqs] at h
theorem drawn_wp (hC : CtxOK P C) {ops : Array Oper} {is : List Iop} {σ σ' : St} {Q : Exit → Act → World → Prop} (hi : ioeqs P ops nt ops.toList is = true) (hd : drok ops.toList is = true)
    (he : evOps C is σ = some σ') (hQ : ∀ a' w', Rel E C.G nt σ' a' w' → Q .normal a' w') {ro : Option Nat} :
    ∀ (fuel : Nat) (L : Array Bool) (fr : List (Nat × D)) (k : Nat) (a : Act) (w : World), L.size = is.length → ClosedM ops.toList L → k ≤ is.length →
      Rel E C.G nt ⟨fr, (stAt C is σ k).hp, (stAt C is σ k).nx⟩ a w →
      (∀ j (h : j < is.length), is[j].lo = false → effp is[j].op = true → (L.getD j false = true ↔ j < k)) →
      (∀ t, ∃ p, p ≤ is.length ∧ lkf fr t = lkf (stAt C is σ p).fr t ∧ ∀ j (h : j < is.length), is[j].dst = some t → (L.getD j false = true ↔ j < p)) →
      (∀ j (h : j < is.length), j < k → is[j].lo = false → newb is[j].op = true → lkh (stAt C is σ j).hp (stAt C is σ j).nx = none) →
      (L.toList.filter (fun b => !b)).length ≤ fuel →
      wpAnyIn (fw ro) 0 P .any ops Q fuel L a w := by
  obtain ⟨hlen, hio⟩ := ioeqs_get hi
  simp only [drok, Bool.and_eq_true, List.all_eq_true, List.mem_range, Bool.or_eq_true, Bool.not_eq_true'] at hd
  obtain ⟨hbw, hdr⟩ := hd
  have hconf : ∀ i j (hi : i < is.length) (hj : j < is.length), i < j → conf is[i] is[j] = true → ((masks ops.toList []).getD j 0).testBit i = true := by
    intro i j hi hj hij hc
    rcases hdr j hj i hij with h | h
    · rw [List.getElem?_eq_getElem hi, List.getElem?_eq_getElem hj] at h
      simp only at h
      rw [hc] at h; simp at h
    · exact h
  have hend : ∀ L : Array Bool, L.size = is.length → Region.ready .any ops L = [] → ∀ j, j < is.length → L.getD j false = true := by
    intro L hL hr j
    induction j using Nat.strongRecOn with
    | _ j ih =>
      intro hj
      rcases hq : L.getD j false with _ | _
      · exfalso
        have hjo : j < ops.size := by have : ops.toList.length = ops.size := by simp
                                      omega
        have : j ∈ Region.ready .any ops L := by
          unfold Region.ready
          rw [List.mem_filter]
          refine ⟨List.mem_range.2 hjo, ?_⟩
          have h1 : L.getD j true = false := by
            rw [Array.getD_eq_getD_getElem?] at hq ⊢
            rw [Array.getElem?_eq_getElem (by omega)] at hq ⊢
            simpa using hq
          rw [h1]
          simp only [Bool.not_false, Bool.true_and]
          rw [Array.getElem?_eq_getElem hjo]
          simp only [Option.map_some, Option.getD_some]
          rw [Array.all_eq_true_iff_forall_mem]
          intro e hee
          cases hb : Region.binds .any e with
          | false => simp
          | true =>
            have hon := backw_at ops.toList 0 j (by simpa using hjo) hbw e (by simpa using hee) hb
            simp only [Bool.not_true, Bool.false_or]
            exact ih e.on (by omega) (by omega)
        rw [hr] at this
        simp at this
      · rfl
  have hdone : ∀ (L : Array Bool) (fr : List (Nat × D)) (k : Nat) (a : Act) (w : World), L.size = is.length → k ≤ is.length → Rel E C.G nt ⟨fr, (stAt C is σ k).hp, (stAt C is σ k).nx⟩ a w →
      (∀ j (h : j < is.length), is[j].lo = false → effp is[j].op = true → (L.getD j false = true ↔ j < k)) →
      (∀ t, ∃ p, p ≤ is.length ∧ lkf fr t = lkf (stAt C is σ p).fr t ∧ ∀ j (h : j < is.length), is[j].dst = some t → (L.getD j false = true ↔ j < p)) →
      Region.ready .any ops L = [] → Q .normal a w := by
    intro L fr k a w hL hk hR hw hf hr
    have hall := hend L hL hr
    obtain ⟨hs, _⟩ := stAt_spec is σ σ' he
    have hh := heap_same he (is.length - k) k (by omega) (fun i h h1 h2 => by
      cases hlo : is[i].lo with
      | true => exact .inl rfl
      | false =>
        cases hef : effp is[i].op with
        | false => exact .inr rfl
        | true => have := (hw i h hlo hef).1 (hall i h); omega)
    rw [show k + (is.length - k) = is.length by omega, hs] at hh
    have hfe : ∀ t, lkf fr t = lkf σ'.fr t := by
      intro t
      obtain ⟨p, p1, p2, p3⟩ := hf t
      have := slot_same he (t := t) (is.length - p) p (by omega) (fun i h h1 h2 hdd => by
        have := (p3 i h hdd).1 (hall i h); omega)
      rw [show p + (is.length - p) = is.length by omega, hs] at this
      rw [p2, this]
    apply hQ
    obtain ⟨m, r1, r2, r3, r4, r5, r6, r7⟩ := hR
    simp only [← hh.1, ← hh.2] at r1 r2 r3 r5
    refine ⟨m, r1, fun t => ?_, r3, r4, r5, r6, r7⟩
    rw [← hfe t]
    exact r2 t
  intro fuel
  induction fuel with
  | zero =>
    intro L fr k a w hL hcl hk hR hw hf hz hfu
    have hr : Region.ready .any ops L = [] := by
      rw [List.eq_nil_iff_forall_not_mem]
      intro j hj
      unfold Region.ready at hj
      rw [List.mem_filter, List.mem_range] at hj
      obtain ⟨h1, h2⟩ := hj
      simp only [Bool.and_eq_true, Bool.not_eq_true'] at h2
      have hjl : j < L.size := by have : ops.toList.length = ops.size := by simp
                                  omega
      have h3 : L.getD j true = false := h2.1
      rw [Array.getD_eq_getD_getElem?, Array.getElem?_eq_getElem hjl] at h3
      have : (L.toList.filter (fun b => !b)) = [] := List.eq_nil_of_length_eq_zero (by omega)
      have hm : L[j] ∈ L.toList.filter (fun b => !b) := by
        rw [List.mem_filter]
        refine ⟨by simp, ?_⟩
        simp only [Option.getD_some] at h3
        simp [h3]
      rw [this] at hm
      simp at hm
    exact ⟨hr, hdone L fr k a w hL hk hR hw hf hr⟩
  | succ fuel ih =>
    intro L fr k a w hL hcl hk hR hw hf hz hfu
    refine ⟨hdone L fr k a w hL hk hR hw hf, fun j hj => ?_⟩
    unfold Region.ready at hj
    rw [List.mem_filter, List.mem_range] at hj
    obtain ⟨hjo, hj2⟩ := hj
    simp only [Bool.and_eq_true, Bool.not_eq_true'] at hj2
    have hjl : j < is.length := by have : ops.toList.length = ops.size := by simp
                                   omega
    have hjL : j < L.size := by omega
    have hnot : L.getD j false = false := by
      have h3 : L.getD j true = false := hj2.1
      rw [Array.getD_eq_getD_getElem?, Array.getElem?_eq_getElem hjL] at h3 ⊢
      simpa using h3
    have hjt : j < ops.toList.length := by simpa using hjo
    have hok : ops[j]? = some ops.toList[j] := by simp [hjo]
    have hedges : ∀ e ∈ ops.toList[j].after.toList, Region.binds .any e = true → L.getD e.on false = true := by
      intro e hee hb
      have h4 := hj2.2
      rw [hok] at h4
      simp only [Option.map_some, Option.getD_some] at h4
      rw [Array.all_eq_true_iff_forall_mem] at h4
      have := h4 e (by simpa using hee)
      rw [hb] at this
      simpa using this
    have hpre := ready_pre hjt hbw hcl hedges
    have hbefore : ∀ i (h : i < is.length), i < j → conf is[i] is[j] = true → L.getD i false = true := fun i h hij hc => hpre i (hconf i j h hjl hij hc)
    have hbehind : ∀ i (h : i < is.length), j < i → conf is[j] is[i] = true → L.getD i false = false := by
      intro i h hij hc
      cases hq : L.getD i false with
      | false => rfl
      | true =>
        have := hcl i hq j (hconf j i hjl h hij hc)
        rw [hnot] at this; simp at this
    obtain ⟨r, hr1, hr2⟩ := (stAt_spec is σ σ' he).2 j hjl
    have hreads : ∀ t ∈ rds is[j], lkf fr t = lkf (stAt C is σ j).fr t := by
      intro t ht
      obtain ⟨p, p1, p2, p3⟩ := hf t
      rw [p2]
      have nowr : ∀ i (h : i < is.length), is[i].dst = some t → ¬ (p ≤ i ∧ i < j) ∧ ¬ (j ≤ i ∧ i < p) := by
        intro i h hdd
        constructor
        · rintro ⟨h1, h2⟩
          have := (p3 i h hdd).1 (hbefore i h h2 (by simp [conf, hdd, ht]))
          omega
        · rintro ⟨h1, h2⟩
          have h3 := (p3 i h hdd).2 h2
          by_cases hij : i = j
          · subst hij; rw [hnot] at h3; simp at h3
          · have := hbehind i h (by omega) (by simp [conf, hdd, ht])
            rw [this] at h3; simp at h3
      by_cases hpj : p ≤ j
      · have := slot_same he (t := t) (j - p) p (by omega) (fun i h h1 h2 hdd => (nowr i h hdd).1 ⟨h1, by omega⟩)
        rw [show p + (j - p) = j by omega] at this
        exact this.symm
      · have := slot_same he (t := t) (p - j) j (by omega) (fun i h h1 h2 hdd => (nowr i h hdd).2 ⟨h1, by omega⟩)
        rw [show j + (p - j) = p by omega] at this
        exact this
    have hstate : is[j].lo = false → effp is[j].op = true → (stAt C is σ k).hp = (stAt C is σ j).hp ∧ (stAt C is σ k).nx = (stAt C is σ j).nx := by
      intro hlo hej
      have nowr : ∀ i (h : i < is.length), is[i].lo = false → effp is[i].op = true → ¬ (k ≤ i ∧ i < j) ∧ ¬ (j < i ∧ i < k) ∧ (i = j → k ≤ j) := by
        intro i h hl hef
        refine ⟨?_, ?_, ?_⟩
        · rintro ⟨h1, h2⟩
          have := (hw i h hl hef).1 (hbefore i h h2 (by simp [conf, hl, hlo, hef]))
          omega
        · rintro ⟨h1, h2⟩
          have h3 := (hw i h hl hef).2 h2
          have := hbehind i h h1 (by simp [conf, hl, hlo, hej])
          rw [this] at h3; simp at h3
        · rintro rfl
          rcases Nat.lt_or_ge i k with h1 | h1
          · have := (hw i h hl hef).2 h1
            rw [hnot] at this; simp at this
          · exact h1
      by_cases hkj : k ≤ j
      · have := heap_same he (j - k) k (by omega) (fun i h h1 h2 => by
          cases hl : is[i].lo with
          | true => exact .inl rfl
          | false =>
            cases hef : effp is[i].op with
            | false => exact .inr rfl
            | true => exact ((nowr i h hl hef).1 ⟨h1, by omega⟩).elim)
        rw [show k + (j - k) = j by omega] at this
        exact ⟨this.1.symm, this.2.symm⟩
      · have := heap_same he (k - j) j (by omega) (fun i h h1 h2 => by
          cases hl : is[i].lo with
          | true => exact .inl rfl
          | false =>
            cases hef : effp is[i].op with
            | false => exact .inr rfl
            | true =>
              by_cases hij : i = j
              · have := (nowr i h hl hef).2.2 hij; omega
              · exact ((nowr i h hl hef).2.1 ⟨by omega, by omega⟩).elim)
        rw [show j + (k - j) = k by omega] at this
        exact this
    obtain ⟨d, hp', nx', k', hres, hd', hst, hk', hkw⟩ : ∃ d hp' nx' k', res1 C is[j] fr (stAt C is σ k).hp (stAt C is σ k).nx = some (d, hp', nx') ∧ d = r.1 ∧ (hp', nx') = ((stAt C is σ k').hp, (stAt C is σ k').nx) ∧ k' ≤ is.length ∧
        ((k' = k ∧ ¬ (is[j].lo = false ∧ effp is[j].op = true)) ∨ (k' = j + 1 ∧ is[j].lo = false ∧ effp is[j].op = true)) := by
      rw [res1_congr hreads]
      cases hlo : is[j].lo with
      | true =>
        obtain ⟨g1, g2⟩ := res1_lo (hp' := (stAt C is σ k).hp) (nx' := (stAt C is σ k).nx) hlo hr1
        exact ⟨_, _, _, k, g2, rfl, rfl, hk, .inl ⟨rfl, by simp⟩⟩
      | false =>
        cases hef : effp is[j].op with
        | false =>
          have hk1 := res1_keep hef hr1
          have hx : Ext (stAt C is σ j).hp (stAt C is σ k).hp := by
            by_cases hkj : k ≤ j
            · have := heap_same he (j - k) k (by omega) (fun i h h1 h2 => by
                cases hl : is[i].lo with
                | true => exact .inl rfl
                | false =>
                  cases hef2 : effp is[i].op with
                  | false => exact .inr rfl
                  | true =>
                    have := (hw i h hl hef2).1 (hbefore i h (by omega) (by simp [conf, hl, hlo, hef2]))
                    omega)
              rw [show k + (j - k) = j by omega] at this
              rw [this.1]; exact fun _ _ h => h
            · have := heap_ext he (k - j) j (by omega) (fun i h h1 h2 => by
                cases hl : is[i].lo with
                | true => exact .inl rfl
                | false =>
                  cases hef2 : effp is[i].op with
                  | false => exact .inr (.inl rfl)
                  | true =>
                    cases hnb : newb is[i].op with
                    | true => exact .inr (.inr ⟨rfl, hz i h (by omega) hl hnb⟩)
                    | false =>
                      exfalso
                      by_cases hij : i = j
                      · subst hij; rw [hef] at hef2; simp at hef2
                      · have h3 := (hw i h hl hef2).2 (by omega)
                        have := hbehind i h (by omega) (by simp [conf, hl, hlo, hef2, hnb])
                        rw [this] at h3; simp at h3)
              rw [show j + (k - j) = k by omega] at this
              exact this
          exact ⟨_, _, _, k, res1_ext hx hlo hef hr1, rfl, rfl, hk, .inl ⟨rfl, by simp⟩⟩
        | true =>
          obtain ⟨g1, g2⟩ := hstate hlo hef
          rw [g1, g2, hr1]
          refine ⟨_, _, _, j + 1, rfl, rfl, ?_, by omega, .inr ⟨rfl, rfl, rfl⟩⟩
          rw [hr2]
    simp only [Prod.mk.injEq] at hst
    obtain ⟨rfl, rfl⟩ := hst
    refine step_wp hC hok (hio j hjt hjl) hR hres fun a' w' hR' => ?_
    have hupd := fun i => getD_upd (L := L) (i := j) (j := i) hjL
    refine ih _ _ k' a' w' (by simpa using hL) ?_ hk' hR' ?_ ?_ ?_ ?_
    · intro i hi2 x hx
      rw [hupd] at hi2 ⊢
      split
      · rfl
      · by_cases hij : i = j
        · subst hij; exact hpre x hx
        · rw [if_neg hij] at hi2; exact hcl i hi2 x hx
    · intro i h hl hef
      rw [hupd]
      rcases hkw with ⟨rfl, hn⟩ | ⟨rfl, hl2, hef2⟩
      · have hij : i ≠ j := fun e => by subst e; exact hn ⟨hl, hef⟩
        rw [if_neg hij]
        exact hw i h hl hef
      · by_cases hij : i = j
        · simp [hij]
        · rw [if_neg hij]
          rcases Nat.lt_or_ge i j with h1 | h1
          · exact ⟨fun _ => by omega, fun _ => hbefore i h h1 (by simp [conf, hl, hl2, hef])⟩
          · constructor
            · intro h3
              have := hbehind i h (by omega) (by simp [conf, hl, hl2, hef, hef2])
              rw [this] at h3; simp at h3
            · intro h3; omega
    · intro t
      by_cases hdt : is[j].dst = some t
      · refine ⟨j + 1, by omega, ?_, fun i h hdi => ?_⟩
        · rw [hr2, hdt, hd']
          simp [put, lkf]
        · rw [hupd]
          by_cases hij : i = j
          · simp [hij]
          · rw [if_neg hij]
            rcases Nat.lt_or_ge i j with h1 | h1
            · exact ⟨fun _ => by omega, fun _ => hbefore i h h1 (by simp [conf, hdi, hdt])⟩
            · constructor
              · intro h3
                have := hbehind i h (by omega) (by simp [conf, hdi, hdt])
                rw [this] at h3; simp at h3
              · intro h3; omega
      · obtain ⟨p, p1, p2, p3⟩ := hf t
        refine ⟨p, p1, ?_, fun i h hdi => ?_⟩
        · rw [← p2]
          cases hdd : is[j].dst with
          | none => rfl
          | some u =>
            rw [hdd] at hdt
            simp only [put, lkf]
            rw [if_neg (fun e => hdt (by rw [e]))]
        · have hij : i ≠ j := fun e => by subst e; exact hdt hdi
          rw [hupd, if_neg hij]
          exact p3 i h hdi
    · intro i h hik hli hnb
      rcases hkw with ⟨rfl, hn⟩ | ⟨rfl, hl2, hef2⟩
      · exact hz i h hik hli hnb
      · by_cases hik2 : i < k
        · exact hz i h hik2 hli hnb
        · have hei : effp is[i].op = true := by cases ho : is[i].op <;> rw [ho] at hnb <;> simp [newb] at hnb <;> rfl
          obtain ⟨g1, g2⟩ := hstate hl2 hef2
          by_cases hij : i = j
          · subst hij
            rw [← g1, ← g2]
            obtain ⟨m, r1, _⟩ := hR
            exact lkh_nx r1
          · have h3 := (hw i h hli hei).1 (hbefore i h (by omega) (by simp [conf, hli, hl2, hei]))
            omega
    · have hcnt : ∀ (l : List Bool) (i : Nat) (h : i < l.length), l[i] = false → ((l.set i true).filter (fun b => !b)).length + 1 = (l.filter (fun b => !b)).length := by
        intro l
        induction l with
        | nil => intro i h; simp at h
        | cons b l ihl =>
          intro i h hb
          cases i with
          | zero => simp only [List.getElem_cons_zero] at hb; subst hb; simp
          | succ i =>
            have := ihl i (by simpa using h) (by simpa using hb)
            simp only [List.set_cons_succ, List.filter_cons]
            split
            · simp only [List.length_cons]; omega
            · exact this
      have := hcnt L.toList j (by simpa using hjL) (by
        rw [Array.getD_eq_getD_getElem?, Array.getElem?_eq_getElem hjL] at hnot
        simpa using hnot)
      have e1 : (L.setIfInBounds j true).toList = L.toList.set j true := by simp
      rw [e1]
      omega
theorem region_drawn (hC : CtxOK P C) (hm : P.follows .mixedOrders = true) {ops : Array Oper} {id : Nat} {is : List Iop} {σ σ' : St} {a : Act} {w : World} {Q : Exit → Act → World → Prop} (hi : ioeqs P ops nt ops.toList is = true) (hd : drok ops.toList is = true)
    (hR : Rel E C.G nt σ a w) (he : evOps C is σ = some σ') (hQ : ∀ a' w', Rel E C.G nt σ' a' w' → Q .normal a' w') {ro : Option Nat} : (Code.region id ops true).wpIn (fw ro) 0 P Q a w := by
  obtain ⟨hlen, _⟩ := ioeqs_get hi
  have hz : ∀ (l : List Iop) (τ : St), stAt C l τ 0 = τ := fun l τ => by cases l <;> rfl
  have hsz : ops.size = is.length := by simpa using hlen
  have hL : ∀ j, (Array.replicate ops.size false).getD j false = false := by
    intro j
    simp only [Array.getD_eq_getD_getElem?, Array.getElem?_replicate]
    split <;> rfl
  refine wpIn_region_any hm (drawn_wp hC hi hd he hQ ops.size _ σ.fr 0 a _ (by simp [hsz]) (fun j hj => by rw [hL] at hj; simp at hj) (Nat.zero_le _) ?_ (fun j h _ _ => by rw [hL]; simp) (fun t => ⟨0, Nat.zero_le _, by rw [hz], fun j h _ => by rw [hL]; simp⟩) (fun j h hk => by omega) ?_)
  · rw [hz]
    obtain ⟨m, r1, r2, r3, r4, r5, r6, r7⟩ := hR
    have hb : Below w.heap.size w { w with drawn := w.drawn + 1 } := (Below.refl _ w).drew
    exact ⟨m, r1.grow hb, r2.grow hb, r3.trans (Up.grow hb), r4.trans (hb.mono r1.hB), r5, r6, r7⟩
  · refine Nat.le_trans (List.length_filter_le _ _) (by simp)
end
end Go.Proofs.Dv
set_option linter.unusedVariables false
set_option linter.unusedSimpArgs false
namespace Go.Proofs.Dv
open Go.RowKit
theorem idlts_get {n : Nat} : ∀ {ds : List D}, idlt.idlts n ds = true → ∀ j (h : j < ds.length), idlt n ds[j] = true
  | [], _, j, h => by simp at h
  | d :: ds, hd, j, h => by
    simp only [idlt.idlts, Bool.and_eq_true] at hd
    cases j with
    | zero => exact hd.1
    | succ j => simpa using idlts_get hd.2 j (by simpa using h)
theorem lkh_filter {n : Nat} : ∀ (hp : List (Nat × Blk)) (i : Nat), lkh (hp.filter fun p => decide (p.1 < n)) i = if i < n then lkh hp i else none
  | [], i => by simp [lkh]
  | (j, b) :: hp, i => by
    simp only [List.filter_cons]
    split
    · rename_i h
      simp only [decide_eq_true_eq] at h
      simp only [lkh]
      split
      · rename_i hi; subst hi; simp [h]
      · exact lkh_filter hp i
    · rename_i h
      simp only [decide_eq_true_eq] at h
      simp only [lkh]
      rw [lkh_filter hp i]
      split
      · rename_i hi
        rw [if_neg (by omega)]
      · rfl
theorem lkf_keep {fr : List (Nat × D)} {keep : List Nat} {t : Nat} : lkf (keep.map fun s => (s, lkf fr s)) t = if t ∈ keep then lkf fr t else .junk := by
  induction keep with
  | nil => simp [lkf]
  | cons k ks ih =>
    simp only [List.map_cons, lkf, List.mem_cons]
    by_cases h : t = k
    · subst h; simp
    · simp [h, ih]
theorem hplt_get {n : Nat} : ∀ {hp : List (Nat × Blk)} {id : Nat} {cells : List D}, hplt n hp = true → lkh hp id = some (.box cells) → id < n → ∀ c ∈ cells, idlt n c = true
  | [], id, cells, h, hl, hi => by simp [lkh] at hl
  | (j, .box cs) :: hp, id, cells, h, hl, hi => by
    simp only [hplt, Bool.and_eq_true, Bool.or_eq_true, decide_eq_true_eq, List.all_eq_true] at h
    simp only [lkh] at hl
    split at hl
    · rename_i hj
      simp only [Option.some.injEq, Blk.box.injEq] at hl
      subst hj hl
      rcases h.1 with h1 | h1
      · omega
      · exact h1
    · exact hplt_get h.2 hl hi
  | (j, .row z els) :: hp, id, cells, h, hl, hi => by
    simp only [hplt] at h
    simp only [lkh] at hl
    split at hl
    · simp at hl
    · exact hplt_get h hl hi
  | (j, .map es) :: hp, id, cells, h, hl, hi => by
    simp only [hplt] at h
    simp only [lkh] at hl
    split at hl
    · simp at hl
    · exact hplt_get h hl hi
section
variable {S0 : Nat → Nat → Prop} {B : Nat} {m : Mp} {hp : List (Nat × Blk)} {nx n : Nat} {w : World} {G : Nat → Option (List D)}
theorem stab_trim : ∀ b o, stab S0 B m hp w b o → stab S0 B m (hp.filter fun p => decide (p.1 < n)) w b o := by
  rintro b o (h | ⟨h1, h2, h3, h4⟩)
  · exact .inl h
  · refine .inr ⟨h1, h2, fun id cs hl e => ?_, fun id z els hl e => ?_⟩
    · rw [lkh_filter] at hl
      split at hl
      · exact h3 id cs hl e
      · simp at hl
    · rw [lkh_filter] at hl
      split at hl
      · exact h4 id z els hl e
      · simp at hl
theorem own_trim {id k : Nat} {u : Value} (h : (env m hp nx).own id k u) (hi : id < n) : (env m (hp.filter fun p => decide (p.1 < n)) n).own id k u :=
  ⟨hi, h.2.1, fun z els hl => by rw [lkh_filter, if_pos hi] at hl; exact h.2.2.1 z els hl, fun cells hl => by rw [lkh_filter, if_pos hi] at hl; exact h.2.2.2 cells hl⟩
theorem ptr_trim {id k : Nat} {u : Value} (h : (env m hp nx).ptr id k u) (hi : id < n) : (env m (hp.filter fun p => decide (p.1 < n)) n).ptr id k u := ⟨hi, h.2⟩
theorem mp_trim {id : Nat} {u : Value} (h : (env m hp nx).mp id u) (hi : id < n) : (env m (hp.filter fun p => decide (p.1 < n)) n).mp id u := ⟨hi, h.2⟩
theorem Rd.trim : ∀ (d : D) (u : Value), idlt n d = true → RdS S0 B m hp nx w d u → RdS S0 B m (hp.filter fun p => decide (p.1 < n)) n w d u
  | .v x, u, _, h => Rd_v.2 (Rd_v.1 h)
  | .lst b es, u, _, h => (Rd.mono (fun _ _ _ _ h => h) stab_trim _ none none u (fun E h => by cases h) (Rd.closed _ _ _ rfl h)).open_
  | .rp cs, u, _, h => (Rd.mono (fun _ _ _ _ h => h) stab_trim _ none none u (fun E h => by cases h) (Rd.closed _ _ _ rfl h)).open_
  | .agg ds, u, hd, h => by
    obtain ⟨cs, rfl, h1, h2⟩ := Rd_agg.1 h
    refine Rd_agg.2 ⟨cs, rfl, h1, fun j hj => ?_⟩
    obtain ⟨c, c1, c2, c3⟩ := h2 j hj
    exact ⟨c, c1, c2, Rd.trim ds[j] c (idlts_get (by simpa [idlt] using hd) j hj) c3⟩
  | .fn f ds, u, hd, h => by
    obtain ⟨cs, rfl, h1, h2⟩ := Rd_fn.1 h
    refine Rd_fn.2 ⟨cs, rfl, h1, fun j hj => ?_⟩
    obtain ⟨c, c1, c3⟩ := h2 j hj
    exact ⟨c, c1, Rd.trim ds[j] c (idlts_get (by simpa [idlt] using hd) j hj) c3⟩
  | .tup ds, u, hd, h => by
    obtain ⟨cs, rfl, h1, h2⟩ := Rd_tup.1 h
    refine Rd_tup.2 ⟨cs, rfl, h1, fun j hj => ?_⟩
    obtain ⟨c, c1, c3⟩ := h2 j hj
    exact ⟨c, c1, Rd.trim ds[j] c (idlts_get (by simpa [idlt] using hd) j hj) c3⟩
  | .own id k, u, hd, h => Rd_own.2 (own_trim (Rd_own.1 h) (by simpa [idlt] using hd))
  | .ptr id k, u, hd, h => Rd_ptr.2 (ptr_trim (Rd_ptr.1 h) (by simpa [idlt] using hd))
  | .mp id, u, hd, h => Rd_mp.2 (mp_trim (Rd_mp.1 h) (by simpa [idlt] using hd))
  | .junk, u, _, h => Rd_junk
termination_by d => SizeOf.sizeOf d
decreasing_by
  all_goals
    have := sz_get hj
    simp; omega
theorem relm_trim {E : Ent} {m : Mp} {nt : Nat} {keep : List Nat} {σ σ' : St} {a : Act} (h : trim keep n σ = some σ') (hn : E.nx ≤ n) (hR : RelM E G nt m σ a w) : RelM E G nt m σ' a w := by
  unfold trim at h
  split at h
  · rename_i hc
    simp only [Bool.and_eq_true, List.all_eq_true] at hc
    obtain ⟨hk, hh⟩ := hc
    simp only [Option.some.injEq] at h
    subst h
    obtain ⟨r1, r2, r3, r4, r5, r6, r7⟩ := hR
    refine ⟨⟨r1.hB, fun id blk hl => ?_, fun i j bi bj k hi hj hki hkj => ?_, fun g cs hg => ?_⟩, fun t => ?_, ⟨r3.cell, fun b o h => stab_trim b o (r3.st b o h), fun id k u h => own_trim (r3.own id k u h) (by have := h.1; omega), fun id k u h => ptr_trim (r3.ptr id k u h) (by have := h.1; omega), fun id u h => mp_trim (r3.mp id u h) (by have := h.1; omega), r3.oth⟩, r4, hn, r6, r7⟩
    · rw [lkh_filter] at hl
      split at hl
      · rename_i hi
        refine ⟨hi, ?_⟩
        have h1 := (r1.bl _ _ hl).2
        cases blk with
        | box cells =>
          obtain ⟨arr, T, g1, g2, g3, g4⟩ := h1
          refine ⟨arr, T, g1, g2, g3, fun j hj => ?_⟩
          obtain ⟨c, c1, c2, c3⟩ := g4 j hj
          exact ⟨c, c1, c2, Rd.trim _ _ (hplt_get hh hl hi _ (List.getElem_mem hj)) c3⟩
        | row z els =>
          obtain ⟨g1, g2, g3⟩ := h1
          refine ⟨g1, g2, g3.imp (fun x => x) ?_⟩
          rintro ⟨g, cap, cur, e, k1, k2, k3, k4, k5, k6, k7⟩
          refine ⟨g, cap, cur, e, k1, k2, k3, k4, k5, k6, fun k hk => ?_⟩
          obtain ⟨c, c1, c2, c3⟩ := k7 k hk
          exact ⟨c, c1, c2, Rd.mono (fun _ _ _ _ h => h) stab_trim _ none none c (fun E h => by cases h) c3⟩
        | map es => exact h1
      · simp at hl
    · rw [lkh_filter] at hi hj
      split at hi
      · split at hj
        · exact r1.dj i j bi bj k hi hj hki hkj
        · simp at hj
      · simp at hi
    · exact Rd.mono (fun _ _ _ _ h => h) stab_trim _ none none _ (fun E h => by cases h) (r1.gl g cs hg)
    · simp only []
      rw [lkf_keep]
      split
      · rename_i ht
        exact Rd.trim _ _ (hk t ht) (r2 t)
      · exact Rd_junk
  · simp at h
theorem rel_trim {E : Ent} {nt : Nat} {keep : List Nat} {σ σ' : St} {a : Act} (h : trim keep n σ = some σ') (hn : E.nx ≤ n) (hR : Rel E G nt σ a w) : Rel E G nt σ' a w := by
  obtain ⟨m, hR⟩ := hR
  exact ⟨m, relm_trim h hn hR⟩
end
def norng : IC → Bool
  | .rng _ _ _ _ _ => false
  | .seq a b | .cond _ a b => norng a && norng b
  | .blk _ a | .loop _ a | .own _ _ a | .ownb _ _ _ a | .fz _ a | .fzo _ a => norng a
  | _ => true
section
variable (P : Program)
def chk (nt : Nat) : IC → Code → Bool
  | .bad, _ => true
  | .skip, .skip => true
  | .reg is dr, .region _ ops dr' => dr == dr' && ioeqs P ops nt ops.toList is && (!dr || drok ops.toList is)
  | .seq a b, .seq a' b' => chk nt a a' && chk nt b b'
  | .cond x a b, .cond x' a' b' => oeq x' x && chk nt a a' && chk nt b b'
  | .blk i a, .block j a' => i == j && chk nt a a'
  | .loop _ a, .loop a' => chk nt a a'
  | .exit i, .exit j => i == j
  | .ret, .ret => true
  | .rng f ps _ a b, .rangeFunc g qs a' b' => oeq g f && qs.toList == ps && ps.all (fun p => decide (p < nt)) && norng a && norng b && chk nt a a' && chk nt b b'
  | .own t sz a, c => decide (0 < sz) && chk nt a c
  | .fz _ a, c => chk nt a c
  | .fzo _ a, c => chk nt a c
  | .ownb t off sz a, c => decide (0 < sz) && chk nt a c
  | _, _ => false
end
def exm : Ex → Exit → Prop
  | .nm, e => e = .normal
  | .ex i, e => e = .exit i
  | .rt, e => e = .ret
section
variable {P : Program} {C : Ctx} {E : Ent} {nt : Nat}
def Post (C : Ctx) (E : Ent) (nt : Nat) (e : Ex) (σ : St) : Exit → Act → World → Prop := fun x a w => exm e x ∧ Rel E C.G nt σ a w
end
section
variable {S0 : Nat → Nat → Prop} {B : Nat} {m : Mp} {hp : List (Nat × Blk)} {nx : Nat} {w : World} {G : Nat → Option (List D)}
theorem rmh_lk (hp : List (Nat × Blk)) (id i : Nat) : lkh (rmh hp id) i = if i = id then none else lkh hp i := by
  unfold rmh
  induction hp with
  | nil => simp [lkh]
  | cons p hp ih =>
    obtain ⟨j, b⟩ := p
    simp only [List.filter_cons]
    by_cases hj : j = id
    · subst hj
      simp only [bne_self_eq_false, Bool.false_eq_true, if_false, ih, lkh]
      split <;> simp_all
    · rw [if_pos (by simpa using hj)]
      simp only [lkh, ih]
      by_cases hi : i = j
      · subst hi; simp [hj]
      · simp [hi]
theorem rm_up (id : Nat) : Up S0 B m hp nx w m (rmh hp id) nx w := by
  refine ⟨fun _ _ _ _ h => h, ?_, fun i n u h => ⟨h.1, h.2.1, fun z els hl => ?_, fun cells hl => by
    rw [rmh_lk] at hl
    split at hl
    · simp at hl
    · exact h.2.2.2 cells hl⟩, fun _ _ _ h => h, fun _ _ h => h, fun _ _ h _ => h⟩
  · rintro b o (h | ⟨h1, h2, h3, h4⟩)
    · exact .inl h
    · refine .inr ⟨h1, h2, fun i cs hl => ?_, fun i z els hl => ?_⟩
      · rw [rmh_lk] at hl
        split at hl
        · simp at hl
        · exact h3 i cs hl
      · rw [rmh_lk] at hl
        split at hl
        · simp at hl
        · exact h4 i z els hl
  · rw [rmh_lk] at hl
    split at hl
    · simp at hl
    · exact h.2.2.1 z els hl
theorem BlkOK.up {m' : Mp} {hp' : List (Nat × Blk)} {nx' id : Nat} {b : Blk} (h : Up S0 B m hp nx w m hp' nx' w) (hb : BlkOK S0 B m hp nx w id b) : BlkOK S0 B m hp' nx' w id b := by
  cases b with
  | box cells =>
    obtain ⟨arr, T, h1, h2, h3, h4⟩ := hb
    refine ⟨arr, T, h1, h2, h3, fun j hj => ?_⟩
    obtain ⟨c, h5, h6, h7⟩ := h4 j hj
    exact ⟨c, h5, h6, h.rd h7⟩
  | row sz els =>
    obtain ⟨h0, h1, h2⟩ := hb
    refine ⟨h0, h1, h2.imp (fun x => x) ?_⟩
    rintro ⟨g, cap, cur, e, k1, k2, k3, k4, k5, k6, k7⟩
    refine ⟨g, cap, cur, e, k1, k2, k3, k4, k5, k6, fun k hk => ?_⟩
    obtain ⟨c, h5, h6, h7⟩ := k7 k hk
    exact ⟨c, h5, h6, h.rd0 h7⟩
  | map es => exact hb
theorem rm_hrel {id : Nat} (hH : HRel S0 B m hp nx w G) : HRel S0 B m (rmh hp id) nx w G := by
  refine ⟨hH.hB, fun i blk hl => ?_, fun i j bi bj k hi hj => ?_, fun g cs hg => (rm_up (nx := nx) id).rd0 (hH.gl g cs hg)⟩
  · rw [rmh_lk] at hl
    split at hl
    · simp at hl
    · exact ⟨(hH.bl _ _ hl).1, (hH.bl _ _ hl).2.up (m' := m) (rm_up id)⟩
  · rw [rmh_lk] at hi hj
    split at hi
    · simp at hi
    · split at hj
      · simp at hj
      · exact hH.dj i j bi bj k hi hj
theorem rm_rd {id : Nat} {cells : List D} (hH : HRel S0 B m hp nx w G) (hl : lkh hp id = some (.box cells)) (hc : cl.cls cells = true) :
    Rd0 S0 B m (rmh hp id) w (.rp cells) (.pointer (some ⟨m.ρ id, 0, none⟩)) := by
  have hb := (hH.bl _ _ hl).2
  obtain ⟨arr, T, h1, h2, h3, h4⟩ := hb
  refine Rd_rp.2 ⟨_, _, rfl, fun j hj => ?_⟩
  obtain ⟨c, c1, c2, c3⟩ := h4 j hj
  refine ⟨c, ?_, ?_, c2, (rm_up (nx := nx) id).rd0 (Rd.closed _ _ _ (cls_get hc j hj) c3)⟩
  · simp only [World.cell?, h1, Nat.zero_add]; exact c1
  · refine .inr ⟨h2, (Array.getElem?_eq_some_iff.1 h1).1, fun i cs hi e => ?_, fun i z els hi e => ?_⟩
    · rw [rmh_lk] at hi
      split at hi
      · simp at hi
      · rename_i hne
        exact hne (hH.dj i id _ _ (m.ρ id) hi hl (by simp [blkOf, e]) rfl)
    · rw [rmh_lk] at hi
      split at hi
      · simp at hi
      · rename_i hne
        exact (hne (hH.dj i id _ _ (m.ρ id) hi hl e rfl)).elim
theorem frz_ok : ∀ {ds : List D} {hp hp1 : List (Nat × Blk)} {es : List D}, frz hp ds = some (hp1, es) → HRel S0 B m hp nx w G →
    HRel S0 B m hp1 nx w G ∧ Up S0 B m hp nx w m hp1 nx w ∧ es.length = ds.length ∧ ∀ j (h : j < ds.length) (h' : j < es.length) v, RdS S0 B m hp nx w ds[j] v → Rd0 S0 B m hp1 w es[j] v
  | [], hp, hp1, es, h, hH => by
    simp only [frz, Option.some.injEq, Prod.mk.injEq] at h
    obtain ⟨rfl, rfl⟩ := h
    exact ⟨hH, Up.refl, rfl, fun j h => by simp at h⟩
  | d :: ds, hp, hp1, es, h, hH => by
    have plainCase : (if cl d = true then (frz hp ds).map fun r => (r.1, d :: r.2) else none) = some (hp1, es) → HRel S0 B m hp1 nx w G ∧ Up S0 B m hp nx w m hp1 nx w ∧ es.length = (d :: ds).length ∧ ∀ j (h : j < (d :: ds).length) (h' : j < es.length) v, RdS S0 B m hp nx w (d :: ds)[j] v → Rd0 S0 B m hp1 w es[j] v := by
      intro h
      split at h
      · rename_i hcl
        simp only [Option.map_eq_some_iff, Prod.mk.injEq] at h
        obtain ⟨⟨hp2, es2⟩, h1, rfl, rfl⟩ := h
        obtain ⟨g1, g2, g3, g4⟩ := frz_ok h1 hH
        refine ⟨g1, g2, by simp [g3], fun j hj hj' v hv => ?_⟩
        cases j with
        | zero => exact g2.rd0 (Rd.closed _ _ _ hcl hv)
        | succ j => exact g4 j (by simpa using hj) (by simpa using hj') v hv
      · simp at h
    have ptrCase : ∀ id, d = .ptr id 0 → frz hp (.ptr id 0 :: ds) = some (hp1, es) → HRel S0 B m hp1 nx w G ∧ Up S0 B m hp nx w m hp1 nx w ∧ es.length = (d :: ds).length ∧ ∀ j (h : j < (d :: ds).length) (h' : j < es.length) v, RdS S0 B m hp nx w (d :: ds)[j] v → Rd0 S0 B m hp1 w es[j] v := by
      rintro id rfl h
      simp only [frz] at h
      split at h
      · rename_i cells hl
        split at h
        · rename_i hcl
          simp only [Option.map_eq_some_iff, Prod.mk.injEq] at h
          obtain ⟨⟨hp2, es2⟩, h1, rfl, rfl⟩ := h
          obtain ⟨g1, g2, g3, g4⟩ := frz_ok h1 (rm_hrel hH)
          refine ⟨g1, (rm_up id).trans g2, by simp [g3], fun j hj hj' v hv => ?_⟩
          cases j with
          | zero =>
            have := (Rd_ptr.1 hv).2
            subst this
            exact g2.rd0 (rm_rd hH hl hcl)
          | succ j => exact g4 j (by simpa using hj) (by simpa using hj') v ((rm_up id).rd hv)
        · simp at h
      · simp at h
    cases d with
    | ptr id o =>
      cases o with
      | zero => exact ptrCase id rfl h
      | succ o => exact plainCase (by simpa only [frz] using h)
    | _ => exact plainCase (by simpa only [frz] using h)
end
section
variable {P : Program} {C : Ctx} {nt : Nat}
def pend : Ex → Option Code
  | .nm => none
  | .ex i => some (.exit i)
  | .rt => some .ret
theorem putl_rd {S0 : Nat → Nat → Prop} {B : Nat} {m : Mp} {hp : List (Nat × Blk)} {nx : Nat} {w : World} : ∀ (ps : List Nat) (ds : List D) (vs : List Value) (fr : List (Nat × D)) (t : Array Value), ps.length = ds.length → vs.length = ds.length → (∀ p ∈ ps, p < t.size) →
    (∀ j (h : j < ds.length) (h' : j < vs.length), RdS S0 B m hp nx w ds[j] vs[j]) → FRel S0 B m hp nx w fr { tmps := t, defers := [] } →
    FRel S0 B m hp nx w (putl ps ds fr) { tmps := (ps.zip vs).foldl (fun t (p : Nat × Value) => t.setIfInBounds p.1 p.2) t, defers := [] }
  | [], ds, vs, fr, t, h1, h2, hp', h3, hF => by cases ds <;> simp_all [putl]
  | p :: ps, [], vs, fr, t, h1, h2, hp', h3, hF => by simp at h1
  | p :: ps, d :: ds, [], fr, t, h1, h2, hp', h3, hF => by simp at h2
  | p :: ps, d :: ds, v :: vs, fr, t, h1, h2, hp', h3, hF => by
    simp only [putl, List.zip_cons_cons, List.foldl_cons]
    refine putl_rd ps ds vs _ _ (by simpa using h1) (by simpa using h2) (fun q hq => by simpa using hp' q (List.mem_cons_of_mem _ hq)) (fun j h h' => h3 (j + 1) (by simpa using h) (by simpa using h')) ?_
    have := hF.put_ (dst := some p) (d := d) (v := v) (fun t ht => by simp only [Option.some.injEq] at ht; subst ht; exact hp' _ List.mem_cons_self) (h3 0 (by simp) (by simp))
    exact this
theorem Turn.mono {L L' : Nat} {w w' : World} (h : Turn L w w') (hl : L' ≤ L) : Turn L' w w' :=
  ⟨h.os, h.tape, h.output, h.size, fun k o hk hc => h.keep k o hk (hc.imp (fun x => x) fun hh => Nat.lt_of_lt_of_le hh hl)⟩
theorem trim_hp {keep : List Nat} {n : Nat} {σ σ' : St} (h : trim keep n σ = some σ') : σ'.hp = σ.hp.filter (fun p => decide (p.1 < n)) ∧ σ'.nx = n := by
  unfold trim at h
  split at h
  · simp only [Option.some.injEq] at h
    subst h
    exact ⟨rfl, rfl⟩
  · simp at h
theorem RelM.turn {E : Ent} {G : Nat → Option (List D)} {m : Mp} {σ : St} {t : Array Value} {W W' : World} (h : RelM E G nt m σ { tmps := t, defers := [] } W) (hT : Turn E.w.heap.size W W') (hB : E.B ≤ E.w.heap.size) :
    RelM E G nt m σ { tmps := t, defers := [] } W' :=
  ⟨hT.hrel h.1, hT.frel h.2.1, hT.up h.2.2.1, hT.below hB h.2.2.2.1, h.2.2.2.2.1, h.2.2.2.2.2.1, Marks.nil⟩
theorem rng_ok (hC : CtxOK P C) {g : Operand} {f : Opd} {qs : Array Nat} {ps keep : List Nat} {assign body : Code} {A Bd : St → Option (Ex × St)} {E : Ent} {σ : St} {a : Act} {w : World} {e : Ex} {σ' : St}
    (hg : oeq g f = true) (hq : qs.toList = ps) (hps : ∀ p ∈ ps, p < nt)
    (hA : ∀ (E : Ent) (l : Nat) (σ : St) (a : Act) (w : World) (e : Ex) (σ' : St), Rel E C.G nt σ a w → A σ = some (e, σ') → assign.wpIn (fw (some l)) 0 P (Post C E nt e σ') a w)
    (hBd : ∀ (E : Ent) (l : Nat) (σ : St) (a : Act) (w : World) (e : Ex) (σ' : St), Rel E C.G nt σ a w → Bd σ = some (e, σ') → body.wpIn (fw (some l)) 0 P (Post C E nt e σ') a w)
    (hLe : ∀ D, E.w.heap.size ≤ D → E.L D) (hR : Rel E C.G nt σ a w)
    (he : (match evO C σ.fr f with
      | .fn gf caps => (frz σ.hp caps).bind fun r => (C.I gf r.2).bind fun xs => (trim keep σ.nx ⟨σ.fr, r.1, σ.nx⟩).bind fun τ => rnds (round ps A Bd) (trim keep σ.nx) xs τ
      | _ => none) = some (e, σ')) :
    (Code.rangeFunc g qs assign body).wpIn (fw none) 0 P (Post C E nt e σ') a w := by
  obtain ⟨m, hR⟩ := hR
  have hgv := O_rd hR.2.1 hR.1 hg
  cases hv : evO C σ.fr f with
  | fn gf caps =>
    rw [hv] at he hgv
    simp only [Option.bind_eq_some_iff] at he
    obtain ⟨⟨hp1, caps1⟩, h1, xs, h2, τ, h3, h4⟩ := he
    obtain ⟨cs, e1, e2, e3⟩ := Rd_fn.1 hgv
    obtain ⟨g1, g2, g3, g4⟩ := frz_ok h1 hR.1
    have hn := hR.2.2.2.2.1
    have hR1 : RelM E C.G nt m ⟨σ.fr, hp1, σ.nx⟩ a w := ⟨g1, g2.frel hR.2.1, hR.2.2.1.trans g2, hR.2.2.2.1, hn, hR.2.2.2.2.2.1, hR.2.2.2.2.2.2⟩
    have hR2 := relm_trim h3 hn hR1
    obtain ⟨hτh, hτn⟩ := trim_hp h3
    obtain ⟨hcall, hIt⟩ := hC.I gf caps1 xs h2
    have hcaps : Args w (stab E.S0 E.B m τ.hp w) none cs caps1 := by
      refine ⟨by rw [e2, g3], fun j hj => ?_⟩
      obtain ⟨c, c1, c2⟩ := e3 j (by omega)
      exact ⟨c, c1, Rd.mono (fun _ _ _ _ h => h) (by rw [hτh]; exact stab_trim) _ none none c (fun E h => by cases h) (g4 j (by omega) hj c c2)⟩
    have hit := hIt w _ cs (fun b o h => stab_bound hR2.1.hB b o h) hcaps
    obtain ⟨r1, r2, r3, r4, r5, r6, r7⟩ := hR2
    refine wpIn_rangeFunc ?_
    intro fn hfn
    obtain ⟨rec, hrec⟩ : ∃ rec : LoopState → Option Code → Loop, rec = fun st pe => { state := st, pending := pe, fn, tmps := a.tmps, params := qs, assign, body, defers := w.heap.size } := ⟨_, rfl⟩
    obtain ⟨W1, hW1⟩ : ∃ W1, (w.alloc (.deferred (some []))).alloc (.loop (rec .ready none)) = W1 := ⟨_, rfl⟩
    have hs1 : W1.heap.size = w.heap.size + 2 := by rw [← hW1]; simp
    have hL1 : W1.heap[w.heap.size + 1]? = some (.loop (rec .ready none)) := by
      rw [← hW1]; have := World.alloc_heap_new (w.alloc (.deferred (some []))) (.loop (rec .ready none)); rwa [World.size_alloc] at this
    have hD1 : W1.heap[w.heap.size]? = some (.deferred (some [])) := by
      rw [← hW1]; exact (Below.heap_alloc _ _ _ (by simp)).trans (World.alloc_heap_new w _)
    have hT1 : Turn w.heap.size w W1 := by rw [← hW1]; exact (Turn.alloc _).trans (Turn.alloc _)
    have hb1 : Below w.heap.size w W1 := by
      rw [← hW1]; exact ((Below.refl _ w).alloc (Nat.le_refl _) _).alloc (by simp) _
    let E0 : Ent := ⟨E.S0, E.B, m, τ.hp, τ.nx, w, fun _ => True⟩
    have hRM1 : RelM E0 C.G nt m τ { tmps := a.tmps, defers := [] } W1 :=
      RelM.turn (E := E0) ⟨r1, r2, Up.refl, Below.refl _ _, Nat.le_refl _, r6, Marks.nil⟩ hT1 r1.hB
    have hE : (Instr.enterLoop fn a.tmps qs assign body (fw none).round).run P w = .ok (w.heap.size + 1, [{ target := .collected w.heap.size, args := #[] }]) W1 := by
      rw [← hW1, hrec]; exact run_enterLoop_outer _ _ _ _ _
    refine ⟨w.heap.size + 1, [{ target := .collected w.heap.size, args := #[] }], W1, { target := .fn (.func gf) cs, args := #[.func (.yield (w.heap.size + 1)) #[] #[]] }, W1, gf,
      #[.func (.yield (w.heap.size + 1)) #[] #[]] ++ cs, W1, hE, ?_, ?_, ?_, (fun h => by cases h), ?_⟩
    · simp only [resolve, e1]
      simp [go_sem]
    · intro f' hf'; exact fw_fn none f'
    · unfold callable at hcall
      split at hcall
      · rename_i fnn hfnn
        simp only [Bool.and_eq_true, bne_iff_ne, ne_eq, Option.isSome_iff_exists] at hcall
        obtain ⟨k1, b, k2⟩ := hcall
        have e4 : (fnn.name == "runtime.NumGoroutine") = false := by simpa using k1
        have e5 : fnn.body.isNone = false := by rw [k2]; rfl
        simp only [invoke, callFunc, Sem.run_bind, run_program, Result.andThen_ok, hfnn, e4, e5, Bool.false_eq_true, if_false]
        rfl
      · simp at hcall
    · refine CallsIn.mono (callsIn_wide.2 (hit (w.heap.size + 1)
        (fun k T W => ∃ σk mk, rnds (round ps A Bd) (trim keep σ.nx) (xs.drop k) σk = some (e, σ') ∧ RelM E0 C.G nt mk σk { tmps := a.tmps, defers := [] } W ∧ (∀ b o, T b o → stab E.S0 E.B mk σk.hp W b o) ∧ W.heap[w.heap.size + 1]? = some (.loop (rec .ready none)) ∧ W.heap[w.heap.size]? = some (.deferred (some [])))
        (fun W => ∃ c mk, pend e = some c ∧ RelM E0 C.G nt mk σ' { tmps := a.tmps, defers := [] } W ∧ W.heap[w.heap.size + 1]? = some (.loop (rec .done (some c))) ∧ W.heap[w.heap.size]? = some (.deferred (some [])))
        W1 hb1 ?_ ?_ ?_ ⟨τ, m, by simpa using h4, hRM1, fun b o h => hT1.stab b o h, hL1, hD1⟩)) ?_
      ·
        rintro k T X Y ⟨σk, mk, q1, q2, q3, q4, q5⟩ hT
        refine ⟨σk, mk, q1, q2.turn (E := E0) (hT.mono (by rw [hs1]; exact Nat.le_add_right _ _)) r1.hB, ?_, hT.keep _ _ q4 (.inr (by omega)), hT.keep _ _ q5 (.inr (by omega))⟩
        rintro b o (h | ⟨k1, k2⟩)
        · exact hT.stab b o (q3 b o h)
        · refine .inr ⟨Nat.le_trans q2.1.hB k1, k2, fun id cs hl e => ?_, fun id z els hl e => ?_⟩
          · have := (blk_lt (q2.1.bl _ _ hl).2 (k := mk.ρ id) rfl).2; omega
          · have := (blk_lt (q2.1.bl _ _ hl).2 (k := b) e).2; omega
      · rintro X Y ⟨c, mk, q1, q2, q4, q5⟩ hT
        exact ⟨c, mk, q1, q2.turn (E := E0) (hT.mono (by rw [hs1]; exact Nat.le_add_right _ _)) r1.hB, hT.keep _ _ q4 (.inr (by omega)), hT.keep _ _ q5 (.inr (by omega))⟩
      ·
        rintro k x T X ds hx hargs ⟨σk, mk, q1, q2, q3, q4, q5⟩
        obtain ⟨hkx, hx'⟩ := List.getElem?_eq_some_iff.1 hx
        rw [← hx'] at hargs
        rw [List.drop_eq_getElem_cons hkx] at q1
        simp only [rnds] at q1
        cases hF : round ps A Bd xs[k] σk with
        | none => rw [hF] at q1; simp at q1
        | some r =>
          obtain ⟨e2', σ2⟩ := r
          rw [hF] at q1
          unfold round at hF
          split at hF
          · rename_i hc
            obtain ⟨hc1, hc2⟩ := hc
            split at hF
            · rename_i τ1 hAe
              have hsz : x.size = qs.size := by rw [hargs.1, hc1, ← hq]; simp
              have hy := run_yield (P := P) (args := x) q4 (by rw [hrec]; exact hsz)
              rw [hrec] at hy
              refine ⟨fn, _, assign, body, hy, roundIn_of_wpIn hfn ?_⟩
              clear hy
              let E1 : Ent := ⟨E.S0, E.B, mk, σk.hp, σk.nx, X, fun _ => True⟩
              have hxr : ∀ j (h : j < (xs[k]).length) (h' : j < x.toList.length), RdS E.S0 E.B mk σk.hp σk.nx X (xs[k])[j] x.toList[j] := by
                intro j h h'
                obtain ⟨v, v1, v2⟩ := hargs.2 j h
                have : x.toList[j] = v := by
                  have := (Array.getElem?_eq_some_iff.1 v1).2
                  simpa using this
                rw [this]
                exact (Rd.mono (fun _ _ _ _ h => h) q3 _ none none v (fun E h => by cases h) v2).open_
              have hfold : (qs.zip x).foldl (fun t (p : Nat × Value) => t.setIfInBounds p.1 p.2) a.tmps = (ps.zip x.toList).foldl (fun t (p : Nat × Value) => t.setIfInBounds p.1 p.2) a.tmps := by
                rw [← hq, ← Array.foldl_toList, Array.toList_zip]
              have hRel1 : Rel E1 C.G nt ⟨putl ps xs[k] σk.fr, σk.hp, σk.nx⟩ { tmps := (qs.zip x).foldl (fun t (p : Nat × Value) => t.setIfInBounds p.1 p.2) a.tmps, defers := [] } X := by
                rw [hfold]
                refine ⟨mk, q2.1, putl_rd ps xs[k] x.toList σk.fr a.tmps hc1.symm (by rw [Array.length_toList]; exact hargs.1) (fun p hp => by rw [r6]; exact hps p hp) hxr q2.2.1, Up.refl, Below.refl _ _, Nat.le_refl _, ?_, Marks.nil⟩
                have : ∀ (l : List (Nat × Value)) (t : Array Value), (l.foldl (fun t (p : Nat × Value) => t.setIfInBounds p.1 p.2) t).size = t.size := by
                  intro l
                  induction l with
                  | nil => intro t; rfl
                  | cons p l ih => intro t; rw [List.foldl_cons, ih]; simp
                rw [this]; exact r6
              refine wpIn_mono (hA E1 (w.heap.size + 1) _ _ X .nm τ1 hRel1 hAe) ?_
              rintro ex a1 Wa ⟨hx1, m1, s1, s2, s3, s4, s5, s6, s7⟩
              simp only [exm] at hx1
              subst hx1
              have hla : Wa.heap[w.heap.size + 1]? = some (.loop (rec .ready none)) := s3.oth _ _ q4 rfl
              have hDa : Wa.heap[w.heap.size]? = some (.deferred (some [])) := s3.oth _ _ q5 rfl
              refine ⟨_, run_beginRound hla (by rw [hrec]), ?_⟩
              have hlt : w.heap.size + 1 < Wa.heap.size := (Array.getElem?_eq_some_iff.1 hla).1
              have hT2 : Turn w.heap.size Wa (Wa.putObj (w.heap.size + 1) (.loop { rec .ready none with state := .busy })) := Turn.putObj hla rfl (by omega)
              have hl2 : (Wa.putObj (w.heap.size + 1) (.loop { rec .ready none with state := .busy })).heap[w.heap.size + 1]? = some (.loop { rec .ready none with state := .busy }) := World.putObj_heap_same hlt
              have ho2 : ∀ b, b ≠ w.heap.size + 1 → (Wa.putObj (w.heap.size + 1) (.loop { rec .ready none with state := .busy })).heap[b]? = Wa.heap[b]? := fun b hb => World.putObj_heap_other hb
              revert hT2 hl2 ho2
              generalize Wa.putObj (w.heap.size + 1) (.loop { rec .ready none with state := .busy }) = W2
              intro hT2 hl2 ho2
              let E2 : Ent := ⟨E.S0, E.B, m1, τ1.hp, τ1.nx, W2, fun _ => True⟩
              have hRel2 : Rel E2 C.G nt τ1 a1 W2 := by
                refine ⟨m1, hT2.hrel s1, hT2.frel s2, Up.refl, Below.refl _ _, Nat.le_refl _, s6, ?_⟩
                obtain ⟨Ds, d1, d2, d3⟩ := s7
                refine ⟨Ds, d1, d2, fun D hD => ⟨(d3 D hD).1, (d3 D hD).2.1, ?_⟩⟩
                rw [ho2]
                · exact (d3 D hD).2.2
                · intro e; subst e
                  have := (d3 _ hD).2.2
                  rw [hla] at this; simp at this
              refine wpIn_mono (hBd E2 (w.heap.size + 1) τ1 a1 W2 e2' σ2 hRel2 hF) ?_
              rintro ex a3 W3 ⟨hx3, m3, t1, t2, t3, t4, t5, t6, t7⟩
              have hl3 : W3.heap[w.heap.size + 1]? = some (.loop { rec .ready none with state := .busy }) := t3.oth _ _ hl2 rfl
              have hD3 : W3.heap[w.heap.size]? = some (.deferred (some [])) := t3.oth _ _ ((ho2 _ (by omega)).trans hDa) rfl
              have hM3 : RelM E0 C.G nt m3 ⟨σk.fr, σ2.hp, σ2.nx⟩ { tmps := a.tmps, defers := [] } W3 :=
                ⟨t1, t3.frel (hT2.frel (s3.frel q2.2.1)), (hT2.up (q2.2.2.1.trans s3)).trans t3, (hT2.below r1.hB (q2.2.2.2.1.trans s4)).trans t4, Nat.le_trans q2.2.2.2.2.1 (Nat.le_trans s5 t5), q2.2.2.2.2.2.1, Marks.nil⟩
              have hcell3 : ∀ b o u, T b o → X.cell? ⟨b, o, none⟩ = some u → W3.cell? ⟨b, o, none⟩ = some u := fun b o u h hc => t3.cell _ _ _ (hT2.stab _ _ (s3.st _ _ (q3 _ _ h))) (hT2.cell (s3.cell _ _ _ (q3 _ _ h) hc))
              have hst3 : ∀ b o, T b o → stab E.S0 E.B m3 σ2.hp W3 b o := fun b o h => t3.st _ _ (hT2.stab _ _ (s3.st _ _ (q3 _ _ h)))
              have hoth3 : ∀ b ob, X.heap[b]? = some ob → oth ob = true → b ≠ w.heap.size + 1 → W3.heap[b]? = some ob := fun b ob hb ho hne => t3.oth _ _ ((ho2 _ hne).trans (s3.oth _ _ hb ho)) ho
              have hlt3 : w.heap.size + 1 < W3.heap.size := (Array.getElem?_eq_some_iff.1 hl3).1
              have fin : ∀ (jump : Option Code), (Instr.endRound (w.heap.size + 1) jump).run P W3 = .ok (.bool jump.isNone) (W3.putObj (w.heap.size + 1) (.loop (rec (if jump.isNone then .ready else .done) jump))) := by
                intro jump
                have := run_endRound (P := P) jump hl3
                rw [hrec] at this ⊢
                exact this
              have hT4 : ∀ o' : Obj, Turn w.heap.size W3 (W3.putObj (w.heap.size + 1) o') := fun o' => Turn.putObj hl3 rfl (by omega)
              have hD4 : ∀ o' : Obj, (W3.putObj (w.heap.size + 1) o').heap[w.heap.size]? = some (.deferred (some [])) := fun o' => (World.putObj_heap_other (by omega)).trans hD3
              have stop : ∀ c, pend e2' = some c → some (e2', (⟨σk.fr, σ2.hp, σ2.nx⟩ : St)) = some (e, σ') → ∃ v w', (Instr.endRound (w.heap.size + 1) (some c)).run P W3 = .ok v w' ∧ (Ending.returned v = .returned (.bool false) ∧ ∃ c mk, pend e = some c ∧ RelM E0 C.G nt mk σ' { tmps := a.tmps, defers := [] } w' ∧ w'.heap[w.heap.size + 1]? = some (.loop (rec .done (some c))) ∧ w'.heap[w.heap.size]? = some (.deferred (some []))) := by
                intro c hc hh
                simp only [Option.some.injEq, Prod.mk.injEq] at hh
                obtain ⟨rfl, rfl⟩ := hh
                exact ⟨_, _, fin (some c), rfl, c, m3, hc, hM3.turn (E := E0) (hT4 _) r1.hB, World.putObj_heap_same hlt3, hD4 _⟩
              cases e2' with
              | nm =>
                simp only [exm] at hx3
                subst hx3
                simp only [Option.bind_eq_some_iff] at q1
                obtain ⟨σn, n1, n2⟩ := q1
                have hMn := relm_trim n1 (show τ.nx ≤ σ.nx by rw [hτn]; exact Nat.le_refl _) hM3
                obtain ⟨hnh, _⟩ := trim_hp n1
                refine ⟨_, _, fin none, .inl ⟨rfl, ⟨σn, m3, n2, hMn.turn (E := E0) (hT4 _) r1.hB, fun b o h => (hT4 _).stab b o (by rw [hnh]; exact stab_trim b o (hst3 b o h)), World.putObj_heap_same hlt3, hD4 _⟩, Nat.le_trans s4.size (Nat.le_trans hT2.size (Nat.le_trans t4.size (hT4 _).size)), fun b o u h hc => (hT4 _).cell (hcell3 b o u h hc), fun b ob hb ho hne => (World.putObj_heap_other hne).trans (hoth3 b ob hb ho hne)⟩⟩
              | ex i =>
                simp only [exm] at hx3
                subst hx3
                obtain ⟨v, w', k1, k2⟩ := stop _ rfl q1
                exact ⟨v, w', k1, .inr k2⟩
              | rt =>
                simp only [exm] at hx3
                subst hx3
                obtain ⟨v, w', k1, k2⟩ := stop _ rfl q1
                exact ⟨v, w', k1, .inr k2⟩
            · simp at hF
          · simp at hF
      ·
        have out : ∀ (mk : Mp) (W : World) (st : LoopState) (pe : Option Code), RelM E0 C.G nt mk σ' { tmps := a.tmps, defers := [] } W → W.heap[w.heap.size + 1]? = some (.loop (rec st pe)) → W.heap[w.heap.size]? = some (.deferred (some [])) → st ≠ .busy →
            ∃ W4, (Instr.endLoop (w.heap.size + 1)).run P W = .ok pe W4 ∧ Rel E C.G nt σ' { a with defers := [{ target := .collected w.heap.size, args := #[] }] ++ a.defers } W4 := by
          intro mk W st pe hM hl hDW hst
          have hrun := run_endLoop (P := P) hl (by rw [hrec]; exact hst)
          have hpe : (rec st pe).pending = pe := by rw [hrec]
          rw [hpe] at hrun
          refine ⟨_, hrun, mk, ?_⟩
          have hT4 : ∀ o' : Obj, Turn w.heap.size W (W.putObj (w.heap.size + 1) o') := fun o' => Turn.putObj hl rfl (by omega)
          have hEw : E.w.heap.size ≤ w.heap.size := r4.size
          refine ⟨(hT4 _).hrel hM.1, (hT4 _).frel hM.2.1, ((hT4 _).mono hEw).up (r3.trans hM.2.2.1), ?_, Nat.le_trans r5 hM.2.2.2.2.1, r6, ?_⟩
          · exact r4.trans ((hT4 _).below r1.hB hM.2.2.2.1)
          · obtain ⟨Ds, d1, d2, d3⟩ := r7
            refine ⟨w.heap.size :: Ds, by rw [d1]; rfl, List.nodup_cons.2 ⟨fun hm => ?_, d2⟩, fun D hD => ?_⟩
            · have := (Array.getElem?_eq_some_iff.1 (d3 _ hm).2.2).1
              omega
            · rcases List.mem_cons.1 hD with rfl | hD'
              · exact ⟨r1.hB, hLe _ hEw, (World.putObj_heap_other (by omega)).trans hDW⟩
              · obtain ⟨k1, k2, k3⟩ := d3 D hD'
                have hlt := (Array.getElem?_eq_some_iff.1 k3).1
                exact ⟨k1, k2, (World.putObj_heap_other (by omega)).trans (hM.2.2.1.oth _ _ k3 rfl)⟩
        rintro en W3 ⟨⟨v, rfl⟩, (⟨T, σk, mk, q1, q2, q3, q4, q5⟩ | ⟨c, mk, q1, q2, q4, q5⟩)⟩
        · rw [List.drop_eq_nil_of_le (by omega)] at q1
          simp only [rnds, Option.some.injEq, Prod.mk.injEq] at q1
          obtain ⟨rfl, rfl⟩ := q1
          obtain ⟨W4, k1, k2⟩ := out mk W3 .ready none q2 q4 q5 (by simp)
          exact ⟨none, W4, k1, rfl, k2⟩
        · obtain ⟨W4, k1, k2⟩ := out mk W3 .done (some c) q2 q4 q5 (by simp)
          refine ⟨some c, W4, k1, ?_⟩
          cases e with
          | nm => simp [pend] at q1
          | ex i =>
            simp only [pend, Option.some.injEq] at q1
            subst q1
            exact wpIn_exit ⟨rfl, k2⟩
          | rt =>
            simp only [pend, Option.some.injEq] at q1
            subst q1
            exact wpIn_ret ⟨rfl, k2⟩
  | _ => rw [hv] at he; simp at he
end
section
variable {P : Program} {C : Ctx} {nt : Nat}
theorem ev_wp (hC : CtxOK P C) (hm : P.follows .mixedOrders = true) (N : Nat) : ∀ (ic : IC) (E : Ent) (c : Code) (σ : St) (a : Act) (w : World) (e : Ex) (σ' : St), chk P nt ic c = true → Rel E C.G nt σ a w → ev C N ic σ = some (e, σ') →
    ∀ {ro : Option Nat}, ((ro = none ∧ ∀ D, E.w.heap.size ≤ D → E.L D) ∨ norng ic = true) → c.wpIn (fw ro) 0 P (Post C E nt e σ') a w
  | .skip, E, c, σ, a, w, e, σ', hc, hR, he, ro, hro => by
    cases c <;> simp [chk] at hc
    simp only [ev, Option.some.injEq, Prod.mk.injEq] at he
    obtain ⟨rfl, rfl⟩ := he
    exact wpIn_skip ⟨rfl, hR⟩
  | .reg is dr, E, c, σ, a, w, e, σ', hc, hR, he, ro, hro => by
    cases c <;> simp only [chk, Bool.false_eq_true] at hc
    rename_i id ops dr'
    simp only [Bool.and_eq_true, beq_iff_eq, Bool.or_eq_true, Bool.not_eq_true'] at hc
    obtain ⟨⟨rfl, h1⟩, h2⟩ := hc
    simp only [ev, Option.map_eq_some_iff, Prod.mk.injEq] at he
    obtain ⟨σ2, he, rfl, rfl⟩ := he
    cases dr with
    | false =>
      refine wpIn_region ?_
      have := ops_wp (E := E) (Q := Post C E nt .nm σ2) hC ops.toList is 0 σ σ2 a w (fun j => by simp) h1 hR he (fun a' w' h => ⟨rfl, h⟩) (ro := ro)
      rw [List.range_eq_range']
      simpa using this
    | true =>
      exact region_drawn hC hm h1 (by simpa using h2) hR he (fun a' w' h => ⟨rfl, h⟩)
  | .seq x y, E, c, σ, a, w, e, σ', hc, hR, he, ro, hro => by
    cases c <;> simp only [chk, Bool.false_eq_true] at hc
    rename_i x' y'
    simp only [Bool.and_eq_true] at hc
    simp only [ev] at he
    have ho1 : (ro = none ∧ ∀ D, E.w.heap.size ≤ D → E.L D) ∨ norng x = true := hro.imp (fun h => h) fun h => by simp only [norng, Bool.and_eq_true] at h; exact h.1
    have ho2 : (ro = none ∧ ∀ D, E.w.heap.size ≤ D → E.L D) ∨ norng y = true := hro.imp (fun h => h) fun h => by simp only [norng, Bool.and_eq_true] at h; exact h.2
    refine wpIn_seq ?_
    cases hx : ev C N x σ with
    | none => rw [hx] at he; simp at he
    | some r =>
      obtain ⟨ex, σ1⟩ := r
      have h1 := ev_wp hC hm N x E x' σ a w ex σ1 hc.1 hR hx ho1
      refine wpIn_mono h1 fun q a1 w1 hq => ?_
      obtain ⟨hq1, hq2⟩ := hq
      cases ex with
      | nm =>
        simp only [exm] at hq1
        subst hq1
        rw [hx] at he
        exact ev_wp hC hm N y E y' σ1 a1 w1 e σ' hc.2 hq2 he ho2
      | ex i =>
        simp only [exm] at hq1
        subst hq1
        rw [hx] at he
        simp only [Option.some.injEq, Prod.mk.injEq] at he
        obtain ⟨rfl, rfl⟩ := he
        exact ⟨rfl, hq2⟩
      | rt =>
        simp only [exm] at hq1
        subst hq1
        rw [hx] at he
        simp only [Option.some.injEq, Prod.mk.injEq] at he
        obtain ⟨rfl, rfl⟩ := he
        exact ⟨rfl, hq2⟩
  | .cond x y z, E, c, σ, a, w, e, σ', hc, hR, he, ro, hro => by
    cases c <;> simp only [chk, Bool.false_eq_true] at hc
    rename_i x' y' z'
    simp only [Bool.and_eq_true] at hc
    obtain ⟨⟨h1, h2⟩, h3⟩ := hc
    have ho1 : (ro = none ∧ ∀ D, E.w.heap.size ≤ D → E.L D) ∨ norng y = true := hro.imp (fun h => h) fun h => by simp only [norng, Bool.and_eq_true] at h; exact h.1
    have ho2 : (ro = none ∧ ∀ D, E.w.heap.size ≤ D → E.L D) ∨ norng z = true := hro.imp (fun h => h) fun h => by simp only [norng, Bool.and_eq_true] at h; exact h.2
    simp only [ev] at he
    cases hb : boolOf (evO C σ.fr x) with
    | none => rw [hb] at he; simp at he
    | some b =>
      rw [hb] at he
      obtain ⟨m, r1, r2, _⟩ := id hR
      have hx := O_rd r2 r1 h1
      rw [boolOf_v hb] at hx
      refine wpIn_cond (Rd_v.1 hx).1 ?_
      cases b with
      | true => exact ev_wp hC hm N y E y' σ a w e σ' h2 hR (by simpa using he) ho1
      | false => exact ev_wp hC hm N z E z' σ a w e σ' h3 hR (by simpa using he) ho2
  | .blk i x, E, c, σ, a, w, e, σ', hc, hR, he, ro, hro => by
    cases c <;> simp only [chk, Bool.false_eq_true] at hc
    rename_i j x'
    simp only [Bool.and_eq_true, beq_iff_eq] at hc
    obtain ⟨rfl, hc⟩ := hc
    simp only [ev] at he
    refine wpIn_block ?_
    cases hx : ev C N x σ with
    | none => rw [hx] at he; simp at he
    | some r =>
      obtain ⟨ex, σ1⟩ := r
      refine wpIn_mono (ev_wp hC hm N x E x' σ a w ex σ1 hc hR hx hro) fun q a1 w1 hq => ?_
      obtain ⟨hq1, hq2⟩ := hq
      rw [hx] at he
      cases ex with
      | nm =>
        simp only [exm] at hq1
        subst hq1
        simp only [Option.some.injEq, Prod.mk.injEq] at he
        obtain ⟨rfl, rfl⟩ := he
        exact ⟨rfl, hq2⟩
      | ex k =>
        simp only [exm] at hq1
        subst hq1
        simp only at he
        split at he
        · rename_i hk
          simp only [Option.some.injEq, Prod.mk.injEq] at he
          obtain ⟨rfl, rfl⟩ := he
          simp only [Exit.inBlock, hk, if_true]
          exact ⟨rfl, hq2⟩
        · rename_i hk
          simp only [Option.some.injEq, Prod.mk.injEq] at he
          obtain ⟨rfl, rfl⟩ := he
          simp only [Exit.inBlock, hk, if_false]
          exact ⟨rfl, hq2⟩
      | rt =>
        simp only [exm] at hq1
        subst hq1
        simp only [Option.some.injEq, Prod.mk.injEq] at he
        obtain ⟨rfl, rfl⟩ := he
        exact ⟨rfl, hq2⟩
  | .loop keep x, E, c, σ, a, w, e, σ', hc, hR, he, ro, hro => by
    cases c <;> simp only [chk, Bool.false_eq_true] at hc
    rename_i x'
    simp only [ev] at he
    refine wpIn_loop_rounds N ?_
    have hn : E.nx ≤ σ.nx := by obtain ⟨m, _, _, _, _, h, _⟩ := hR; exact h
    have key : ∀ (k : Nat) (τ : St) (a : Act) (w : World), Rel E C.G nt τ a w → iter (ev C N x) (trim keep σ.nx) k τ = some (e, σ') → Code.roundsIn (fw ro) 0 P x' (Post C E nt e σ') k a w := by
      intro k
      induction k with
      | zero => intro τ a w _ h; simp [iter] at h
      | succ k ih =>
        intro τ a w hR h
        simp only [iter, Option.bind_eq_some_iff] at h
        obtain ⟨τ2, h1, h2⟩ := h
        have hR2 := rel_trim h1 hn hR
        rw [roundsIn_succ]
        cases hx : ev C N x τ2 with
        | none => rw [hx] at h2; simp at h2
        | some r =>
          obtain ⟨ex, σ1⟩ := r
          rw [hx] at h2
          refine wpIn_mono (ev_wp hC hm N x E x' τ2 a w ex σ1 hc hR2 hx hro) fun q a1 w1 hq => ?_
          obtain ⟨hq1, hq2⟩ := hq
          cases ex with
          | nm =>
            simp only [exm] at hq1
            subst hq1
            exact ih σ1 a1 w1 hq2 h2
          | ex i =>
            simp only [exm] at hq1
            subst hq1
            simp only [Option.some.injEq, Prod.mk.injEq] at h2
            obtain ⟨rfl, rfl⟩ := h2
            exact ⟨rfl, hq2⟩
          | rt =>
            simp only [exm] at hq1
            subst hq1
            simp only [Option.some.injEq, Prod.mk.injEq] at h2
            obtain ⟨rfl, rfl⟩ := h2
            exact ⟨rfl, hq2⟩
    exact key N σ a w hR he
  | .exit i, E, c, σ, a, w, e, σ', hc, hR, he, ro, hro => by
    cases c <;> simp [chk] at hc
    simp only [ev, Option.some.injEq, Prod.mk.injEq] at he
    obtain ⟨rfl, rfl⟩ := he
    subst hc
    exact wpIn_exit ⟨rfl, hR⟩
  | .bad, E, c, σ, a, w, e, σ', hc, hR, he, ro, hro => by simp [ev] at he
  | .rng f ps keep x y, E, c, σ, a, w, e, σ', hc, hR, he, ro, hro => by
    obtain ⟨h0, hLe⟩ : ro = none ∧ ∀ D, E.w.heap.size ≤ D → E.L D := hro.elim (fun h => h) fun h => by simp [norng] at h
    subst h0
    cases c <;> simp only [chk, Bool.false_eq_true] at hc
    rename_i g qs x' y'
    simp only [Bool.and_eq_true, beq_iff_eq, List.all_eq_true, decide_eq_true_eq] at hc
    obtain ⟨⟨⟨⟨⟨⟨h1, h2⟩, h3⟩, h4⟩, h5⟩, h6⟩, h7⟩ := hc
    simp only [ev] at he
    exact rng_ok hC h1 h2 h3 (fun E l σ a w e σ' hR he => ev_wp hC hm N x E x' σ a w e σ' h6 hR he (ro := some l) (.inr h4)) (fun E l σ a w e σ' hR he => ev_wp hC hm N y E y' σ a w e σ' h7 hR he (ro := some l) (.inr h5)) hLe hR he
  | .ret, E, c, σ, a, w, e, σ', hc, hR, he, ro, hro => by
    cases c <;> simp [chk] at hc
    simp only [ev, Option.some.injEq, Prod.mk.injEq] at he
    obtain ⟨rfl, rfl⟩ := he
    exact wpIn_ret ⟨rfl, hR⟩
  | .fz t x, E, c, σ, a, w, e, σ', hc, hR, he, ro, hro => by
    have hc' : chk P nt x c = true := by cases c <;> exact hc
    simp only [ev] at he
    split at he
    · rename_i id hv
      split at he
      · rename_i cells hl
        split at he
        · rename_i hcl
          refine ev_wp hC hm N x E c _ a w e σ' hc' ?_ he hro
          obtain ⟨m, r1, r2, r3, r4, r5, r6, r7⟩ := hR
          refine ⟨m, rm_hrel r1, fun u => ?_, r3.trans (rm_up id), r4, r5, r6, r7⟩
          simp only [lkf]
          split
          · rename_i hu
            subst hu
            have ht := r2 u
            rw [hv] at ht
            rw [(Rd_ptr.1 ht).2]
            exact (rm_rd r1 hl hcl).open_
          · exact (rm_up id).rd (r2 u)
        · simp at he
      · simp at he
    · simp at he
  | .fzo t x, E, c, σ, a, w, e, σ', hc, hR, he, ro, hro => by
    have hc' : chk P nt x c = true := by cases c <;> exact hc
    simp only [ev] at he
    split at he
    · rename_i id n hv
      split at he
      · rename_i cells hl
        split at he
        · rename_i hcl
          refine ev_wp hC hm N x E c _ a w e σ' hc' ?_ he hro
          obtain ⟨m, r1, r2, r3, r4, r5, r6, r7⟩ := hR
          refine ⟨m, rm_hrel r1, fun u => ?_, r3.trans (rm_up id), r4, r5, r6, r7⟩
          simp only [lkf]
          split
          · rename_i hu
            subst hu
            have ht := r2 u
            rw [hv] at ht
            obtain ⟨_, _, _, h1⟩ := Rd_own.1 ht
            obtain ⟨k, e1, e2, e3⟩ := h1 _ hl
            obtain ⟨b, o, f1, f2⟩ := Rd_rp.1 (rm_rd r1 hl hcl.2)
            simp only [Value.pointer.injEq, Option.some.injEq, Addr.mk.injEq, and_true] at f1
            obtain ⟨rfl, rfl⟩ := f1
            refine Rd.open_ (Rd_lst.2 ⟨some ⟨m.ρ id, 0, none⟩, k, 1, by rw [e1, List.length_map, hcl.1], by simpa [hcl.1] using e2, e3, fun h => by simp at h, fun e he => ?_, fun _ => ⟨_, _, rfl, fun i hi j hj => ?_⟩⟩)
            · obtain ⟨x, _, rfl⟩ := List.mem_map.1 he; rfl
            · simp only [List.length_map] at hi
              simp only [List.getElem_map, List.length_singleton] at hj
              obtain rfl : j = 0 := by omega
              obtain ⟨c, c1, c2, c3, c4⟩ := f2 i hi
              refine ⟨c, by simpa using c1, by simpa using c2, c3, by simpa using c4⟩
          · exact (rm_up id).rd (r2 u)
        · simp at he
      · simp at he
    · simp at he
  | .own t sz x, E, c, σ, a, w, e, σ', hc, hR, he, ro, hro => by
    have hc' : (decide (0 < sz) && chk P nt x c) = true := by cases c <;> exact hc
    simp only [Bool.and_eq_true, decide_eq_true_eq] at hc'
    simp only [ev] at he
    split at he
    · rename_i hv
      refine ev_wp hC hm N x E c _ a w e σ' hc'.2 ?_ he hro
      obtain ⟨m, r1, r2, r3, r4, r5, r6, r7⟩ := hR
      have ht := r2 t
      rw [hv] at ht
      obtain ⟨A, cap, _, e1, _, _, e2, _⟩ := Rd_lst.1 ht
      have hcap := e2 rfl
      simp only [List.length_nil] at hcap e1
      subst hcap
      obtain ⟨s1, s2, s3⟩ := new_row (v := .slice A 0 0) (w' := w) (els := ([] : List (List D))) r1 (Below.refl _ _) hc'.1 (by simp) (.inl ⟨rfl, A, rfl⟩)
      refine ⟨_, s1, fun u => ?_, r3.trans s2, r4, by simp only; omega, r6, r7⟩
      simp only [lkf]
      split
      · rename_i hu
        subst hu
        rw [e1]; exact s3
      · exact s2.rd (r2 u)
    · exact ev_wp hC hm N x E c σ a w e σ' hc'.2 hR he hro
  | .ownb t off sz x, E, c, σ, a, w, e, σ', hc, hR, he, ro, hro => by
    have hc' : (decide (0 < sz) && chk P nt x c) = true := by cases c <;> exact hc
    simp only [Bool.and_eq_true, decide_eq_true_eq] at hc'
    simp only [ev] at he
    split at he
    · rename_i id o cells hcl
      unfold cellOf at hcl
      split at hcl
      · rename_i id' o' hv
        split at hcl
        · rename_i cells' hl
          split at hcl
          · rename_i hcell
            simp only [Option.some.injEq, Prod.mk.injEq] at hcl
            obtain ⟨rfl, rfl, rfl⟩ := hcl
            refine ev_wp hC hm N x E c _ a w e σ' hc'.2 ?_ he hro
            obtain ⟨m, r1, r2, r3, r4, r5, r6, r7⟩ := hR
            obtain ⟨arr, T, g1, g2, g3, g4⟩ := (r1.bl _ _ hl).2
            obtain ⟨hlt, hce⟩ := List.getElem?_eq_some_iff.1 hcell
            obtain ⟨c0, c1, c2, c3⟩ := g4 _ hlt
            rw [hce] at c3
            obtain ⟨A, cap, _, e1, _, _, e2, _⟩ := Rd_lst.1 c3
            have hcap := e2 rfl
            simp only [List.length_nil] at hcap e1
            subst hcap
            obtain ⟨s1, s2, s3⟩ := new_row (v := .slice A 0 0) (w' := w) (els := ([] : List (List D))) r1 (Below.refl _ _) hc'.1 (by simp) (.inl ⟨rfl, A, rfl⟩)
            have hne : id' ≠ σ.nx := by have := (r1.bl _ _ hl).1; omega
            have hl2 : lkh ((σ.nx, Blk.row sz []) :: σ.hp) id' = some (.box cells') := by simp only [lkh]; rw [if_neg hne]; exact hl
            obtain ⟨t1, t2⟩ := set_box (w' := w) (arr := arr) (T := T) (cells' := cells'.set (o' + off) (.own σ.nx 0)) s1 hl2 rfl (fun _ _ => rfl) g1 ⟨by simpa using g3, fun j hj => by
              simp only [List.length_set] at hj
              obtain ⟨d0, d1, d2, d3⟩ := g4 j hj
              refine ⟨d0, d1, d2, ?_⟩
              rw [List.getElem_set]
              split
              · rename_i hj2
                subst hj2
                rw [c1] at d1
                simp only [Option.some.injEq] at d1
                subst d1
                rw [e1]; exact s3
              · exact s2.rd d3⟩
            have hup : uph ((σ.nx, Blk.row sz []) :: σ.hp) id' (.box (cells'.set (o' + off) (.own σ.nx 0))) = (σ.nx, .row sz []) :: uph σ.hp id' (.box (cells'.set (o' + off) (.own σ.nx 0))) := by
              simp only [uph]; rw [if_neg hne]
            rw [hup] at t1 t2
            exact ⟨_, t1, fun u => t2.rd (s2.rd (r2 u)), (r3.trans s2).trans t2, r4, by simp only; omega, r6, r7⟩
          · simp at hcl
        · simp at hcl
      · simp at hcl
    · exact ev_wp hC hm N x E c σ a w e σ' hc'.2 hR he hro
end
end Go.Proofs.Dv
set_option linter.unusedVariables false
set_option linter.unusedSimpArgs false
namespace Go.Proofs.Dv
open Go.RowKit
section
variable (P : Program)
def reseq : ResultVar → RV → Bool
  | .tmp t, .t i => t == i
  | .cell a t, .cell ag n i => a == i && szIs P t n && isAg P t == some ag
  | _, _ => false
def reseqs : List ResultVar → List RV → Bool
  | [], [] => true
  | x :: xs, y :: ys => reseq P x y && reseqs xs ys
  | _, _ => false
def fchk (f : Nat) (F : IFun) : Bool := match P.funcs[f]? with
  | some fn => fn.name != "runtime.NumGoroutine" && decide (F.np ≤ fn.ntmps) && reseqs P fn.results.toList F.res && (match fn.body with | some c => chk P fn.ntmps F.body c | none => false)
  | none => false
end
section
variable {P : Program} {C : Ctx} {S0 : Nat → Nat → Prop} {B : Nat} {m : Mp} {hp : List (Nat × Blk)} {nx : Nat} {w : World} {fr : List (Nat × D)} {a : Act}
theorem zip_rd {vs : Array Value} {ds : List D} {n : Nat} (h : Args w (stab S0 B m hp w) (some (env m hp nx)) vs ds) : FRel S0 B m hp nx w ((List.range ds.length).zip ds) { tmps := vs ++ Array.replicate n undef, defers := [] } := by
  have key : ∀ (ds : List D) (k t : Nat), lkf ((List.range' k ds.length).zip ds) t = if k ≤ t then (ds[t - k]?).getD .junk else .junk := by
    intro ds
    induction ds with
    | nil => intro k t; simp [lkf]
    | cons d ds ih =>
      intro k t
      rw [show (d :: ds).length = ds.length + 1 from rfl, List.range'_succ, List.zip_cons_cons]
      simp only [lkf]
      by_cases ht : t = k
      · subst ht; simp
      · rw [if_neg ht, ih]
        by_cases h : k + 1 ≤ t
        · rw [if_pos h, if_pos (by omega)]
          have : t - k = (t - (k + 1)) + 1 := by omega
          rw [this, List.getElem?_cons_succ]
        · rw [if_neg h, if_neg (by omega)]
  intro t
  rw [List.range_eq_range', key, if_pos (Nat.zero_le _), Nat.sub_zero]
  by_cases ht : t < ds.length
  · obtain ⟨v, v1, v2⟩ := h.2 t ht
    have e : (vs ++ Array.replicate n undef).getD t undef = v := by
      rw [Array.getD_eq_getD_getElem?, Array.getElem?_append_left (by rw [h.1]; omega), v1]
      rfl
    simp only [e]
    rw [List.getElem?_eq_getElem ht]
    exact v2
  · rw [List.getElem?_eq_none (by omega)]
    exact Rd_junk
theorem res_rd {G : Nat → Option (List D)} (hF : FRel S0 B m hp nx w fr a) (hH : HRel S0 B m hp nx w G) {x : ResultVar} {y : RV} {d : D} (h : reseq P x y = true) (hd : resD fr hp y = some d) :
    ∃ v, ((match x with | .tmp t => pure (a.tmps.getD t undef) | .cell b t => do loadVar t (← asAddr (a.tmps.getD b undef)) : Sem Value)).run P w = .ok v w ∧ RdS S0 B m hp nx w d v := by
  unfold reseq at h
  split at h
  · simp only [beq_iff_eq] at h
    subst h
    simp only [resD, Option.some.injEq] at hd
    subst hd
    exact ⟨_, rfl, hF _⟩
  · rename_i b t ag n i
    simp only [Bool.and_eq_true, beq_iff_eq] at h
    obtain ⟨⟨rfl, h2⟩, h3⟩ := h
    have hx := hF b
    simp only [resD] at hd
    cases hv : lkf fr b with
    | ptr id off =>
      rw [hv] at hd hx
      have hpv := (Rd_ptr.1 hx).2
      simp only at hd
      cases hl : lkh hp id with
      | none => rw [hl] at hd; simp at hd
      | some blk =>
        rw [hl] at hd
        cases blk with
        | row z els => simp at hd
        | map es => simp at hd
        | box cells =>
          simp only at hd
          obtain ⟨arr, T, g1, g2, g3⟩ := box_at (C := ⟨G, fun _ => none, fun _ _ _ _ => none, fun _ _ => none⟩) hH hl
          have run : ∀ v, (loadVar t ⟨m.ρ id, off, none⟩).run P w = .ok v w → (do loadVar t (← asAddr (a.tmps.getD b undef)) : Sem Value).run P w = .ok v w := by
            intro v hv
            rw [hpv]
            simp [asAddr, hv]
          cases ag with
          | true =>
            simp only [if_true] at hd
            split at hd
            · rename_i hle
              simp only [Option.some.injEq] at hd
              subst hd
              have hc : ∀ j, j < n → ∃ c, w.cell? ⟨m.ρ id, off + j, none⟩ = some c ∧ c.oneCell' = true ∧ ∀ hj : off + j < cells.length, RdS S0 B m hp nx w cells[off + j] c := by
                intro j hj
                obtain ⟨c, k1, k2, k3, k4⟩ := g3 (off + j) (by omega)
                exact ⟨c, k1, k3, fun _ => k4⟩
              let f : Nat → Value := fun j => if hj : j < n then (hc j hj).choose else undef
              have hf : ∀ j (hj : j < n), w.cell? ⟨m.ρ id, off + j, none⟩ = some (f j) ∧ (f j).oneCell' = true ∧ ∀ hj : off + j < cells.length, RdS S0 B m hp nx w cells[off + j] (f j) := by
                intro j hj
                simp only [f, hj, dif_pos]
                exact (hc j hj).choose_spec
              refine ⟨_, run _ (run_ldAgg (f := f) h3 h2 fun j hj => by rw [add_none]; exact (hf j hj).1), ?_⟩
              refine agg_of (by simp; omega) fun j hj => ?_
              simp only [List.length_take, List.length_drop] at hj
              have := hf j (by omega)
              refine ⟨this.2.1, ?_⟩
              rw [List.getElem_take, List.getElem_drop]
              exact this.2.2 _
            · simp at hd
          | false =>
            simp only [Bool.false_eq_true, if_false] at hd
            obtain ⟨hlt, rfl⟩ := List.getElem?_eq_some_iff.1 hd
            obtain ⟨c, k1, k2, k3, k4⟩ := g3 off hlt
            exact ⟨c, run _ (run_ldOne h3 k1), k4⟩
    | _ => rw [hv] at hd; simp at hd
  · simp at h
theorem results_rd {G : Nat → Option (List D)} (hF : FRel S0 B m hp nx w fr a) (hH : HRel S0 B m hp nx w G) {fn : Func} {rs : List RV} {d : D} (h : reseqs P fn.results.toList rs = true) (hd : resDs fr hp rs = some d) :
    ∃ v, (results fn a.tmps).run P w = .ok v w ∧ RdS S0 B m hp nx w d v := by
  have key : ∀ (xs : List ResultVar) (ys : List RV) (ds : List D), reseqs P xs ys = true → ys.mapM (resD fr hp) = some ds → ∃ vs : List Value, (xs.mapM (fun x => (match x with | .tmp t => pure (a.tmps.getD t undef) | .cell b t => do loadVar t (← asAddr (a.tmps.getD b undef)) : Sem Value))).run P w = .ok vs w ∧ vs.length = ds.length ∧
      ∀ j (h : j < ds.length), ∃ v, vs[j]? = some v ∧ RdS S0 B m hp nx w ds[j] v := by
    intro xs
    induction xs with
    | nil =>
      intro ys ds h hm
      cases ys with
      | nil => simp at hm; subst hm; exact ⟨[], by simp, rfl, fun j hj => by simp at hj⟩
      | cons y ys => simp [reseqs] at h
    | cons x xs ih =>
      intro ys ds h hm
      cases ys with
      | nil => simp [reseqs] at h
      | cons y ys =>
        simp only [reseqs, Bool.and_eq_true] at h
        simp only [List.mapM_cons, Option.bind_eq_bind, Option.pure_def, Option.bind_eq_some_iff, Option.some.injEq] at hm
        obtain ⟨d, h1, ds', h2, rfl⟩ := hm
        obtain ⟨v, r1, r2⟩ := res_rd hF hH h.1 h1
        obtain ⟨vs, r3, r4, r5⟩ := ih ys ds' h.2 h2
        refine ⟨v :: vs, ?_, by simp [r4], fun j hj => ?_⟩
        · rw [List.mapM_cons]
          rw [Sem.run_bind, r1]
          simp only [Result.andThen_ok]
          rw [Sem.run_bind, r3]
          simp
        · cases j with
          | zero => exact ⟨v, rfl, r2⟩
          | succ j => simpa using r5 j (by simpa using hj)
  have hmap : ∃ ds, rs.mapM (resD fr hp) = some ds ∧ ((ds.length = 1 ∧ ds = [d]) ∨ (ds.length ≠ 1 ∧ d = .tup ds)) := by
    unfold resDs at hd
    split at hd
    · rename_i r
      exact ⟨[d], by simp [List.mapM_cons, hd], .inl ⟨rfl, rfl⟩⟩
    · rename_i hne
      simp only [Option.map_eq_some_iff] at hd
      obtain ⟨ds, h1, rfl⟩ := hd
      refine ⟨ds, h1, .inr ⟨?_, rfl⟩⟩
      intro hl
      have hlen : ∀ (l : List RV) (ds : List D), l.mapM (resD fr hp) = some ds → ds.length = l.length := by
        intro l
        induction l with
        | nil => intro ds h; simp at h; subst h; rfl
        | cons x l ih =>
          intro ds h
          simp only [List.mapM_cons, Option.bind_eq_bind, Option.pure_def, Option.bind_eq_some_iff, Option.some.injEq] at h
          obtain ⟨d, _, ds', h2, rfl⟩ := h
          simp [ih ds' h2]
      have := hlen _ _ h1
      rw [hl] at this
      match rs, this with
      | [r], _ => exact hne r rfl
  obtain ⟨ds, h1, h2⟩ := hmap
  obtain ⟨vs, r1, r2, r3⟩ := key _ _ ds h h1
  have hrun : (results fn a.tmps).run P w = .ok (if h : vs.toArray.size = 1 then vs.toArray[0] else .tuple vs.toArray) w := by
    unfold results
    rw [Sem.run_bind, Array.mapM_eq_mapM_toList]
    rw [Sem.run_map]
    erw [r1]
    rfl
  rcases h2 with ⟨h3, rfl⟩ | ⟨h3, rfl⟩
  · obtain ⟨v, v1, v2⟩ := r3 0 (by simp)
    refine ⟨v, ?_, v2⟩
    rw [hrun]
    have hl : vs.toArray.size = 1 := by simpa using r2
    rw [dif_pos hl]
    have : vs.toArray[0]'(by omega) = v := by
      have := (List.getElem?_eq_some_iff.1 v1).2
      simpa using this
    rw [this]
  · refine ⟨.tuple vs.toArray, ?_, Rd_tup.2 ⟨_, rfl, by simpa using r2, fun j hj => ?_⟩⟩
    · rw [hrun, dif_neg (by simp; omega)]
    · obtain ⟨v, v1, v2⟩ := r3 j hj
      exact ⟨v, by simpa using v1, v2⟩
theorem fun_ok (hC : CtxOK P C) (hm : P.follows .mixedOrders = true) {N f : Nat} {F : IFun} (h : fchk P f F = true) {ds : List D} {hp : List (Nat × Blk)} {nx : Nat} {d : D} {hp' : List (Nat × Blk)} {nx' : Nat}
    (hr : run C N F ds hp nx = some (d, hp', nx')) : CalC P C.G f ds hp nx d hp' nx' := by
  unfold fchk at h
  split at h
  · rename_i fn hf
    simp only [Bool.and_eq_true, bne_iff_ne, ne_eq, decide_eq_true_eq] at h
    obtain ⟨⟨⟨h1, h2⟩, h3⟩, h4⟩ := h
    split at h4
    · rename_i c hb
      refine ⟨by simp [callable, hf, hb, h1], fun S0 B m w vs hH hA => ?_⟩
      unfold run at hr
      split at hr
      · rename_i hlen
        have hsz : vs.size = ds.length := hA.1
        have hRel : Rel ⟨S0, B, m, hp, nx, w, fun D => w.heap.size ≤ D⟩ C.G fn.ntmps ⟨(List.range ds.length).zip ds, hp, nx⟩ { tmps := vs ++ Array.replicate (fn.ntmps - vs.size) undef, defers := [] } w :=
          ⟨m, hH, zip_rd hA, Up.refl, Below.refl _ _, Nat.le_refl _, by simp; omega, Marks.nil⟩
        have fin : ∀ (e : Ex) (σ : St), ev C N F.body ⟨(List.range ds.length).zip ds, hp, nx⟩ = some (e, σ) → (e = .nm ∨ e = .rt) → (resDs σ.fr σ.hp F.res).map (fun d => (d, σ.hp, σ.nx)) = some (d, hp', nx') →
            Calls P f vs w (Ret fun v w' => ∃ m', HRel S0 B m' hp' nx' w' C.G ∧ Up S0 B m hp nx w m' hp' nx' w' ∧ Below B w w' ∧ nx ≤ nx' ∧ RdS S0 B m' hp' nx' w' d v) := by
          intro e σ he hne hres
          simp only [Option.map_eq_some_iff, Prod.mk.injEq] at hres
          obtain ⟨d', hres, rfl, rfl, rfl⟩ := hres
          refine callsIn_wide.1 (callsIn_of_wp_marks (F := Fence.wide) (n := 0) hf hb trivial ?_ rfl)
          refine wpIn_mono (ev_wp hC hm N F.body _ c _ _ w e σ h4 hRel he (ro := none) (.inl ⟨rfl, fun _ h => h⟩)) fun q a' w' hq => ?_
          obtain ⟨hq1, m', r1, r2, r3, r4, r5, r6, r7⟩ := hq
          have hfin : LeavesInM Fence.wide 0 P fn a'.tmps (Ret fun v w' => ∃ m', HRel S0 B m' σ.hp σ.nx w' C.G ∧ Up S0 B m hp nx w m' σ.hp σ.nx w' ∧ Below B w w' ∧ nx ≤ σ.nx ∧ RdS S0 B m' σ.hp σ.nx w' d' v) a'.defers .returning w' := by
            obtain ⟨Ds, e1, e2, e3⟩ := r7
            rw [e1]
            clear e1 hq1
            induction Ds generalizing w' with
            | nil =>
              obtain ⟨v, hv1, hv2⟩ := results_rd (P := P) r2 r1 h3 hres
              exact ⟨v, hv1, m', r1, r3, r4, r5, hv2⟩
            | cons D Ds ih =>
              have hD := e3 D List.mem_cons_self
              have hT : Turn w.heap.size w' (w'.putObj D (.deferred none)) := Turn.putObj hD.2.2 rfl hD.2.1
              refine ⟨by simp, .inl ⟨D, _, rfl, run_takeDeferred hD.2.2, ?_⟩⟩
              exact ih _ (hT.hrel r1) (hT.frel r2) (hT.up r3) (hT.below hH.hB r4) (List.nodup_cons.1 e2).2 fun D' hD' => by
                have h5 := e3 D' (List.mem_cons_of_mem _ hD')
                refine ⟨h5.1, h5.2.1, ?_⟩
                rw [World.putObj_heap_other]
                · exact h5.2.2
                · intro e; subst e; exact (List.nodup_cons.1 e2).1 hD'
          rcases hne with rfl | rfl
          · simp only [exm] at hq1
            subst hq1
            exact hfin
          · simp only [exm] at hq1
            subst hq1
            exact hfin
        split at hr
        · exact fin _ _ ‹_› (.inl rfl) hr
        · exact fin _ _ ‹_› (.inr rfl) hr
        · simp at hr
      · simp at hr
    · simp at h4
  · simp at h
def lenOK : D → Prop
  | .v _ => True
  | .agg ds => lenOKs ds
  | .lst _ es => es.length ≤ maxLen ∧ lenOKss es
  | .rp ds => lenOKs ds
  | .fn _ ds => lenOKs ds
  | .tup ds => lenOKs ds
  | _ => True
where
  lenOKs : List D → Prop
  | [] => True
  | d :: ds => lenOK d ∧ lenOKs ds
  lenOKss : List (List D) → Prop
  | [] => True
  | e :: es => lenOKs e ∧ lenOKss es
theorem lenOKs_iff {ds : List D} : lenOK.lenOKs ds ↔ ∀ d ∈ ds, lenOK d := by
  induction ds with
  | nil => simp [lenOK.lenOKs]
  | cons d ds ih => simp [lenOK.lenOKs, ih]
theorem lenOKss_iff {es : List (List D)} : lenOK.lenOKss es ↔ ∀ e ∈ es, lenOK.lenOKs e := by
  induction es with
  | nil => simp [lenOK.lenOKss]
  | cons d ds ih => simp [lenOK.lenOKss, ih]
theorem lenOKs_of {ds : List D} (h : ∀ j (hj : j < ds.length), lenOK ds[j]) : lenOK.lenOKs ds := lenOKs_iff.2 fun d hd => by
  obtain ⟨j, hj, rfl⟩ := List.mem_iff_getElem.1 hd
  exact h j hj
theorem Rd.lenOK {w : World} {S : Nat → Nat → Prop} : ∀ (d : D) (X : Option Env) (u : Value), Rd w S X d u → Dv.lenOK d
  | .v x, _, u, h => by simp [Dv.lenOK]
  | .agg ds, X, u, h => by
    rw [Rd] at h
    obtain ⟨cs, rfl, hs, hr⟩ := h
    simp only [Dv.lenOK]
    exact lenOKs_of fun j hj => by obtain ⟨c, h1, h2, h3⟩ := hr j hj; exact Rd.lenOK ds[j] X c h3
  | .lst ex es, X, u, h => by
    rw [Rd] at h
    obtain ⟨A, cap, sz, rfl, h1, h2, h3, h4, h5⟩ := h
    simp only [Dv.lenOK]
    refine ⟨by omega, lenOKss_iff.2 fun e he => ?_⟩
    obtain ⟨i, hi, rfl⟩ := List.mem_iff_getElem.1 he
    obtain ⟨b, o, rfl, h6⟩ := h5 (by omega)
    exact lenOKs_of fun j hj => by obtain ⟨c, h7, h8, h9, h10⟩ := h6 i hi j hj; exact Rd.lenOK es[i][j] none c h10
  | .rp cs, X, u, h => by
    rw [Rd] at h
    obtain ⟨b, o, rfl, h6⟩ := h
    simp only [Dv.lenOK]
    exact lenOKs_of fun j hj => by obtain ⟨c, h7, h8, h9, h10⟩ := h6 j hj; exact Rd.lenOK cs[j] none c h10
  | .fn f ds, X, u, h => by
    rw [Rd] at h
    obtain ⟨cs, rfl, hs, hr⟩ := h
    simp only [Dv.lenOK]
    exact lenOKs_of fun j hj => by obtain ⟨c, h1, h3⟩ := hr j hj; exact Rd.lenOK ds[j] X c h3
  | .tup ds, X, u, h => by
    rw [Rd] at h
    obtain ⟨cs, rfl, hs, hr⟩ := h
    simp only [Dv.lenOK]
    exact lenOKs_of fun j hj => by obtain ⟨c, h1, h3⟩ := hr j hj; exact Rd.lenOK ds[j] X c h3
  | .own id n, X, u, h => by simp [Dv.lenOK]
  | .ptr id n, X, u, h => by simp [Dv.lenOK]
  | .mp id, X, u, h => by simp [Dv.lenOK]
  | .junk, X, u, h => by simp [Dv.lenOK]
termination_by d => SizeOf.sizeOf d
decreasing_by
  all_goals first
    | (have := sz_get hj; simp; omega)
    | (have := sz_get2 hi hj; simp; omega)
theorem pure_ok (hC : CtxOK P C) (hm : P.follows .mixedOrders = true) {N f : Nat} {F : IFun} (h : fchk P f F = true) {s : List D → Option D}
    (hs : ∀ ds r, lenOK.lenOKs ds → s ds = some r → ∃ d hp' nx', run C N F ds [] 0 = some (d, hp', nx') ∧ expo hp' d = some r) : PureC P C.G f s := by
  have hcl : callable P f = true := by
    unfold fchk at h
    split at h
    · rename_i fn hf
      simp only [Bool.and_eq_true] at h
      obtain ⟨⟨⟨h1, h2⟩, h3⟩, h4⟩ := h
      split at h4
      · rename_i c hb
        simp [callable, hf, hb]
        simpa using h1
      · simp at h4
    · simp at h
  refine ⟨hcl, fun w S vs ds r hS hG hA hr => ?_⟩
  obtain ⟨d, hp', nx', h1, h2⟩ := hs ds r (lenOKs_of fun j hj => by obtain ⟨v, v1, v2⟩ := hA.2 j hj; exact Rd.lenOK _ _ _ v2) hr
  obtain ⟨_, hc⟩ := fun_ok hC hm h h1
  let m : Mp := ⟨fun _ => 0, fun _ => .nilIface⟩
  have hst : ∀ b o, S b o → stab S w.heap.size m [] w b o := fun b o hs => .inl ⟨hS b o hs, hs⟩
  have hH : HRel S w.heap.size m [] 0 w C.G := by
    refine ⟨Nat.le_refl _, fun id blk hl => by simp [lkh] at hl, fun i j bi bj k hi => by simp [lkh] at hi, fun g cs hg => ?_⟩
    exact Rd.mono (fun _ _ _ _ h => h) hst _ none none _ (fun E h => by cases h) (hG g cs hg)
  have hA' : Args w (stab S w.heap.size m [] w) (some (env m [] 0)) vs ds := by
    refine ⟨hA.1, fun j hj => ?_⟩
    obtain ⟨v, v1, v2⟩ := hA.2 j hj
    exact ⟨v, v1, (Rd.mono (fun _ _ _ _ h => h) hst _ none none _ (fun E h => by cases h) v2).open_⟩
  refine Calls.mono (hc S w.heap.size m w vs hH hA') fun e w' hr => ?_
  cases e with
  | returned v =>
    obtain ⟨m', r1, r2, r3, r4, r5⟩ := hr
    refine ⟨r3, ?_⟩
    refine Rd.mono (fun _ _ _ _ h => h) (fun b o hs => ?_) _ none none v (fun E h => by cases h) (expo_rd r1 _ _ _ h2 r5)
    rcases hs with ⟨_, h⟩ | ⟨h3, h4, _⟩
    · exact .inl h
    · exact .inr ⟨h3, h4⟩
  | _ => exact hr.elim
theorem pure_okP (hC : CtxOK P C) (hm : P.follows .mixedOrders = true) {N f : Nat} {F : IFun} (h : fchk P f F = true) {s : List D → Option D}
    (hs : ∀ ds r, lenOK.lenOKs ds → s ds = some r → ∃ d hp' nx', run C N F ds [] 0 = some (d, hp', nx') ∧ expoP hp' d = some r) : PureC P C.G f s := by
  have hcl : callable P f = true := by
    unfold fchk at h
    split at h
    · rename_i fn hf
      simp only [Bool.and_eq_true] at h
      obtain ⟨⟨⟨h1, h2⟩, h3⟩, h4⟩ := h
      split at h4
      · rename_i c hb
        simp [callable, hf, hb]
        simpa using h1
      · simp at h4
    · simp at h
  refine ⟨hcl, fun w S vs ds r hS hG hA hr => ?_⟩
  obtain ⟨d, hp', nx', h1, h2⟩ := hs ds r (lenOKs_of fun j hj => by obtain ⟨v, v1, v2⟩ := hA.2 j hj; exact Rd.lenOK _ _ _ v2) hr
  obtain ⟨_, hc⟩ := fun_ok hC hm h h1
  let m : Mp := ⟨fun _ => 0, fun _ => .nilIface⟩
  have hst : ∀ b o, S b o → stab S w.heap.size m [] w b o := fun b o hs => .inl ⟨hS b o hs, hs⟩
  have hH : HRel S w.heap.size m [] 0 w C.G := by
    refine ⟨Nat.le_refl _, fun id blk hl => by simp [lkh] at hl, fun i j bi bj k hi => by simp [lkh] at hi, fun g cs hg => ?_⟩
    exact Rd.mono (fun _ _ _ _ h => h) hst _ none none _ (fun E h => by cases h) (hG g cs hg)
  have hA' : Args w (stab S w.heap.size m [] w) (some (env m [] 0)) vs ds := by
    refine ⟨hA.1, fun j hj => ?_⟩
    obtain ⟨v, v1, v2⟩ := hA.2 j hj
    exact ⟨v, v1, (Rd.mono (fun _ _ _ _ h => h) hst _ none none _ (fun E h => by cases h) v2).open_⟩
  refine Calls.mono (hc S w.heap.size m w vs hH hA') fun e w' hr => ?_
  cases e with
  | returned v =>
    obtain ⟨m', r1, r2, r3, r4, r5⟩ := hr
    refine ⟨r3, ?_⟩
    exact expoP_rd r1 (fun b o hs => by
      rcases hs with ⟨_, h⟩ | ⟨h3, h4, _⟩
      · exact .inl h
      · exact .inr ⟨h3, h4⟩) (fun b o h3 h4 => .inr ⟨h3, h4⟩) _ _ _ h2 r5
  | _ => exact hr.elim
theorem PureC.weak {G : Nat → Option (List D)} {f : Nat} {s s' : List D → Option D} (h : PureC P G f s) (hs : ∀ ds r, s' ds = some r → ∃ r0, s ds = some r0 ∧ r = Dv.weak r0) : PureC P G f s' := by
  refine ⟨h.1, fun w S vs ds r h1 h2 h3 h4 => ?_⟩
  obtain ⟨r0, g1, rfl⟩ := hs ds r h4
  refine Calls.mono (h.2 w S vs ds r0 h1 h2 h3 g1) fun e w' hr => ?_
  cases e with
  | returned v => exact ⟨hr.1, Rd.weak _ _ _ hr.2⟩
  | _ => exact hr.elim
theorem CalC.gc {G : Nat → Option (List D)} {f : Nat} {ds : List D} {hp hp' : List (Nat × Blk)} {nx nx' : Nat} {d : D} (h : CalC P G f ds hp nx d hp' nx') (h1 : idlt nx d = true) (h2 : hplt nx hp' = true) :
    CalC P G f ds hp nx d (hp'.filter fun p => decide (p.1 < nx)) nx := by
  refine ⟨h.1, fun S0 B m w vs hH hA => Calls.mono (h.2 S0 B m w vs hH hA) fun e w' hr => ?_⟩
  cases e with
  | returned v =>
    obtain ⟨m', r1, r2, r3, r4, r5⟩ := hr
    have hR : RelM ⟨S0, B, m, hp, nx, w, fun _ => True⟩ G 1 m' ⟨[(0, d)], hp', nx'⟩ { tmps := #[v], defers := [] } w' := by
      refine ⟨r1, fun t => ?_, r2, r3, r4, rfl, Marks.nil⟩
      simp only [lkf]
      split
      · rename_i ht; subst ht; exact r5
      · exact Rd_junk
    have ht : trim [0] nx ⟨[(0, d)], hp', nx'⟩ = some ⟨[(0, d)], hp'.filter (fun p => decide (p.1 < nx)), nx⟩ := by
      simp [trim, lkf, h1, h2]
    obtain ⟨q1, q2, q3, q4, q5, _⟩ := relm_trim ht (Nat.le_refl _) hR
    exact ⟨m', q1, q3, q4, q5, q2 0⟩
  | _ => exact hr.elim
theorem ctx_ok (hm : P.follows .mixedOrders = true) {G : Nat → Option (List D)} {ts : List (Nat × (List D → Option D))} {I : Nat → List D → Option (List (List D))} {N : Nat} {fs : List (Nat × IFun)} (hI : ∀ gf caps xs, I gf caps = some xs → IterOK P gf caps xs) (hT : ∀ p ∈ ts, PureC P G p.1 p.2) (hf : ∀ p ∈ fs, fchk P p.1 p.2 = true) :
    ∀ k, CtxOK P ⟨G, lookF ts, calF G (lookF ts) I N fs k, I⟩ := by
  have look : ∀ {α : Type} (l : List (Nat × α)) (i : Nat) (x : α), lookF l i = some x → (i, x) ∈ l := by
    intro α l
    induction l with
    | nil => intro i x h; simp [lookF] at h
    | cons p l ih =>
      obtain ⟨j, y⟩ := p
      intro i x h
      simp only [lookF] at h
      split at h
      · rename_i hij
        simp only [Option.some.injEq] at h
        subst hij h
        exact List.mem_cons_self
      · exact List.mem_cons_of_mem _ (ih i x h)
  intro k
  induction k with
  | zero => exact ⟨fun f s h => hT _ (look _ _ _ h), fun f ds hp nx d hp' nx' h => by simp [calF] at h, hI⟩
  | succ k ih =>
    refine ⟨fun f s h => hT _ (look _ _ _ h), fun f ds hp nx d hp' nx' h => ?_, hI⟩
    simp only [calF] at h
    split at h
    · rename_i F hF
      have key := fun hp' nx' h => fun_ok (N := N) (C := ⟨G, lookF ts, calF G (lookF ts) I N fs k, I⟩) (ds := ds) (hp := hp) (nx := nx) (d := d) (hp' := hp') (nx' := nx') ih hm (hf _ (look _ _ _ hF)) h
      revert h
      cases hr : run ⟨G, lookF ts, calF G (lookF ts) I N fs k, I⟩ N F ds hp nx with
      | none => intro h; simp [gcr] at h
      | some r =>
        obtain ⟨d1, hp1, nx1⟩ := r
        intro h
        simp only [gcr] at h
        split at h
        · rename_i hc
          simp only [Bool.and_eq_true] at hc
          simp only [Option.some.injEq, Prod.mk.injEq] at h
          obtain ⟨rfl, rfl, rfl⟩ := h
          exact (key hp1 nx1 hr).gc hc.1 hc.2
        · simp only [Option.some.injEq, Prod.mk.injEq] at h
          obtain ⟨rfl, rfl, rfl⟩ := h
          exact key hp1 nx1 hr
    · simp at h
end
end Go.Proofs.Dv
set_option maxRecDepth 100000
namespace Go.Proofs.Dv
def lp10x0 : IC := (.seq (.seq (.reg [ox 149 (.mv (.t 19)), ox 150 (.fa 4 (.t 15)), ox 151 (.ld false 1 (.t 150)), ox 152 (.mv (.t 18)), ox 153 (.ia 2 (.t 151) (.t 152)), ox 154 (.fa 1 (.t 153)), ox 155 (.ld false 1 (.t 154)), ox 156 (.bi .lss .int (.t 149) (.t 155)), ox 157 (.mv (.t 156)), ⟨(some 158), .mv (.t 19), (some (157, true)), false⟩, ⟨(some 159), .bi .lss .int (.t 158) (.k (.int .i64 64)), (some (157, true)), false⟩, ox 160 (.pick (.t 157) (.t 159) (.k (.bool false)))] false) (.cond (.t 160) .skip (.exit 4))) (.seq (.blk 5 (.reg [ox 163 (.mv (.t 17)), ox 164 (.bi .mul .int (.k (.int .i64 2)) (.t 163)), ox 17 (.mv (.t 164))] false)) (.reg [ox 161 (.mv (.t 19)), ox 162 (.bi .add .int (.t 161) (.k (.int .i64 1))), ox 19 (.mv (.t 162))] false)))
def lp10x1 : IC := (.seq (.seq (.reg [ox 142 (.mv (.t 18)), ox 143 (.fa 4 (.t 15)), ox 144 (.ld false 1 (.t 143)), ox 145 (.len false (.t 144)), ox 146 (.bi .lss .int (.t 142) (.t 145))] false) (.cond (.t 146) .skip (.exit 2))) (.seq (.blk 3 (.seq (.reg [ox 19 (.mv (.k (.int .i64 0)))] false) (.blk 4 (.loop [2, 3, 4, 5, 9, 10, 12, 13, 14, 15, 17, 18, 19] lp10x0)))) (.reg [ox 147 (.mv (.t 18)), ox 148 (.bi .add .int (.t 147) (.k (.int .i64 1))), ox 18 (.mv (.t 148))] false)))
def lp10x2 : IC := (.seq (.seq (.reg [ox 85 (.mv (.t 14)), ox 86 (.fa 3 (.t 12)), ox 87 (.ld false 1 (.t 86)), ox 88 (.len false (.t 87)), ox 89 (.bi .lss .int (.t 85) (.t 88))] false) (.cond (.t 89) .skip (.exit 0))) (.seq (.blk 1 (.seq (.reg [ox 92 (.fa 3 (.t 12)), ox 93 (.ld false 1 (.t 92)), ox 94 (.mv (.t 14)), ox 95 (.ia 6 (.t 93) (.t 94)), ox 96 (.ld true 6 (.t 95)), ox 15 (.alc [.str [], .int .u8 0, .int .i64 0, .int .i64 0, .nilS, .int .i64 0]), ⟨none, .st 6 (.t 15) (.t 96), none, false⟩] false) (.seq (.seq (.reg [ox 97 (.fa 1 (.t 15)), ox 98 (.ld false 1 (.t 97)), ox 99 (.bi .eql .int (.t 98) (.k (.int .u8 1)))] false) (.cond (.t 99) (.exit 1) .skip)) (.seq (.reg [ox 100 (.fa 1 (.t 5)), ox 101 (.ld false 1 (.t 100)), ox 102 (.mv (.t 14)), ox 103 (.ia 1 (.t 101) (.t 102)), ox 104 (.ld false 1 (.t 103)), ox 16 (.mv (.t 104))] false) (.seq (.seq (.reg [ox 105 (.fa 1 (.t 15)), ox 106 (.ld false 1 (.t 105)), ox 107 (.bi .eql .int (.t 106) (.k (.int .u8 4)))] false) (.cond (.t 107) (.reg [ox 108 (.mv (.t 2)), ox 109 (.cv .i64 (.t 108)), ox 110 (.fa 1 (.t 4)), ox 111 (.ld false 1 (.t 110)), ox 112 (.mv (.t 16)), ox 113 (.bi .add .int (.t 112) (.k (.int .i64 1))), ox 114 (.bi .mul .int (.t 111) (.t 113)), ox 115 (.bi .add .int (.t 109) (.t 114)), ox 16 (.mv (.t 115))] false) .skip)) (.seq (.seq (.reg [ox 116 (.mv (.t 13)), ox 117 (.mv (.t 10)), ox 118 (.len false (.t 117)), ox 119 (.bi .geq .int (.t 116) (.t 118)), ox 120 (.mv (.t 119)), ⟨(some 121), .mv (.t 10), (some (120, false)), false⟩, ⟨(some 122), .mv (.t 13), (some (120, false)), false⟩, ⟨(some 123), .ia 3 (.t 121) (.t 122), (some (120, false)), false⟩, ⟨(some 124), .ld true 3 (.t 123), (some (120, false)), false⟩, ⟨(some 125), .fa 0 (.t 15), (some (120, false)), false⟩, ⟨(some 126), .ld false 1 (.t 125), (some (120, false)), false⟩, ⟨(some 127), .fa 2 (.t 4), (some (120, false)), false⟩, ⟨(some 128), .ld false 1 (.t 127), (some (120, false)), false⟩, ⟨(some 129), .mv (.t 16), (some (120, false)), false⟩, ⟨(some 130), .cv .u64 (.t 129), (some (120, false)), false⟩, ⟨(some 131), .fa 2 (.t 4), (some (120, false)), false⟩, ⟨(some 132), .ld false 1 (.t 131), (some (120, false)), false⟩, ⟨(some 133), .cv .u64 (.t 132), (some (120, false)), false⟩, ⟨(some 134), .bi .shl .int (.k (.int .u64 1)) (.t 133), (some (120, false)), false⟩, ⟨(some 135), .bi .sub .int (.t 134) (.k (.int .u64 1)), (some (120, false)), false⟩, ⟨(some 136), .bi .and .int (.t 130) (.t 135), (some (120, false)), false⟩, ⟨(some 137), .bld [.str [], .int .i64 0, .int .u64 0] [(0, 1, (.t 126)), (1, 1, (.t 128)), (2, 1, (.t 136))], (some (120, false)), false⟩, ⟨(some 138), .bi .neq (.ag [true, false, false]) (.t 124) (.t 137), (some (120, false)), false⟩, ox 139 (.pick (.t 120) (.k (.bool true)) (.t 138))] true) (.cond (.t 139) (.seq (.reg [ox 8 (.mv (.k (.bool false)))] false) .ret) .skip)) (.seq (.reg [ox 140 (.mv (.t 13)), ox 141 (.bi .add .int (.t 140) (.k (.int .i64 1))), ox 13 (.mv (.t 141))] false) (.seq (.reg [ox 17 (.mv (.k (.int .i64 1)))] false) (.seq (.seq (.reg [ox 18 (.mv (.k (.int .i64 0)))] false) (.blk 2 (.loop [2, 3, 4, 5, 9, 10, 12, 13, 14, 15, 17, 18] lp10x1))) (.seq (.reg [ox 165 (.mv (.t 14)), ox 166 (.mv (.t 3)), ox 167 (.bi .eql .int (.t 165) (.t 166)), ox 168 (.mv (.t 167)), ⟨(some 169), .fa 3 (.t 15), (some (168, true)), false⟩, ⟨(some 170), .ld false 1 (.t 169), (some (168, true)), false⟩, ⟨(some 171), .bi .geq .int (.t 170) (.k (.int .i64 0)), (some (168, true)), false⟩, ox 172 (.pick (.t 168) (.t 171) (.k (.bool false))), ox 173 (.mv (.t 172)), ⟨(some 174), .fa 3 (.t 15), (some (173, true)), false⟩, ⟨(some 175), .ld false 1 (.t 174), (some (173, true)), false⟩, ⟨(some 176), .bi .leq .int (.t 175) (.k (.int .i64 3)), (some (173, true)), false⟩, ox 177 (.pick (.t 173) (.t 176) (.k (.bool false)))] false) (.cond (.t 177) (.seq (.reg [ox 178 (.bsl 1 [.int .i64 0] 0 []), ox 179 (.fa 1 (.t 5)), ox 180 (.ld false 1 (.t 179)), ox 181 (.apm 1 8 (.t 178) (.t 180)), ⟨(some 182), .bsl 1 [.int .i64 0] 0 [], none, true⟩, ⟨(some 183), .fa 1 (.t 5), none, true⟩, ⟨(some 184), .ld false 1 (.t 183), none, true⟩, ox 185 (.apm 1 8 (.t 182) (.t 184)), ox 20 (.mv (.t 181)), ox 21 (.mv (.t 185))] true) (.seq (.reg [ox 186 (.mv (.t 20)), ox 187 (.mv (.t 14)), ox 188 (.mv (.t 20)), ox 189 (.mv (.t 14)), ox 190 (.iam 1 (.t 188) (.t 189)), ox 191 (.ld false 1 (.t 190)), ox 192 (.mv (.t 17)), ox 193 (.fa 3 (.t 15)), ox 194 (.ld false 1 (.t 193)), ox 195 (.cv .u64 (.t 194)), ox 196 (.bi .shl .int (.t 192) (.t 195)), ox 197 (.bi .add .int (.t 191) (.t 196)), ox 198 (.iam 1 (.t 186) (.t 187)), ⟨none, .st 1 (.t 198) (.t 197), none, false⟩] true) (.seq (.reg [ox 199 (.mv (.t 21)), ox 200 (.mv (.t 14)), ox 201 (.mv (.t 21)), ox 202 (.mv (.t 14)), ox 203 (.iam 1 (.t 201) (.t 202)), ox 204 (.ld false 1 (.t 203)), ox 205 (.mv (.t 17)), ox 206 (.fa 3 (.t 15)), ox 207 (.ld false 1 (.t 206)), ox 208 (.cv .u64 (.t 207)), ox 209 (.bi .shl .int (.t 205) (.t 208)), ox 210 (.bi .sub .int (.t 204) (.t 209)), ox 211 (.iam 1 (.t 199) (.t 200)), ⟨none, .st 1 (.t 211) (.t 210), none, false⟩] true) (.seq (.reg [ox 212 (.ld true 7 (.t 4)), ox 213 (.fa 0 (.t 5)), ox 214 (.ld false 1 (.t 213)), ox 215 (.mv (.t 20)), ox 216 (.bld [.int .i64 0, .nilS] [(0, 1, (.t 214)), (1, 1, (.t 215))]), ox 217 (.peek (.f 36) [(.t 212), (.t 216)]), ox 218 (.bi .neq .int (.t 217) (.k (.int .i64 24))), ox 219 (.mv (.t 218)), ⟨(some 220), .ld true 7 (.t 4), (some (219, false)), false⟩, ⟨(some 221), .fa 0 (.t 5), (some (219, false)), false⟩, ⟨(some 222), .ld false 1 (.t 221), (some (219, false)), false⟩, ⟨(some 223), .mv (.t 21), (some (219, false)), false⟩, ⟨(some 224), .bld [.int .i64 0, .nilS] [(0, 1, (.t 222)), (1, 1, (.t 223))], (some (219, false)), false⟩, ⟨(some 225), .peek (.f 36) [(.t 220), (.t 224)], (some (219, false)), false⟩, ⟨(some 226), .bi .neq .int (.t 225) (.k (.int .i64 24)), (some (219, false)), false⟩, ox 227 (.pick (.t 219) (.k (.bool true)) (.t 226))] false) (.cond (.t 227) (.seq (.reg [ox 8 (.mv (.k (.bool false)))] false) .ret) .skip))))) .skip))))))))))) (.reg [ox 90 (.mv (.t 14)), ox 91 (.bi .add .int (.t 90) (.k (.int .i64 1))), ox 14 (.mv (.t 91))] false)))
def ir10 : IFun := ⟨4, [.t 8], (.seq (.reg [ox 4 (.box (.t 0)), ox 5 (.box (.t 1)), ox 8 (.mv (.k (.bool false)))] false) (.fz 4 (.fz 5 (.seq (.reg [ox 22 (.call (.f 37) []), ox 9 (.mv (.t 22))] false) (.seq (.seq (.reg [ox 23 (.ld true 7 (.t 4)), ox 24 (.call (.f 11) [(.t 23)]), ox 25 (.mv (.t 24)), ⟨(some 26), .fa 1 (.t 5), (some (25, false)), false⟩, ⟨(some 27), .ld false 1 (.t 26), (some (25, false)), false⟩, ⟨(some 28), .len false (.t 27), (some (25, false)), false⟩, ⟨(some 29), .bi .gtr .int (.t 28) (.k (.int .i64 20)), (some (25, false)), false⟩, ox 30 (.pick (.t 25) (.k (.bool true)) (.t 29)), ox 31 (.mv (.t 30)), ⟨(some 32), .mv (.t 9), (some (31, false)), false⟩, ⟨(some 33), .un .not (.t 32), (some (31, false)), false⟩, ox 34 (.pick (.t 31) (.k (.bool true)) (.t 33))] false) (.cond (.t 34) (.seq (.reg [ox 35 (.mv (.t 9)), ox 8 (.mv (.t 35))] false) .ret) .skip)) (.seq (.reg [ox 37 (.ld true 7 (.t 4)), ox 38 (.ld true 2 (.t 5)), ox 39 (.mv (.t 2)), ox 40 (.call (.f 34) [(.t 37), (.t 38), (.t 39)]), ox 36 (.mv (.t 40)), ox 41 (.ext (.t 36) 0), ox 42 (.ext (.t 36) 1), ox 10 (.mv (.t 41)), ox 11 (.mv (.t 42))] false) (.seq (.seq (.reg [ox 43 (.mv (.t 11)), ox 44 (.bi .neq .int (.t 43) (.k (.int .i64 0)))] false) (.cond (.t 44) (.seq (.reg [ox 45 (.mv (.t 9)), ox 46 (.mv (.t 45)), ⟨(some 47), .mv (.t 10), (some (46, true)), false⟩, ⟨(some 48), .len false (.t 47), (some (46, true)), false⟩, ⟨(some 49), .bi .eql .int (.t 48) (.k (.int .i64 0)), (some (46, true)), false⟩, ox 50 (.pick (.t 46) (.t 49) (.k (.bool false))), ox 8 (.mv (.t 50))] false) .ret) .skip)) (.seq (.seq (.reg [ox 51 (.fa 0 (.t 5)), ox 52 (.ld false 1 (.t 51)), ox 53 (.bi .lss .int (.t 52) (.k (.int .i64 0))), ox 54 (.mv (.t 53)), ⟨(some 55), .fa 0 (.t 5), (some (54, false)), false⟩, ⟨(some 56), .ld false 1 (.t 55), (some (54, false)), false⟩, ⟨(some 57), .fa 6 (.t 4), (some (54, false)), false⟩, ⟨(some 58), .ld false 1 (.t 57), (some (54, false)), false⟩, ⟨(some 59), .len false (.t 58), (some (54, false)), false⟩, ⟨(some 60), .bi .geq .int (.t 56) (.t 59), (some (54, false)), false⟩, ox 61 (.pick (.t 54) (.k (.bool true)) (.t 60)), ox 62 (.mv (.t 61)), ⟨(some 63), .fa 2 (.t 4), (some (62, false)), false⟩, ⟨(some 64), .ld false 1 (.t 63), (some (62, false)), false⟩, ⟨(some 65), .bi .neq .int (.t 64) (.k (.int .i64 16)), (some (62, false)), false⟩, ⟨(some 66), .mv (.t 65), (some (62, false)), false⟩, ⟨(some 67), .fa 2 (.t 4), (some (66, true)), false⟩, ⟨(some 68), .ld false 1 (.t 67), (some (66, true)), false⟩, ⟨(some 69), .bi .neq .int (.t 68) (.k (.int .i64 32)), (some (66, true)), false⟩, ⟨(some 70), .pick (.t 66) (.t 69) (.k (.bool false)), (some (62, false)), false⟩, ox 71 (.pick (.t 62) (.k (.bool true)) (.t 70))] false) (.cond (.t 71) (.seq (.reg [ox 8 (.mv (.k (.bool false)))] false) .ret) .skip)) (.seq (.reg [ox 72 (.fa 6 (.t 4)), ox 73 (.ld false 1 (.t 72)), ox 74 (.fa 0 (.t 5)), ox 75 (.ld false 1 (.t 74)), ox 76 (.ia 9 (.t 73) (.t 75)), ox 77 (.ld true 9 (.t 76)), ox 12 (.alc [.str [], .int .u64 0, .int .u64 0, .nilS, .nilS, .int .i64 0, .int .i64 0, .int .i64 0, .int .i64 0]), ⟨none, .st 9 (.t 12) (.t 77), none, false⟩] false) (.seq (.seq (.reg [ox 78 (.fa 3 (.t 12)), ox 79 (.ld false 1 (.t 78)), ox 80 (.len false (.t 79)), ox 81 (.fa 1 (.t 5)), ox 82 (.ld false 1 (.t 81)), ox 83 (.len false (.t 82)), ox 84 (.bi .neq .int (.t 80) (.t 83))] false) (.cond (.t 84) (.seq (.reg [ox 8 (.mv (.k (.bool false)))] false) .ret) .skip)) (.seq (.reg [ox 13 (.mv (.k (.int .i64 0)))] false) (.seq (.seq (.reg [ox 14 (.mv (.k (.int .i64 0)))] false) (.blk 0 (.loop [2, 3, 4, 5, 9, 10, 12, 13, 14] lp10x2))) (.seq (.reg [ox 228 (.mv (.t 9)), ox 229 (.mv (.t 228)), ⟨(some 230), .mv (.t 13), (some (229, true)), false⟩, ⟨(some 231), .bi .add .int (.t 230) (.k (.int .i64 1)), (some (229, true)), false⟩, ⟨(some 232), .mv (.t 10), (some (229, true)), false⟩, ⟨(some 233), .len false (.t 232), (some (229, true)), false⟩, ⟨(some 234), .bi .eql .int (.t 231) (.t 233), (some (229, true)), false⟩, ox 235 (.pick (.t 229) (.t 234) (.k (.bool false))), ox 236 (.mv (.t 235)), ⟨(some 237), .mv (.t 10), (some (236, true)), false⟩, ⟨(some 238), .mv (.t 13), (some (236, true)), false⟩, ⟨(some 239), .ia 3 (.t 237) (.t 238), (some (236, true)), false⟩, ⟨(some 240), .ld true 3 (.t 239), (some (236, true)), false⟩, ⟨(some 241), .fa 2 (.t 4), (some (236, true)), false⟩, ⟨(some 242), .ld false 1 (.t 241), (some (236, true)), false⟩, ⟨(some 243), .mv (.t 2), (some (236, true)), false⟩, ⟨(some 244), .bld [.str [], .int .i64 0, .int .u64 0] [(0, 1, (.k (.str [112, 99]))), (1, 1, (.t 242)), (2, 1, (.t 243))], (some (236, true)), false⟩, ⟨(some 245), .bi .eql (.ag [true, false, false]) (.t 240) (.t 244), (some (236, true)), false⟩, ox 246 (.pick (.t 236) (.t 245) (.k (.bool false))), ox 8 (.mv (.t 246))] true) .ret)))))))))))))⟩
def lp11x0 : IC := (.seq (.seq (.reg [ox 36 (.mv (.t 3)), ox 37 (.fa 4 (.t 1)), ox 38 (.ld false 1 (.t 37)), ox 39 (.len false (.t 38)), ox 40 (.bi .lss .int (.t 36) (.t 39))] false) (.cond (.t 40) .skip (.exit 0))) (.seq (.blk 1 (.seq (.reg [ox 43 (.fa 4 (.t 1)), ox 44 (.ld false 1 (.t 43)), ox 45 (.mv (.t 3)), ox 46 (.ia 2 (.t 44) (.t 45)), ox 47 (.fa 1 (.t 46)), ox 48 (.ld false 1 (.t 47)), ox 49 (.len false (.t 48)), ox 50 (.bi .gtr .int (.t 49) (.k (.int .i64 74))), ox 51 (.mv (.t 50)), ⟨(some 52), .fa 4 (.t 1), (some (51, false)), false⟩, ⟨(some 53), .ld false 1 (.t 52), (some (51, false)), false⟩, ⟨(some 54), .mv (.t 3), (some (51, false)), false⟩, ⟨(some 55), .ia 2 (.t 53) (.t 54), (some (51, false)), false⟩, ⟨(some 56), .fa 0 (.t 55), (some (51, false)), false⟩, ⟨(some 57), .ld false 1 (.t 56), (some (51, false)), false⟩, ⟨(some 58), .len true (.t 57), (some (51, false)), false⟩, ⟨(some 59), .bi .gtr .int (.t 58) (.k (.int .i64 100)), (some (51, false)), false⟩, ox 60 (.pick (.t 51) (.k (.bool true)) (.t 59))] false) (.cond (.t 60) (.seq (.reg [ox 2 (.mv (.k (.bool true)))] false) .ret) .skip))) (.reg [ox 41 (.mv (.t 3)), ox 42 (.bi .add .int (.t 41) (.k (.int .i64 1))), ox 3 (.mv (.t 42))] false)))
def lp11x1 : IC := (.seq (.seq (.reg [ox 89 (.mv (.t 6)), ox 90 (.fa 3 (.t 5)), ox 91 (.ld false 1 (.t 90)), ox 92 (.len false (.t 91)), ox 93 (.bi .lss .int (.t 89) (.t 92))] false) (.cond (.t 93) .skip (.exit 4))) (.seq (.blk 5 (.seq (.reg [ox 96 (.fa 3 (.t 5)), ox 97 (.ld false 1 (.t 96)), ox 98 (.mv (.t 6)), ox 99 (.ia 6 (.t 97) (.t 98)), ox 100 (.fa 4 (.t 99)), ox 101 (.ld false 1 (.t 100)), ox 102 (.len false (.t 101)), ox 103 (.bi .gtr .int (.t 102) (.k (.int .i64 14))), ox 104 (.mv (.t 103)), ⟨(some 105), .fa 3 (.t 5), (some (104, false)), false⟩, ⟨(some 106), .ld false 1 (.t 105), (some (104, false)), false⟩, ⟨(some 107), .mv (.t 6), (some (104, false)), false⟩, ⟨(some 108), .ia 6 (.t 106) (.t 107), (some (104, false)), false⟩, ⟨(some 109), .fa 0 (.t 108), (some (104, false)), false⟩, ⟨(some 110), .ld false 1 (.t 109), (some (104, false)), false⟩, ⟨(some 111), .len true (.t 110), (some (104, false)), false⟩, ⟨(some 112), .bi .gtr .int (.t 111) (.k (.int .i64 100)), (some (104, false)), false⟩, ox 113 (.pick (.t 104) (.k (.bool true)) (.t 112))] false) (.cond (.t 113) (.seq (.reg [ox 2 (.mv (.k (.bool true)))] false) .ret) .skip))) (.reg [ox 94 (.mv (.t 6)), ox 95 (.bi .add .int (.t 94) (.k (.int .i64 1))), ox 6 (.mv (.t 95))] false)))
def lp11x2 : IC := (.seq (.seq (.reg [ox 114 (.mv (.t 7)), ox 115 (.fa 4 (.t 5)), ox 116 (.ld false 1 (.t 115)), ox 117 (.len false (.t 116)), ox 118 (.bi .lss .int (.t 114) (.t 117))] false) (.cond (.t 118) .skip (.exit 6))) (.seq (.blk 7 (.seq (.reg [ox 121 (.fa 4 (.t 5)), ox 122 (.ld false 1 (.t 121)), ox 123 (.mv (.t 7)), ox 124 (.ia 21 (.t 122) (.t 123)), ox 125 (.fa 3 (.t 124)), ox 126 (.ld true 6 (.t 125)), ox 127 (.call (.f 39) [(.t 126)]), ox 128 (.mv (.t 127)), ⟨(some 129), .fa 4 (.t 5), (some (128, false)), false⟩, ⟨(some 130), .ld false 1 (.t 129), (some (128, false)), false⟩, ⟨(some 131), .mv (.t 7), (some (128, false)), false⟩, ⟨(some 132), .ia 21 (.t 130) (.t 131), (some (128, false)), false⟩, ⟨(some 133), .fa 9 (.t 132), (some (128, false)), false⟩, ⟨(some 134), .ld true 6 (.t 133), (some (128, false)), false⟩, ⟨(some 135), .call (.f 39) [(.t 134)], (some (128, false)), false⟩, ox 136 (.pick (.t 128) (.k (.bool true)) (.t 135)), ox 137 (.mv (.t 136)), ⟨(some 138), .fa 4 (.t 5), (some (137, false)), false⟩, ⟨(some 139), .ld false 1 (.t 138), (some (137, false)), false⟩, ⟨(some 140), .mv (.t 7), (some (137, false)), false⟩, ⟨(some 141), .ia 21 (.t 139) (.t 140), (some (137, false)), false⟩, ⟨(some 142), .fa 15 (.t 141), (some (137, false)), false⟩, ⟨(some 143), .ld true 6 (.t 142), (some (137, false)), false⟩, ⟨(some 144), .call (.f 39) [(.t 143)], (some (137, false)), false⟩, ox 145 (.pick (.t 137) (.k (.bool true)) (.t 144))] false) (.cond (.t 145) (.seq (.reg [ox 2 (.mv (.k (.bool true)))] false) .ret) .skip))) (.reg [ox 119 (.mv (.t 7)), ox 120 (.bi .add .int (.t 119) (.k (.int .i64 1))), ox 7 (.mv (.t 120))] false)))
def lp11x3 : IC := (.seq (.seq (.reg [ox 61 (.mv (.t 4)), ox 62 (.fa 6 (.t 1)), ox 63 (.ld false 1 (.t 62)), ox 64 (.len false (.t 63)), ox 65 (.bi .lss .int (.t 61) (.t 64))] false) (.cond (.t 65) .skip (.exit 2))) (.seq (.blk 3 (.seq (.reg [ox 68 (.fa 6 (.t 1)), ox 69 (.ld false 1 (.t 68)), ox 70 (.mv (.t 4)), ox 71 (.ia 9 (.t 69) (.t 70)), ox 72 (.ld true 9 (.t 71)), ox 5 (.alc [.str [], .int .u64 0, .int .u64 0, .nilS, .nilS, .int .i64 0, .int .i64 0, .int .i64 0, .int .i64 0]), ⟨none, .st 9 (.t 5) (.t 72), none, false⟩] false) (.seq (.seq (.reg [ox 73 (.fa 3 (.t 5)), ox 74 (.ld false 1 (.t 73)), ox 75 (.len false (.t 74)), ox 76 (.bi .gtr .int (.t 75) (.k (.int .i64 14))), ox 77 (.mv (.t 76)), ⟨(some 78), .fa 4 (.t 5), (some (77, false)), false⟩, ⟨(some 79), .ld false 1 (.t 78), (some (77, false)), false⟩, ⟨(some 80), .len false (.t 79), (some (77, false)), false⟩, ⟨(some 81), .bi .gtr .int (.t 80) (.k (.int .i64 14)), (some (77, false)), false⟩, ox 82 (.pick (.t 77) (.k (.bool true)) (.t 81)), ox 83 (.mv (.t 82)), ⟨(some 84), .fa 0 (.t 5), (some (83, false)), false⟩, ⟨(some 85), .ld false 1 (.t 84), (some (83, false)), false⟩, ⟨(some 86), .len true (.t 85), (some (83, false)), false⟩, ⟨(some 87), .bi .gtr .int (.t 86) (.k (.int .i64 100)), (some (83, false)), false⟩, ox 88 (.pick (.t 83) (.k (.bool true)) (.t 87))] false) (.cond (.t 88) (.seq (.reg [ox 2 (.mv (.k (.bool true)))] false) .ret) .skip)) (.seq (.seq (.reg [ox 6 (.mv (.k (.int .i64 0)))] false) (.blk 4 (.loop [1, 4, 5, 6] lp11x1))) (.seq (.reg [ox 7 (.mv (.k (.int .i64 0)))] false) (.blk 6 (.loop [1, 4, 5, 7] lp11x2))))))) (.reg [ox 66 (.mv (.t 4)), ox 67 (.bi .add .int (.t 66) (.k (.int .i64 1))), ox 4 (.mv (.t 67))] false)))
def ir11 : IFun := ⟨1, [.t 2], (.seq (.reg [ox 1 (.box (.t 0)), ox 2 (.mv (.k (.bool false)))] false) (.seq (.seq (.reg [ox 8 (.fa 0 (.t 1)), ox 9 (.ld false 1 (.t 8)), ox 10 (.len true (.t 9)), ox 11 (.bi .gtr .int (.t 10) (.k (.int .i64 100))), ox 12 (.mv (.t 11)), ⟨(some 13), .fa 3 (.t 1), (some (12, false)), false⟩, ⟨(some 14), .ld false 1 (.t 13), (some (12, false)), false⟩, ⟨(some 15), .len false (.t 14), (some (12, false)), false⟩, ⟨(some 16), .bi .gtr .int (.t 15) (.k (.int .i64 74)), (some (12, false)), false⟩, ox 17 (.pick (.t 12) (.k (.bool true)) (.t 16)), ox 18 (.mv (.t 17)), ⟨(some 19), .fa 4 (.t 1), (some (18, false)), false⟩, ⟨(some 20), .ld false 1 (.t 19), (some (18, false)), false⟩, ⟨(some 21), .len false (.t 20), (some (18, false)), false⟩, ⟨(some 22), .bi .gtr .int (.t 21) (.k (.int .i64 26)), (some (18, false)), false⟩, ox 23 (.pick (.t 18) (.k (.bool true)) (.t 22)), ox 24 (.mv (.t 23)), ⟨(some 25), .fa 5 (.t 1), (some (24, false)), false⟩, ⟨(some 26), .ld false 1 (.t 25), (some (24, false)), false⟩, ⟨(some 27), .len false (.t 26), (some (24, false)), false⟩, ⟨(some 28), .bi .gtr .int (.t 27) (.k (.int .i64 18)), (some (24, false)), false⟩, ox 29 (.pick (.t 24) (.k (.bool true)) (.t 28)), ox 30 (.mv (.t 29)), ⟨(some 31), .fa 6 (.t 1), (some (30, false)), false⟩, ⟨(some 32), .ld false 1 (.t 31), (some (30, false)), false⟩, ⟨(some 33), .len false (.t 32), (some (30, false)), false⟩, ⟨(some 34), .bi .gtr .int (.t 33) (.k (.int .i64 74)), (some (30, false)), false⟩, ox 35 (.pick (.t 30) (.k (.bool true)) (.t 34))] false) (.cond (.t 35) (.seq (.reg [ox 2 (.mv (.k (.bool true)))] false) .ret) .skip)) (.seq (.seq (.reg [ox 3 (.mv (.k (.int .i64 0)))] false) (.blk 0 (.loop [1, 3] lp11x0))) (.seq (.seq (.reg [ox 4 (.mv (.k (.int .i64 0)))] false) (.blk 2 (.loop [1, 4] lp11x3))) (.seq (.reg [ox 146 (.ld true 7 (.t 1)), ox 147 (.call (.f 40) [(.t 146)]), ox 148 (.bi .gtr .int (.t 147) (.k (.int .i64 1500))), ox 2 (.mv (.t 148))] false) .ret)))))⟩
def lp14x0 : IC := (.seq (.reg [ox 40 (.bi .lss .int (.t 39) (.t 38))] false) (.seq (.cond (.t 40) .skip (.exit 0)) (.seq (.blk 1 (.seq (.reg [ox 41 (.ia 9 (.t 37) (.t 39)), ox 42 (.ld true 9 (.t 41)), ox 6 (.alc [.str [], .int .u64 0, .int .u64 0, .nilS, .nilS, .int .i64 0, .int .i64 0, .int .i64 0, .int .i64 0]), ⟨none, .st 9 (.t 6) (.t 42), none, false⟩] false) (.seq (.seq (.reg [ox 43 (.mv (.t 3)), ox 44 (.nilc (.t 43)), ox 45 (.fa 7 (.t 44)), ox 46 (.ld false 1 (.t 45)), ox 47 (.un .not (.t 46))] false) (.cond (.t 47) (.exit 0) .skip)) (.seq (.reg [ox 48 (.mv (.t 3)), ox 49 (.fa 0 (.t 6)), ox 50 (.ld false 1 (.t 49)), ox 51 (.call (.f 62) [(.t 4), (.t 50)]), ox 52 (.bsl 1 [.bool false] 1 [(0, (.t 51))]), ox 53 (.call (.f 56) [(.t 48), (.t 52)])] false) (.reg [ox 54 (.mv (.t 3)), ox 55 (.ld true 9 (.t 6)), ox 56 (.call (.f 63) [(.t 54), (.t 55)])] false))))) (.reg [ox 57 (.bi .add .int (.t 39) (.k (.int .i64 1))), ox 39 (.mv (.t 57))] false))))
def ir14 : IFun := ⟨1, [.t 2], (.seq (.reg [ox 1 (.box (.t 0)), ox 2 (.mv (.k (.int .i64 0)))] false) (.seq (.seq (.reg [ox 7 (.ld true 7 (.t 1)), ox 8 (.call (.f 55) [(.t 7)]), ox 9 (.un .not (.t 8))] false) (.cond (.t 9) (.seq (.reg [ox 2 (.mv (.k (.int .i64 4)))] false) .ret) .skip)) (.seq (.reg [ox 10 (.ld true 7 (.t 1)), ox 11 (.bld [.str [], .int .i64 0, .int .i64 0, .nilS, .nilS, .nilS, .nilS, .bool false] [(0, 7, (.t 10)), (7, 1, (.k (.bool true)))]), ox 12 (.box (.t 11)), ox 3 (.mv (.t 12))] false) (.seq (.reg [⟨(some 13), .mv (.t 3), none, true⟩, ox 14 (.fa 0 (.t 1)), ox 15 (.ld false 1 (.t 14)), ⟨(some 16), .call (.f 57) [(.t 15)], none, true⟩, ⟨(some 17), .fa 1 (.t 1), none, true⟩, ox 18 (.ld false 1 (.t 17)), ⟨(some 19), .call (.f 58) [(.t 18), (.k (.int .i64 1)), (.k (.int .i64 4))], none, true⟩, ⟨(some 20), .fa 2 (.t 1), none, true⟩, ox 21 (.ld false 1 (.t 20)), ox 22 (.bi .eql .int (.t 21) (.k (.int .i64 16))), ox 23 (.mv (.t 22)), ⟨(some 24), .fa 2 (.t 1), (some (23, false)), false⟩, ⟨(some 25), .ld false 1 (.t 24), (some (23, false)), false⟩, ⟨(some 26), .bi .eql .int (.t 25) (.k (.int .i64 32)), (some (23, false)), false⟩, ox 27 (.pick (.t 23) (.k (.bool true)) (.t 26)), ox 28 (.bsl 1 [.bool false] 3 [(0, (.t 16)), (1, (.t 19)), (2, (.t 27))]), ox 29 (.call (.f 56) [(.t 13), (.t 28)])] true) (.seq (.reg [ox 30 (.mv (.t 3)), ox 31 (.call (.f 59) [(.t 30)])] false) (.seq (.reg [ox 32 (.mv (.t 3)), ox 33 (.call (.f 60) [(.t 32)])] false) (.seq (.reg [ox 34 (.mv (.t 3)), ox 35 (.call (.f 61) [(.t 34)])] false) (.seq (.reg [ox 4 (.alc [.nilS])] false) (.ownb 4 0 1 (.seq (.seq (.reg [ox 36 (.fa 6 (.t 1)), ox 37 (.ld false 1 (.t 36)), ox 38 (.len false (.t 37)), ox 39 (.mv (.k (.int .i64 0)))] false) (.blk 0 (.loop [3, 4, 37, 38, 39] lp14x0))) (.seq (.seq (.reg [ox 58 (.mv (.t 3)), ox 59 (.nilc (.t 58)), ox 60 (.fa 7 (.t 59)), ox 61 (.ld false 1 (.t 60)), ox 62 (.un .not (.t 61))] false) (.cond (.t 62) (.seq (.reg [ox 2 (.mv (.k (.int .i64 8)))] false) .ret) .skip)) (.seq (.reg [ox 2 (.mv (.k (.int .i64 0)))] false) .ret))))))))))))⟩
def ir18 : IFun := ⟨2, [.t 4, .t 5], (.seq (.reg [ox 2 (.box (.t 0)), ox 3 (.box (.t 1)), ox 4 (.mv (.k (.int .i64 0))), ox 5 (.mv (.k (.int .i64 0)))] false) (.seq (.reg [ox 6 (.ld true 7 (.t 2)), ox 7 (.fa 3 (.t 2)), ox 8 (.ld false 1 (.t 7)), ox 9 (.mkf 81 [(.t 3)]), ox 10 (.call (.f 80) [(.t 6), (.t 8), (.t 9)]), ox 11 (.ext (.t 10) 0), ox 12 (.ext (.t 10) 1), ox 4 (.mv (.t 11)), ox 5 (.mv (.t 12))] false) .ret))⟩
def ir20 : IFun := ⟨2, [.t 4, .t 5], (.seq (.reg [ox 2 (.box (.t 0)), ox 3 (.box (.t 1)), ox 4 (.mv (.k (.int .i64 0))), ox 5 (.mv (.k (.int .i64 0)))] false) (.seq (.reg [ox 6 (.ld true 7 (.t 2)), ox 7 (.fa 6 (.t 2)), ox 8 (.ld false 1 (.t 7)), ox 9 (.mkf 83 [(.t 3)]), ox 10 (.call (.f 82) [(.t 6), (.t 8), (.t 9)]), ox 11 (.ext (.t 10) 0), ox 12 (.ext (.t 10) 1), ox 4 (.mv (.t 11)), ox 5 (.mv (.t 12))] false) .ret))⟩
def ir22 : IFun := ⟨1, [.t 2, .t 3], (.seq (.reg [ox 1 (.box (.t 0)), ox 2 (.mv (.k .nilS)), ox 3 (.mv (.k (.int .i64 0)))] false) (.seq (.seq (.reg [ox 5 (.ld true 7 (.t 1)), ox 6 (.call (.f 14) [(.t 5)]), ox 4 (.mv (.t 6))] false) (.seq (.reg [ox 7 (.mv (.t 4)), ox 8 (.bi .neq .int (.t 7) (.k (.int .i64 0)))] false) (.cond (.t 8) (.seq (.reg [ox 9 (.mv (.t 4)), ox 2 (.mv (.k .nilS)), ox 3 (.mv (.t 9))] false) .ret) .skip))) (.seq (.reg [ox 10 (.ld true 7 (.t 1)), ox 11 (.call (.f 84) [(.t 10)]), ox 2 (.mv (.t 11)), ox 3 (.mv (.k (.int .i64 0)))] false) .ret)))⟩
def ir24 : IFun := ⟨2, [.t 4, .t 5, .t 6, .t 7], (.seq (.reg [ox 2 (.box (.t 0)), ox 4 (.mv (.k (.int .i64 0))), ox 5 (.mv (.k (.int .i64 0))), ox 6 (.mv (.k (.int .i64 0))), ox 7 (.mv (.k (.int .i64 0)))] false) (.seq (.seq (.reg [ox 10 (.ld true 7 (.t 2)), ox 11 (.call (.f 14) [(.t 10)]), ox 8 (.mv (.t 11))] false) (.seq (.reg [ox 12 (.mv (.t 8)), ox 13 (.bi .neq .int (.t 12) (.k (.int .i64 0)))] false) (.cond (.t 13) (.seq (.reg [ox 14 (.mv (.t 8)), ox 4 (.mv (.k (.int .i64 0))), ox 5 (.mv (.k (.int .i64 0))), ox 6 (.mv (.k (.int .i64 0))), ox 7 (.mv (.t 14))] false) .ret) .skip))) (.seq (.seq (.reg [ox 15 (.mv (.t 1)), ox 16 (.fa 3 (.t 2)), ox 17 (.ld false 1 (.t 16)), ox 18 (.len false (.t 17)), ox 19 (.bi .sub .int (.t 18) (.k (.int .i64 1))), ox 20 (.call (.f 58) [(.t 15), (.k (.int .i64 0)), (.t 19)]), ox 21 (.un .not (.t 20))] false) (.cond (.t 21) (.seq (.reg [ox 4 (.mv (.k (.int .i64 0))), ox 5 (.mv (.k (.int .i64 0))), ox 6 (.mv (.k (.int .i64 0))), ox 7 (.mv (.k (.int .i64 2)))] false) .ret) .skip)) (.seq (.reg [ox 22 (.fa 3 (.t 2)), ox 23 (.ld false 1 (.t 22)), ox 24 (.mv (.t 1)), ox 25 (.ia 4 (.t 23) (.t 24)), ox 26 (.ld true 4 (.t 25)), ox 9 (.alc [.str [], .int .i64 0, .int .i64 0, .int .i64 0]), ⟨none, .st 4 (.t 9) (.t 26), none, false⟩] false) (.seq (.seq (.reg [ox 27 (.fa 2 (.t 9)), ox 28 (.ld false 1 (.t 27)), ox 29 (.bi .geq .int (.t 28) (.k (.int .i64 0)))] false) (.cond (.t 29) (.reg [ox 30 (.fa 2 (.t 9)), ox 31 (.ld false 1 (.t 30)), ox 1 (.mv (.t 31))] false) .skip)) (.seq (.reg [ox 33 (.ld true 7 (.t 2)), ox 34 (.call (.f 84) [(.t 33)]), ox 35 (.mv (.t 1)), ox 36 (.call (.f 86) [(.t 34), (.t 35)]), ox 32 (.mv (.t 36)), ox 37 (.ext (.t 32) 0), ox 38 (.ext (.t 32) 1), ox 4 (.mv (.t 37))] false) (.seq (.reg [ox 39 (.mv (.t 4)), ox 40 (.fa 3 (.t 9)), ox 41 (.ld false 1 (.t 40)), ox 42 (.fa 1 (.t 9)), ox 43 (.ld false 1 (.t 42)), ox 4 (.mv (.t 39)), ox 5 (.mv (.t 41)), ox 6 (.mv (.t 43)), ox 7 (.mv (.k (.int .i64 0)))] true) .ret)))))))⟩
def ir26 : IFun := ⟨3, [.t 6, .t 7], (.seq (.reg [ox 3 (.box (.t 0)), ox 6 (.mv (.k (.bool false))), ox 7 (.mv (.k (.int .i64 0)))] false) (.seq (.reg [ox 16 (.ld true 7 (.t 3)), ox 17 (.mv (.t 1)), ox 18 (.call (.f 24) [(.t 16), (.t 17)]), ox 15 (.mv (.t 18)), ox 19 (.ext (.t 15) 0), ox 20 (.ext (.t 15) 1), ox 21 (.ext (.t 15) 2), ox 22 (.ext (.t 15) 3), ox 8 (.mv (.t 19)), ox 9 (.mv (.t 20)), ox 10 (.mv (.t 21)), ox 11 (.mv (.t 22))] false) (.seq (.seq (.reg [ox 23 (.mv (.t 11)), ox 24 (.bi .neq .int (.t 23) (.k (.int .i64 0)))] false) (.cond (.t 24) (.seq (.reg [ox 25 (.mv (.t 11)), ox 6 (.mv (.k (.bool false))), ox 7 (.mv (.t 25))] false) .ret) .skip)) (.seq (.reg [ox 27 (.ld true 7 (.t 3)), ox 28 (.mv (.t 2)), ox 29 (.call (.f 24) [(.t 27), (.t 28)]), ox 26 (.mv (.t 29)), ox 30 (.ext (.t 26) 0), ox 31 (.ext (.t 26) 1), ox 32 (.ext (.t 26) 2), ox 33 (.ext (.t 26) 3), ox 12 (.mv (.t 30)), ox 13 (.mv (.t 31)), ox 14 (.mv (.t 32)), ox 11 (.mv (.t 33))] false) (.seq (.seq (.reg [ox 34 (.mv (.t 11)), ox 35 (.bi .neq .int (.t 34) (.k (.int .i64 0)))] false) (.cond (.t 35) (.seq (.reg [ox 36 (.mv (.t 11)), ox 6 (.mv (.k (.bool false))), ox 7 (.mv (.t 36))] false) .ret) .skip)) (.seq (.reg [ox 37 (.mv (.t 8)), ox 38 (.mv (.t 12)), ox 39 (.bi .eql .int (.t 37) (.t 38)), ox 40 (.mv (.t 39)), ⟨(some 41), .mv (.t 9), (some (40, true)), false⟩, ⟨(some 42), .mv (.t 13), (some (40, true)), false⟩, ⟨(some 43), .mx false (.t 41) (.t 42), (some (40, true)), false⟩, ⟨(some 44), .mv (.t 9), (some (40, true)), false⟩, ⟨(some 45), .mv (.t 10), (some (40, true)), false⟩, ⟨(some 46), .bi .add .int (.t 44) (.t 45), (some (40, true)), false⟩, ⟨(some 47), .mv (.t 13), (some (40, true)), false⟩, ⟨(some 48), .mv (.t 14), (some (40, true)), false⟩, ⟨(some 49), .bi .add .int (.t 47) (.t 48), (some (40, true)), false⟩, ⟨(some 50), .mx true (.t 46) (.t 49), (some (40, true)), false⟩, ⟨(some 51), .bi .lss .int (.t 43) (.t 50), (some (40, true)), false⟩, ox 52 (.pick (.t 40) (.t 51) (.k (.bool false))), ox 6 (.mv (.t 52)), ox 7 (.mv (.k (.int .i64 0)))] false) .ret))))))⟩
def ir28 : IFun := ⟨3, [.t 6, .t 7], (.seq (.reg [ox 3 (.box (.t 0)), ox 6 (.mv (.k (.int .u64 0))), ox 7 (.mv (.k (.int .i64 0)))] false) (.seq (.reg [ox 13 (.ld true 7 (.t 3)), ox 14 (.mv (.t 1)), ox 15 (.mv (.t 2)), ox 16 (.call (.f 88) [(.t 13), (.t 14), (.t 15)]), ox 12 (.mv (.t 16)), ox 17 (.ext (.t 12) 0), ox 18 (.ext (.t 12) 1), ox 19 (.ext (.t 12) 2), ox 20 (.ext (.t 12) 3), ox 8 (.mv (.t 17)), ox 9 (.mv (.t 18)), ox 10 (.mv (.t 19)), ox 11 (.mv (.t 20))] false) (.seq (.seq (.reg [ox 21 (.mv (.t 11)), ox 22 (.bi .neq .int (.t 21) (.k (.int .i64 0)))] false) (.cond (.t 22) (.seq (.reg [ox 23 (.mv (.t 11)), ox 6 (.mv (.k (.int .u64 0))), ox 7 (.mv (.t 23))] false) .ret) .skip)) (.seq (.reg [⟨(some 24), .mv (.t 1), none, true⟩, ⟨(some 25), .mv (.t 8), none, true⟩, ox 26 (.ia 1 (.t 24) (.t 25)), ox 27 (.ld false 1 (.t 26)), ox 28 (.mv (.t 9)), ox 29 (.bi .shr .int (.t 27) (.t 28)), ox 30 (.mv (.t 10)), ⟨(some 31), .call (.f 89) [(.t 30)], none, true⟩, ox 32 (.bi .and .int (.t 29) (.t 31)), ox 6 (.mv (.t 32)), ox 7 (.mv (.k (.int .i64 0)))] true) .ret))))⟩
def ir30 : IFun := ⟨4, [.t 8, .t 9], (.seq (.reg [ox 4 (.box (.t 0)), ox 8 (.mv (.k .nilS)), ox 9 (.mv (.k (.int .i64 0)))] false) (.seq (.reg [ox 17 (.ld true 7 (.t 4)), ox 18 (.mv (.t 1)), ox 19 (.mv (.t 2)), ox 20 (.call (.f 88) [(.t 17), (.t 18), (.t 19)]), ox 16 (.mv (.t 20)), ox 21 (.ext (.t 16) 0), ox 22 (.ext (.t 16) 1), ox 23 (.ext (.t 16) 2), ox 24 (.ext (.t 16) 3), ox 10 (.mv (.t 21)), ox 11 (.mv (.t 22)), ox 12 (.mv (.t 23)), ox 13 (.mv (.t 24))] false) (.seq (.seq (.reg [ox 25 (.mv (.t 13)), ox 26 (.bi .neq .int (.t 25) (.k (.int .i64 0)))] false) (.cond (.t 26) (.seq (.reg [ox 27 (.mv (.t 13)), ox 8 (.mv (.k .nilS)), ox 9 (.mv (.t 27))] false) .ret) .skip)) (.seq (.seq (.reg [ox 28 (.mv (.t 12)), ox 29 (.mv (.t 3)), ox 30 (.call (.f 92) [(.t 28), (.t 29)]), ox 31 (.un .not (.t 30))] false) (.cond (.t 31) (.seq (.reg [ox 8 (.mv (.k .nilS)), ox 9 (.mv (.k (.int .i64 24)))] false) .ret) .skip)) (.seq (.reg [ox 32 (.mv (.t 1)), ox 33 (.call (.f 93) [(.t 32)]), ox 14 (.mv (.t 33))] false) (.seq (.reg [ox 34 (.mv (.t 12)), ox 35 (.call (.f 89) [(.t 34)]), ox 36 (.mv (.t 11)), ox 37 (.bi .shl .int (.t 35) (.t 36)), ox 15 (.mv (.t 37))] false) (.seq (.reg [ox 38 (.mv (.t 14)), ox 39 (.mv (.t 10)), ox 40 (.mv (.t 14)), ox 41 (.mv (.t 10)), ox 42 (.iam 1 (.t 40) (.t 41)), ox 43 (.ld false 1 (.t 42)), ox 44 (.mv (.t 15)), ox 45 (.bi .andNot .int (.t 43) (.t 44)), ox 46 (.mv (.t 3)), ox 47 (.mv (.t 11)), ox 48 (.bi .shl .int (.t 46) (.t 47)), ox 49 (.bi .or .int (.t 45) (.t 48)), ox 50 (.iam 1 (.t 38) (.t 39)), ⟨none, .st 1 (.t 50) (.t 49), none, false⟩] true) (.seq (.reg [ox 51 (.mv (.t 14)), ox 8 (.mv (.t 51)), ox 9 (.mv (.k (.int .i64 0)))] false) .ret))))))))⟩
def ir33 : IFun := ⟨1, [.cell true 7 2], (.seq (.reg [ox 2 (.alc [.str [], .int .i64 0, .int .i64 0, .nilS, .nilS, .nilS, .nilS])] false) (.seq (.seq (.reg [ox 3 (.mv (.t 0))] false) (.blk 0 (.seq (.reg [ox 5 (.bi .eql .int (.t 3) (.k (.int .i64 1))), ox 4 (.mv (.t 5))] false) (.cond (.t 4) (.seq (.reg [ox 6 (.call (.f 96) []), ⟨none, .st 7 (.t 2) (.t 6), none, false⟩] false) .ret) (.seq (.reg [ox 8 (.bi .eql .int (.t 3) (.k (.int .i64 2))), ox 7 (.mv (.t 8))] false) (.cond (.t 7) (.seq (.reg [ox 9 (.call (.f 97) []), ⟨none, .st 7 (.t 2) (.t 9), none, false⟩] false) .ret) .skip)))))) (.seq (.reg [ox 10 (.call (.f 98) []), ⟨none, .st 7 (.t 2) (.t 10), none, false⟩] false) .ret)))⟩
def lp34x0 : IC := (.seq (.reg [ox 35 (.bi .lss .int (.t 34) (.t 33))] false) (.seq (.cond (.t 35) .skip (.exit 0)) (.seq (.blk 1 (.seq (.reg [ox 36 (.mv (.t 34)), ox 37 (.ia 6 (.t 32) (.t 34)), ox 38 (.ld true 6 (.t 37)), ox 12 (.alc [.str [], .int .u8 0, .int .i64 0, .int .i64 0, .nilS, .int .i64 0]), ox 11 (.mv (.t 36)), ⟨none, .st 6 (.t 12) (.t 38), none, false⟩] false) (.seq (.reg [ox 39 (.fa 1 (.t 4)), ox 40 (.ld false 1 (.t 39)), ox 41 (.mv (.t 11)), ox 42 (.ia 1 (.t 40) (.t 41)), ox 43 (.ld false 1 (.t 42)), ox 44 (.cv .u64 (.t 43)), ox 13 (.mv (.t 44))] false) (.seq (.seq (.reg [ox 45 (.fa 1 (.t 12)), ox 46 (.ld false 1 (.t 45))] false) (.blk 2 (.seq (.reg [ox 48 (.bi .eql .int (.t 46) (.k (.int .u8 1))), ox 47 (.mv (.t 48))] false) (.cond (.t 47) (.exit 1) (.seq (.reg [ox 50 (.bi .eql .int (.t 46) (.k (.int .u8 4))), ox 49 (.mv (.t 50))] false) (.cond (.t 49) (.reg [ox 51 (.mv (.t 2)), ox 52 (.fa 1 (.t 3)), ox 53 (.ld false 1 (.t 52)), ox 54 (.cv .u64 (.t 53)), ox 55 (.mv (.t 13)), ox 56 (.bi .add .int (.t 55) (.k (.int .u64 1))), ox 57 (.bi .mul .int (.t 54) (.t 56)), ox 58 (.bi .add .int (.t 51) (.t 57)), ox 13 (.mv (.t 58))] false) .skip)))))) (.reg [ox 59 (.mv (.t 10)), ox 60 (.fa 0 (.t 12)), ox 61 (.ld false 1 (.t 60)), ox 62 (.fa 2 (.t 3)), ox 63 (.ld false 1 (.t 62)), ox 64 (.mv (.t 13)), ox 65 (.mv (.t 9)), ox 66 (.bi .and .int (.t 64) (.t 65)), ox 67 (.bld [.str [], .int .i64 0, .int .u64 0] [(0, 1, (.t 61)), (1, 1, (.t 63)), (2, 1, (.t 66))]), ox 68 (.bsl 3 [.str [], .int .i64 0, .int .u64 0] 1 [(0, (.t 67))]), ox 69 (.app 3 32 (.t 59) (.t 68)), ox 10 (.mv (.t 69))] false))))) (.reg [ox 70 (.bi .add .int (.t 34) (.k (.int .i64 1))), ox 34 (.mv (.t 70))] false))))
def ir34 : IFun := ⟨3, [.t 6, .t 7], (.seq (.reg [ox 3 (.box (.t 0)), ox 4 (.box (.t 1)), ox 6 (.mv (.k .nilS)), ox 7 (.mv (.k (.int .i64 0)))] false) (.seq (.seq (.reg [ox 14 (.ld true 7 (.t 3)), ox 15 (.ld true 2 (.t 4)), ox 16 (.call (.f 36) [(.t 14), (.t 15)]), ox 8 (.mv (.t 16))] false) (.seq (.reg [ox 17 (.mv (.t 8)), ox 18 (.bi .neq .int (.t 17) (.k (.int .i64 0)))] false) (.cond (.t 18) (.seq (.reg [ox 19 (.mv (.t 8)), ox 6 (.mv (.k .nilS)), ox 7 (.mv (.t 19))] false) .ret) .skip))) (.seq (.reg [ox 20 (.fa 2 (.t 3)), ox 21 (.ld false 1 (.t 20)), ox 22 (.call (.f 89) [(.t 21)]), ox 9 (.mv (.t 22))] false) (.seq (.seq (.reg [ox 23 (.mv (.t 2)), ox 24 (.mv (.t 9)), ox 25 (.bi .gtr .int (.t 23) (.t 24))] false) (.cond (.t 25) (.seq (.reg [ox 6 (.mv (.k .nilS)), ox 7 (.mv (.k (.int .i64 24)))] false) .ret) .skip)) (.seq (.reg [ox 10 (.mv (.k .nilS))] false) (.own 10 3 (.seq (.seq (.reg [ox 26 (.fa 6 (.t 3)), ox 27 (.ld false 1 (.t 26)), ox 28 (.fa 0 (.t 4)), ox 29 (.ld false 1 (.t 28)), ox 30 (.ia 9 (.t 27) (.t 29)), ox 31 (.fa 3 (.t 30)), ox 32 (.ld false 1 (.t 31)), ox 33 (.len false (.t 32)), ox 34 (.mv (.k (.int .i64 0)))] false) (.blk 0 (.loop [2, 3, 4, 9, 10, 32, 33, 34] lp34x0))) (.seq (.reg [ox 71 (.mv (.t 10)), ox 72 (.fa 2 (.t 3)), ox 73 (.ld false 1 (.t 72)), ox 74 (.mv (.t 2)), ox 75 (.bld [.str [], .int .i64 0, .int .u64 0] [(0, 1, (.k (.str [112, 99]))), (1, 1, (.t 73)), (2, 1, (.t 74))]), ox 76 (.bsl 3 [.str [], .int .i64 0, .int .u64 0] 1 [(0, (.t 75))]), ox 77 (.app 3 32 (.t 71) (.t 76)), ox 6 (.mv (.t 77)), ox 7 (.mv (.k (.int .i64 0)))] false) .ret))))))))⟩
def ir35 : IFun := ⟨3, [.t 6], (.seq (.reg [ox 6 (.mv (.k (.int .i64 0)))] false) (.seq (.reg [ox 10 (.mv (.t 0)), ox 11 (.call (.f 33) [(.t 10)]), ox 12 (.mv (.t 1)), ox 13 (.call (.f 20) [(.t 11), (.t 12)]), ox 9 (.mv (.t 13)), ox 14 (.ext (.t 9) 0), ox 15 (.ext (.t 9) 1), ox 7 (.mv (.t 14)), ox 8 (.mv (.t 15))] false) (.seq (.seq (.reg [ox 16 (.mv (.t 8)), ox 17 (.bi .neq .int (.t 16) (.k (.int .i64 0)))] false) (.cond (.t 17) (.seq (.reg [ox 18 (.mv (.t 8)), ox 6 (.mv (.t 18))] false) .ret) .skip)) (.seq (.reg [ox 19 (.mv (.t 0)), ox 20 (.call (.f 33) [(.t 19)]), ox 21 (.mv (.t 7)), ox 22 (.mv (.t 2)), ox 23 (.bld [.int .i64 0, .nilS] [(0, 1, (.t 21)), (1, 1, (.t 22))]), ox 24 (.call (.f 36) [(.t 20), (.t 23)]), ox 6 (.mv (.t 24))] false) .ret))))⟩
def lp36x0 : IC := (.seq (.reg [ox 40 (.bi .lss .int (.t 39) (.t 38))] false) (.seq (.cond (.t 40) .skip (.exit 0)) (.seq (.blk 1 (.seq (.reg [ox 41 (.mv (.t 39)), ox 42 (.ia 6 (.t 37) (.t 39)), ox 43 (.ld true 6 (.t 42)), ox 8 (.alc [.str [], .int .u8 0, .int .i64 0, .int .i64 0, .nilS, .int .i64 0]), ox 7 (.mv (.t 41)), ⟨none, .st 6 (.t 8) (.t 43), none, false⟩] false) (.seq (.reg [ox 44 (.fa 1 (.t 3)), ox 45 (.ld false 1 (.t 44)), ox 46 (.mv (.t 7)), ox 47 (.ia 1 (.t 45) (.t 46)), ox 48 (.ld false 1 (.t 47)), ox 9 (.mv (.t 48))] false) (.seq (.seq (.reg [ox 49 (.fa 1 (.t 8)), ox 50 (.ld false 1 (.t 49)), ox 51 (.bi .neq .int (.t 50) (.k (.int .u8 1)))] false) (.cond (.t 51) (.seq (.seq (.reg [ox 52 (.ld true 6 (.t 8)), ox 53 (.mv (.t 9)), ox 54 (.call (.f 99) [(.t 52), (.t 53)]), ox 55 (.un .not (.t 54))] false) (.cond (.t 55) (.seq (.reg [ox 4 (.mv (.k (.int .i64 24)))] false) .ret) .skip)) (.exit 1)) .skip)) (.seq (.seq (.reg [ox 56 (.fa 4 (.t 2)), ox 57 (.ld false 1 (.t 56)), ox 58 (.fa 2 (.t 8)), ox 59 (.ld false 1 (.t 58)), ox 60 (.ia 2 (.t 57) (.t 59)), ox 61 (.fa 1 (.t 60)), ox 62 (.ld false 1 (.t 61)), ox 63 (.mv (.t 9)), ox 64 (.call (.f 100) [(.t 62), (.t 63)]), ox 65 (.un .not (.t 64))] false) (.cond (.t 65) (.seq (.reg [ox 4 (.mv (.k (.int .i64 16)))] false) .ret) .skip)) (.seq (.reg [ox 66 (.fa 5 (.t 8)), ox 67 (.ld false 1 (.t 66)), ox 68 (.bi .geq .int (.t 67) (.k (.int .i64 0))), ox 69 (.mv (.t 68)), ⟨(some 70), .fa 1 (.t 3), (some (69, true)), false⟩, ⟨(some 71), .ld false 1 (.t 70), (some (69, true)), false⟩, ⟨(some 72), .fa 5 (.t 8), (some (69, true)), false⟩, ⟨(some 73), .ld false 1 (.t 72), (some (69, true)), false⟩, ⟨(some 74), .ia 1 (.t 71) (.t 73), (some (69, true)), false⟩, ⟨(some 75), .ld false 1 (.t 74), (some (69, true)), false⟩, ⟨(some 76), .mv (.t 9), (some (69, true)), false⟩, ⟨(some 77), .bi .neq .int (.t 75) (.t 76), (some (69, true)), false⟩, ox 78 (.pick (.t 69) (.t 77) (.k (.bool false)))] false) (.cond (.t 78) (.seq (.reg [ox 4 (.mv (.k (.int .i64 40)))] false) .ret) .skip))))))) (.reg [ox 79 (.bi .add .int (.t 39) (.k (.int .i64 1))), ox 39 (.mv (.t 79))] false))))
def ir36 : IFun := ⟨2, [.t 4], (.seq (.reg [ox 2 (.box (.t 0)), ox 3 (.box (.t 1)), ox 4 (.mv (.k (.int .i64 0)))] false) (.seq (.seq (.reg [ox 10 (.ld true 7 (.t 2)), ox 11 (.call (.f 14) [(.t 10)]), ox 5 (.mv (.t 11))] false) (.seq (.reg [ox 12 (.mv (.t 5)), ox 13 (.bi .neq .int (.t 12) (.k (.int .i64 0)))] false) (.cond (.t 13) (.seq (.reg [ox 14 (.mv (.t 5)), ox 4 (.mv (.t 14))] false) .ret) .skip))) (.seq (.seq (.reg [ox 15 (.fa 0 (.t 3)), ox 16 (.ld false 1 (.t 15)), ox 17 (.fa 6 (.t 2)), ox 18 (.ld false 1 (.t 17)), ox 19 (.len false (.t 18)), ox 20 (.bi .sub .int (.t 19) (.k (.int .i64 1))), ox 21 (.call (.f 58) [(.t 16), (.k (.int .i64 0)), (.t 20)]), ox 22 (.un .not (.t 21))] false) (.cond (.t 22) (.seq (.reg [ox 4 (.mv (.k (.int .i64 6)))] false) .ret) .skip)) (.seq (.reg [ox 23 (.fa 6 (.t 2)), ox 24 (.ld false 1 (.t 23)), ox 25 (.fa 0 (.t 3)), ox 26 (.ld false 1 (.t 25)), ox 27 (.ia 9 (.t 24) (.t 26)), ox 28 (.ld true 9 (.t 27)), ox 6 (.alc [.str [], .int .u64 0, .int .u64 0, .nilS, .nilS, .int .i64 0, .int .i64 0, .int .i64 0, .int .i64 0]), ⟨none, .st 9 (.t 6) (.t 28), none, false⟩] false) (.seq (.seq (.reg [ox 29 (.fa 1 (.t 3)), ox 30 (.ld false 1 (.t 29)), ox 31 (.len false (.t 30)), ox 32 (.fa 3 (.t 6)), ox 33 (.ld false 1 (.t 32)), ox 34 (.len false (.t 33)), ox 35 (.bi .neq .int (.t 31) (.t 34))] false) (.cond (.t 35) (.seq (.reg [ox 4 (.mv (.k (.int .i64 2)))] false) .ret) .skip)) (.seq (.seq (.reg [ox 36 (.fa 3 (.t 6)), ox 37 (.ld false 1 (.t 36)), ox 38 (.len false (.t 37)), ox 39 (.mv (.k (.int .i64 0)))] false) (.blk 0 (.loop [2, 3, 37, 38, 39] lp36x0))) (.seq (.reg [ox 4 (.mv (.k (.int .i64 0)))] false) .ret)))))))⟩
def ir37 : IFun := ⟨0, [.t 0], (.seq (.reg [ox 0 (.mv (.k (.bool false)))] false) (.seq (.reg [ox 20 (.call (.f 33) [(.k (.int .i64 1))]), ox 1 (.alc [.str [], .int .i64 0, .int .i64 0, .nilS, .nilS, .nilS, .nilS]), ⟨none, .st 7 (.t 1) (.t 20), none, false⟩] false) (.seq (.reg [ox 22 (.ld true 7 (.t 1)), ox 23 (.call (.f 18) [(.t 22), (.k (.str [97, 108]))]), ox 21 (.mv (.t 23)), ox 24 (.ext (.t 21) 0), ox 25 (.ext (.t 21) 1), ox 2 (.mv (.t 24)), ox 3 (.mv (.t 25))] false) (.seq (.reg [ox 27 (.ld true 7 (.t 1)), ox 28 (.call (.f 18) [(.t 27), (.k (.str [97, 104]))]), ox 26 (.mv (.t 28)), ox 29 (.ext (.t 26) 0), ox 30 (.ext (.t 26) 1), ox 4 (.mv (.t 29)), ox 5 (.mv (.t 30))] false) (.seq (.reg [ox 32 (.ld true 7 (.t 1)), ox 33 (.call (.f 22) [(.t 32)]), ox 31 (.mv (.t 33)), ox 34 (.ext (.t 31) 0), ox 35 (.ext (.t 31) 1), ox 6 (.mv (.t 34)), ox 7 (.mv (.t 35))] false) (.seq (.reg [ox 36 (.msm 1 8 [.int .u64 0] (.k (.int .i64 11)) (.k (.int .i64 11))), ox 8 (.mv (.t 36))] false) (.seq (.reg [ox 37 (.mv (.t 8)), ox 38 (.iam 1 (.t 37) (.k (.int .i64 0))), ⟨none, .st 1 (.t 38) (.k (.int .u64 4660)), none, false⟩] false) (.fzo 8 (.seq (.reg [ox 40 (.ld true 7 (.t 1)), ox 41 (.mv (.t 8)), ox 42 (.mv (.t 2)), ox 43 (.call (.f 30) [(.t 40), (.t 41), (.t 42), (.k (.int .u64 255))]), ox 39 (.mv (.t 43)), ox 44 (.ext (.t 39) 0), ox 45 (.ext (.t 39) 1), ox 9 (.mv (.t 44)), ox 10 (.mv (.t 45))] false) (.seq (.reg [ox 47 (.ld true 7 (.t 1)), ox 48 (.mv (.t 2)), ox 49 (.call (.f 26) [(.t 47), (.t 48), (.k (.int .i64 0))]), ox 46 (.mv (.t 49)), ox 50 (.ext (.t 46) 0), ox 51 (.ext (.t 46) 1), ox 11 (.mv (.t 50)), ox 12 (.mv (.t 51))] false) (.seq (.reg [ox 53 (.ld true 7 (.t 1)), ox 54 (.mv (.t 2)), ox 55 (.mv (.t 4)), ox 56 (.call (.f 26) [(.t 53), (.t 54), (.t 55)]), ox 52 (.mv (.t 56)), ox 57 (.ext (.t 52) 0), ox 58 (.ext (.t 52) 1), ox 13 (.mv (.t 57)), ox 14 (.mv (.t 58))] false) (.seq (.reg [ox 60 (.call (.f 33) [(.k (.int .i64 0))]), ox 61 (.call (.f 20) [(.t 60), (.k (.str [106, 117, 109, 112]))]), ox 59 (.mv (.t 61)), ox 62 (.ext (.t 59) 0), ox 63 (.ext (.t 59) 1), ox 15 (.mv (.t 62)), ox 16 (.mv (.t 63))] false) (.seq (.reg [ox 65 (.call (.f 33) [(.k (.int .i64 0))]), ox 66 (.mv (.t 15)), ox 67 (.bsl 1 [.int .i64 0] 1 [(0, (.k (.int .i64 (-2))))]), ox 68 (.bld [.int .i64 0, .nilS] [(0, 1, (.t 66)), (1, 1, (.t 67))]), ox 69 (.call (.f 34) [(.t 65), (.t 68), (.k (.int .u64 100))]), ox 64 (.mv (.t 69)), ox 70 (.ext (.t 64) 0), ox 71 (.ext (.t 64) 1), ox 17 (.mv (.t 70)), ox 18 (.mv (.t 71))] false) (.seq (.seq (.reg [ox 72 (.mv (.t 3)), ox 73 (.bi .neq .int (.t 72) (.k (.int .i64 0))), ox 74 (.mv (.t 73)), ⟨(some 75), .mv (.t 5), (some (74, false)), false⟩, ⟨(some 76), .bi .neq .int (.t 75) (.k (.int .i64 0)), (some (74, false)), false⟩, ox 77 (.pick (.t 74) (.k (.bool true)) (.t 76)), ox 78 (.mv (.t 77)), ⟨(some 79), .mv (.t 7), (some (78, false)), false⟩, ⟨(some 80), .bi .neq .int (.t 79) (.k (.int .i64 0)), (some (78, false)), false⟩, ox 81 (.pick (.t 78) (.k (.bool true)) (.t 80)), ox 82 (.mv (.t 81)), ⟨(some 83), .mv (.t 10), (some (82, false)), false⟩, ⟨(some 84), .bi .neq .int (.t 83) (.k (.int .i64 0)), (some (82, false)), false⟩, ox 85 (.pick (.t 82) (.k (.bool true)) (.t 84)), ox 86 (.mv (.t 85)), ⟨(some 87), .mv (.t 12), (some (86, false)), false⟩, ⟨(some 88), .bi .neq .int (.t 87) (.k (.int .i64 0)), (some (86, false)), false⟩, ox 89 (.pick (.t 86) (.k (.bool true)) (.t 88)), ox 90 (.mv (.t 89)), ⟨(some 91), .mv (.t 14), (some (90, false)), false⟩, ⟨(some 92), .bi .neq .int (.t 91) (.k (.int .i64 0)), (some (90, false)), false⟩, ox 93 (.pick (.t 90) (.k (.bool true)) (.t 92)), ox 94 (.mv (.t 93)), ⟨(some 95), .mv (.t 16), (some (94, false)), false⟩, ⟨(some 96), .bi .neq .int (.t 95) (.k (.int .i64 0)), (some (94, false)), false⟩, ox 97 (.pick (.t 94) (.k (.bool true)) (.t 96)), ox 98 (.mv (.t 97)), ⟨(some 99), .mv (.t 18), (some (98, false)), false⟩, ⟨(some 100), .bi .neq .int (.t 99) (.k (.int .i64 0)), (some (98, false)), false⟩, ox 101 (.pick (.t 98) (.k (.bool true)) (.t 100)), ox 102 (.mv (.t 101)), ⟨(some 103), .mv (.t 6), (some (102, false)), false⟩, ⟨(some 104), .len false (.t 103), (some (102, false)), false⟩, ⟨(some 105), .bi .neq .int (.t 104) (.k (.int .i64 11)), (some (102, false)), false⟩, ox 106 (.pick (.t 102) (.k (.bool true)) (.t 105)), ox 107 (.mv (.t 106)), ⟨(some 108), .mv (.t 17), (some (107, false)), false⟩, ⟨(some 109), .len false (.t 108), (some (107, false)), false⟩, ⟨(some 110), .bi .neq .int (.t 109) (.k (.int .i64 2)), (some (107, false)), false⟩, ox 111 (.pick (.t 107) (.k (.bool true)) (.t 110))] false) (.cond (.t 111) (.seq (.reg [ox 0 (.mv (.k (.bool false)))] false) .ret) .skip)) (.seq (.reg [ox 112 (.mv (.t 17)), ox 113 (.ia 3 (.t 112) (.k (.int .i64 0))), ox 114 (.ld true 3 (.t 113)), ox 115 (.bld [.str [], .int .i64 0, .int .u64 0] [(0, 1, (.k (.str [116, 111]))), (1, 1, (.k (.int .i64 32))), (2, 1, (.k (.int .u64 96)))]), ox 116 (.bi .eql (.ag [true, false, false]) (.t 114) (.t 115)), ox 117 (.mv (.t 116)), ⟨(some 118), .mv (.t 17), (some (117, true)), false⟩, ⟨(some 119), .ia 3 (.t 118) (.k (.int .i64 1)), (some (117, true)), false⟩, ⟨(some 120), .ld true 3 (.t 119), (some (117, true)), false⟩, ⟨(some 121), .bld [.str [], .int .i64 0, .int .u64 0] [(0, 1, (.k (.str [112, 99]))), (1, 1, (.k (.int .i64 32))), (2, 1, (.k (.int .u64 100)))], (some (117, true)), false⟩, ⟨(some 122), .bi .eql (.ag [true, false, false]) (.t 120) (.t 121), (some (117, true)), false⟩, ox 123 (.pick (.t 117) (.t 122) (.k (.bool false))), ox 19 (.mv (.t 123))] false) (.seq (.reg [ox 124 (.mv (.t 8)), ox 125 (.mv (.t 4)), ox 126 (.call (.f 101) [(.t 124), (.t 125), (.k (.int .u64 18))]), ox 127 (.mv (.t 126)), ⟨(some 128), .mv (.t 9), (some (127, true)), false⟩, ⟨(some 129), .call (.f 101) [(.t 128), (.k (.int .i64 0)), (.k (.int .u64 4863))], (some (127, true)), false⟩, ox 130 (.pick (.t 127) (.t 129) (.k (.bool false))), ox 131 (.mv (.t 130)), ⟨(some 132), .mv (.t 11), (some (131, true)), false⟩, ox 133 (.pick (.t 131) (.t 132) (.k (.bool false))), ox 134 (.mv (.t 133)), ⟨(some 135), .mv (.t 13), (some (134, true)), false⟩, ⟨(some 136), .un .not (.t 135), (some (134, true)), false⟩, ox 137 (.pick (.t 134) (.t 136) (.k (.bool false))), ox 138 (.mv (.t 137)), ⟨(some 139), .mv (.t 19), (some (138, true)), false⟩, ox 140 (.pick (.t 138) (.t 139) (.k (.bool false))), ox 141 (.mv (.t 140)), ⟨(some 142), .bsl 1 [.int .i64 0] 2 [(0, (.k (.int .i64 2))), (1, (.k (.int .i64 (-64))))], (some (141, true)), false⟩, ⟨(some 143), .call (.f 35) [(.k (.int .i64 1)), (.k (.str [109, 111, 118, 105])), (.t 142)], (some (141, true)), false⟩, ⟨(some 144), .bi .eql .int (.t 143) (.k (.int .i64 0)), (some (141, true)), false⟩, ox 145 (.pick (.t 141) (.t 144) (.k (.bool false))), ox 146 (.mv (.t 145)), ⟨(some 147), .bsl 1 [.int .i64 0] 2 [(0, (.k (.int .i64 2))), (1, (.k (.int .i64 (-65))))], (some (146, true)), false⟩, ⟨(some 148), .call (.f 35) [(.k (.int .i64 1)), (.k (.str [109, 111, 118, 105])), (.t 147)], (some (146, true)), false⟩, ⟨(some 149), .bi .eql .int (.t 148) (.k (.int .i64 24)), (some (146, true)), false⟩, ox 150 (.pick (.t 146) (.t 149) (.k (.bool false))), ox 0 (.mv (.t 150))] false) .ret))))))))))))))))⟩
def ir39 : IFun := ⟨1, [.t 2], (.seq (.reg [ox 1 (.box (.t 0)), ox 2 (.mv (.k (.bool false)))] false) (.seq (.reg [ox 6 (.ld true 6 (.t 1)), ox 7 (.call (.f 102) [(.t 6), (.k (.int .i64 500)), (.k (.int .i64 80))]), ox 5 (.mv (.t 7)), ox 8 (.ext (.t 5) 0), ox 9 (.ext (.t 5) 1), ox 3 (.mv (.t 8)), ox 4 (.mv (.t 9))] false) (.seq (.reg [ox 10 (.mv (.t 4)), ox 11 (.un .not (.t 10)), ox 12 (.mv (.t 11)), ⟨(some 13), .mv (.t 3), (some (12, false)), false⟩, ⟨(some 14), .bi .gtr .int (.t 13) (.k (.int .i64 500)), (some (12, false)), false⟩, ox 15 (.pick (.t 12) (.k (.bool true)) (.t 14)), ox 16 (.mv (.t 15)), ⟨(some 17), .ld true 6 (.t 1), (some (16, false)), false⟩, ⟨(some 18), .call (.f 103) [(.t 17)], (some (16, false)), false⟩, ox 19 (.pick (.t 16) (.k (.bool true)) (.t 18)), ox 2 (.mv (.t 19))] false) .ret)))⟩
end Go.Proofs.Dv
set_option maxRecDepth 100000
namespace Go.Proofs.Dv
def lp40x0 : IC := (.seq (.seq (.reg [ox 14 (.mv (.t 5)), ox 15 (.fa 6 (.t 1)), ox 16 (.ld false 1 (.t 15)), ox 17 (.mv (.t 4)), ox 18 (.ia 9 (.t 16) (.t 17)), ox 19 (.fa 4 (.t 18)), ox 20 (.ld false 1 (.t 19)), ox 21 (.len false (.t 20)), ox 22 (.bi .lss .int (.t 14) (.t 21))] false) (.cond (.t 22) .skip (.exit 2))) (.seq (.blk 3 (.seq (.reg [ox 25 (.fa 6 (.t 1)), ox 26 (.ld false 1 (.t 25)), ox 27 (.mv (.t 4)), ox 28 (.ia 9 (.t 26) (.t 27)), ox 29 (.fa 4 (.t 28)), ox 30 (.ld false 1 (.t 29)), ox 31 (.mv (.t 5)), ox 32 (.ia 21 (.t 30) (.t 31)), ox 33 (.ld true 21 (.t 32)), ox 6 (.alc [.int .u8 0, .int .i64 0, .int .i64 0, .int .u8 0, .int .i64 0, .int .u64 0, .str [], .int .i64 0, .nilS, .int .u8 0, .int .i64 0, .int .u64 0, .str [], .int .i64 0, .nilS, .int .u8 0, .int .i64 0, .int .u64 0, .str [], .int .i64 0, .nilS]), ⟨none, .st 21 (.t 6) (.t 33), none, false⟩] false) (.reg [⟨(some 34), .mv (.t 3), none, true⟩, ox 35 (.fa 3 (.t 6)), ox 36 (.ld true 6 (.t 35)), ⟨(some 37), .call (.f 104) [(.t 36)], none, true⟩, ⟨(some 38), .fa 9 (.t 6), none, true⟩, ox 39 (.ld true 6 (.t 38)), ⟨(some 40), .call (.f 104) [(.t 39)], none, true⟩, ⟨(some 41), .bi .add .int (.t 37) (.t 40), none, true⟩, ⟨(some 42), .fa 15 (.t 6), none, true⟩, ox 43 (.ld true 6 (.t 42)), ox 44 (.call (.f 104) [(.t 43)]), ox 45 (.bi .add .int (.t 41) (.t 44)), ox 46 (.bi .add .int (.t 34) (.t 45)), ox 3 (.mv (.t 46))] true))) (.reg [ox 23 (.mv (.t 5)), ox 24 (.bi .add .int (.t 23) (.k (.int .i64 1))), ox 5 (.mv (.t 24))] false)))
def lp40x1 : IC := (.seq (.seq (.reg [ox 7 (.mv (.t 4)), ox 8 (.fa 6 (.t 1)), ox 9 (.ld false 1 (.t 8)), ox 10 (.len false (.t 9)), ox 11 (.bi .lss .int (.t 7) (.t 10))] false) (.cond (.t 11) .skip (.exit 0))) (.seq (.blk 1 (.seq (.reg [ox 5 (.mv (.k (.int .i64 0)))] false) (.blk 2 (.loop [1, 3, 4, 5] lp40x0)))) (.reg [ox 12 (.mv (.t 4)), ox 13 (.bi .add .int (.t 12) (.k (.int .i64 1))), ox 4 (.mv (.t 13))] false)))
def ir40 : IFun := ⟨1, [.t 2], (.seq (.reg [ox 1 (.box (.t 0)), ox 2 (.mv (.k (.int .i64 0)))] false) (.seq (.reg [ox 3 (.mv (.k (.int .i64 0)))] false) (.seq (.seq (.reg [ox 4 (.mv (.k (.int .i64 0)))] false) (.blk 0 (.loop [1, 3, 4] lp40x1))) (.seq (.reg [ox 47 (.mv (.t 3)), ox 2 (.mv (.t 47))] false) .ret))))⟩
def lp55x0 : IC := (.seq (.reg [ox 40 (.bi .lss .int (.t 39) (.t 38))] false) (.seq (.cond (.t 40) .skip (.exit 0)) (.seq (.blk 1 (.seq (.reg [ox 41 (.ia 2 (.t 37) (.t 39)), ox 42 (.ld true 2 (.t 41)), ox 5 (.alc [.str [], .nilS]), ⟨none, .st 2 (.t 5) (.t 42), none, false⟩] false) (.reg [ox 43 (.mv (.t 3)), ox 44 (.mv (.t 43)), ⟨(some 45), .fa 1 (.t 5), (some (44, true)), false⟩, ⟨(some 46), .ld false 1 (.t 45), (some (44, true)), false⟩, ⟨(some 47), .len false (.t 46), (some (44, true)), false⟩, ⟨(some 48), .bsl 1 [.int .i64 0] 1 [(0, (.t 47))], (some (44, true)), false⟩, ⟨(some 49), .call (.f 105) [(.k (.int .i64 64)), (.t 48)], (some (44, true)), false⟩, ox 50 (.pick (.t 44) (.t 49) (.k (.bool false))), ox 3 (.mv (.t 50))] false))) (.reg [ox 51 (.bi .add .int (.t 39) (.k (.int .i64 1))), ox 39 (.mv (.t 51))] false))))
def lp55x1 : IC := (.seq (.reg [ox 78 (.bi .lss .int (.t 77) (.t 76))] false) (.seq (.cond (.t 78) .skip (.exit 4)) (.seq (.blk 5 (.seq (.reg [ox 79 (.ia 6 (.t 75) (.t 77)), ox 80 (.ld true 6 (.t 79)), ox 9 (.alc [.str [], .int .u8 0, .int .i64 0, .int .i64 0, .nilS, .int .i64 0]), ⟨none, .st 6 (.t 9) (.t 80), none, false⟩] false) (.reg [ox 81 (.mv (.t 3)), ox 82 (.mv (.t 81)), ⟨(some 83), .fa 4 (.t 9), (some (82, true)), false⟩, ⟨(some 84), .ld false 1 (.t 83), (some (82, true)), false⟩, ⟨(some 85), .len false (.t 84), (some (82, true)), false⟩, ⟨(some 86), .bsl 1 [.int .i64 0] 1 [(0, (.t 85))], (some (82, true)), false⟩, ⟨(some 87), .call (.f 105) [(.k (.int .i64 4)), (.t 86)], (some (82, true)), false⟩, ox 88 (.pick (.t 82) (.t 87) (.k (.bool false))), ox 3 (.mv (.t 88))] false))) (.reg [ox 89 (.bi .add .int (.t 77) (.k (.int .i64 1))), ox 77 (.mv (.t 89))] false))))
def lp55x2 : IC := (.seq (.reg [ox 56 (.bi .lss .int (.t 55) (.t 54))] false) (.seq (.cond (.t 56) .skip (.exit 2)) (.seq (.blk 3 (.seq (.reg [ox 57 (.ia 9 (.t 53) (.t 55)), ox 58 (.ld true 9 (.t 57)), ox 7 (.alc [.str [], .int .u64 0, .int .u64 0, .nilS, .nilS, .int .i64 0, .int .i64 0, .int .i64 0, .int .i64 0]), ⟨none, .st 9 (.t 7) (.t 58), none, false⟩] false) (.seq (.reg [ox 59 (.mv (.t 3)), ox 60 (.mv (.t 59)), ⟨(some 61), .fa 3 (.t 7), (some (60, true)), false⟩, ⟨(some 62), .ld false 1 (.t 61), (some (60, true)), false⟩, ⟨(some 63), .len false (.t 62), (some (60, true)), false⟩, ⟨(some 64), .bsl 1 [.int .i64 0] 1 [(0, (.t 63))], (some (60, true)), false⟩, ⟨(some 65), .call (.f 105) [(.k (.int .i64 4)), (.t 64)], (some (60, true)), false⟩, ox 66 (.pick (.t 60) (.t 65) (.k (.bool false))), ox 67 (.mv (.t 66)), ⟨(some 68), .fa 4 (.t 7), (some (67, true)), false⟩, ⟨(some 69), .ld false 1 (.t 68), (some (67, true)), false⟩, ⟨(some 70), .len false (.t 69), (some (67, true)), false⟩, ⟨(some 71), .bsl 1 [.int .i64 0] 1 [(0, (.t 70))], (some (67, true)), false⟩, ⟨(some 72), .call (.f 105) [(.k (.int .i64 4)), (.t 71)], (some (67, true)), false⟩, ox 73 (.pick (.t 67) (.t 72) (.k (.bool false))), ox 3 (.mv (.t 73))] false) (.seq (.reg [ox 74 (.fa 3 (.t 7)), ox 75 (.ld false 1 (.t 74)), ox 76 (.len false (.t 75)), ox 77 (.mv (.k (.int .i64 0)))] false) (.blk 4 (.loop [3, 53, 54, 55, 75, 76, 77] lp55x1)))))) (.reg [ox 90 (.bi .add .int (.t 55) (.k (.int .i64 1))), ox 55 (.mv (.t 90))] false))))
def ir55 : IFun := ⟨1, [.t 2], (.seq (.reg [ox 1 (.box (.t 0)), ox 2 (.mv (.k (.bool false)))] false) (.seq (.reg [ox 10 (.fa 3 (.t 1)), ox 11 (.ld false 1 (.t 10)), ox 12 (.len false (.t 11)), ox 13 (.bsl 1 [.int .i64 0] 1 [(0, (.t 12))]), ox 14 (.call (.f 105) [(.k (.int .i64 64)), (.t 13)]), ox 15 (.mv (.t 14)), ⟨(some 16), .fa 4 (.t 1), (some (15, true)), false⟩, ⟨(some 17), .ld false 1 (.t 16), (some (15, true)), false⟩, ⟨(some 18), .len false (.t 17), (some (15, true)), false⟩, ⟨(some 19), .bsl 1 [.int .i64 0] 1 [(0, (.t 18))], (some (15, true)), false⟩, ⟨(some 20), .call (.f 105) [(.k (.int .i64 16)), (.t 19)], (some (15, true)), false⟩, ox 21 (.pick (.t 15) (.t 20) (.k (.bool false))), ox 22 (.mv (.t 21)), ⟨(some 23), .fa 5 (.t 1), (some (22, true)), false⟩, ⟨(some 24), .ld false 1 (.t 23), (some (22, true)), false⟩, ⟨(some 25), .len false (.t 24), (some (22, true)), false⟩, ⟨(some 26), .bsl 1 [.int .i64 0] 1 [(0, (.t 25))], (some (22, true)), false⟩, ⟨(some 27), .call (.f 105) [(.k (.int .i64 8)), (.t 26)], (some (22, true)), false⟩, ox 28 (.pick (.t 22) (.t 27) (.k (.bool false))), ox 29 (.mv (.t 28)), ⟨(some 30), .fa 6 (.t 1), (some (29, true)), false⟩, ⟨(some 31), .ld false 1 (.t 30), (some (29, true)), false⟩, ⟨(some 32), .len false (.t 31), (some (29, true)), false⟩, ⟨(some 33), .bsl 1 [.int .i64 0] 1 [(0, (.t 32))], (some (29, true)), false⟩, ⟨(some 34), .call (.f 105) [(.k (.int .i64 64)), (.t 33)], (some (29, true)), false⟩, ox 35 (.pick (.t 29) (.t 34) (.k (.bool false))), ox 3 (.mv (.t 35))] false) (.seq (.seq (.reg [ox 36 (.fa 4 (.t 1)), ox 37 (.ld false 1 (.t 36)), ox 38 (.len false (.t 37)), ox 39 (.mv (.k (.int .i64 0)))] false) (.blk 0 (.loop [1, 3, 37, 38, 39] lp55x0))) (.seq (.seq (.reg [ox 52 (.fa 6 (.t 1)), ox 53 (.ld false 1 (.t 52)), ox 54 (.len false (.t 53)), ox 55 (.mv (.k (.int .i64 0)))] false) (.blk 2 (.loop [3, 53, 54, 55] lp55x2))) (.seq (.reg [ox 91 (.mv (.t 3)), ox 2 (.mv (.t 91))] false) .ret)))))⟩
def lp56x0 : IC := (.seq (.reg [ox 9 (.bi .lss .int (.t 8) (.t 7))] false) (.seq (.cond (.t 9) .skip (.exit 0)) (.seq (.blk 1 (.seq (.reg [ox 10 (.ia 1 (.t 6) (.t 8)), ox 11 (.ld false 1 (.t 10)), ox 5 (.mv (.t 11))] false) (.reg [ox 12 (.mv (.t 0)), ox 13 (.mv (.t 0)), ox 14 (.nilc (.t 13)), ox 15 (.fa 7 (.t 14)), ox 16 (.ld false 1 (.t 15)), ox 17 (.mv (.t 16)), ⟨(some 18), .mv (.t 5), (some (17, true)), false⟩, ox 19 (.pick (.t 17) (.t 18) (.k (.bool false))), ox 20 (.nilc (.t 12)), ox 21 (.fa 7 (.t 20)), ⟨none, .st 1 (.t 21) (.t 19), none, false⟩] false))) (.reg [ox 22 (.bi .add .int (.t 8) (.k (.int .i64 1))), ox 8 (.mv (.t 22))] false))))
def ir56 : IFun := ⟨2, [], (.seq (.reg [ox 6 (.mv (.t 1)), ox 7 (.len false (.t 6)), ox 8 (.mv (.k (.int .i64 0)))] false) (.blk 0 (.loop [0, 6, 7, 8] lp56x0)))⟩
def lp57x0 : IC := (.seq (.reg [ox 17 (.bi .lss .int (.t 16) (.t 15))] false) (.seq (.cond (.t 17) .skip (.exit 0)) (.seq (.blk 1 (.seq (.reg [ox 18 (.mv (.t 16)), ox 3 (.mv (.t 18))] false) (.seq (.reg [ox 19 (.mv (.t 0)), ox 20 (.mv (.t 3)), ox 21 (.ixs (.t 19) (.t 20)), ox 4 (.mv (.t 21))] false) (.seq (.reg [ox 22 (.mv (.t 4)), ox 23 (.bi .geq .int (.t 22) (.k (.int .u8 97))), ox 24 (.mv (.t 23)), ⟨(some 25), .mv (.t 4), (some (24, true)), false⟩, ⟨(some 26), .bi .leq .int (.t 25) (.k (.int .u8 122)), (some (24, true)), false⟩, ox 27 (.pick (.t 24) (.t 26) (.k (.bool false))), ox 28 (.mv (.t 27)), ⟨(some 29), .mv (.t 4), (some (28, false)), false⟩, ⟨(some 30), .bi .geq .int (.t 29) (.k (.int .u8 65)), (some (28, false)), false⟩, ⟨(some 31), .mv (.t 30), (some (28, false)), false⟩, ⟨(some 32), .mv (.t 4), (some (31, true)), false⟩, ⟨(some 33), .bi .leq .int (.t 32) (.k (.int .u8 90)), (some (31, true)), false⟩, ⟨(some 34), .pick (.t 31) (.t 33) (.k (.bool false)), (some (28, false)), false⟩, ox 35 (.pick (.t 28) (.k (.bool true)) (.t 34)), ox 5 (.mv (.t 35))] false) (.seq (.reg [ox 36 (.mv (.t 5)), ox 37 (.un .not (.t 36)), ox 38 (.mv (.t 37)), ⟨(some 39), .mv (.t 3), (some (38, true)), false⟩, ⟨(some 40), .bi .eql .int (.t 39) (.k (.int .i64 0)), (some (38, true)), false⟩, ⟨(some 41), .mv (.t 40), (some (38, true)), false⟩, ⟨(some 42), .mv (.t 4), (some (41, false)), false⟩, ⟨(some 43), .bi .neq .int (.t 42) (.k (.int .u8 95)), (some (41, false)), false⟩, ⟨(some 44), .mv (.t 43), (some (41, false)), false⟩, ⟨(some 45), .mv (.t 4), (some (44, true)), false⟩, ⟨(some 46), .bi .lss .int (.t 45) (.k (.int .u8 48)), (some (44, true)), false⟩, ⟨(some 47), .mv (.t 46), (some (44, true)), false⟩, ⟨(some 48), .mv (.t 4), (some (47, false)), false⟩, ⟨(some 49), .bi .gtr .int (.t 48) (.k (.int .u8 57)), (some (47, false)), false⟩, ⟨(some 50), .pick (.t 47) (.k (.bool true)) (.t 49), (some (44, true)), false⟩, ⟨(some 51), .pick (.t 44) (.t 50) (.k (.bool false)), (some (41, false)), false⟩, ⟨(some 52), .pick (.t 41) (.k (.bool true)) (.t 51), (some (38, true)), false⟩, ox 53 (.pick (.t 38) (.t 52) (.k (.bool false)))] false) (.cond (.t 53) (.seq (.reg [ox 2 (.mv (.k (.bool false)))] false) .ret) .skip)))))) (.reg [ox 54 (.bi .add .int (.t 16) (.k (.int .i64 1))), ox 16 (.mv (.t 54))] false))))
def ir57 : IFun := ⟨1, [.t 2], (.seq (.reg [ox 2 (.mv (.k (.bool false)))] false) (.seq (.seq (.reg [ox 6 (.mv (.t 0)), ox 7 (.len true (.t 6)), ox 8 (.bi .lss .int (.t 7) (.k (.int .i64 1))), ox 9 (.mv (.t 8)), ⟨(some 10), .mv (.t 0), (some (9, false)), false⟩, ⟨(some 11), .len true (.t 10), (some (9, false)), false⟩, ⟨(some 12), .bi .gtr .int (.t 11) (.k (.int .i64 24)), (some (9, false)), false⟩, ox 13 (.pick (.t 9) (.k (.bool true)) (.t 12))] false) (.cond (.t 13) (.seq (.reg [ox 2 (.mv (.k (.bool false)))] false) .ret) .skip)) (.seq (.seq (.reg [ox 14 (.mv (.t 0)), ox 15 (.len true (.t 14)), ox 16 (.mv (.k (.int .i64 0)))] false) (.blk 0 (.loop [0, 15, 16] lp57x0))) (.seq (.reg [ox 2 (.mv (.k (.bool true)))] false) .ret))))⟩
def ir58 : IFun := ⟨3, [.t 6], (.seq (.reg [ox 6 (.mv (.k (.bool false)))] false) (.seq (.reg [ox 7 (.mv (.t 1)), ox 8 (.mv (.t 0)), ox 9 (.bi .leq .int (.t 7) (.t 8)), ox 10 (.mv (.t 9)), ⟨(some 11), .mv (.t 0), (some (10, true)), false⟩, ⟨(some 12), .mv (.t 2), (some (10, true)), false⟩, ⟨(some 13), .bi .leq .int (.t 11) (.t 12), (some (10, true)), false⟩, ox 14 (.pick (.t 10) (.t 13) (.k (.bool false))), ox 6 (.mv (.t 14))] false) .ret))⟩
def lp59x0 : IC := (.seq (.reg [ox 23 (.bi .lss .int (.t 22) (.t 21))] false) (.seq (.cond (.t 23) .skip (.exit 0)) (.seq (.blk 1 (.seq (.reg [ox 24 (.ia 4 (.t 20) (.t 22)), ox 25 (.ld true 4 (.t 24)), ox 4 (.alc [.str [], .int .i64 0, .int .i64 0, .int .i64 0]), ⟨none, .st 4 (.t 4) (.t 25), none, false⟩] false) (.fz 4 (.seq (.reg [⟨(some 26), .mv (.t 0), none, true⟩, ox 27 (.fa 0 (.t 4)), ox 28 (.ld false 1 (.t 27)), ox 29 (.call (.f 62) [(.t 2), (.t 28)]), ⟨(some 30), .fa 1 (.t 4), none, true⟩, ⟨(some 31), .ld false 1 (.t 30), none, true⟩, ox 32 (.call (.f 58) [(.t 31), (.k (.int .i64 1)), (.k (.int .i64 64))]), ox 33 (.bsl 1 [.bool false] 2 [(0, (.t 29)), (1, (.t 32))]), ox 34 (.call (.f 56) [(.t 26), (.t 33)])] true) (.blk 2 (.seq (.reg [ox 67 (.fa 2 (.t 4)), ox 68 (.ld false 1 (.t 67)), ox 69 (.bi .eql .int (.t 68) (.k (.int .i64 (-1)))), ox 66 (.mv (.t 69))] false) (.cond (.t 66) (.reg [ox 70 (.mv (.t 0)), ox 71 (.fa 3 (.t 4)), ox 72 (.ld false 1 (.t 71)), ox 73 (.bi .eql .int (.t 72) (.k (.int .i64 0))), ox 74 (.bsl 1 [.bool false] 1 [(0, (.t 73))]), ox 75 (.call (.f 56) [(.t 70), (.t 74)])] false) (.seq (.reg [ox 77 (.fa 2 (.t 4)), ox 78 (.ld false 1 (.t 77)), ox 79 (.mv (.t 0)), ox 80 (.nilc (.t 79)), ox 81 (.fa 0 (.t 80)), ox 82 (.fa 3 (.t 81)), ox 83 (.ld false 1 (.t 82)), ox 84 (.len false (.t 83)), ox 85 (.bi .sub .int (.t 84) (.k (.int .i64 1))), ox 86 (.call (.f 58) [(.t 78), (.k (.int .i64 0)), (.t 85)]), ox 87 (.un .not (.t 86)), ox 76 (.mv (.t 87))] true) (.cond (.t 76) (.reg [ox 88 (.mv (.t 0)), ox 89 (.bsl 1 [.bool false] 1 [(0, (.k (.bool false)))]), ox 90 (.call (.f 56) [(.t 88), (.t 89)])] false) (.seq (.reg [ox 35 (.mv (.t 0)), ox 36 (.nilc (.t 35)), ox 37 (.fa 0 (.t 36)), ox 38 (.fa 3 (.t 37)), ox 39 (.ld false 1 (.t 38)), ox 40 (.fa 2 (.t 4)), ox 41 (.ld false 1 (.t 40)), ox 42 (.ia 4 (.t 39) (.t 41)), ox 43 (.ld true 4 (.t 42)), ox 5 (.alc [.str [], .int .i64 0, .int .i64 0, .int .i64 0]), ⟨none, .st 4 (.t 5) (.t 43), none, false⟩] true) (.reg [⟨(some 44), .mv (.t 0), none, true⟩, ⟨(some 45), .fa 2 (.t 5), none, true⟩, ox 46 (.ld false 1 (.t 45)), ox 47 (.bi .eql .int (.t 46) (.k (.int .i64 (-1)))), ox 48 (.fa 1 (.t 4)), ox 49 (.ld false 1 (.t 48)), ox 50 (.fa 1 (.t 5)), ox 51 (.ld false 1 (.t 50)), ox 52 (.bi .lss .int (.t 49) (.t 51)), ox 53 (.fa 1 (.t 5)), ox 54 (.ld false 1 (.t 53)), ⟨(some 55), .call (.f 58) [(.t 54), (.k (.int .i64 1)), (.k (.int .i64 64))], none, true⟩, ox 56 (.fa 3 (.t 4)), ox 57 (.ld false 1 (.t 56)), ox 58 (.fa 1 (.t 5)), ox 59 (.ld false 1 (.t 58)), ox 60 (.fa 1 (.t 4)), ox 61 (.ld false 1 (.t 60)), ox 62 (.bi .sub .int (.t 59) (.t 61)), ⟨(some 63), .call (.f 58) [(.t 57), (.k (.int .i64 0)), (.t 62)], none, true⟩, ox 64 (.bsl 1 [.bool false] 4 [(0, (.t 47)), (1, (.t 52)), (2, (.t 55)), (3, (.t 63))]), ox 65 (.call (.f 56) [(.t 44), (.t 64)])] true))))))))))) (.reg [ox 91 (.bi .add .int (.t 22) (.k (.int .i64 1))), ox 22 (.mv (.t 91))] false))))
def ir59 : IFun := ⟨1, [], (.seq (.reg [ox 2 (.alc [.nilS])] false) (.ownb 2 0 1 (.seq (.reg [ox 6 (.mv (.t 0)), ox 7 (.mv (.t 0)), ox 8 (.nilc (.t 7)), ox 9 (.fa 0 (.t 8)), ox 10 (.fa 3 (.t 9)), ox 11 (.ld false 1 (.t 10)), ox 12 (.len false (.t 11)), ox 13 (.bi .gtr .int (.t 12) (.k (.int .i64 0))), ox 14 (.bsl 1 [.bool false] 1 [(0, (.t 13))]), ox 15 (.call (.f 56) [(.t 6), (.t 14)])] false) (.seq (.reg [ox 16 (.mv (.t 0)), ox 17 (.nilc (.t 16)), ox 18 (.fa 0 (.t 17)), ox 19 (.fa 3 (.t 18)), ox 20 (.ld false 1 (.t 19)), ox 21 (.len false (.t 20)), ox 22 (.mv (.k (.int .i64 0)))] false) (.blk 0 (.loop [0, 2, 20, 21, 22] lp59x0))))))⟩
def lp60x0 : IC := (.seq (.reg [ox 31 (.bi .lss .int (.t 30) (.t 29))] false) (.seq (.cond (.t 31) .skip (.exit 2)) (.seq (.blk 3 (.seq (.reg [ox 32 (.mv (.t 30)), ox 33 (.ia 1 (.t 28) (.t 30)), ox 34 (.ld false 1 (.t 33)), ox 5 (.mv (.t 32)), ox 6 (.mv (.t 34))] false) (.seq (.reg [⟨(some 35), .mv (.t 0), none, true⟩, ox 36 (.mv (.t 6)), ox 37 (.mv (.t 0)), ox 38 (.nilc (.t 37)), ox 39 (.fa 0 (.t 38)), ox 40 (.fa 3 (.t 39)), ox 41 (.ld false 1 (.t 40)), ox 42 (.len false (.t 41)), ox 43 (.bi .sub .int (.t 42) (.k (.int .i64 1))), ⟨(some 44), .call (.f 58) [(.t 36), (.k (.int .i64 0)), (.t 43)], none, true⟩, ⟨(some 45), .fa 1 (.t 4), none, true⟩, ox 46 (.ld false 1 (.t 45)), ox 47 (.mv (.t 5)), ox 48 (.slc (.t 46) (.t 47)), ox 49 (.mv (.t 6)), ox 50 (.call (.f 100) [(.t 48), (.t 49)]), ox 51 (.un .not (.t 50)), ox 52 (.bsl 1 [.bool false] 2 [(0, (.t 44)), (1, (.t 51))]), ox 53 (.call (.f 56) [(.t 35), (.t 52)])] true) (.seq (.reg [ox 54 (.mv (.t 0)), ox 55 (.nilc (.t 54)), ox 56 (.fa 7 (.t 55)), ox 57 (.ld false 1 (.t 56))] false) (.cond (.t 57) (.reg [ox 58 (.mv (.t 0)), ox 59 (.mv (.t 0)), ox 60 (.nilc (.t 59)), ox 61 (.fa 0 (.t 60)), ox 62 (.fa 3 (.t 61)), ox 63 (.ld false 1 (.t 62)), ox 64 (.mv (.t 6)), ox 65 (.ia 4 (.t 63) (.t 64)), ox 66 (.fa 1 (.t 65)), ox 67 (.ld false 1 (.t 66)), ox 68 (.mv (.t 0)), ox 69 (.nilc (.t 68)), ox 70 (.fa 0 (.t 69)), ox 71 (.fa 3 (.t 70)), ox 72 (.ld false 1 (.t 71)), ox 73 (.fa 1 (.t 4)), ox 74 (.ld false 1 (.t 73)), ox 75 (.ia 1 (.t 74) (.k (.int .i64 0))), ox 76 (.ld false 1 (.t 75)), ox 77 (.ia 4 (.t 72) (.t 76)), ox 78 (.fa 1 (.t 77)), ox 79 (.ld false 1 (.t 78)), ox 80 (.bi .eql .int (.t 67) (.t 79)), ox 81 (.bsl 1 [.bool false] 1 [(0, (.t 80))]), ox 82 (.call (.f 56) [(.t 58), (.t 81)])] true) .skip))))) (.reg [ox 83 (.bi .add .int (.t 30) (.k (.int .i64 1))), ox 30 (.mv (.t 83))] false))))
def lp60x1 : IC := (.seq (.reg [ox 14 (.bi .lss .int (.t 13) (.t 12))] false) (.seq (.cond (.t 14) .skip (.exit 0)) (.seq (.blk 1 (.seq (.reg [ox 15 (.ia 2 (.t 11) (.t 13)), ox 16 (.ld true 2 (.t 15)), ox 4 (.alc [.str [], .nilS]), ⟨none, .st 2 (.t 4) (.t 16), none, false⟩] false) (.fz 4 (.seq (.reg [⟨(some 17), .mv (.t 0), none, true⟩, ox 18 (.fa 0 (.t 4)), ox 19 (.ld false 1 (.t 18)), ox 20 (.call (.f 62) [(.t 2), (.t 19)]), ⟨(some 21), .fa 1 (.t 4), none, true⟩, ⟨(some 22), .ld false 1 (.t 21), none, true⟩, ⟨(some 23), .len false (.t 22), none, true⟩, ⟨(some 24), .bi .gtr .int (.t 23) (.k (.int .i64 0)), none, true⟩, ox 25 (.bsl 1 [.bool false] 2 [(0, (.t 20)), (1, (.t 24))]), ox 26 (.call (.f 56) [(.t 17), (.t 25)])] true) (.seq (.reg [ox 27 (.fa 1 (.t 4)), ox 28 (.ld false 1 (.t 27)), ox 29 (.len false (.t 28)), ox 30 (.mv (.k (.int .i64 0)))] false) (.blk 2 (.loop [0, 2, 4, 11, 12, 13, 28, 29, 30] lp60x0))))))) (.reg [ox 84 (.bi .add .int (.t 13) (.k (.int .i64 1))), ox 13 (.mv (.t 84))] false))))
def ir60 : IFun := ⟨1, [], (.seq (.reg [ox 2 (.alc [.nilS])] false) (.ownb 2 0 1 (.seq (.reg [ox 7 (.mv (.t 0)), ox 8 (.nilc (.t 7)), ox 9 (.fa 0 (.t 8)), ox 10 (.fa 4 (.t 9)), ox 11 (.ld false 1 (.t 10)), ox 12 (.len false (.t 11)), ox 13 (.mv (.k (.int .i64 0)))] false) (.blk 0 (.loop [0, 2, 11, 12, 13] lp60x1)))))⟩
def lp61x0 : IC := (.seq (.reg [ox 22 (.bi .lss .int (.t 21) (.t 20))] false) (.seq (.cond (.t 22) .skip (.exit 0)) (.seq (.blk 1 (.seq (.reg [ox 23 (.ia 2 (.t 19) (.t 21)), ox 24 (.ld true 2 (.t 23)), ox 4 (.alc [.str [], .int .i64 0]), ⟨none, .st 2 (.t 4) (.t 24), none, false⟩] false) (.fz 4 (.reg [⟨(some 25), .mv (.t 0), none, true⟩, ox 26 (.fa 0 (.t 4)), ox 27 (.ld false 1 (.t 26)), ox 28 (.call (.f 62) [(.t 2), (.t 27)]), ⟨(some 29), .fa 1 (.t 4), none, true⟩, ⟨(some 30), .ld false 1 (.t 29), none, true⟩, ox 31 (.call (.f 58) [(.t 30), (.k (.int .i64 1)), (.k (.int .i64 4))]), ox 32 (.bsl 1 [.bool false] 2 [(0, (.t 28)), (1, (.t 31))]), ox 33 (.call (.f 56) [(.t 25), (.t 32)])] true)))) (.reg [ox 34 (.bi .add .int (.t 21) (.k (.int .i64 1))), ox 21 (.mv (.t 34))] false))))
def ir61 : IFun := ⟨1, [], (.seq (.reg [ox 2 (.alc [.nilS])] false) (.ownb 2 0 1 (.seq (.reg [ox 5 (.mv (.t 0)), ox 6 (.mv (.t 0)), ox 7 (.nilc (.t 6)), ox 8 (.fa 0 (.t 7)), ox 9 (.fa 5 (.t 8)), ox 10 (.ld false 1 (.t 9)), ox 11 (.len false (.t 10)), ox 12 (.bi .gtr .int (.t 11) (.k (.int .i64 0))), ox 13 (.bsl 1 [.bool false] 1 [(0, (.t 12))]), ox 14 (.call (.f 56) [(.t 5), (.t 13)])] false) (.seq (.reg [ox 15 (.mv (.t 0)), ox 16 (.nilc (.t 15)), ox 17 (.fa 0 (.t 16)), ox 18 (.fa 5 (.t 17)), ox 19 (.ld false 1 (.t 18)), ox 20 (.len false (.t 19)), ox 21 (.mv (.k (.int .i64 0)))] false) (.blk 0 (.loop [0, 2, 19, 20, 21] lp61x0))))))⟩
def ir62 : IFun := ⟨2, [.t 4], (.ownb 0 0 1 (.seq (.reg [ox 4 (.mv (.k (.bool false)))] false) (.seq (.reg [ox 6 (.mv (.t 1)), ox 7 (.call (.f 57) [(.t 6)]), ox 8 (.mv (.t 7)), ⟨(some 9), .mv (.t 0), (some (8, true)), false⟩, ⟨(some 10), .nilc (.t 9), (some (8, true)), false⟩, ⟨(some 11), .fa 0 (.t 10), (some (8, true)), false⟩, ⟨(some 12), .ld false 1 (.t 11), (some (8, true)), false⟩, ⟨(some 13), .mv (.t 1), (some (8, true)), false⟩, ⟨(some 14), .call (.f 106) [(.t 12), (.t 13)], (some (8, true)), false⟩, ⟨(some 15), .un .not (.t 14), (some (8, true)), false⟩, ox 16 (.pick (.t 8) (.t 15) (.k (.bool false))), ox 5 (.mv (.t 16))] false) (.seq (.reg [ox 17 (.mv (.t 0)), ox 18 (.mv (.t 0)), ox 19 (.nilc (.t 18)), ox 20 (.fa 0 (.t 19)), ox 21 (.ld false 1 (.t 20)), ox 22 (.mv (.t 1)), ox 23 (.bsl 1 [.str []] 1 [(0, (.t 22))]), ox 24 (.app 1 16 (.t 21) (.t 23)), ox 25 (.nilc (.t 17)), ox 26 (.fa 0 (.t 25)), ⟨none, .st 1 (.t 26) (.t 24), none, false⟩] false) (.seq (.reg [ox 27 (.mv (.t 5)), ox 4 (.mv (.t 27))] false) .ret)))))⟩
def lp63x0 : IC := (.seq (.reg [ox 42 (.bi .lss .int (.t 41) (.t 40))] false) (.seq (.cond (.t 42) .skip (.exit 0)) (.seq (.blk 1 (.seq (.reg [ox 43 (.mv (.t 41)), ox 44 (.ia 6 (.t 39) (.t 41)), ox 45 (.ld true 6 (.t 44)), ox 7 (.alc [.str [], .int .u8 0, .int .i64 0, .int .i64 0, .nilS, .int .i64 0]), ox 6 (.mv (.t 43)), ⟨none, .st 6 (.t 7) (.t 45), none, false⟩] false) (.seq (.reg [ox 46 (.mv (.t 0)), ox 47 (.fa 0 (.t 7)), ox 48 (.ld false 1 (.t 47)), ox 49 (.call (.f 62) [(.t 4), (.t 48)]), ox 50 (.bsl 1 [.bool false] 1 [(0, (.t 49))]), ox 51 (.call (.f 56) [(.t 46), (.t 50)])] false) (.seq (.reg [ox 52 (.mv (.t 0)), ox 53 (.ld true 9 (.t 3)), ox 54 (.mv (.t 6)), ox 55 (.call (.f 107) [(.t 52), (.t 53), (.t 54)]), ox 8 (.mv (.t 55))] false) (.seq (.reg [ox 56 (.mv (.t 0)), ox 57 (.mv (.t 5)), ox 58 (.mv (.t 8)), ox 59 (.bi .and .int (.t 57) (.t 58)), ox 60 (.bi .eql .int (.t 59) (.k (.int .u64 0))), ox 61 (.bsl 1 [.bool false] 1 [(0, (.t 60))]), ox 62 (.call (.f 56) [(.t 56), (.t 61)])] false) (.reg [ox 63 (.mv (.t 5)), ox 64 (.mv (.t 8)), ox 65 (.bi .or .int (.t 63) (.t 64)), ox 5 (.mv (.t 65))] false)))))) (.reg [ox 66 (.bi .add .int (.t 41) (.k (.int .i64 1))), ox 41 (.mv (.t 66))] false))))
def lp63x1 : IC := (.seq (.reg [ox 80 (.bi .lss .int (.t 79) (.t 78))] false) (.seq (.cond (.t 80) .skip (.exit 2)) (.seq (.blk 3 (.seq (.reg [ox 81 (.ia 21 (.t 77) (.t 79)), ox 82 (.ld true 21 (.t 81)), ox 12 (.alc [.int .u8 0, .int .i64 0, .int .i64 0, .int .u8 0, .int .i64 0, .int .u64 0, .str [], .int .i64 0, .nilS, .int .u8 0, .int .i64 0, .int .u64 0, .str [], .int .i64 0, .nilS, .int .u8 0, .int .i64 0, .int .u64 0, .str [], .int .i64 0, .nilS]), ⟨none, .st 21 (.t 12) (.t 82), none, false⟩] false) (.seq (.reg [ox 83 (.mv (.t 0)), ox 84 (.ld true 9 (.t 3)), ox 85 (.ld true 21 (.t 12)), ox 86 (.mv (.t 9)), ox 87 (.call (.f 109) [(.t 83), (.t 84), (.t 85), (.t 86)])] false) (.reg [ox 88 (.mv (.t 10)), ox 89 (.fa 0 (.t 12)), ox 90 (.ld false 1 (.t 89)), ox 91 (.mlk false false (.int .i64 0) (.t 88) (.t 90)), ox 92 (.bi .add .int (.t 91) (.k (.int .i64 1))), ⟨none, .mup false (.t 88) (.t 90) (.t 92), none, false⟩] false)))) (.reg [ox 93 (.bi .add .int (.t 79) (.k (.int .i64 1))), ox 79 (.mv (.t 93))] false))))
def ir63 : IFun := ⟨2, [], (.seq (.reg [ox 3 (.box (.t 1))] false) (.seq (.reg [⟨(some 14), .mv (.t 0), none, true⟩, ⟨(some 15), .fa 1 (.t 3), none, true⟩, ox 16 (.ld false 1 (.t 15)), ox 17 (.mv (.t 0)), ox 18 (.nilc (.t 17)), ox 19 (.fa 0 (.t 18)), ox 20 (.fa 1 (.t 19)), ox 21 (.ld false 1 (.t 20)), ox 22 (.bi .mul .int (.k (.int .i64 8)) (.t 21)), ⟨(some 23), .call (.f 89) [(.t 22)], none, true⟩, ox 24 (.bi .andNot .int (.t 16) (.t 23)), ox 25 (.bi .eql .int (.t 24) (.k (.int .u64 0))), ox 26 (.fa 2 (.t 3)), ox 27 (.ld false 1 (.t 26)), ox 28 (.fa 1 (.t 3)), ox 29 (.ld false 1 (.t 28)), ox 30 (.bi .andNot .int (.t 27) (.t 29)), ox 31 (.bi .eql .int (.t 30) (.k (.int .u64 0))), ox 32 (.bsl 1 [.bool false] 2 [(0, (.t 25)), (1, (.t 31))]), ox 33 (.call (.f 56) [(.t 14), (.t 32)])] true) (.seq (.reg [ox 34 (.bso 1 [.str []] 1 [(0, (.k (.str [112, 99])))]), ox 35 (.bld [.nilS] [(0, 1, (.t 34))]), ox 4 (.alc [.nilS]), ⟨none, .st 1 (.t 4) (.t 35), none, false⟩] false) (.seq (.reg [ox 36 (.fa 1 (.t 3)), ox 37 (.ld false 1 (.t 36)), ox 5 (.mv (.t 37))] false) (.seq (.seq (.reg [ox 38 (.fa 3 (.t 3)), ox 39 (.ld false 1 (.t 38)), ox 40 (.len false (.t 39)), ox 41 (.mv (.k (.int .i64 0)))] false) (.blk 0 (.loop [0, 3, 4, 5, 39, 40, 41] lp63x0))) (.seq (.seq (.reg [ox 67 (.mv (.t 0)), ox 68 (.nilc (.t 67)), ox 69 (.fa 7 (.t 68)), ox 70 (.ld false 1 (.t 69)), ox 71 (.un .not (.t 70))] false) (.cond (.t 71) .ret .skip)) (.seq (.reg [ox 72 (.mv (.t 0)), ox 73 (.ld true 9 (.t 3)), ox 74 (.call (.f 108) [(.t 72), (.t 73)]), ox 9 (.mv (.t 74))] false) (.seq (.reg [ox 75 (.mmk), ox 10 (.mv (.t 75))] false) (.seq (.seq (.reg [ox 76 (.fa 4 (.t 3)), ox 77 (.ld false 1 (.t 76)), ox 78 (.len false (.t 77)), ox 79 (.mv (.k (.int .i64 0)))] false) (.blk 2 (.loop [0, 3, 9, 10, 77, 78, 79] lp63x1))) (.seq (.reg [ox 94 (.mv (.t 10)), ox 95 (.mlk false false (.int .i64 0) (.t 94) (.k (.int .u8 3))), ox 13 (.mv (.t 95))] false) (.reg [⟨(some 96), .mv (.t 0), none, true⟩, ⟨(some 97), .mv (.t 13), none, true⟩, ⟨(some 98), .bi .leq .int (.t 97) (.k (.int .i64 1)), none, true⟩, ox 99 (.mv (.t 10)), ox 100 (.mlk false false (.int .i64 0) (.t 99) (.k (.int .u8 4))), ox 101 (.bi .eql .int (.t 100) (.k (.int .i64 0))), ox 102 (.mv (.t 101)), ⟨(some 103), .fa 4 (.t 3), (some (102, false)), true⟩, ⟨(some 104), .ld false 1 (.t 103), (some (102, false)), false⟩, ⟨(some 105), .len false (.t 104), (some (102, false)), false⟩, ⟨(some 106), .bi .eql .int (.t 105) (.k (.int .i64 1)), (some (102, false)), false⟩, ox 107 (.pick (.t 102) (.k (.bool true)) (.t 106)), ox 108 (.fa 5 (.t 3)), ox 109 (.ld false 1 (.t 108)), ox 110 (.mv (.t 0)), ox 111 (.nilc (.t 110)), ox 112 (.fa 0 (.t 111)), ox 113 (.fa 5 (.t 112)), ox 114 (.ld false 1 (.t 113)), ox 115 (.len false (.t 114)), ox 116 (.bi .sub .int (.t 115) (.k (.int .i64 1))), ⟨(some 117), .call (.f 58) [(.t 109), (.k (.int .i64 0)), (.t 116)], none, true⟩, ox 118 (.fa 6 (.t 3)), ox 119 (.ld false 1 (.t 118)), ⟨(some 120), .call (.f 58) [(.t 119), (.k (.int .i64 1)), (.k (.int .i64 15))], none, true⟩, ox 121 (.fa 7 (.t 3)), ox 122 (.ld false 1 (.t 121)), ⟨(some 123), .call (.f 58) [(.t 122), (.k (.int .i64 1)), (.k (.int .i64 15))], none, true⟩, ox 124 (.fa 8 (.t 3)), ox 125 (.ld false 1 (.t 124)), ⟨(some 126), .call (.f 58) [(.t 125), (.k (.int .i64 0)), (.k (.int .i64 2))], none, true⟩, ox 127 (.fa 8 (.t 3)), ox 128 (.ld false 1 (.t 127)), ox 129 (.bi .eql .int (.t 128) (.k (.int .i64 0))), ox 130 (.mv (.t 129)), ⟨(some 131), .mv (.t 13), (some (130, false)), false⟩, ⟨(some 132), .bi .eql .int (.t 131) (.k (.int .i64 1)), (some (130, false)), false⟩, ox 133 (.pick (.t 130) (.k (.bool true)) (.t 132)), ox 134 (.bsl 1 [.bool false] 7 [(0, (.t 98)), (1, (.t 107)), (2, (.t 117)), (3, (.t 120)), (4, (.t 123)), (5, (.t 126)), (6, (.t 133))]), ox 135 (.call (.f 56) [(.t 96), (.t 134)])] true)))))))))))⟩
def ir80 : IFun := ⟨3, [.t 6, .t 7], (.seq (.reg [ox 3 (.box (.t 0)), ox 6 (.mv (.k (.int .i64 0))), ox 7 (.mv (.k (.int .i64 0)))] false) (.seq (.seq (.reg [ox 10 (.ld true 7 (.t 3)), ox 11 (.call (.f 14) [(.t 10)]), ox 8 (.mv (.t 11))] false) (.seq (.reg [ox 12 (.mv (.t 8)), ox 13 (.bi .neq .int (.t 12) (.k (.int .i64 0)))] false) (.cond (.t 13) (.seq (.reg [ox 14 (.mv (.t 8)), ox 6 (.mv (.k (.int .i64 0))), ox 7 (.mv (.t 14))] false) .ret) .skip))) (.seq (.reg [ox 15 (.mv (.t 1)), ox 16 (.mv (.t 2)), ox 17 (.call (.f 121) [(.t 15), (.t 16)]), ox 9 (.mv (.t 17))] false) (.seq (.seq (.reg [ox 18 (.mv (.t 9)), ox 19 (.bi .lss .int (.t 18) (.k (.int .i64 0)))] false) (.cond (.t 19) (.seq (.reg [ox 6 (.mv (.k (.int .i64 0))), ox 7 (.mv (.k (.int .i64 6)))] false) .ret) .skip)) (.seq (.reg [ox 20 (.mv (.t 9)), ox 6 (.mv (.t 20)), ox 7 (.mv (.k (.int .i64 0)))] false) .ret)))))⟩
def ir81 : IFun := ⟨2, [.t 3], (.seq (.reg [ox 2 (.box (.t 0)), ox 3 (.mv (.k (.bool false)))] false) (.seq (.reg [ox 4 (.fa 0 (.t 2)), ox 5 (.ld false 1 (.t 4)), ox 6 (.ld false 1 (.t 1)), ox 7 (.bi .eql .str (.t 5) (.t 6)), ox 3 (.mv (.t 7))] false) .ret))⟩
def ir82 : IFun := ⟨3, [.t 6, .t 7], (.seq (.reg [ox 3 (.box (.t 0)), ox 6 (.mv (.k (.int .i64 0))), ox 7 (.mv (.k (.int .i64 0)))] false) (.seq (.seq (.reg [ox 10 (.ld true 7 (.t 3)), ox 11 (.call (.f 14) [(.t 10)]), ox 8 (.mv (.t 11))] false) (.seq (.reg [ox 12 (.mv (.t 8)), ox 13 (.bi .neq .int (.t 12) (.k (.int .i64 0)))] false) (.cond (.t 13) (.seq (.reg [ox 14 (.mv (.t 8)), ox 6 (.mv (.k (.int .i64 0))), ox 7 (.mv (.t 14))] false) .ret) .skip))) (.seq (.reg [ox 15 (.mv (.t 1)), ox 16 (.mv (.t 2)), ox 17 (.call (.f 122) [(.t 15), (.t 16)]), ox 9 (.mv (.t 17))] false) (.seq (.seq (.reg [ox 18 (.mv (.t 9)), ox 19 (.bi .lss .int (.t 18) (.k (.int .i64 0)))] false) (.cond (.t 19) (.seq (.reg [ox 6 (.mv (.k (.int .i64 0))), ox 7 (.mv (.k (.int .i64 6)))] false) .ret) .skip)) (.seq (.reg [ox 20 (.mv (.t 9)), ox 6 (.mv (.t 20)), ox 7 (.mv (.k (.int .i64 0)))] false) .ret)))))⟩
def ir83 : IFun := ⟨2, [.t 3], (.seq (.reg [ox 2 (.box (.t 0)), ox 3 (.mv (.k (.bool false)))] false) (.seq (.reg [ox 4 (.fa 0 (.t 2)), ox 5 (.ld false 1 (.t 4)), ox 6 (.ld false 1 (.t 1)), ox 7 (.bi .eql .str (.t 5) (.t 6)), ox 3 (.mv (.t 7))] false) .ret))⟩
def lp84x0 : IC := (.seq (.reg [ox 10 (.bi .lss .int (.t 9) (.t 8))] false) (.seq (.cond (.t 10) .skip (.exit 0)) (.seq (.blk 1 (.seq (.reg [ox 11 (.mv (.t 9)), ox 12 (.ia 4 (.t 7) (.t 9)), ox 13 (.ld true 4 (.t 12)), ox 5 (.alc [.str [], .int .i64 0, .int .i64 0, .int .i64 0]), ox 4 (.mv (.t 11)), ⟨none, .st 4 (.t 5) (.t 13), none, false⟩] false) (.seq (.reg [ox 14 (.fa 2 (.t 5)), ox 15 (.ld false 1 (.t 14)), ox 16 (.bi .eql .int (.t 15) (.k (.int .i64 (-1))))] false) (.cond (.t 16) (.reg [ox 17 (.mv (.t 3)), ox 18 (.mv (.t 4)), ox 19 (.bsl 1 [.int .i64 0] 1 [(0, (.t 18))]), ox 20 (.app 1 8 (.t 17) (.t 19)), ox 3 (.mv (.t 20))] false) .skip)))) (.reg [ox 21 (.bi .add .int (.t 9) (.k (.int .i64 1))), ox 9 (.mv (.t 21))] false))))
def ir84 : IFun := ⟨1, [.t 2], (.seq (.reg [ox 1 (.box (.t 0)), ox 2 (.mv (.k .nilS))] false) (.seq (.reg [ox 3 (.mv (.k .nilS))] false) (.own 3 1 (.seq (.seq (.reg [ox 6 (.fa 3 (.t 1)), ox 7 (.ld false 1 (.t 6)), ox 8 (.len false (.t 7)), ox 9 (.mv (.k (.int .i64 0)))] false) (.blk 0 (.loop [3, 7, 8, 9] lp84x0))) (.seq (.reg [ox 22 (.mv (.t 3)), ox 2 (.mv (.t 22))] false) .ret)))))⟩
def lp86x0 : IC := (.seq (.seq (.reg [ox 13 (.mv (.t 7)), ox 14 (.mv (.t 8)), ox 15 (.bi .lss .int (.t 13) (.t 14))] false) (.cond (.t 15) .skip (.exit 0))) (.blk 1 (.seq (.reg [ox 16 (.mv (.t 7)), ox 17 (.mv (.t 8)), ox 18 (.bi .add .int (.t 16) (.t 17)), ox 19 (.cv .u64 (.t 18)), ox 20 (.bi .shr .int (.t 19) (.k (.int .u64 1))), ox 21 (.cv .i64 (.t 20)), ox 9 (.mv (.t 21))] false) (.seq (.reg [ox 22 (.mv (.t 0)), ox 23 (.mv (.t 9)), ox 24 (.ia 1 (.t 22) (.t 23)), ox 25 (.ld false 1 (.t 24)), ox 26 (.mv (.t 1)), ox 27 (.call (.f 123) [(.t 25), (.t 26)])] false) (.cond (.t 27) (.reg [ox 28 (.mv (.t 9)), ox 29 (.bi .add .int (.t 28) (.k (.int .i64 1))), ox 7 (.mv (.t 29))] false) (.reg [ox 30 (.mv (.t 9)), ox 8 (.mv (.t 30))] false))))))
def ir86 : IFun := ⟨2, [.t 4, .t 5], (.seq (.reg [ox 4 (.mv (.k (.int .i64 0))), ox 5 (.mv (.k (.bool false)))] false) (.seq (.reg [ox 10 (.mv (.t 0)), ox 11 (.len false (.t 10)), ox 6 (.mv (.t 11))] false) (.seq (.reg [ox 12 (.mv (.t 6)), ox 7 (.mv (.k (.int .i64 0))), ox 8 (.mv (.t 12))] false) (.seq (.blk 0 (.loop [0, 1, 6, 7, 8] lp86x0)) (.seq (.reg [ox 31 (.mv (.t 7)), ox 32 (.mv (.t 7)), ox 33 (.mv (.t 6)), ox 34 (.bi .lss .int (.t 32) (.t 33)), ox 35 (.mv (.t 34)), ⟨(some 36), .mv (.t 0), (some (35, true)), false⟩, ⟨(some 37), .mv (.t 7), (some (35, true)), false⟩, ⟨(some 38), .ia 1 (.t 36) (.t 37), (some (35, true)), false⟩, ⟨(some 39), .ld false 1 (.t 38), (some (35, true)), false⟩, ⟨(some 40), .mv (.t 1), (some (35, true)), false⟩, ⟨(some 41), .bi .eql .int (.t 39) (.t 40), (some (35, true)), false⟩, ⟨(some 42), .mv (.t 41), (some (35, true)), false⟩, ⟨(some 43), .mv (.t 0), (some (42, false)), false⟩, ⟨(some 44), .mv (.t 7), (some (42, false)), false⟩, ⟨(some 45), .ia 1 (.t 43) (.t 44), (some (42, false)), false⟩, ⟨(some 46), .ld false 1 (.t 45), (some (42, false)), false⟩, ⟨(some 47), .call (.f 124) [(.t 46)], (some (42, false)), false⟩, ⟨(some 48), .mv (.t 47), (some (42, false)), false⟩, ⟨(some 49), .mv (.t 1), (some (48, true)), false⟩, ⟨(some 50), .call (.f 124) [(.t 49)], (some (48, true)), false⟩, ⟨(some 51), .pick (.t 48) (.t 50) (.k (.bool false)), (some (42, false)), false⟩, ⟨(some 52), .pick (.t 42) (.k (.bool true)) (.t 51), (some (35, true)), false⟩, ox 53 (.pick (.t 35) (.t 52) (.k (.bool false))), ox 4 (.mv (.t 31)), ox 5 (.mv (.t 53))] false) .ret)))))⟩
def lp88x0 : IC := (.seq (.reg [ox 34 (.bi .lss .int (.t 33) (.t 32))] false) (.seq (.cond (.t 34) .skip (.exit 0)) (.seq (.blk 1 (.seq (.reg [ox 35 (.mv (.t 33)), ox 36 (.ia 1 (.t 31) (.t 33)), ox 37 (.ld false 1 (.t 36)), ox 11 (.mv (.t 35)), ox 12 (.mv (.t 37))] false) (.seq (.reg [ox 38 (.fa 3 (.t 3)), ox 39 (.ld false 1 (.t 38)), ox 40 (.mv (.t 10)), ox 41 (.mv (.t 11)), ox 42 (.ia 1 (.t 40) (.t 41)), ox 43 (.ld false 1 (.t 42)), ox 44 (.ia 4 (.t 39) (.t 43)), ox 45 (.fa 1 (.t 44)), ox 46 (.ld false 1 (.t 45)), ox 47 (.mv (.t 12)), ox 48 (.call (.f 92) [(.t 46), (.t 47)]), ox 49 (.un .not (.t 48))] true) (.cond (.t 49) (.seq (.reg [ox 6 (.mv (.k (.int .i64 0))), ox 7 (.mv (.k (.int .i64 0))), ox 8 (.mv (.k (.int .i64 0))), ox 9 (.mv (.k (.int .i64 14)))] false) .ret) .skip)))) (.reg [ox 50 (.bi .add .int (.t 33) (.k (.int .i64 1))), ox 33 (.mv (.t 50))] false))))
def ir88 : IFun := ⟨3, [.t 6, .t 7, .t 8, .t 9], (.seq (.reg [ox 3 (.box (.t 0)), ox 6 (.mv (.k (.int .i64 0))), ox 7 (.mv (.k (.int .i64 0))), ox 8 (.mv (.k (.int .i64 0))), ox 9 (.mv (.k (.int .i64 0)))] false) (.seq (.reg [ox 14 (.ld true 7 (.t 3)), ox 15 (.mv (.t 2)), ox 16 (.call (.f 24) [(.t 14), (.t 15)]), ox 13 (.mv (.t 16)), ox 17 (.ext (.t 13) 0), ox 18 (.ext (.t 13) 1), ox 19 (.ext (.t 13) 2), ox 20 (.ext (.t 13) 3), ox 6 (.mv (.t 17)), ox 7 (.mv (.t 18)), ox 8 (.mv (.t 19)), ox 9 (.mv (.t 20))] false) (.seq (.seq (.reg [ox 21 (.mv (.t 9)), ox 22 (.bi .neq .int (.t 21) (.k (.int .i64 0)))] false) (.cond (.t 22) (.seq (.reg [ox 23 (.mv (.t 9)), ox 6 (.mv (.k (.int .i64 0))), ox 7 (.mv (.k (.int .i64 0))), ox 8 (.mv (.k (.int .i64 0))), ox 9 (.mv (.t 23))] false) .ret) .skip)) (.seq (.reg [ox 24 (.ld true 7 (.t 3)), ox 25 (.call (.f 84) [(.t 24)]), ox 10 (.mv (.t 25))] false) (.seq (.seq (.reg [ox 26 (.mv (.t 10)), ox 27 (.len false (.t 26)), ox 28 (.mv (.t 1)), ox 29 (.len false (.t 28)), ox 30 (.bi .neq .int (.t 27) (.t 29))] false) (.cond (.t 30) (.seq (.reg [ox 6 (.mv (.k (.int .i64 0))), ox 7 (.mv (.k (.int .i64 0))), ox 8 (.mv (.k (.int .i64 0))), ox 9 (.mv (.k (.int .i64 14)))] false) .ret) .skip)) (.seq (.seq (.reg [ox 31 (.mv (.t 1)), ox 32 (.len false (.t 31)), ox 33 (.mv (.k (.int .i64 0)))] false) (.blk 0 (.loop [3, 6, 7, 8, 10, 31, 32, 33] lp88x0))) (.seq (.reg [ox 51 (.mv (.t 6)), ox 52 (.mv (.t 7)), ox 53 (.mv (.t 8)), ox 6 (.mv (.t 51)), ox 7 (.mv (.t 52)), ox 8 (.mv (.t 53)), ox 9 (.mv (.k (.int .i64 0)))] false) .ret)))))))⟩
def ir89 : IFun := ⟨1, [.t 2], (.seq (.reg [ox 2 (.mv (.k (.int .u64 0)))] false) (.seq (.seq (.reg [ox 3 (.mv (.t 0)), ox 4 (.call (.f 125) [(.t 3)]), ox 5 (.un .not (.t 4))] false) (.cond (.t 5) (.seq (.reg [ox 2 (.mv (.k (.int .u64 0)))] false) .ret) .skip)) (.seq (.reg [ox 6 (.mv (.t 0)), ox 7 (.bi .sub .int (.k (.int .i64 64)) (.t 6)), ox 8 (.bi .shr .int (.k (.int .u64 18446744073709551615)) (.t 7)), ox 2 (.mv (.t 8))] false) .ret)))⟩
def ir92 : IFun := ⟨2, [.t 4], (.seq (.reg [ox 4 (.mv (.k (.bool false)))] false) (.seq (.reg [ox 5 (.mv (.t 0)), ox 6 (.call (.f 125) [(.t 5)]), ox 7 (.mv (.t 6)), ⟨(some 8), .mv (.t 1), (some (7, true)), false⟩, ⟨(some 9), .mv (.t 0), (some (7, true)), false⟩, ⟨(some 10), .call (.f 89) [(.t 9)], (some (7, true)), false⟩, ⟨(some 11), .bi .leq .int (.t 8) (.t 10), (some (7, true)), false⟩, ox 12 (.pick (.t 7) (.t 11) (.k (.bool false))), ox 4 (.mv (.t 12))] false) .ret))⟩
def ir93 : IFun := ⟨1, [.t 2], (.seq (.reg [ox 2 (.mv (.k .nilS))] false) (.seq (.seq (.reg [ox 3 (.mv (.t 0)), ox 4 (.nnil false (.t 3))] false) (.cond (.t 4) (.seq (.reg [ox 2 (.mv (.k .nilS))] false) .ret) .skip)) (.seq (.reg [ox 5 (.bsl 1 [.int .u64 0] 0 []), ox 6 (.mv (.t 0)), ox 7 (.apm 1 8 (.t 5) (.t 6)), ox 2 (.mv (.t 7))] false) .ret)))⟩
def lp96x0 : IC := (.seq (.reg [ox 18 (.bi .lss .int (.t 17) (.t 16))] false) (.seq (.cond (.t 18) .skip (.exit 0)) (.seq (.blk 1 (.seq (.reg [ox 19 (.mv (.t 17)), ox 20 (.ia 1 (.t 15) (.t 17)), ox 21 (.ld false 1 (.t 20)), ox 4 (.mv (.t 19)), ox 5 (.mv (.t 21))] false) (.seq (.reg [ox 22 (.fa 3 (.t 1)), ox 23 (.ld false 1 (.t 22)), ox 24 (.mv (.t 5)), ox 25 (.bld [.str [], .int .i64 0, .int .i64 0, .int .i64 0] [(0, 1, (.t 24)), (1, 1, (.k (.int .i64 16))), (2, 1, (.k (.int .i64 (-1))))]), ox 26 (.bsl 4 [.str [], .int .i64 0, .int .i64 0, .int .i64 0] 1 [(0, (.t 25))]), ox 27 (.app 4 40 (.t 23) (.t 26)), ox 28 (.fa 3 (.t 1)), ⟨none, .st 1 (.t 28) (.t 27), none, false⟩] false) (.reg [ox 29 (.fa 1 (.t 2)), ox 30 (.ld false 1 (.t 29)), ox 31 (.mv (.t 4)), ox 32 (.bsl 1 [.int .i64 0] 1 [(0, (.t 31))]), ox 33 (.app 1 8 (.t 30) (.t 32)), ox 34 (.fa 1 (.t 2)), ⟨none, .st 1 (.t 34) (.t 33), none, false⟩] false)))) (.reg [ox 35 (.bi .add .int (.t 17) (.k (.int .i64 1))), ox 17 (.mv (.t 35))] false))))
def lp96x1 : IC := (.seq (.reg [ox 39 (.bi .lss .int (.t 38) (.t 37))] false) (.seq (.cond (.t 39) .skip (.exit 2)) (.seq (.blk 3 (.seq (.reg [ox 40 (.mv (.t 38)), ox 41 (.ia 1 (.t 36) (.t 38)), ox 42 (.ld false 1 (.t 41)), ox 6 (.mv (.t 40)), ox 7 (.mv (.t 42))] false) (.seq (.reg [ox 43 (.fa 3 (.t 1)), ox 44 (.ld false 1 (.t 43)), ox 45 (.mv (.t 7)), ox 46 (.mv (.t 6)), ox 47 (.bi .rem .int (.t 46) (.k (.int .i64 4))), ox 48 (.mv (.t 6)), ox 49 (.bi .quo .int (.t 48) (.k (.int .i64 4))), ox 50 (.bi .mul .int (.k (.int .i64 8)) (.t 49)), ox 51 (.bld [.str [], .int .i64 0, .int .i64 0, .int .i64 0] [(0, 1, (.t 45)), (1, 1, (.k (.int .i64 8))), (2, 1, (.t 47)), (3, 1, (.t 50))]), ox 52 (.bsl 4 [.str [], .int .i64 0, .int .i64 0, .int .i64 0] 1 [(0, (.t 51))]), ox 53 (.app 4 40 (.t 44) (.t 52)), ox 54 (.fa 3 (.t 1)), ⟨none, .st 1 (.t 54) (.t 53), none, false⟩] false) (.reg [ox 55 (.fa 1 (.t 3)), ox 56 (.ld false 1 (.t 55)), ox 57 (.mv (.t 6)), ox 58 (.bi .add .int (.k (.int .i64 8)) (.t 57)), ox 59 (.bsl 1 [.int .i64 0] 1 [(0, (.t 58))]), ox 60 (.app 1 8 (.t 56) (.t 59)), ox 61 (.fa 1 (.t 3)), ⟨none, .st 1 (.t 61) (.t 60), none, false⟩] false)))) (.reg [ox 62 (.bi .add .int (.t 38) (.k (.int .i64 1))), ox 38 (.mv (.t 62))] false))))
def lp96x2 : IC := (.seq (.reg [ox 66 (.bi .lss .int (.t 65) (.t 64))] false) (.seq (.cond (.t 66) .skip (.exit 4)) (.seq (.blk 5 (.seq (.reg [ox 67 (.ia 1 (.t 63) (.t 65)), ox 68 (.ld false 1 (.t 67)), ox 9 (.mv (.t 68))] false) (.reg [ox 69 (.fa 3 (.t 1)), ox 70 (.ld false 1 (.t 69)), ox 71 (.mv (.t 9)), ox 72 (.bld [.str [], .int .i64 0, .int .i64 0, .int .i64 0] [(0, 1, (.t 71)), (1, 1, (.k (.int .i64 1))), (2, 1, (.k (.int .i64 (-1))))]), ox 73 (.bsl 4 [.str [], .int .i64 0, .int .i64 0, .int .i64 0] 1 [(0, (.t 72))]), ox 74 (.app 4 40 (.t 70) (.t 73)), ox 75 (.fa 3 (.t 1)), ⟨none, .st 1 (.t 75) (.t 74), none, false⟩] false))) (.reg [ox 76 (.bi .add .int (.t 65) (.k (.int .i64 1))), ox 65 (.mv (.t 76))] false))))
def ir96 : IFun := ⟨0, [.cell true 7 0], (.seq (.reg [ox 0 (.alc [.str [], .int .i64 0, .int .i64 0, .nilS, .nilS, .nilS, .nilS])] false) (.seq (.reg [ox 10 (.bld [.str [], .int .i64 0] [(0, 1, (.k (.str [99, 111, 114, 101]))), (1, 1, (.k (.int .i64 1)))]), ox 11 (.bsl 2 [.str [], .int .i64 0] 1 [(0, (.t 10))]), ox 12 (.bld [.str [], .int .i64 0, .int .i64 0, .nilS, .nilS, .nilS, .nilS] [(0, 1, (.k (.str [102, 108, 97, 103, 115]))), (1, 1, (.k (.int .i64 2))), (2, 1, (.k (.int .i64 16))), (5, 1, (.t 11))]), ox 1 (.alc [.str [], .int .i64 0, .int .i64 0, .nilS, .nilS, .nilS, .nilS]), ⟨none, .st 7 (.t 1) (.t 12), none, false⟩] false) (.ownb 1 3 4 (.seq (.reg [ox 13 (.bld [.str [], .nilS] [(0, 1, (.k (.str [119])))]), ox 14 (.bld [.str [], .nilS] [(0, 1, (.k (.str [98])))]), ox 2 (.alc [.str [], .nilS]), ox 3 (.alc [.str [], .nilS]), ⟨none, .st 2 (.t 2) (.t 13), none, false⟩, ⟨none, .st 2 (.t 3) (.t 14), none, false⟩] false) (.ownb 2 1 1 (.ownb 3 1 1 (.seq (.seq (.reg [ox 15 (.bsl 1 [.str []] 8 [(0, (.k (.str [97, 120]))), (1, (.k (.str [98, 120]))), (2, (.k (.str [99, 120]))), (3, (.k (.str [100, 120]))), (4, (.k (.str [115, 105]))), (5, (.k (.str [100, 105]))), (6, (.k (.str [98, 112]))), (7, (.k (.str [115, 112])))]), ox 16 (.len false (.t 15)), ox 17 (.mv (.k (.int .i64 0)))] false) (.blk 0 (.loop [0, 1, 2, 3, 15, 16, 17] lp96x0))) (.seq (.seq (.reg [ox 36 (.bsl 1 [.str []] 8 [(0, (.k (.str [97, 108]))), (1, (.k (.str [98, 108]))), (2, (.k (.str [99, 108]))), (3, (.k (.str [100, 108]))), (4, (.k (.str [97, 104]))), (5, (.k (.str [98, 104]))), (6, (.k (.str [99, 104]))), (7, (.k (.str [100, 104])))]), ox 37 (.len false (.t 36)), ox 38 (.mv (.k (.int .i64 0)))] false) (.blk 2 (.loop [0, 1, 2, 3, 36, 37, 38] lp96x1))) (.seq (.seq (.reg [ox 63 (.bsl 1 [.str []] 3 [(0, (.k (.str [122, 102]))), (1, (.k (.str [99, 102]))), (2, (.k (.str [115, 102])))]), ox 64 (.len false (.t 63)), ox 65 (.mv (.k (.int .i64 0)))] false) (.blk 4 (.loop [0, 1, 2, 3, 63, 64, 65] lp96x2))) (.seq (.reg [ox 77 (.ld true 2 (.t 2)), ox 78 (.ld true 2 (.t 3)), ox 79 (.bsl 2 [.str [], .nilS] 2 [(0, (.t 77)), (1, (.t 78))]), ox 80 (.fa 4 (.t 1)), ⟨none, .st 1 (.t 80) (.t 79), none, false⟩] false) (.seq (.reg [ox 81 (.call (.f 126) [(.t 1)])] false) (.seq (.reg [ox 82 (.call (.f 127) [(.t 1)])] false) (.seq (.reg [ox 83 (.call (.f 128) [(.t 1)])] false) (.seq (.reg [ox 84 (.ld true 7 (.t 1)), ⟨none, .st 7 (.t 0) (.t 84), none, false⟩] false) .ret))))))))))))))⟩
end Go.Proofs.Dv
