import PyProof.Rows.All
import Wide.All
import OpenK.AllK
import Wide.FinOn
import HandS.ForMost
import HandS.Exc
import HandS.Flow
import HandS.IsInst
import HandS.Zip
import HandS.ExcInit
import HandS.TryOnly
import HandS.ExcField
import KE.KExcInit
import HandS.TupMul
import HandS.TupAny
import HandS.Wide
import HandS.Style
import HandS.SortInts
import HandS.Star
import HandS.Walk
import HandS.Rev
import KE.GoesMore
import KE.GoesEnum
import HandS.RevRange
import HandS.CallSlots
import HandS.Defaults
import KE.KRevSl
import HandS.HeadHook2
import HandS.HeadEnd
import KE.KStateDown
import HandS.Ends
import HandS.More
import HandS.Words
import HandS.WordsExc
import HandS.Head0
import HandS.Head1
import HandS.Head2
import HandS.HeadHook1
import PySem.Challenge.RW_freetops_k04_whole_powers_of_thirty_digi
section
set_option Elab.async false
set_option linter.all false
set_option maxRecDepth 100000
set_option maxHeartbeats 4000000
/-! FTCore: values as trees, what represents them in the abstract heap, slots, the reckoner's outcomes. -/
namespace FT
open PySem PySem.Spec PyProof.Rows L2

/-- a value as a tree; the Bool of a list, an instance: whether it is held here alone -/
inductive T where
  | non | bl (b : Bool) | int (i : Int) | str (x : Str) | ty (n : String)
  | tup (xs : List T) | lst (o : Bool) (xs : List T)
  | slst (xs : List T)
  | ins (o : Bool) (c : Nat) (ns : List Str) (xs : List T)
  | exv (c : Nat)
  deriving Inhabited

mutual
def fz : T → T
  | .tup xs => .tup (fzs xs)
  | .lst _ xs => .lst false (fzs xs)
  | .ins _ c ns xs => .ins false c ns (fzs xs)
  | t => t
def fzs : List T → List T
  | [] => []
  | t :: ts => fz t :: fzs ts
end
mutual
def isFz : T → Bool
  | .tup xs => isFzs xs
  | .lst o xs => !o && isFzs xs
  | .ins o _ _ xs => !o && isFzs xs
  | _ => true
def isFzs : List T → Bool
  | [] => true
  | t :: ts => isFz t && isFzs ts
end
theorem fzs_map : ∀ ts : List T, fzs ts = ts.map fz
  | [] => by unfold fzs; rfl
  | t :: ts => by unfold fzs; rw [fzs_map ts, List.map_cons]
theorem isFzs_all : ∀ ts : List T, isFzs ts = ts.all isFz
  | [] => by unfold isFzs; rfl
  | t :: ts => by unfold isFzs; rw [isFzs_all ts, List.all_cons]
mutual
theorem isFz_fz : ∀ t : T, isFz (fz t) = true
  | .non => rfl | .bl _ => rfl | .int _ => rfl | .str _ => rfl | .ty _ => rfl | .slst _ => rfl | .exv _ => rfl
  | .tup xs => by unfold fz isFz; exact isFzs_fzs xs
  | .lst _ xs => by unfold fz isFz; rw [isFzs_fzs xs]; rfl
  | .ins _ _ _ xs => by unfold fz isFz; rw [isFzs_fzs xs]; rfl
theorem isFzs_fzs : ∀ ts : List T, isFzs (fzs ts) = true
  | [] => by unfold fzs isFzs; rfl
  | t :: ts => by unfold fzs isFzs; rw [isFz_fz t, isFzs_fzs ts]; rfl
end
mutual
theorem fz_of : ∀ t : T, isFz t = true → fz t = t
  | .non, _ => rfl | .bl _, _ => rfl | .int _, _ => rfl | .str _, _ => rfl | .ty _, _ => rfl | .slst _, _ => rfl | .exv _, _ => rfl
  | .tup xs, h => by unfold isFz at h; unfold fz; rw [fzs_of xs h]
  | .lst o xs, h => by
    unfold isFz at h; unfold fz
    simp only [Bool.and_eq_true, Bool.not_eq_true'] at h
    rw [fzs_of xs h.2, h.1]
  | .ins o _ _ xs, h => by
    unfold isFz at h; unfold fz
    simp only [Bool.and_eq_true, Bool.not_eq_true'] at h
    rw [fzs_of xs h.2, h.1]
theorem fzs_of : ∀ ts : List T, isFzs ts = true → fzs ts = ts
  | [], _ => by unfold fzs; rfl
  | t :: ts, h => by
    unfold isFzs at h
    simp only [Bool.and_eq_true] at h
    unfold fzs; rw [fz_of t h.1, fzs_of ts h.2]
end

/-- the heap without the addresses of D -/
def hide (H : Hp) (D : List Addr) : Hp := fun b => if b ∈ D then none else H b
theorem hide_some {H : Hp} {D : List Addr} {b : Addr} {o : HO} : hide H D b = some o ↔ b ∉ D ∧ H b = some o := by
  unfold hide
  by_cases h : b ∈ D
  · simp [h]
  · simp [h]

/-- an exception object held as a value -/
def ExvO (C a : Addr) : HO := .ext fun h => ∃ (oe : Obj) (vs : Array Value), h.get? a = some oe ∧ oe.cls = .ref C ∧ oe.data = .fields vs

mutual
/-- v stands for the tree t in H; what D has is hidden from all but its owner; L: the addresses that t owns -/
inductive Rep (K : PySem.W.Frag) (cn : Nat → Addr) (H : Hp) (D : List Addr) : V → T → List Addr → Prop
  | non : Rep K cn H D .non .non []
  | bl (b : Bool) : Rep K cn H D (.bl b) (.bl b) []
  | int (i : Int) : Rep K cn H D (.int i) (.int i) []
  | str (x : Str) : Rep K cn H D (.str x) (.str x) []
  | ty (n : String) : Rep K cn H D (.ty n) (.ty n) []
  | tup {a : Addr} {vs : List V} {ts : List T} {L : List Addr} : SqT K (hide H D) a vs → Reps K cn H D vs ts L → Rep K cn H D (.ref a) (.tup ts) L
  | lstF {a : Addr} {vs : List V} {ts : List T} : hide H D a = some (.lst vs) → Reps K cn H D vs ts [] → Rep K cn H D (.ref a) (.lst false ts) []
  | slst {a : Addr} {vs : List V} {ts : List T} : SqL K (hide H D) a vs → Reps K cn H D vs ts [] → Rep K cn H D (.ref a) (.slst ts) []
  | lstO {a : Addr} {vs : List V} {ts : List T} {L : List Addr} : a ∈ D → H a = some (.lst vs) → Reps K cn H D vs ts L → Rep K cn H D (.ref a) (.lst true ts) (a :: L)
  | insF {a dx : Addr} {c : Nat} {ns : List Str} {vs : List V} {ts : List T} : hide H D a = some (.ins (cn c) dx (ns.zip vs)) → ns.length = vs.length → Reps K cn H D vs ts [] → Rep K cn H D (.ref a) (.ins false c ns ts) []
  | insO {a dx : Addr} {c : Nat} {ns : List Str} {vs : List V} {ts : List T} {L : List Addr} : a ∈ D → H a = some (.ins (cn c) dx (ns.zip vs)) → ns.length = vs.length → Reps K cn H D vs ts L → Rep K cn H D (.ref a) (.ins true c ns ts) (a :: L)
  | exv {a : Addr} {c : Nat} : hide H D a = some (ExvO (cn c) a) → Rep K cn H D (.ref a) (.exv c) []
inductive Reps (K : PySem.W.Frag) (cn : Nat → Addr) (H : Hp) (D : List Addr) : List V → List T → List Addr → Prop
  | nil : Reps K cn H D [] [] []
  | cons {v : V} {vs : List V} {t : T} {ts : List T} {L L' : List Addr} : Rep K cn H D v t L → Reps K cn H D vs ts L' → Reps K cn H D (v :: vs) (t :: ts) (L ++ L')
end

section
variable {K : PySem.W.Frag} {cn : Nat → Addr} {H H' : Hp} {D D' : List Addr}

theorem sqT_mono {a : Addr} {xs : List V} (hF : ∀ b o, H b = some o → H' b = some o) (h : SqT K H a xs) : SqT K H' a xs := by
  rcases h with (h | ⟨o, h⟩) | h
  · exact .inl (.inl (hF _ _ h))
  · exact .inl (.inr ⟨o, hF _ _ h⟩)
  · exact .inr h
theorem sqL_mono {a : Addr} {xs : List V} (hF : ∀ b o, H b = some o → H' b = some o) (h : SqL K H a xs) : SqL K H' a xs := by
  rcases h with (h | ⟨o, h⟩) | h
  · exact .inl (.inl (hF _ _ h))
  · exact .inl (.inr ⟨o, hF _ _ h⟩)
  · exact .inr h
theorem hide_sub {b : Addr} {o : HO} (h : hide H D b = some o) : H b = some o := (hide_some.mp h).2
theorem unhT {a : Addr} {xs : List V} (h : SqT K (hide H D) a xs) : SqT K H a xs := sqT_mono (fun _ _ => hide_sub) h
theorem unhL {a : Addr} {xs : List V} (h : SqL K (hide H D) a xs) : SqL K H a xs := sqL_mono (fun _ _ => hide_sub) h

mutual
theorem Rep.mono (hF : ∀ b o, hide H D b = some o → hide H' D' b = some o) : ∀ {v : V} {t : T} {L : List Addr}, (∀ a ∈ L, H' a = H a ∧ a ∈ D') → Rep K cn H D v t L → Rep K cn H' D' v t L
  | _, _, _, hL, .non => .non
  | _, _, _, hL, .bl b => .bl b
  | _, _, _, hL, .int i => .int i
  | _, _, _, hL, .str i => .str i
  | _, _, _, hL, .ty i => .ty i
  | _, _, _, hL, .tup h r => .tup (sqT_mono hF h) (r.mono hF hL)
  | _, _, _, hL, .lstF h r => .lstF (hF _ _ h) (r.mono hF fun _ z => nomatch z)
  | _, _, _, hL, .slst h r => .slst (sqL_mono hF h) (r.mono hF fun _ z => nomatch z)
  | _, _, _, hL, .lstO m h r => .lstO (hL _ (List.mem_cons_self ..)).2 ((hL _ (List.mem_cons_self ..)).1.trans h) (r.mono hF fun a z => hL a (List.mem_cons_of_mem _ z))
  | _, _, _, hL, .insF h e r => .insF (hF _ _ h) e (r.mono hF fun _ z => nomatch z)
  | _, _, _, hL, .insO m h e r => .insO (hL _ (List.mem_cons_self ..)).2 ((hL _ (List.mem_cons_self ..)).1.trans h) e (r.mono hF fun a z => hL a (List.mem_cons_of_mem _ z))
  | _, _, _, hL, .exv h => .exv (hF _ _ h)
theorem Reps.mono (hF : ∀ b o, hide H D b = some o → hide H' D' b = some o) : ∀ {vs : List V} {ts : List T} {L : List Addr}, (∀ a ∈ L, H' a = H a ∧ a ∈ D') → Reps K cn H D vs ts L → Reps K cn H' D' vs ts L
  | _, _, _, hL, .nil => .nil
  | _, _, _, hL, .cons h r => .cons (h.mono hF fun a z => hL a (List.mem_append_left _ z)) (r.mono hF fun a z => hL a (List.mem_append_right _ z))
end
mutual
/-- what is owned is hidden and there -/
theorem Rep.own : ∀ {v : V} {t : T} {L : List Addr}, Rep K cn H D v t L → ∀ a ∈ L, a ∈ D ∧ H a ≠ none
  | _, _, _, .non, a, z => nomatch z
  | _, _, _, .bl _, a, z => nomatch z
  | _, _, _, .int _, a, z => nomatch z
  | _, _, _, .str _, a, z => nomatch z
  | _, _, _, .ty _, a, z => nomatch z
  | _, _, _, .lstF _ _, a, z => nomatch z
  | _, _, _, .slst _ _, a, z => nomatch z
  | _, _, _, .insF _ _ _, a, z => nomatch z
  | _, _, _, .exv _, a, z => nomatch z
  | _, _, _, .tup h r, a, z => r.own a z
  | _, _, _, .lstO m h r, a, z => by
    rcases List.mem_cons.mp z with e | z
    · subst e; exact ⟨m, by rw [h]; exact fun q => nomatch q⟩
    · exact r.own a z
  | _, _, _, .insO m h e r, a, z => by
    rcases List.mem_cons.mp z with e | z
    · subst e; exact ⟨m, by rw [h]; exact fun q => nomatch q⟩
    · exact r.own a z
theorem Reps.own : ∀ {vs : List V} {ts : List T} {L : List Addr}, Reps K cn H D vs ts L → ∀ a ∈ L, a ∈ D ∧ H a ≠ none
  | _, _, _, .nil, a, z => nomatch z
  | _, _, _, .cons h r, a, z => (List.mem_append.mp z).elim (h.own a) (r.own a)
end
mutual
/-- frozen: what was owned is no longer hidden -/
theorem Rep.freeze (hF : ∀ b o, hide H D b = some o → hide H D' b = some o) {v : V} {t : T} {L : List Addr} (hL : ∀ a ∈ L, a ∉ D') (h : Rep K cn H D v t L) : Rep K cn H D' v (fz t) [] :=
  match h with
  | .non => .non
  | .bl b => .bl b
  | .int i => .int i
  | .str i => .str i
  | .ty i => .ty i
  | .tup h r => .tup (sqT_mono hF h) (Reps.freeze hF hL r)
  | .lstF h r => .lstF (hF _ _ h) (Reps.freeze (L := []) hF (fun _ z => nomatch z) r)
  | .slst h r => .slst (sqL_mono hF h) (r.mono hF fun _ z => nomatch z)
  | .lstO m h r => .lstF (hide_some.mpr ⟨hL _ (List.mem_cons_self ..), h⟩) (Reps.freeze hF (fun a z => hL a (List.mem_cons_of_mem _ z)) r)
  | .insF h e r => .insF (hF _ _ h) e (Reps.freeze (L := []) hF (fun _ z => nomatch z) r)
  | .insO m h e r => .insF (hide_some.mpr ⟨hL _ (List.mem_cons_self ..), h⟩) e (Reps.freeze hF (fun a z => hL a (List.mem_cons_of_mem _ z)) r)
  | .exv h => .exv (hF _ _ h)
theorem Reps.freeze (hF : ∀ b o, hide H D b = some o → hide H D' b = some o) {vs : List V} {ts : List T} {L : List Addr} (hL : ∀ a ∈ L, a ∉ D') (h : Reps K cn H D vs ts L) : Reps K cn H D' vs (fzs ts) [] :=
  match h with
  | .nil => .nil
  | .cons h r => .cons (L := []) (L' := []) (Rep.freeze hF (fun a z => hL a (List.mem_append_left _ z)) h) (Reps.freeze hF (fun a z => hL a (List.mem_append_right _ z)) r)
end
mutual
theorem Rep.fzL : ∀ {v : V} {t : T} {L : List Addr}, Rep K cn H D v t L → isFz t = true → L = []
  | _, _, _, .non, _ => rfl
  | _, _, _, .bl _, _ => rfl
  | _, _, _, .int _, _ => rfl
  | _, _, _, .str _, _ => rfl
  | _, _, _, .ty _, _ => rfl
  | _, _, _, .tup h r, z => r.fzL (by unfold isFz at z; exact z)
  | _, _, _, .lstF h r, _ => rfl
  | _, _, _, .slst h r, _ => rfl
  | _, _, _, .lstO m h r, z => by unfold isFz at z; cases z
  | _, _, _, .insF h e r, _ => rfl
  | _, _, _, .insO m h e r, z => by unfold isFz at z; cases z
  | _, _, _, .exv h, _ => rfl
theorem Reps.fzL : ∀ {vs : List V} {ts : List T} {L : List Addr}, Reps K cn H D vs ts L → isFzs ts = true → L = []
  | _, _, _, .nil, _ => rfl
  | _, _, _, .cons h r, z => by
    unfold isFzs at z
    simp only [Bool.and_eq_true] at z
    rw [h.fzL z.1, r.fzL z.2]; rfl
end
theorem Reps.length : ∀ {vs : List V} {ts : List T} {L : List Addr}, Reps K cn H D vs ts L → vs.length = ts.length
  | _, _, _, .nil => rfl
  | _, _, _, .cons _ r => congrArg Nat.succ r.length
theorem Reps.get {i : Nat} {t : T} : ∀ {vs : List V} {ts : List T} {L : List Addr}, Reps K cn H D vs ts L → ts[i]? = some t → ∃ v L1, vs[i]? = some v ∧ Rep K cn H D v t L1 ∧ ∀ a ∈ L1, a ∈ L := by
  induction i with
  | zero =>
    intro vs ts L r e
    cases r with
    | nil => cases e
    | cons h r => cases e; exact ⟨_, _, rfl, h, fun a z => List.mem_append_left _ z⟩
  | succ i ih =>
    intro vs ts L r e
    cases r with
    | nil => cases e
    | cons h r =>
      obtain ⟨v, L1, e1, h1, s1⟩ := ih r (by simpa using e)
      exact ⟨v, L1, by simpa using e1, h1, fun a z => List.mem_append_right _ (s1 a z)⟩
theorem Reps.append : ∀ {vs ws : List V} {ts us : List T} {L L' : List Addr}, Reps K cn H D vs ts L → Reps K cn H D ws us L' → Reps K cn H D (vs ++ ws) (ts ++ us) (L ++ L')
  | _, _, _, _, _, _, .nil, s => s
  | _, _, _, _, _, _, .cons h r, s => by
    rw [List.append_assoc]
    exact .cons h (r.append s)
theorem Reps.nilL {vs : List V} {ts : List T} {L : List Addr} (r : Reps K cn H D vs ts L) (h : isFzs ts = true) : Reps K cn H D vs ts [] := by
  have e := r.fzL h
  subst e
  exact r
theorem Rep.nilL {v : V} {t : T} {L : List Addr} (r : Rep K cn H D v t L) (h : isFz t = true) : Rep K cn H D v t [] := by
  have e := r.fzL h
  subst e
  exact r
end

/-! ### slots -/
abbrev Env8 := List (Option T)
inductive Slots (K : PySem.W.Frag) (cn : Nat → Addr) (H : Hp) (D : List Addr) : L2.St → Env8 → List Addr → Prop
  | nil : Slots K cn H D [] [] []
  | un {x : Option V} {σ : L2.St} {ρ : Env8} {L : List Addr} : Slots K cn H D σ ρ L → Slots K cn H D (x :: σ) (none :: ρ) L
  | va {v : V} {t : T} {σ : L2.St} {ρ : Env8} {L L' : List Addr} : Rep K cn H D v t L → Slots K cn H D σ ρ L' → Slots K cn H D (some v :: σ) (some t :: ρ) (L ++ L')
section
variable {K : PySem.W.Frag} {cn : Nat → Addr} {H H' : Hp} {D D' : List Addr} {σ : L2.St} {ρ : Env8} {L : List Addr}
theorem Slots.mono (hF : ∀ b o, hide H D b = some o → hide H' D' b = some o) : ∀ {σ : L2.St} {ρ : Env8} {L : List Addr}, (∀ a ∈ L, H' a = H a ∧ a ∈ D') → Slots K cn H D σ ρ L → Slots K cn H' D' σ ρ L
  | _, _, _, hL, .nil => .nil
  | _, _, _, hL, .un r => .un (r.mono hF hL)
  | _, _, _, hL, .va h r => .va (h.mono hF fun a z => hL a (List.mem_append_left _ z)) (r.mono hF fun a z => hL a (List.mem_append_right _ z))
theorem Slots.own : ∀ {σ : L2.St} {ρ : Env8} {L : List Addr}, Slots K cn H D σ ρ L → ∀ a ∈ L, a ∈ D ∧ H a ≠ none
  | _, _, _, .nil, a, z => nomatch z
  | _, _, _, .un r, a, z => r.own a z
  | _, _, _, .va h r, a, z => (List.mem_append.mp z).elim (h.own a) (r.own a)
theorem Slots.length : ∀ {σ : L2.St} {ρ : Env8} {L : List Addr}, Slots K cn H D σ ρ L → σ.length = ρ.length
  | _, _, _, .nil => rfl
  | _, _, _, .un r => congrArg Nat.succ r.length
  | _, _, _, .va h r => congrArg Nat.succ r.length
/-- one slot: what stands there, and what may be put there -/
theorem Slots.at (i : Nat) : ∀ {σ : L2.St} {ρ : Env8} {L : List Addr}, Slots K cn H D σ ρ L → i < ρ.length →
    ∃ La L1 Lb, L = La ++ (L1 ++ Lb) ∧ (∀ t, ρ[i]? = some (some t) → ∃ v, σ[i]? = some (some v) ∧ Rep K cn H D v t L1) ∧ (ρ[i]? = some none → L1 = []) ∧ (∀ v t L', Rep K cn H D v t L' → Slots K cn H D (σ.set i (some v)) (ρ.set i (some t)) (La ++ (L' ++ Lb))) ∧
      (∀ x, Slots K cn H D (σ.set i x) (ρ.set i none) (La ++ Lb)) := by
  induction i with
  | zero =>
    intro σ ρ L s hi
    cases s with
    | nil => simp at hi
    | un r => exact ⟨[], [], L, rfl, fun t e => by simp at e, fun _ => rfl, fun v t L' h => Slots.va (L := L') (L' := L) h r, fun x => .un r⟩
    | @va _ _ _ _ L1 L2 h r => exact ⟨[], L1, L2, rfl, fun t e => by simp at e; subst e; exact ⟨_, rfl, h⟩, fun e => by simp at e, fun v t L' h => Slots.va (L := L') (L' := L2) h r, fun x => .un r⟩
  | succ i ih =>
    intro σ ρ L s hi
    cases s with
    | nil => simp at hi
    | un r =>
      obtain ⟨La, L1, Lb, e, g, n, p, q⟩ := ih r (by simpa using hi)
      exact ⟨La, L1, Lb, e, fun t e => by simpa using g t (by simpa using e), fun e => n (by simpa using e), fun v t L' h => .un (p v t L' h), fun x => .un (q x)⟩
    | @va v0 t0 _ _ L0 _ h r =>
      obtain ⟨La, L1, Lb, e, g, n, p, q⟩ := ih r (by simpa using hi)
      refine ⟨L0 ++ La, L1, Lb, by rw [e, List.append_assoc], fun t e => by simpa using g t (by simpa using e), fun e => n (by simpa using e), fun v t L' h' => ?_, fun x => ?_⟩
      · rw [List.append_assoc]; exact .va h (p v t L' h')
      · rw [List.append_assoc]; exact .va h (q x)
theorem set_self {α : Type} : ∀ {xs : List α} {i : Nat} {x : α}, xs[i]? = some x → xs.set i x = xs
  | [], _, _, h => by simp at h
  | y :: ys, 0, x, h => by simp at h; rw [h]; rfl
  | y :: ys, i + 1, x, h => by
    show y :: ys.set i x = y :: ys
    rw [set_self (by simpa using h)]
end

/-- the state of a frame: its slots, what they own (L), what else is hidden (Do) -/
structure Ok8 (K : PySem.W.Frag) (cn : Nat → Addr) (Do : List Addr) (σ : L2.St) (ρ : Env8) (H : Hp) (L : List Addr) : Prop where
  sl : Slots K cn H (L ++ Do) σ ρ L
  nd : (L ++ Do).Nodup
  out : ∀ b ∈ Do, H b ≠ none
/-- what a step leaves: all but what was owned; what is owned behind was owned or is new -/
structure Stp (L : List Addr) (H : Hp) (L' : List Addr) (H' : Hp) : Prop where
  kp : ∀ b o, H b = some o → b ∉ L → H' b = some o
  nw : ∀ b ∈ L', b ∈ L ∨ H b = none
section
variable {K : PySem.W.Frag} {cn : Nat → Addr} {H H' H'' : Hp} {D D' Do : List Addr} {σ : L2.St} {ρ : Env8} {L L' L'' : List Addr}
theorem Stp.refl (L : List Addr) (H : Hp) : Stp L H L H := ⟨fun _ _ h _ => h, fun _ h => .inl h⟩
theorem Stp.sub (h : ∀ b ∈ L', b ∈ L) : Stp L H L' H := ⟨fun _ _ h _ => h, fun b z => .inl (h b z)⟩
theorem Stp.trans (a : Stp L H L' H') (b : Stp L' H' L'' H'') : Stp L H L'' H'' := by
  refine ⟨fun c o h n => b.kp c o (a.kp c o h n) fun z => ?_, fun c z => ?_⟩
  · rcases a.nw c z with q | q
    · exact n q
    · rw [h] at q; cases q
  · rcases b.nw c z with q | q
    · exact a.nw c q
    · by_cases n : c ∈ L
      · exact .inl n
      · cases e : H c with
        | none => exact .inr rfl
        | some o => rw [a.kp c o e n] at q; cases q
theorem Stp.weak (a : Stp L H L' H') (h : ∀ b ∈ L'', b ∈ L') : Stp L H L'' H' := ⟨a.kp, fun b z => a.nw b (h b z)⟩
/-- the caller may own more than was at hand -/
theorem Stp.wide (a : Stp L H L' H') (h : ∀ b ∈ L, b ∈ L'') (h2 : ∀ b ∈ L', b ∈ L ∨ H b = none) : Stp L'' H L' H' := ⟨fun b o e n => a.kp b o e fun z => n (h b z), fun b z => (h2 b z).imp (h b) id⟩
end
end FT

end
section
set_option Elab.async false
set_option linter.all false
set_option maxRecDepth 100000
set_option maxHeartbeats 4000000
/-! FTPost: what is wanted of an outcome, and how outcomes are joined. -/
namespace FT
open PySem PySem.Spec PyProof.Rows L2

abbrev St8 := L2.St
/-- an exception: its class's number, its attributes -/
structure Ex8 where
  c : Nat
  ns : List Str
  vs : List T
inductive R (α : Type) where
  | ok (a : α) (ρ : Env8) | exc (x : Ex8) (ρ : Env8) | bad
def R.bind {α β : Type} (r : R α) (f : α → Env8 → R β) : R β := match r with
  | .ok a ρ => f a ρ
  | .exc x ρ => .exc x ρ
  | .bad => .bad
theorem R.bind_ok {α β : Type} (a : α) (ρ : Env8) (f : α → Env8 → R β) : (R.ok a ρ).bind f = f a ρ := rfl
theorem R.bind_exc {α β : Type} (x : Ex8) (ρ : Env8) (f : α → Env8 → R β) : (R.exc x ρ).bind f = .exc x ρ := rfl
theorem R.bind_bad {α β : Type} (f : α → Env8 → R β) : (R.bad).bind f = .bad := rfl

inductive ExR (K : PySem.W.Frag) (cn : Nat → Addr) (H : Hp) (D : List Addr) (x : Ex8) : Value → Option Addr → Prop
  | mk {d : Addr} {vs : List V} : x.ns.length = vs.length → hide H D d = some (.xd (x.ns.zip vs)) → Reps K cn H D vs x.vs [] → ExR K cn H D x (.ref (cn x.c)) (some d)
section
variable {K : PySem.W.Frag} {cn : Nat → Addr} {H H' H1 H2 H3 : Hp} {D D' Do Dx : List Addr} {σ : St8} {ρ ρ' : Env8} {L L' La Lb Lt Lv : List Addr} {W : WX}
theorem ExR.mono (hF : ∀ b o, hide H D b = some o → hide H' D' b = some o) {x : Ex8} {c : Value} {d : Option Addr} (h : ExR K cn H D x c d) : ExR K cn H' D' x c d := by
  cases h with
  | mk e h r => exact .mk e (hF _ _ h) (r.mono hF fun _ z => nomatch z)

/-- a step, seen by what was hidden -/
theorem Ok8.hF (ok : Ok8 K cn Dx σ ρ H1 La) (st : Stp La H1 Lb H2) (hD : ∀ b ∈ D', b ∈ Lb ∨ b ∈ Dx ∨ b ∈ La) : ∀ b o, hide H1 (La ++ Dx) b = some o → hide H2 D' b = some o := fun b o h => by
  obtain ⟨n, e⟩ := hide_some.mp h
  have n1 : b ∉ La := fun z => n (List.mem_append_left _ z)
  refine hide_some.mpr ⟨fun z => ?_, st.kp b o e n1⟩
  rcases hD b z with z | z | z
  · rcases st.nw b z with q | q
    · exact n1 q
    · rw [e] at q; cases q
  · exact n (List.mem_append_right _ z)
  · exact n1 z
theorem Ok8.hL (ok : Ok8 K cn Dx σ ρ H1 La) (st : Stp La H1 Lb H2) {a : Addr} (h : a ∈ Dx) : H2 a = H1 a := by
  have n1 : a ∉ La := fun z => (List.nodup_append.mp ok.nd).2.2 a z a h rfl
  cases e : H1 a with
  | none => exact absurd e (ok.out a h)
  | some o => exact st.kp a o e n1
theorem Ok8.hO (ok : Ok8 K cn Dx σ ρ H1 La) (st : Stp La H1 Lb H2) {a : Addr} (h : a ∈ Dx) : H2 a ≠ none := by
  rw [ok.hL st h]; exact ok.out a h
/-- less is hidden, more stands there -/
theorem Ok8.drop (ok : Ok8 K cn Dx σ ρ H L) (hs : ∀ b ∈ Do, b ∈ Dx) (hn : Do.Nodup) : Ok8 K cn Do σ ρ H L := by
  obtain ⟨n1, n2, n3⟩ := List.nodup_append.mp ok.nd
  refine ⟨ok.sl.mono (fun b o h => ?_) (fun a z => ⟨rfl, List.mem_append_left _ z⟩), List.nodup_append.mpr ⟨n1, hn, fun a z b z' => n3 a z b (hs b z')⟩, fun b z => ok.out b (hs b z)⟩
  obtain ⟨n, e⟩ := hide_some.mp h
  exact hide_some.mpr ⟨fun z => n ((List.mem_append.mp z).elim (List.mem_append_left _) fun q => List.mem_append_right _ (hs b q)), e⟩
theorem Ok8.ndD (ok : Ok8 K cn Dx σ ρ H L) : Dx.Nodup := (List.nodup_append.mp ok.nd).2.1
theorem Ok8.dropL (ok : Ok8 K cn (Lt ++ Do) σ ρ H L) : Ok8 K cn Do σ ρ H L := ok.drop (fun b z => List.mem_append_right _ z) (List.nodup_append.mp ok.ndD).2.1

abbrev Rel (α β : Type) := St8 → Hp → List Addr → β → α → List Addr → Prop
/-- what is wanted of an outcome: rel tells how the told thing lies in the heap -/
def PostG {α β : Type} (K : PySem.W.Frag) (cn : Nat → Addr) (W : WX) (rel : Rel α β) (Do : List Addr) (σ : St8) (H : Hp) (L : List Addr) (r : R α) (Q : β → Hp → Prop) : Prop := match r with
  | .ok a ρ' => ∀ b H' L' Lv, Ok8 K cn (Lv ++ Do) σ ρ' H' L' → rel σ H' (L' ++ (Lv ++ Do)) b a Lv → Stp L H (Lv ++ L') H' → Q b H'
  | .exc x ρ' => ∀ c d H' L', Ok8 K cn Do σ ρ' H' L' → ExR K cn H' (L' ++ Do) x c d → Stp L H L' H' → W c d σ H'
  | .bad => False
/-- a transformer by an outcome -/
def tG {α β : Type} (K : PySem.W.Frag) (cn : Nat → Addr) (W : WX) (rel : Rel α β) (ev : Env8 → R α) : St8 → Hp → (β → Hp → Prop) → Prop := fun σ H Q =>
  ∃ ρ L Do, Ok8 K cn Do σ ρ H L ∧ PostG K cn W rel Do σ H L (ev ρ) Q

theorem Stp.then_ (st : Stp L H (Lt ++ La) H1) (st2 : Stp La H1 (Lv ++ Lb) H2) : Stp L H ((Lv ++ Lt) ++ Lb) H2 := by
  have back : ∀ b, b ∈ La ∨ H1 b = none → b ∈ L ∨ H b = none := fun b z => by
    rcases z with z | z
    · exact st.nw b (List.mem_append_right _ z)
    · by_cases n : b ∈ L
      · exact .inl n
      · cases e : H b with
        | none => exact .inr rfl
        | some o => rw [st.kp b o e n] at z; cases z
  refine ⟨fun b o h n => st2.kp b o (st.kp b o h n) fun z => ?_, fun b z => ?_⟩
  · rcases st.nw b (List.mem_append_right _ z) with q | q
    · exact n q
    · rw [h] at q; cases q
  · rcases List.mem_append.mp z with z | z
    · rcases List.mem_append.mp z with z | z
      · exact back b (st2.nw b (List.mem_append_left _ z))
      · exact st.nw b (List.mem_append_left _ z)
    · exact back b (st2.nw b (List.mem_append_right _ z))

/-- a part is reckoned; Lt: what the parts before it hold -/
theorem PostG.sub {α β α' β' : Type} {rel : Rel α β} {rel' : Rel α' β'} {ev : R α} {f : α → Env8 → R α'} {Q' : β' → Hp → Prop} {Q : β → Hp → Prop} (h : PostG K cn W rel' Do σ H L (ev.bind f) Q') (st : Stp L H (Lt ++ La) H1)
    (k : ∀ a ρ2 b H2 Lb Lv, ev = .ok a ρ2 → Ok8 K cn ((Lv ++ Lt) ++ Do) σ ρ2 H2 Lb → rel σ H2 (Lb ++ ((Lv ++ Lt) ++ Do)) b a Lv → Stp L H ((Lv ++ Lt) ++ Lb) H2 → Stp La H1 (Lv ++ Lb) H2 → PostG K cn W rel' Do σ H L (f a ρ2) Q' → Q b H2) :
    PostG K cn W rel (Lt ++ Do) σ H1 La ev Q := by
  cases ev with
  | bad => exact h
  | exc x ρ2 =>
    intro c d H2 Lb ok x st2
    refine h c d H2 Lb ok.dropL (x.mono fun b o q => ?_) (Stp.weak (Stp.then_ (Lv := []) st st2) fun b z => List.mem_append_right _ z)
    obtain ⟨n, e⟩ := hide_some.mp q
    exact hide_some.mpr ⟨fun z => n ((List.mem_append.mp z).elim (List.mem_append_left _) fun q => List.mem_append_right _ (List.mem_append_right _ q)), e⟩
  | ok a ρ2 =>
    intro b H2 Lb Lv ok r st2
    rw [← List.append_assoc Lv Lt Do] at ok r
    exact k a ρ2 b H2 Lb Lv rfl ok r (st.then_ st2) st2 h
/-- the first part -/
theorem PostG.first {α β α' β' : Type} {rel : Rel α β} {rel' : Rel α' β'} {ev : R α} {f : α → Env8 → R α'} {Q' : β' → Hp → Prop} {Q : β → Hp → Prop} (h : PostG K cn W rel' Do σ H L (ev.bind f) Q')
    (k : ∀ a ρ2 b H2 Lb Lv, ev = .ok a ρ2 → Ok8 K cn (Lv ++ Do) σ ρ2 H2 Lb → rel σ H2 (Lb ++ (Lv ++ Do)) b a Lv → Stp L H (Lv ++ Lb) H2 → PostG K cn W rel' Do σ H L (f a ρ2) Q' → Q b H2) :
    PostG K cn W rel Do σ H L ev Q :=
  PostG.sub (Lt := []) h (Stp.refl L H) fun a ρ2 b H2 Lb Lv e ok r st _ q => by
    rw [List.append_nil] at ok r st
    exact k a ρ2 b H2 Lb Lv e ok r st q
/-- the end: Lv: what the told thing owns, of what the parts held or new -/
theorem PostG.done {α β : Type} {rel : Rel α β} {a : α} {b : β} {Q : β → Hp → Prop} (h : PostG K cn W rel Do σ H L (.ok a ρ) Q) (ok : Ok8 K cn (Lt ++ Do) σ ρ H2 Lb) (st : Stp L H (Lt ++ Lb) H2)
    (hk : ∀ b o, H2 b = some o → H3 b = some o) (hv : ∀ a ∈ Lv, a ∈ Lt ∨ H2 a = none) (nd : Lv.Nodup) (hs : ∀ a ∈ Lv, H3 a ≠ none)
    (hr : (∀ b o, hide H2 (Lb ++ (Lt ++ Do)) b = some o → hide H3 (Lb ++ (Lv ++ Do)) b = some o) → rel σ H3 (Lb ++ (Lv ++ Do)) b a Lv) : Q b H3 := by
  obtain ⟨n1, n2, n3⟩ := List.nodup_append.mp ok.nd
  obtain ⟨n4, n5, n6⟩ := List.nodup_append.mp n2
  have own := ok.sl.own
  have hF : ∀ b o, hide H2 (Lb ++ (Lt ++ Do)) b = some o → hide H3 (Lb ++ (Lv ++ Do)) b = some o := fun b o h => by
    obtain ⟨n, e⟩ := hide_some.mp h
    refine hide_some.mpr ⟨fun z => ?_, hk b o e⟩
    rcases List.mem_append.mp z with z | z
    · exact n (List.mem_append_left _ z)
    · rcases List.mem_append.mp z with z | z
      · rcases hv b z with q | q
        · exact n (List.mem_append_right _ (List.mem_append_left _ q))
        · rw [e] at q; cases q
      · exact n (List.mem_append_right _ (List.mem_append_right _ z))
  refine h b H3 Lb Lv ⟨ok.sl.mono hF fun a z => ⟨?_, List.mem_append_left _ z⟩, ?_, fun a z => ?_⟩ (hr hF) ⟨fun b o e n => hk b o (st.kp b o e n), fun b z => ?_⟩
  · cases e : H2 a with
    | none => exact absurd e (own a z).2
    | some o => exact hk a o e
  · refine List.nodup_append.mpr ⟨n1, List.nodup_append.mpr ⟨nd, n5, fun x hx y hy e => ?_⟩, fun x hx y hy e => ?_⟩
    · subst e
      rcases hv x hx with q | q
      · exact n6 x q x hy rfl
      · exact ok.out x (List.mem_append_right _ hy) q
    · subst e
      rcases List.mem_append.mp hy with z | z
      · rcases hv x z with q | q
        · exact n3 x hx x (List.mem_append_left _ q) rfl
        · exact (own x hx).2 q
      · exact n3 x hx x (List.mem_append_right _ z) rfl
  · rcases List.mem_append.mp z with z | z
    · exact hs a z
    · cases e : H2 a with
      | none => exact absurd e (ok.out a (List.mem_append_right _ z))
      | some o => rw [hk a o e]; exact fun q => nomatch q
  · rcases List.mem_append.mp z with z | z
    · rcases hv b z with q | q
      · exact st.nw b (List.mem_append_left _ q)
      · by_cases n : b ∈ L
        · exact .inl n
        · cases e : H b with
          | none => exact .inr rfl
          | some o => rw [st.kp b o e n] at q; cases q
    · exact st.nw b (List.mem_append_right _ z)
/-- the end without a new thing -/
theorem PostG.done0 {α β : Type} {rel : Rel α β} {a : α} {b : β} {Q : β → Hp → Prop} (h : PostG K cn W rel Do σ H L (.ok a ρ) Q) (ok : Ok8 K cn (Lt ++ Do) σ ρ H2 Lb) (st : Stp L H (Lt ++ Lb) H2)
    (hr : (∀ b o, hide H2 (Lb ++ (Lt ++ Do)) b = some o → hide H2 (Lb ++ ([] ++ Do)) b = some o) → rel σ H2 (Lb ++ ([] ++ Do)) b a []) : Q b H2 :=
  h.done (Lv := []) ok st (fun _ _ e => e) (fun _ z => nomatch z) List.nodup_nil (fun _ z => nomatch z) hr
/-- the end with a new thing at p, not owned -/
theorem PostG.doneN {α : Type} {rel : Rel α V} {a : α} {p : Addr} {u : HO} {Q : V → Hp → Prop} (h : PostG K cn W rel Do σ H L (.ok a ρ) Q) (ok : Ok8 K cn (Lt ++ Do) σ ρ H2 Lb) (st : Stp L H (Lt ++ Lb) H2) (hp : H2 p = none)
    (hr : (∀ b o, hide H2 (Lb ++ (Lt ++ Do)) b = some o → hide (upd H2 p u) (Lb ++ ([] ++ Do)) b = some o) → hide (upd H2 p u) (Lb ++ ([] ++ Do)) p = some u → rel σ (upd H2 p u) (Lb ++ ([] ++ Do)) (.ref p) a []) : Q (.ref p) (upd H2 p u) :=
  h.done (Lv := []) ok st (fun b o e => by rw [upd_ne (ne_of_none e hp)]; exact e) (fun _ z => nomatch z) List.nodup_nil (fun _ z => nomatch z) fun hF => hr hF (hide_some.mpr ⟨fun z => by
    rcases List.mem_append.mp z with z | z
    · exact (ok.sl.own p z).2 hp
    · exact ok.out p (List.mem_append_right _ z) hp, upd_same⟩)
/-- the end with a new thing at p, owned (with some of what the parts held) -/
theorem PostG.doneO {α : Type} {rel : Rel α V} {a : α} {p : Addr} {u : HO} {Q : V → Hp → Prop} (h : PostG K cn W rel Do σ H L (.ok a ρ) Q) (ok : Ok8 K cn (Lt ++ Do) σ ρ H2 Lb) (st : Stp L H (Lt ++ Lb) H2) (hp : H2 p = none)
    (hv : ∀ a ∈ Lv, a ∈ Lt) (nd : Lv.Nodup)
    (hr : (∀ b o, hide H2 (Lb ++ (Lt ++ Do)) b = some o → hide (upd H2 p u) (Lb ++ ((p :: Lv) ++ Do)) b = some o) → rel σ (upd H2 p u) (Lb ++ ((p :: Lv) ++ Do)) (.ref p) a (p :: Lv)) : Q (.ref p) (upd H2 p u) :=
  h.done ok st (fun b o e => by rw [upd_ne (ne_of_none e hp)]; exact e) (fun b z => by
    rcases List.mem_cons.mp z with z | z
    · exact .inr (by rw [z]; exact hp)
    · exact .inl (hv b z)) (List.nodup_cons.mpr ⟨fun z => ok.out p (List.mem_append_left _ (hv p z)) hp, nd⟩) (fun b z => by
    rcases List.mem_cons.mp z with z | z
    · rw [z, upd_same]; exact fun q => nomatch q
    · have hb := ok.out b (List.mem_append_left _ (hv b z))
      rw [upd_ne (fun e => hb (by rw [e]; exact hp))]
      exact hb) hr
/-- how a primitive may end, by what is hidden: with what stands there; with a new thing; with a new thing of one's own -/
structure Fin8 {α : Type} (rel : Rel α V) (σ : St8) (H : Hp) (D : List Addr) (a : α) (Q : V → Hp → Prop) : Prop where
  old : ∀ b, (∀ D', (∀ c o, hide H D c = some o → hide H D' c = some o) → rel σ H D' b a []) → Q b H
  new : ∀ p u, H p = none → (∀ D', (∀ c o, hide H D c = some o → hide (upd H p u) D' c = some o) → hide (upd H p u) D' p = some u → rel σ (upd H p u) D' (.ref p) a []) → Q (.ref p) (upd H p u)
  own : ∀ p u, H p = none → (∀ D', p ∈ D' → (∀ c o, hide H D c = some o → hide (upd H p u) D' c = some o) → rel σ (upd H p u) D' (.ref p) a [p]) → Q (.ref p) (upd H p u)
theorem PostG.fin {α : Type} {rel : Rel α V} {a : α} {Q : V → Hp → Prop} (h : PostG K cn W rel Do σ H L (.ok a ρ) Q) (ok : Ok8 K cn (Lt ++ Do) σ ρ H2 Lb) (st : Stp L H (Lt ++ Lb) H2) : Fin8 rel σ H2 (Lb ++ (Lt ++ Do)) a Q where
  old := fun b hr => h.done0 ok st fun hF => hr _ hF
  new := fun p u hp hr => h.doneN ok st hp fun hF hh => hr _ hF hh
  own := fun p u hp hr => h.doneO (Lv := []) ok st hp (fun _ z => nomatch z) List.nodup_nil fun hF => hr _ (List.mem_append_right _ (List.mem_append_left _ (List.mem_cons_self ..))) hF
end
end FT

end
section
set_option Elab.async false
set_option linter.all false
set_option maxRecDepth 100000
set_option maxHeartbeats 4000000
/-! FTZf: an error of a class over ArithmeticError whose making takes no argument and stores one text. -/
namespace FT
open PySem PySem.Spec PyProof.Rows L2
abbrev arT : List Value := [.type "ArithmeticError", .type "Exception", .type "BaseException", .type "object"]
/-- what the written part says of such a class, f its one field -/
def zfB (K : PySem.W.Frag) (C : Addr) (f : Str) : Bool :=
  PySem.W.excInitIn K C arT "ArithmeticError.__new__" && (PySem.W.excOver K C arT && (PySem.W.hasDictIn K C && (decide (PySem.W.takerIn K C f = some none) && (decide (PySem.W.findIn K (.ref C) "__setattr__" = some (some (.builtin "object.__setattr__"))) &&
    (decide (PySem.W.subIn K (.ref C) (.type "BaseException") = some true) && (decide (PySem.W.typeIn K (.ref C) = some (.type "type")) && (PySem.W.keepIn K (.ref C) && decide (PySem.W.exmOne K (.ref C) (.ref C) = some true))))))))
structure ZfC (K : PySem.W.Frag) (C : Addr) (f : Str) : Prop where
  made : PySem.W.excInitIn K C arT "ArithmeticError.__new__" = true
  over : PySem.W.excOver K C arT = true
  dict : PySem.W.hasDictIn K C = true
  take : PySem.W.takerIn K C f = some none
  sa : PySem.W.findIn K (.ref C) "__setattr__" = some (some (.builtin "object.__setattr__"))
  exC : PySem.W.subIn K (.ref C) (.type "BaseException") = some true
  tyC : PySem.W.typeIn K (.ref C) = some (.type "type")
  kC : PySem.W.keepIn K (.ref C) = true
  exm : PySem.W.exmOne K (.ref C) (.ref C) = some true
theorem zfB_ok {K : PySem.W.Frag} {C : Addr} {f : Str} (h : zfB K C f = true) : ZfC K C f := by
  unfold zfB at h
  simp only [Bool.and_eq_true, decide_eq_true_eq] at h
  obtain ⟨h1, h2, h3, h4, h5, h6, h7, h8, h9⟩ := h
  exact ⟨h1, h2, h3, h4, h5, h6, h7, h8, h9⟩
section
variable {X : Cx} {pins : List (Addr × Obj)} {σ : L2.St} {H : Hp} {s : Shared} {a C : Addr} {f : Str} {y : V} {u : Value}
/-- its field is stored -/
theorem zf_put {A : Around} {E : Value → Shared → Prop} {Q : Unit → Shared → Prop} (Z : ZfC X.K C f) (I : Inv X pins σ H s) (e : H a = some (exo a C none)) (ry : RelV y u)
    (h : ∀ dx s', H dx = none → dx ≠ a → Inv X pins σ (upd (upd H dx (exd dx [(f, y)])) a (exo a C (some dx))) s' → Q () s') : wpAny (model X.prog X.w) A (setAttr (.ref a) f u) Q E s := by
  obtain ⟨t1, ho⟩ := exo_at I.hok e
  obtain ⟨h0, g, d, t, os⟩ := s
  obtain ⟨cd, hc, hd⟩ := PySem.W.any_some Z.dict
  have lt := Heap.lt_size ho
  refine PySem.W.set_plain I.kIn (od := none) ⟨ho, rfl, rfl, trivial⟩ Z.sa (PySem.W.osa_openX (od := none) PySem.F.store_ArithmeticError I.kIn ⟨ho, rfl, rfl, trivial⟩ Z.over Z.take fun b => ?_)
  refine wpAny_bind (wpAny_pure (wpAny_bind (PySem.W.instanceDict_exc (s := ⟨h0, g, d, t + 1, os⟩) ho (PySem.W.looks_clsIn I.kIn hc) hd ?_)))
  show wpAny _ _ (PySem.Builtin.ObjectAttr.storeInDict h0.objs.size (.str f t) f u) _ _ _
  have hx1 : (h0.push (PySem.W.dictOf [] 0)).get? a = some _ := Heap.get?_push_of_some _ ho
  have ne : h0.objs.size ≠ a := Ne.symm (Nat.ne_of_lt lt)
  refine PySem.HandSPX.store_in_new ⟨_, #[], _, (Heap.get?_update_ne _ _ _ _ ne).trans (Heap.get?_push_at rfl rfl), rfl, fun e he => absurd he (by simp), fun _ => rfl⟩ fun h' tk' hn' hs => ?_
  have hd : H h0.objs.size = none := I.hok.fresh (Nat.le_refl _)
  have hx' : h'.get? a = some ({ cls := .ref C, dict := some h0.objs.size, data := .fields #[.ref t1, .none, .none, .none, .bool false, .none] } : Obj) := (hs.2 a (Ne.symm ne)).trans (Heap.get?_update_self _ hx1 rfl)
  have kp : ∀ b o, b ≠ a → h0.get? b = some o → h'.get? b = some o := fun b o nb q => (hs.2 b (Nat.ne_of_lt (Heap.lt_size q))).trans ((Heap.get?_update_ne _ _ _ _ nb).trans (Heap.get?_push_of_some _ q))
  -- the heap in between: the dict stands, the error does not know of it
  have back : (h'.update a fun o => { o with dict := none }).get? a = some ({ cls := .ref C, dict := none, data := .fields #[.ref t1, .none, .none, .none, .bool false, .none] } : Obj) := Heap.get?_update_self _ hx' rfl
  have side : ∀ b, b ≠ a → (h'.update a fun o => { o with dict := none }).get? b = h'.get? b := fun b nb => Heap.get?_update_ne _ _ _ _ nb
  have J1 := I.laid (t' := tk') (a := h0.objs.size) (o := exd h0.objs.size [(f, y)]) (h' := h'.update a fun o => { o with dict := none }) (fun b o q => by
    by_cases nb : b = a
    · subst nb
      have := ho.symm.trans q
      rw [← this]
      exact back
    · exact (side b nb).trans (kp b o nb q)) (Nat.le_refl _) (exd_ok (hn'.at fun o q => (side _ ne).trans q) (relO_put (fs := []) ry fun g => True.intro))
  have J2 := J1.write (t' := tk') (x := a) (e := a) (o := exo a C (some h0.objs.size)) (h' := h') (by rw [upd_ne (Ne.symm ne), e]; exact True.intro) (.inl rfl) (fun b o nb q => (side b nb).symm.trans q) ⟨_, hx'⟩ (exo_ok hx')
  exact h _ _ hd ne J2
end
/-- self.f = e, in the making of such an error -/
def tZst (K : PySem.W.Frag) (f : Str) (to te : TE) : TS := fun D σ H => te σ H fun y H1 => to σ H1 fun x H2 => ∃ a C : Addr, x = .ref a ∧ ZfC K C f ∧ H2 a = some (exo a C none) ∧ ∀ dx, H2 dx = none → dx ≠ a → D.nx σ (upd (upd H2 dx (exd dx [(f, y)])) a (exo a C (some dx)))
theorem ps_zst {X : Cx} {f : Str} {o e : Expr} {to te : TE} {p' pos : Pos} (ho : PE X o to) (he : PE X e te) (hs : swapsWith e (some (.Attribute o f p')) pos.line X.env = pure false) : PS X (.Assign [.Attribute o f p'] e pos) (tZst X.K f to te) := ⟨fun pins s σ H D I h =>
  plainObj_wpAny_Assign_Attribute (thn (he.run pins s σ H _ I h) fun v s1 ⟨y, H1, I1, r1, q1⟩ => thn (ho.run pins s1 σ H1 _ I1 q1) fun u s2 ⟨x, H2, I2, r2, a, C, ex, Z, ea, q⟩ => by
    subst ex
    have eu : u = Value.ref a := r2
    subst eu
    exact zf_put Z I2 ea r1 fun dx s' n ne J => ⟨σ, _, J, q dx n ne⟩) hs⟩
/-- what the making of such an error does: spec of its __init__ -/
def spZ (K : PySem.W.Frag) (C : Addr) (f code : Str) : Sp := fun vs H Q _ => ∃ a : Addr, vs = [.ref a] ∧ ZfC K C f ∧ H a = some (exo a C none) ∧ ∀ dx, H dx = none → dx ≠ a → Q .non (upd (upd H dx (exd dx [(f, .str code)])) a (exo a C (some dx)))
/-- what is known of such a class where it is called -/
structure ZfX (P : Program) (w : World) (K : PySem.W.Frag) (mg : Str → Option Value) (base : Heap) (A : Around) (x f code : Str) (C : Addr) : Prop where
  cls : ZfC K C f
  xf : XfC K C
  no : PySem.W.findIn K (.ref C) f = some none
  gl : mg x = some (.ref C)
  init : ∃ (fI : Addr) (fd : FuncData) (y : Str), PySem.W.findIn K (.ref C) "__init__" = some (some (.ref fI)) ∧ PySem.W.typeIn K (.ref fI) = some (.type "function") ∧ FnOk P w K mg base (L2.CX P w) 1 fI fd [y] (spZ K C f code) ∧ Binds K fd [y] []
  room : Room 2 A
theorem pmk_zf {X : Cx} {x f code : Str} {C : Addr} {p pos : Pos} (Z : ZfX X.prog X.w X.K X.mg X.base X.A x f code C) (hx : Passes (L2.CX X.prog X.w) X (fun _ _ _ => False)) (hg : Gl X x) (hdb : (x == ("__debug__" : Str)) = false) :
    PMk X (.Call (.Name x p) [] [] pos) (fun _ H Q => ∀ d, H d = none → Q (.ref C) (some d) (upd H d (.xd [(f, .str code)]))) := by
  intro pins s σ H Q I h
  obtain ⟨fI, fd, y, iC, tI, F1, hb⟩ := Z.init
  refine wpAny_Call_Name_kw (ld_glob I hg Z.gl ?_ hdb)
  refine PySem.W.callWith_K0 I.kIn Z.cls.kC ?_
  show wpAny _ _ (call (.ref C) []) _ _ _
  obtain ⟨nm, N, qn, bs, bm, hdct, sn, sub, ab, col, dd, k0, k1, k2, k3, k5, hC, hT⟩ := PySem.W.excInit_of I.kIn Z.cls.made
  obtain ⟨h0, g, dr, tk, os⟩ := s
  have up1 : h0.objs.size ≤ h0.objs.size + 1 := Nat.le_succ _
  have fr : H (h0.objs.size + 1) = none := I.hok.fresh up1
  have kk : ∀ b o, h0.get? b = some o → ((h0.push (PySem.W.kdv_tup [])).push (PySem.HandSPX.excO C h0.objs.size)).get? b = some o := fun b o e => Heap.get?_push_of_some _ (Heap.get?_push_of_some _ e)
  have lay : ((h0.push (PySem.W.kdv_tup [])).push (PySem.HandSPX.excO C h0.objs.size)).get? (h0.objs.size + 1) = some (PySem.HandSPX.excO C h0.objs.size) := by heap_get
  have I2 := I.laid (t' := tk) (a := h0.objs.size + 1) (o := exo (h0.objs.size + 1) C none) (h' := (h0.push (PySem.W.kdv_tup [])).push (PySem.HandSPX.excO C h0.objs.size)) kk up1 (exo_ok lay)
  have rv : Vals [V.ref (h0.objs.size + 1)] [Value.ref (h0.objs.size + 1)] := .cons rfl .nil
  have spec : spZ X.K C f code [.ref (h0.objs.size + 1)] (upd H (h0.objs.size + 1) (exo (h0.objs.size + 1) C none)) (fun v H2 => v = .non ∧ ∃ (d : Addr) (fs : List (Str × V)), H2 (h0.objs.size + 1) = some (exo (h0.objs.size + 1) C (some d)) ∧ H2 d = some (exd d fs) ∧ H d = none ∧ Q (.ref C) (some d) (upd (del H2 (h0.objs.size + 1)) d (.xd fs))) (fun _ _ _ => False) := by
    refine ⟨_, rfl, Z.cls, upd_same, fun dx n ne => ⟨rfl, dx, [(f, .str code)], upd_same, ?_, ?_, ?_⟩⟩
    · rw [upd_ne ne, upd_same]
    · rw [upd_ne ne] at n
      exact n
    · have n' := n
      rw [upd_ne ne] at n'
      have e : upd (del (upd (upd (upd H (h0.objs.size + 1) (exo (h0.objs.size + 1) C none)) dx (exd dx [(f, .str code)])) (h0.objs.size + 1) (exo (h0.objs.size + 1) C (some dx))) (h0.objs.size + 1)) dx (.xd [(f, .str code)]) = upd H dx (.xd [(f, .str code)]) := by
        funext b
        by_cases q : b = dx
        · rw [q, upd_same, upd_same]
        · rw [upd_ne q, upd_ne q]
          by_cases r : b = h0.objs.size + 1
          · rw [r, del_same, fr]
          · rw [del_ne r, upd_ne r, upd_ne q, upd_ne r]
      rw [e]
      exact h dx n'
  refine wpAny_call (PySem.HandSPX.call_own PySem.F.excBase_ArithmeticError hT hC (PySem.W.looks_findIn I.kIn iC) (fun self => PySem.W.bind_fn I.kIn self tI) (Nat.zero_le _)
    (codeAny_mono (F1.run _ X.stack _ _ ⟨[Value.ref (h0.objs.size + 1)], []⟩ [Value.ref (h0.objs.size + 1)] _ _ (fun _ _ _ => False) (Z.room.make C [] []) (I2.env0.make C [] []) (hb _ [Value.ref (h0.objs.size + 1)] I2.kIn rfl) rv spec) fun r s' hq => ?_))
  cases r with
  | error er => exact hx pins σ _ _ er s' I2 hq
  | ok fl =>
    cases fl with
    | ret u =>
      obtain ⟨v, H2, os2, bare2, un2, hok2, rv2, ev, d, fs, ea, ed, hd1, q2⟩ := hq
      subst ev
      obtain ⟨h2, g2, d2, t2, os'⟩ := s'
      exact ⟨rv2, mk_end (raises_own Z.cls.exC Z.cls.tyC) I up1 kk un2 hok2 os2 bare2 ea ed hd1 q2⟩
    | next => exact hq.elim
    | brk => exact hq.elim
    | cont => exact hq.elim
end FT

end
section
set_option Elab.async false
set_option linter.all false
set_option maxRecDepth 100000
set_option maxHeartbeats 4000000
/-! FTSem: the small language and its reckoner: what a def of the text does, by trees. -/
namespace FT
open PySem PySem.Spec PyProof.Rows L2

/-! ### operations on trees -/
mutual
def toD : T → Option PyData
  | .non => some .none
  | .bl b => some (.bool b)
  | .int i => some (.int i)
  | .str x => some (.str x)
  | .tup xs => (toDs xs).map .tuple
  | .lst _ xs => (toDs xs).map .list
  | _ => none
def toDs : List T → Option (List PyData)
  | [] => some []
  | t :: ts => match toD t, toDs ts with
    | some d, some ds => some (d :: ds)
    | _, _ => none
end
def eqT (a b : T) : Option Bool := match toD a, toD b with
  | some d, some e => if SeqAt.shaped d && SeqAt.shaped e then some (PyData.eqv d e) else none
  | _, _ => none
def mulOk (i j : Int) : Bool := (decide (-(2 ^ 64) < i) && decide (i < 2 ^ 64)) || ((decide (-(2 ^ 64) < j) && decide (j < 2 ^ 64)) || decide (i.natAbs.log2 + j.natAbs.log2 < 1000000))
def addT : T → T → Option T
  | .int i, .int j => some (.int (i + j))
  | .str x, .str y => if x.length + y.length ≤ sizeLine then some (.str (x ++ y)) else none
  | .tup xs, .tup ys => if isFzs xs = true ∧ isFzs ys = true ∧ xs.length + ys.length ≤ sizeLine then some (.tup (xs ++ ys)) else none
  | .lst _ xs, .lst _ ys => if isFzs xs = true ∧ isFzs ys = true ∧ xs.length + ys.length ≤ sizeLine then some (.lst true (xs ++ ys)) else none
  | _, _ => none
def subT : T → T → Option T
  | .int i, .int j => some (.int (i - j))
  | _, _ => none
def mulT : T → T → Option T
  | .int i, .int j => if mulOk i j then some (.int (i * j)) else none
  | .lst _ xs, .int k => if isFzs xs = true ∧ -(2 ^ 63) ≤ k ∧ k < 2 ^ 63 ∧ xs.length * k.toNat ≤ sizeLine then some (.lst true (List.replicate k.toNat xs).flatten) else none
  | .tup xs, .int k => if isFzs xs = true ∧ xs ≠ [] ∧ -(2 ^ 63) ≤ k ∧ k ≤ 1000 ∧ xs.length ≤ 1000 then some (.tup (List.replicate k.toNat xs).flatten) else none
  | _, _ => none
def modT : T → T → Option T
  | .int i, .int j => if 0 < j then some (.int (i % j)) else none
  | _, _ => none
def fdvT : T → T → Option T
  | .int i, .int j => if 0 < j ∧ j.natAbs.log2 < 9000 then some (.int (i / j)) else none
  | _, _ => none
def powT : T → T → Option T
  | .int i, .int j => if 0 ≤ j ∧ j ≤ 1000000 ∧ i.natAbs < 2 ^ 64 then some (.int (i ^ j.toNat)) else none
  | _, _ => none
def binT : Operator → T → T → Option T
  | .Add => addT
  | .Sub => subT
  | .Mult => mulT
  | .Mod => modT
  | .FloorDiv => fdvT
  | .Pow => powT
  | _ => fun _ _ => none
/-- flat things, and whether one is among them -/
def flatT : T → Bool
  | .non => true | .bl _ => true | .int _ => true | .str _ => true | _ => false
def flV : T → V
  | .non => .non | .bl b => .bl b | .int i => .int i | .str x => .str x | _ => .non
def inT (x : T) (xs : List T) : Option Bool := if flatT x && xs.all flatT then some (inV (flV x) (xs.map flV)) else none
def memT : T → T → Option Bool
  | .str x, .str y => some (!(Builtin.Str.occurrences y x 0 y.length 1).isEmpty)
  | x, .lst _ xs => inT x xs
  | x, .tup xs => inT x xs
  | _, _ => none
def ltT : T → T → Option Bool
  | .int i, .int j => some (decide (i < j))
  | _, _ => none
def leT : T → T → Option Bool
  | .int i, .int j => some (decide (i ≤ j))
  | _, _ => none
def isT : T → T → Option Bool
  | .bl a, .bl b => some (decide (a = b))
  | .non, .non => some true
  | _, .non => some false
  | _, _ => none
def cmpT : CmpOp → T → T → Option Bool
  | .Eq => eqT
  | .NotEq => fun x y => (eqT x y).map (!·)
  | .Lt => ltT
  | .LtE => leT
  | .Gt => fun x y => ltT y x
  | .GtE => fun x y => leT y x
  | .Is => isT
  | .IsNot => fun x y => (isT x y).map (!·)
  | .In => memT
  | .NotIn => fun x y => (memT x y).map (!·)
def truT : T → Option Bool
  | .non => some false
  | .bl b => some b
  | .int i => some (i != 0)
  | .str y => if y.length ≤ sizeLine then some ((y.length : Int) != 0) else none
  | .tup xs => some (!xs.isEmpty)
  | .lst _ xs => some (!xs.isEmpty)
  | _ => none
def pickT : Option T → Option T
  | some t => if isFz t then some t else none
  | none => none
def ixT : T → T → Option T
  | .tup xs, .int i => pickT (atI xs i)
  | .lst _ xs, .int i => pickT (atI xs i)
  | .slst xs, .int i => pickT (atI xs i)
  | .str z, .int i => if z.length ≤ sizeLine then (atI z.cps.toList i).map fun c => .str ⟨#[c]⟩ else none
  | _, _ => none
def cutT {α : Type} (xs : List α) (lo hi : Option Int) : List α := (xs.drop (HT.sIx xs.length 0 lo)).take (HT.sIx xs.length xs.length hi - HT.sIx xs.length 0 lo)
def slT : T → Option Int → Option Int → Option T
  | .tup xs, lo, hi => if isFzs xs then some (.tup (cutT xs lo hi)) else none
  | .lst _ xs, lo, hi => if isFzs xs then some (.lst true (cutT xs lo hi)) else none
  | .slst xs, lo, hi => if isFzs xs then some (.lst true (cutT xs lo hi)) else none
  | .str z, lo, hi => if z.length ≤ sizeLine then some (.str (cutS z lo hi)) else none
  | _, _, _ => none
def revT : T → Option T
  | .lst _ xs => if isFzs xs then some (.lst true xs.reverse) else none
  | .tup xs => if isFzs xs then some (.tup xs.reverse) else none
  | _ => none

/-- a list of ints, of bools -/
def intsT : List T → Option (List Int)
  | [] => some []
  | .int i :: ts => (intsT ts).map (i :: ·)
  | _ :: _ => none
def bsT : List T → Option (List Bool)
  | [] => some []
  | .bl b :: ts => (bsT ts).map (b :: ·)
  | _ :: _ => none
def strsT : List T → Option (List Str)
  | [] => some []
  | .str x :: ts => (strsT ts).map (x :: ·)
  | _ :: _ => none
/-- built-in functions of one argument, of two -/
inductive B1 where | len | int | tuple | list | all | any | sum | abs | max | min | str
inductive B2 where | max | min
def lenT : T → Option Nat
  | .str y => if y.length ≤ sizeLine then some y.length else none
  | .tup xs => some xs.length
  | .lst _ xs => some xs.length
  | .slst xs => some xs.length
  | _ => none
def maxL : List Int → Option Int
  | [] => none
  | i :: is => some (is.foldl (fun a b => if b > a then b else a) i)
def minL : List Int → Option Int
  | [] => none
  | i :: is => some (is.foldl (fun a b => if b < a then b else a) i)
def b1T : B1 → T → Option T
  | .len, t => (lenT t).map fun n => .int n
  | .int, .int i => some (.int i)
  | .int, .bl b => some (.int (if b then 1 else 0))
  | .tuple, .tup xs => if isFzs xs then some (.tup xs) else none
  | .tuple, .lst _ xs => if isFzs xs then some (.tup xs) else none
  | .list, .tup xs => if isFzs xs then some (.lst true xs) else none
  | .list, .lst _ xs => if isFzs xs then some (.lst true xs) else none
  | .list, .slst xs => if isFzs xs then some (.lst true xs) else none
  | .all, .lst _ xs => (bsT xs).map fun bs => .bl (bs.all id)
  | .any, .lst _ xs => (bsT xs).map fun bs => .bl (bs.any id)
  | .sum, .lst _ xs => (intsT xs).map fun ns => .int ns.sum
  | .abs, .int i => some (.int (if i < 0 then -i else i))
  | .max, .lst _ xs => (intsT xs).bind fun ns => (maxL ns).map .int
  | .min, .lst _ xs => (intsT xs).bind fun ns => (minL ns).map .int
  | .str, .int i => if i.natAbs.log2 < 1920 then some (.str (toString i)) else none
  | _, _ => none
def b2T : B2 → T → T → Option T
  | .max, .int i, .int j => some (.int (if j > i then j else i))
  | .min, .int i, .int j => some (.int (if j < i then j else i))
  | _, _, _ => none
/-- the names of the types of which a value is an instance, among the built-in ones -/
def tyT : T → Option String
  | .non => some "NoneType"
  | .bl _ => some "bool"
  | .int _ => some "int"
  | .str _ => some "str"
  | .tup _ => some "tuple"
  | .lst _ _ => some "list"
  | _ => none
def isiT (ts : List String) (t : T) : Option Bool := (tyT t).map fun n => ts.any fun m => m == n || (n == "bool" && m == "int")

/-! ### the language -/
inductive G where | nm (i : Nat) | tp (is : List Nat)
inductive Src where | pos (k : Nat) | kw (k : Nat) | df (t : T)
mutual
inductive E where
  | var (i : Nat) | int (i : Int) | bl (b : Bool) | non | str (x : Str)
  | bin (op : Operator) (a b : E) | neg (a : E) | cmp (op : CmpOp) (a b : E) | chn (p q : CmpOp) (a b c : E)
  | and (a b : E) | or (a b : E) | not (a : E) | ite (c : C) (a b : E)
  | tup (es : Es) | lst (es : Es)
  | ix (a b : E) | sl (a : E) (lo hi : Oe) | rev (a : E)
  | call (f : Nat) (as : As) | callW (f : Nat) (as : As) | callK (k : Nat) (f : Nat) (src : List Src) (ks : Es)
  | b1 (b : B1) (a : E) | b2 (b : B2) (a c : E) | isi (a : E) (ts : List String)
  | lc (g : G) (it : It) (c : Oc) (elt : E) (own : List Nat)
  | lrng (it : It)
inductive Es where | nil | cons (e : E) (es : Es) | star (e : E) (es : Es)
inductive As where | nil | v (e : E) (as : As) | r (i : Nat) (as : As)
inductive Oe where | no | so (e : E)
inductive Oc where | no | so (c : C)
inductive C where | tr (e : E) | cmp (op : CmpOp) (a b : E) | chn (p q : CmpOp) (a b c : E) | and (a b : C) | or (a b : C) | not (a : C)
inductive It where | sq (e : E) | r1 (a : E) | r2 (a b : E) | r3 (a b : E) (k : Int) | en (e : E) | zp (a b : E) | rv (e : E) | rr1 (a : E) | rr2 (a b : E)
end
/-- what a handler tells: a text, a field of the error -/
inductive HI where | s (x : Str) | at_ (f : Str)
mutual
inductive S where
  | pass | expr (e : E) | asg (g : G) (e : E) | par (is : List Nat) (es : Es) | setix (i : Nat) (k e : E) | aug (op : Operator) (i : Nat) (e : E)
  | ifs (c : C) (a b : Ss) | for_ (g : G) (it : It) (b : Ss) (kill : List Nat) | whil (c : C) (b : Ss) (kill : List Nat)
  | ret (e : E) | retN | brk | cnt | app (i : Nat) (e : E) | dead | set2 (i : Nat) (k1 k2 e : E) | raise0 (c lv : Nat) (f code : Str) | tryC (b : Ss) (c lv : Nat) (i : Option Nat) (h : List HI)
inductive Ss where | nil | cons (s : S) (ss : Ss)
end
structure Fn where
  N : List Str
  np : Nat
  io : List Nat
  body : Ss
/-- a call's outcome: what it hands back, and what has become of the arguments that are lent -/
inductive CR where | ok (t : T) (bs : List T) | exc (x : Ex8) (bs : List T) | bad
inductive O where | nx (ρ : Env8) | rt (t : T) (ρ : Env8) | bk (ρ : Env8) | ct (ρ : Env8) | exc (x : Ex8) (ρ : Env8) | bad

/-! ### the reckoner -/
inductive Opd where | sl (i : Nat) | vl (t : T)
def slot (ρ : Env8) (i : Nat) : Option T := match ρ[i]? with
  | some (some t) => some t
  | _ => none
def Opd.get : Opd → Env8 → Option T
  | .sl i, ρ => slot ρ i
  | .vl t, _ => some t
def opdOf (a : E) (m : Env8 → R T) : Env8 → R Opd := match a with
  | .var i => fun ρ => match slot ρ i with
    | some _ => .ok (.sl i) ρ
    | none => .bad
  | _ => fun ρ => (m ρ).bind fun t ρ => .ok (.vl t) ρ
def ofO {α : Type} (o : Option α) (ρ : Env8) : R α := match o with
  | some a => .ok a ρ
  | none => .bad
def op1 (f : T → Option T) (x : Opd) (ρ : Env8) : R T := match x.get ρ with
  | some t => ofO (f t) ρ
  | none => .bad
def op2 {α : Type} (f : T → T → Option α) (x y : Opd) (ρ : Env8) : R α := match x.get ρ, y.get ρ with
  | some t, some u => ofO (f t u) ρ
  | _, _ => .bad
def readV (i : Nat) (ρ : Env8) : R T := match slot ρ i with
  | some t => if isFz t then .ok t ρ else .ok (fz t) (ρ.set i (some (fz t)))
  | none => .bad
def setAll : List Nat → List T → Env8 → Env8
  | i :: is, b :: bs, ρ => setAll is bs (ρ.set i (some b))
  | _, _, ρ => ρ
def kill : List Nat → Env8 → Env8
  | [], ρ => ρ
  | i :: is, ρ => (kill is ρ).set i none
def keepF (ρ : Env8) (i : Nat) : Option T := match slot ρ i with
  | some t => if isFz t then some t else none
  | none => none
def putBack : List Nat → Env8 → Env8 → Env8
  | [], _, ρ => ρ
  | i :: is, ρ0, ρ => (putBack is ρ0 ρ).set i (keepF ρ0 i)
/-- the trees of the arguments at a call -/
def argsOf : List Opd → Env8 → Option (List T)
  | [], _ => some []
  | .vl t :: xs, ρ => (argsOf xs ρ).map (fz t :: ·)
  | .sl i :: xs, ρ => match slot ρ i, argsOf xs ρ with
    | some t, some ts => some (t :: ts)
    | _, _ => none
def refsOf : List Opd → List Nat
  | [] => []
  | .vl _ :: xs => refsOf xs
  | .sl i :: xs => i :: refsOf xs
def nodupN : List Nat → Bool
  | [] => true
  | i :: is => !is.contains i && nodupN is
def doCall (Φ : Nat → List T → CR) (f : Nat) (xs : List Opd) (more : List T → Option (List T)) (ρ : Env8) : R T := match argsOf xs ρ with
  | some ts => if nodupN (refsOf xs) then (match more ts with
    | some us => (match Φ f us with
      | .ok t bs => .ok t (setAll (refsOf xs) bs ρ)
      | .exc x bs => .exc x (setAll (refsOf xs) bs ρ)
      | .bad => .bad)
    | none => .bad) else .bad
  | none => .bad
mutual
/-- no list in it -/
def pureT : T → Bool
  | .tup xs => pureTs xs
  | .non => true
  | .bl _ => true
  | .int _ => true
  | .str _ => true
  | .ty _ => true
  | _ => false
def pureTs : List T → Bool
  | [] => true
  | t :: ts => pureT t && pureTs ts
end
def oneL : T → Bool
  | .lst _ us => isFzs us
  | t => isFz t
/-- the trees of the arguments, of which some are only looked at -/
def argsW : List Opd → Env8 → Option (List T)
  | [], _ => some []
  | .vl t :: xs, ρ => (argsW xs ρ).map (fz t :: ·)
  | .sl i :: xs, ρ => match slot ρ i, argsW xs ρ with
    | some t, some ts => if oneL t then some (fz t :: ts) else none
    | _, _ => none
/-- a call that only looks at lists of the caller's own -/
def doCallW (Φ : Nat → List T → CR) (f : Nat) (xs : List Opd) (ρ : Env8) : R T := match argsW xs ρ with
  | some ts => (match Φ f ts with
    | .ok t bs => if bs.isEmpty && pureT t then .ok t ρ else .bad
    | _ => .bad)
  | none => .bad
def srcT (ps ks : List T) : List Src → Option (List T)
  | [] => some []
  | .pos k :: ss => match ps[k]?, srcT ps ks ss with
    | some t, some ts => some (t :: ts)
    | _, _ => none
  | .kw k :: ss => match ks[k]?, srcT ps ks ss with
    | some t, some ts => some (t :: ts)
    | _, _ => none
  | .df t :: ss => (srcT ps ks ss).map (t :: ·)
/-- a call by keywords alone; nothing is lent -/
def doCallK (Φ : Nat → List T → CR) (f : Nat) (src : List Src) (zs : List T) (ρ : Env8) : R T := match srcT [] zs src with
  | some us => (match Φ f us with
    | .ok t bs => if bs.isEmpty then .ok t ρ else .bad
    | .exc x bs => if bs.isEmpty then .exc x ρ else .bad
    | .bad => .bad)
  | none => .bad
def bindG : G → T → Env8 → Option Env8
  | .nm i, t, ρ => if i < ρ.length then some (ρ.set i (some t)) else none
  | .tp is, .tup ts, ρ => if ts.length = is.length ∧ is.all (· < ρ.length) = true then some (setAll is ts ρ) else none
  | _, _, _ => none
def compL (g : T → Env8 → Option Env8) (c : Env8 → R Bool) (e : Env8 → R T) (own : List Nat) : List T → List T → Env8 → R (List T)
  | [], acc, ρ => .ok acc ρ
  | t :: ts, acc, ρ => match g t ρ with
    | none => .bad
    | some ρ1 => (c ρ1).bind fun b ρ2 => if b then (e ρ2).bind fun y ρ3 => if acc.length < sizeLine then compL g c e own ts (acc ++ [y]) (kill own ρ3) else .bad else compL g c e own ts acc (kill own ρ2)
def rngL (lo : Int) (n : Nat) : List T := (List.range n).map fun k => .int (lo + (k : Nat))
/-- from lo downward -/
def rngD (lo : Int) (n : Nat) : List T := (List.range n).map fun k => .int (lo + (k : Nat) * (-1))
def zipT : List T → List T → List T
  | x :: xs, y :: ys => .tup [x, y] :: zipT xs ys
  | _, _ => []
def enumT : Nat → List T → List T
  | _, [] => []
  | n, x :: xs => .tup [.int n, x] :: enumT (n + 1) xs
def rngOk (i : Int) : Bool := decide (-(2 ^ 62) ≤ i) && decide (i < 2 ^ 62)
def itemsT : T → Option (List T)
  | .tup xs => if isFzs xs then some xs else none
  | .lst false xs => if isFzs xs then some xs else none
  | .slst xs => if isFzs xs then some xs else none
  | .str z => some (z.cps.toList.map fun c => .str ⟨#[c]⟩)
  | _ => none
def seqT : T → Option (List T)
  | .tup xs => if isFzs xs then some xs else none
  | .lst false xs => if isFzs xs then some xs else none
  | _ => none
def zipOk : T → T → Option (List T)
  | .tup xs, .tup ys => if isFzs xs && isFzs ys then some (zipT xs ys) else none
  | .lst false xs, .lst false ys => if isFzs xs && isFzs ys then some (zipT xs ys) else none
  | .tup xs, .lst false ys => if isFzs xs && isFzs ys then some (zipT xs ys) else none
  | .lst false xs, .tup ys => if isFzs xs && isFzs ys then some (zipT xs ys) else none
  | _, _ => none
/-- a list's items are no longer its own -/
def fzI : T → T
  | .lst o xs => .lst o (fzs xs)
  | t => t
def noExc {α : Type} : R α → R α
  | .exc _ _ => .bad
  | r => r
def starT : T → Option (List T)
  | .tup xs => if isFzs xs then some xs else none
  | .lst _ xs => if isFzs xs then some xs else none
  | _ => none

section
variable (Φ : Nat → List T → CR)
mutual
def evalE : E → Env8 → R T
  | .var i => readV i
  | .int i => .ok (.int i)
  | .bl b => .ok (.bl b)
  | .non => .ok .non
  | .str x => .ok (.str x)
  | .bin op a b => fun ρ => (opdOf a (evalE a) ρ).bind fun x ρ => (opdOf b (evalE b) ρ).bind fun y ρ => op2 (binT op) x y ρ
  | .neg a => fun ρ => (opdOf a (evalE a) ρ).bind fun x ρ => op1 (fun | .int i => some (.int (-i)) | _ => none) x ρ
  | .cmp op a b => fun ρ => (opdOf a (evalE a) ρ).bind fun x ρ => (opdOf b (evalE b) ρ).bind fun y ρ => op2 (fun s t => (cmpT op s t).map .bl) x y ρ
  | .chn p q a b c => fun ρ => (opdOf a (evalE a) ρ).bind fun x ρ => (opdOf b (evalE b) ρ).bind fun y ρ => (op2 (cmpT p) x y ρ).bind fun k ρ =>
      if k then (opdOf c (evalE c) ρ).bind fun z ρ => op2 (fun s t => (cmpT q s t).map .bl) y z ρ else .ok (.bl false) ρ
  | .and a b => fun ρ => (evalE a ρ).bind fun t ρ => match t with
    | .bl true => evalE b ρ
    | .bl false => .ok (.bl false) ρ
    | _ => .bad
  | .or a b => fun ρ => (evalE a ρ).bind fun t ρ => match t with
    | .bl false => evalE b ρ
    | .bl true => .ok (.bl true) ρ
    | _ => .bad
  | .not a => fun ρ => (opdOf a (evalE a) ρ).bind fun x ρ => op1 (fun t => (truT t).map fun b => .bl (!b)) x ρ
  | .ite c a b => fun ρ => (evalC c ρ).bind fun k ρ => if k then evalE a ρ else evalE b ρ
  | .tup es => fun ρ => ((evalEs es ρ).bind fun ts ρ => .ok (fzs ts) ρ).bind fun ts ρ => if ts.length ≤ sizeLine then .ok (.tup ts) ρ else .bad
  | .lst es => fun ρ => ((evalEs es ρ).bind fun ts ρ => .ok (fzs ts) ρ).bind fun ts ρ => if ts.length ≤ sizeLine then .ok (.lst true ts) ρ else .bad
  | .ix a b => fun ρ => (opdOf a (evalE a) ρ).bind fun x ρ => (opdOf b (evalE b) ρ).bind fun y ρ => op2 ixT x y ρ
  | .sl a lo hi => fun ρ => (opdOf a (evalE a) ρ).bind fun x ρ => (evalOe lo ρ).bind fun l ρ => (evalOe hi ρ).bind fun h ρ => op1 (fun t => slT t l h) x ρ
  | .rev a => fun ρ => (opdOf a (evalE a) ρ).bind fun x ρ => op1 revT x ρ
  | .call f as => fun ρ => (evalAs as ρ).bind fun xs ρ => doCall Φ f xs some ρ
  | .callW f as => fun ρ => (evalAs as ρ).bind fun xs ρ => doCallW Φ f xs ρ
  | .callK _ f src ks => fun ρ => (evalEs ks ρ).bind fun zs ρ => doCallK Φ f src (fzs zs) ρ
  | .b1 b a => fun ρ => (opdOf a (evalE a) ρ).bind fun x ρ => op1 (b1T b) x ρ
  | .b2 b a c => fun ρ => (opdOf a (evalE a) ρ).bind fun x ρ => (opdOf c (evalE c) ρ).bind fun y ρ => op2 (b2T b) x y ρ
  | .isi a ts => fun ρ => (opdOf a (evalE a) ρ).bind fun x ρ => op1 (fun t => (isiT ts t).map .bl) x ρ
  | .lc g it c e own => fun ρ => ((evalIt it ρ).bind fun ts ρ1 => noExc ((compL (bindG g) (evalOc c) (evalE e) own ts [] (kill own ρ1)).bind fun acc ρ2 => .ok (.lst true acc) (putBack own ρ1 ρ2))).bind fun t ρ => .ok (fzI t) ρ
  | .lrng it => fun ρ => (evalIt it ρ).bind fun ts ρ => .ok (.lst true ts) ρ
def evalEs : Es → Env8 → R (List T)
  | .nil => .ok []
  | .cons e es => fun ρ => (evalE e ρ).bind fun t ρ => (evalEs es ρ).bind fun ts ρ => .ok (t :: ts) ρ
  | .star e es => fun ρ => (opdOf e (evalE e) ρ).bind fun x ρ => match x.get ρ with
    | some t => (match starT t with
      | some us => (evalEs es ρ).bind fun ts ρ => .ok (us ++ ts) ρ
      | none => .bad)
    | none => .bad
def evalAs : As → Env8 → R (List Opd)
  | .nil => .ok []
  | .v e as => fun ρ => (evalE e ρ).bind fun t ρ => (evalAs as ρ).bind fun xs ρ => .ok (.vl t :: xs) ρ
  | .r i as => fun ρ => match slot ρ i with
    | some _ => (evalAs as ρ).bind fun xs ρ => .ok (.sl i :: xs) ρ
    | none => .bad
def evalOe : Oe → Env8 → R (Option Int)
  | .no => .ok none
  | .so e => fun ρ => (evalE e ρ).bind fun t ρ => match t with
    | .int i => .ok (some i) ρ
    | _ => .bad
def evalOc : Oc → Env8 → R Bool
  | .no => .ok true
  | .so c => evalC c
def evalC : C → Env8 → R Bool
  | .tr e => fun ρ => (opdOf e (evalE e) ρ).bind fun x ρ => match x.get ρ with
    | some t => ofO (truT t) ρ
    | none => .bad
  | .cmp op a b => fun ρ => (opdOf a (evalE a) ρ).bind fun x ρ => (opdOf b (evalE b) ρ).bind fun y ρ => op2 (cmpT op) x y ρ
  | .chn p q a b c => fun ρ => (opdOf a (evalE a) ρ).bind fun x ρ => (opdOf b (evalE b) ρ).bind fun y ρ => (op2 (cmpT p) x y ρ).bind fun k ρ =>
      if k then (opdOf c (evalE c) ρ).bind fun z ρ => op2 (cmpT q) y z ρ else .ok false ρ
  | .and a b => fun ρ => (evalC a ρ).bind fun k ρ => if k then evalC b ρ else .ok false ρ
  | .or a b => fun ρ => (evalC a ρ).bind fun k ρ => if k then .ok true ρ else evalC b ρ
  | .not a => fun ρ => (evalC a ρ).bind fun k ρ => .ok (!k) ρ
def evalIt : It → Env8 → R (List T)
  | .sq e => fun ρ => (evalE e ρ).bind fun t ρ => ofO (itemsT (fz t)) ρ
  | .r1 a => fun ρ => (evalE a ρ).bind fun t ρ => match t with
    | .int j => if rngOk j then .ok (rngL 0 j.toNat) ρ else .bad
    | _ => .bad
  | .r2 a b => fun ρ => (evalE a ρ).bind fun t ρ => (evalE b ρ).bind fun u ρ => match t, u with
    | .int i, .int j => if rngOk i && rngOk j then .ok (rngL i (j - i).toNat) ρ else .bad
    | _, _ => .bad
  | .r3 a b k => fun ρ => (evalE a ρ).bind fun t ρ => (evalE b ρ).bind fun u ρ => match t, u with
    | .int i, .int j => if rngOk i && rngOk j then .ok (rngD i (i - j).toNat) ρ else .bad
    | _, _ => .bad
  | .en e => fun ρ => (evalE e ρ).bind fun t ρ => ofO ((seqT (fz t)).map (enumT 0)) ρ
  | .zp a b => fun ρ => (evalE a ρ).bind fun t ρ => (evalE b ρ).bind fun u ρ => ofO (zipOk (fz t) (fz u)) ρ
  | .rv e => fun ρ => (evalE e ρ).bind fun t ρ => ofO ((seqT (fz t)).map List.reverse) ρ
  | .rr1 a => fun ρ => (evalE a ρ).bind fun t ρ => match t with
    | .int j => if rngOk j then .ok (rngD (0 + (((j - 0).toNat : Nat) : Int) - 1) (j - 0).toNat) ρ else .bad
    | _ => .bad
  | .rr2 a b => fun ρ => (evalE a ρ).bind fun t ρ => (evalE b ρ).bind fun u ρ => match t, u with
    | .int i, .int j => if rngOk i && rngOk j then .ok (rngL i (j - i).toNat).reverse ρ else .bad
    | _, _ => .bad
end

def forL (g : T → Env8 → Option Env8) (b : Env8 → O) (ks : List Nat) : List T → Env8 → O
  | [], ρ => .nx ρ
  | t :: ts, ρ => match g t ρ with
    | none => .bad
    | some ρ1 => match b ρ1 with
      | .nx ρ2 => forL g b ks ts (kill ks ρ2)
      | .ct ρ2 => forL g b ks ts (kill ks ρ2)
      | .bk ρ2 => .nx (kill ks ρ2)
      | o => o
def whilL (c : Env8 → R Bool) (b : Env8 → O) (ks : List Nat) : Nat → Env8 → O
  | 0, _ => .bad
  | n + 1, ρ => match c ρ with
    | .ok true ρ1 => (match b ρ1 with
      | .nx ρ2 => whilL c b ks n (kill ks ρ2)
      | .ct ρ2 => whilL c b ks n (kill ks ρ2)
      | .bk ρ2 => .nx (kill ks ρ2)
      | o => o)
    | .ok false ρ1 => .nx ρ1
    | .exc x ρ1 => .exc x ρ1
    | .bad => .bad
def FUEL : Nat := 2 ^ 40
def ofR {α : Type} (r : R α) (f : α → Env8 → O) : O := match r with
  | .ok a ρ => f a ρ
  | .exc x ρ => .exc x ρ
  | .bad => .bad
/-- x[k] = t, x held here alone -/
def stepSub (i : Nat) (B : Env8 → R T) (t : T) : Env8 → R Unit := fun ρ => match slot ρ i with
  | some _ => (B ρ).bind fun u ρ => (match slot ρ i, u with
    | some (.lst true xs), .int j => (match ixN xs.length j with
      | some n => (match xs[n]? with
        | some y => if isFz y then .ok () (ρ.set i (some (.lst true (xs.set n t)))) else .bad
        | none => .bad)
      | none => .bad)
    | _, _ => .bad)
  | none => .bad
/-- the fields of an error -/
def hiT (x : Ex8) : HI → Option T
  | .s z => some (.str z)
  | .at_ f => (x.ns.zip x.vs).lookup f
def hiTs (x : Ex8) : List HI → Option (List T)
  | [] => some []
  | h :: r => match hiT x h, hiTs x r with
    | some t, some ts => some (t :: ts)
    | _, _ => none
def clr (i : Option Nat) (ρ : Env8) : Option Env8 := match i with
  | none => some ρ
  | some j => if j < ρ.length then some (ρ.set j none) else none
/-- the handler of a try: what it hands back -/
def hands (c : Nat) (i : Option Nat) (h : List HI) (x : Ex8) (ρ : Env8) : O := if x.c = c then
    match hiTs x h, clr i ρ with
    | some ts, some ρ1 => if ts.length ≤ sizeLine then .rt (.tup ts) ρ1 else .bad
    | _, _ => .bad
  else .bad
def tryO (c : Nat) (i : Option Nat) (h : List HI) (o : O) : O := match o with
  | .exc x ρ => hands c i h x ρ
  | o => o
def tryL (r : CR) (c : Nat) (i : Option Nat) (h : List HI) (o : O) : O := match r with
  | .ok .non [] => tryO c i h o
  | _ => .bad
def raiseO (r : CR) (c : Nat) (f code : Str) (ρ : Env8) : O := match r with
  | .ok .non [] => .exc ⟨c, [f], [.str code]⟩ ρ
  | _ => .bad
mutual
def execS : S → Env8 → O
  | .pass => .nx
  | .expr e => fun ρ => ofR (evalE Φ e ρ) fun _ ρ => .nx ρ
  | .asg g e => fun ρ => ofR (evalE Φ e ρ) fun t ρ => match bindG g t ρ with
    | some ρ1 => .nx ρ1
    | none => .bad
  | .par is es => fun ρ => ofR (evalEs Φ es ρ) fun ts ρ => if ts.length = is.length ∧ is.all (· < ρ.length) = true then .nx (setAll is ts ρ) else .bad
  | .setix i k e => fun ρ => ofR ((evalE Φ e ρ).bind fun t ρ => .ok (fz t) ρ) fun t ρ => match slot ρ i with
    | some _ => ofR (evalE Φ k ρ) fun u ρ => (match slot ρ i, u with
      | some (.lst true xs), .int j => (match ixN xs.length j with
        | some n => (match xs[n]? with
          | some y => if isFz y then .nx (ρ.set i (some (.lst true (xs.set n t)))) else .bad
          | none => .bad)
        | none => .bad)
      | _, _ => .bad)
    | none => .bad
  | .aug op i e => fun ρ => match slot ρ i with
    | some (.int m) => ofR (evalE Φ e ρ) fun t ρ => (match op, t with
      | .Add, .int n => .nx (ρ.set i (some (.int (m + n))))
      | .Sub, .int n => .nx (ρ.set i (some (.int (m - n))))
      | _, _ => .bad)
    | _ => .bad
  | .ifs c a b => fun ρ => ofR (evalC Φ c ρ) fun k ρ => if k then execSs a ρ else execSs b ρ
  | .for_ g it b ks => fun ρ => ofR (evalIt Φ it ρ) fun ts ρ => forL (bindG g) (execSs b) ks ts ρ
  | .whil c b ks => fun ρ => whilL (evalC Φ c) (execSs b) ks FUEL ρ
  | .ret e => fun ρ => ofR (evalE Φ e ρ) fun t ρ => .rt t ρ
  | .retN => fun ρ => .rt .non ρ
  | .brk => .bk
  | .cnt => .ct
  | .dead => fun _ => .bad
  | .raise0 c lv f code => raiseO (Φ lv []) c f code
  | .tryC b c lv i h => fun ρ => tryL (Φ lv []) c i h (execSs b ρ)
  | .set2 i k1 k2 e => fun ρ => ofR ((evalE Φ e ρ).bind fun t ρ => .ok (fz t) ρ) fun t ρ => (match t with
    | .tup [t1, t2] => ofR (stepSub i (evalE Φ k1) t1 ρ) fun _ ρ => ofR (stepSub i (evalE Φ k2) t2 ρ) fun _ ρ => .nx ρ
    | _ => .bad)
  | .app i e => fun ρ => match slot ρ i with
    | some (.lst true _) => ofR ((evalE Φ e ρ).bind fun t ρ => .ok (fz t) ρ) fun t ρ => (match slot ρ i with
      | some (.lst true xs) => if xs.length < sizeLine then .nx (ρ.set i (some (.lst true (xs ++ [t])))) else .bad
      | _ => .bad)
    | _ => .bad
def execSs : Ss → Env8 → O
  | .nil => .nx
  | .cons s ss => fun ρ => match execS s ρ with
    | .nx ρ1 => execSs ss ρ1
    | o => o
end
def backs (io : List Nat) (ρ : Env8) : Option (List T) := match io with
  | [] => some []
  | i :: is => match slot ρ i, backs is ρ with
    | some t, some ts => some (t :: ts)
    | _, _ => none
def runFn (fn : Fn) (args : List T) : CR := if args.length = fn.np then
    match execSs Φ fn.body (args.map some ++ List.replicate (fn.N.length - args.length) none) with
    | .nx ρ => (match backs fn.io ρ with | some bs => .ok .non bs | none => .bad)
    | .rt t ρ => (match backs fn.io ρ with | some bs => .ok t bs | none => .bad)
    | .exc x ρ => (match backs fn.io ρ with | some bs => .exc x bs | none => .bad)
    | _ => .bad
  else .bad
end
def callN (fns : List Fn) : Nat → Nat → List T → CR
  | 0, _, _ => .bad
  | n + 1, f, args => match fns[f]? with
    | some fn => runFn (callN fns n) fn args
    | none => .bad
end FT

end
section
set_option Elab.async false
set_option linter.all false
set_option maxRecDepth 100000
set_option maxHeartbeats 4000000
/-! FTMul: a tuple, not empty, times an int of at most one. -/
namespace FT
open PySem PySem.Spec PyProof.Rows L2
theorem tuple_mul1 (l : Addr) (items : Array Value) (n : Nat) (dd : Option Addr) (sl : Array (Option Value)) (u : Tok) :
    Meets (Builtin.«tuple.__mul__» ⟨[.ref l, .int 1 u], []⟩) (fun _ R s => s.heap.get? l = some { cls := .type "tuple", dict := dd, data := .seq items n, slots := sl } ∧ R (.ok (.ret (Value.ref l))) s) :=
  .of_wp fun prog w A R s h => by
    obtain ⟨hp, g, d, tk, os⟩ := s
    obtain ⟨hl, h⟩ := h
    have f1 := AutoSeq1.idx_int
    have c1 : (items.isEmpty || ((1 : Int) == 1)) = true := by simp
    wp_walk using wpAny_loadPart' hl
    repeat (first
      | (refine wpAny_ite_false (decide_eq_false (by decide)) ?_; wp_walk using wpAny_loadPart' hl)
      | (refine wpAny_ite_true (decide_eq_true c1) ?_; wp_walk using wpAny_loadPart' hl))
    exact ⟨_, rfl, h⟩
theorem tuple_mul0 (l : Addr) (items : Array Value) (n : Nat) (dd : Option Addr) (sl : Array (Option Value)) (x : Int) (u : Tok) (c0 : (decide (x < -(2 ^ 63)) || decide (x ≥ 2 ^ 63)) = false) (c1 : (items.isEmpty || x == 1) = false) (c2 : (decide (x ≤ 0) || items.isEmpty) = true) :
    Meets (Builtin.«tuple.__mul__» ⟨[.ref l, .int x u], []⟩) (fun _ R s => s.heap.get? l = some { cls := .type "tuple", dict := dd, data := .seq items n, slots := sl } ∧
      R (.ok (.ret (Value.ref s.heap.objs.size))) { s with heap := s.heap.push { cls := Value.type "tuple", data := Data.seq #[] }, toks := s.toks }) :=
  .of_wp fun prog w A R s h => by
    obtain ⟨hp, g, d, tk, os⟩ := s
    obtain ⟨hl, h⟩ := h
    have f1 := AutoSeq1.idx_int
    wp_walk using wpAny_loadPart' hl
    repeat (first
      | (refine wpAny_ite_false (decide_eq_false (by rw [c0]; exact Bool.false_ne_true)) ?_; wp_walk using wpAny_loadPart' hl)
      | (refine wpAny_ite_false (decide_eq_false (by rw [c1]; exact Bool.false_ne_true)) ?_; wp_walk using wpAny_loadPart' hl)
      | (refine wpAny_ite_true (decide_eq_true c2) ?_; wp_walk using wpAny_loadPart' hl))
    exact ⟨_, rfl, h⟩
def rRepT1 (K : PySem.W.Frag) : R2 := fun x y H Q => ∃ l k xs, x = .ref l ∧ y = .int k ∧ SqT K H l xs ∧ xs ≠ [] ∧ -(2 ^ 63) ≤ k ∧ k ≤ 1 ∧ (k = 1 → Q (.ref l) H) ∧ (k ≤ 0 → ∀ p, H p = none → Q (.ref p) (upd H p (.tup [])))
theorem op_repT1 {X : Cx} : OpR X (binaryOp .Mult) (rRepT1 X.K) := by
  intro pins s σ H x y v u Q I rx ry h
  obtain ⟨l, k, xs, rfl, rfl, hT, hne, h1, h2, q1, q0⟩ := h
  cases rx
  obtain ⟨t, rfl⟩ := ry
  obtain ⟨its, r, ⟨⟨cls, dd, data, sl⟩, ho, hc, n, hd⟩, hs⟩ := I.tuple hT
  simp only at hc hd
  subst hc hd
  have hle : its.length = xs.length := r.length.symm
  have hn : its ≠ [] := fun e => hne (by
    rw [e] at hle
    exact List.eq_nil_of_length_eq_zero hle.symm)
  have hi : its.toArray.isEmpty = false := by
    cases its with
    | nil => exact absurd rfl hn
    | cons a b => rfl
  refine wpAny_binaryOp_repeat_ref (T := "tuple") (U := "int") (by decide) ⟨_, ho, rfl⟩ (fun s' => typeIs_int s' k t) noFill_tuple_mul F.fills_int_mul F.slot_int_rmul repeat_tuple F.slot_int_index.lookup
    (call_meets F.slot_int_rmul (typeIs_int s k t) F.entry_int_rmul (F.args_int_rmul_2 _ _) (int_rmul_tuple k t l its.toArray n dd sl)
      ⟨ho, rfl, ⟨_, ho, rfl⟩, ?_⟩)
  by_cases hk : k = 1
  · subst hk
    exact call_meets F.slot_tuple_mul ⟨_, ho, rfl⟩ F.entry_tuple_mul (F.args_tuple_mul_2 _ _) (tuple_mul1 l its.toArray n dd sl t) ⟨ho, ⟨.ref l, H, I, rfl, q1 rfl⟩⟩
  · have hk0 : k ≤ 0 := by omega
    have c0 : (decide (k < -(2 ^ 63)) || decide (k ≥ 2 ^ 63)) = false := by
      rw [decide_eq_false (by omega), decide_eq_false (by omega)] <;> rfl
    have c1 : (its.toArray.isEmpty || k == 1) = false := by
      rw [hi, Bool.false_or]
      exact beq_eq_false_iff_ne.mpr hk
    have c2 : (decide (k ≤ 0) || its.toArray.isEmpty) = true := by
      rw [decide_eq_true hk0]; rfl
    refine call_meets F.slot_tuple_mul ⟨_, ho, rfl⟩ F.entry_tuple_mul (F.args_tuple_mul_2 _ _) (tuple_mul0 l its.toArray n dd sl k t c0 c1 c2) ⟨ho, ?_⟩
    refine ⟨.ref s.heap.objs.size, _, I.laid (t' := s.toks) (o := .tup []) (fun b ob q => Heap.get?_push_of_some _ q) (Nat.le_refl _) ?_, rfl, q0 hk0 _ (I.hok.fresh (Nat.le_refl _))⟩
    exact ⟨Nat.zero_le _, _, .nil, IsTup.new _ _⟩
end FT

end
section
set_option Elab.async false
set_option linter.all false
set_option maxRecDepth 100000
set_option maxHeartbeats 4000000
/-! FTPrim: the layer's rules give what the trees' operations say. -/
namespace FT
open PySem PySem.Spec PyProof.Rows L2
section
variable {K : PySem.W.Frag} {cn : Nat → Addr} {H H' : Hp} {D D' : List Addr} {σ : St8}
abbrev relV (K : PySem.W.Frag) (cn : Nat → Addr) : Rel T V := fun _ H D v t Lv => Rep K cn H D v t Lv
abbrev relB : Rel Bool V := fun _ _ _ v b Lv => v = .bl b ∧ Lv = []
def Pr2 {α : Type} (K : PySem.W.Frag) (cn : Nat → Addr) (rel : Rel α V) (f : T → T → Option α) (r : R2) : Prop :=
  ∀ σ H D v w s t u Ls Lt Q, Rep K cn H D v s Ls → Rep K cn H D w t Lt → f s t = some u → Fin8 rel σ H D u Q → r v w H Q
def Pr1 {α : Type} (K : PySem.W.Frag) (cn : Nat → Addr) (rel : Rel α V) (f : T → Option α) (r : V → Hp → VK → Prop) : Prop :=
  ∀ σ H D v s u Ls Q, Rep K cn H D v s Ls → f s = some u → Fin8 rel σ H D u Q → r v H Q
theorem Rep.nil_of {v : V} {t : T} {L : List Addr} (r : Rep K cn H D v t L) (hF : ∀ c o, hide H D c = some o → hide H' D' c = some o) (h : isFz t = true) : Rep K cn H' D' v t [] := (r.nilL h).mono hF fun _ z => nomatch z
theorem Reps.nil_of {v : List V} {t : List T} {L : List Addr} (r : Reps K cn H D v t L) (hF : ∀ c o, hide H D c = some o → hide H' D' c = some o) (h : isFzs t = true) : Reps K cn H' D' v t [] := (r.nilL h).mono hF fun _ z => nomatch z
/-- a list's own object -/
theorem Rep.lst_at {v : V} {o : Bool} {ts : List T} {L : List Addr} (r : Rep K cn H D v (.lst o ts) L) : ∃ a vs L', v = .ref a ∧ H a = some (.lst vs) ∧ Reps K cn H D vs ts L' := by
  cases r with
  | lstF h r => exact ⟨_, _, _, rfl, hide_sub h, r⟩
  | lstO m h r => exact ⟨_, _, _, rfl, h, r⟩
theorem Rep.tup_at {v : V} {ts : List T} {L : List Addr} (r : Rep K cn H D v (.tup ts) L) : ∃ a vs, v = .ref a ∧ SqT K (hide H D) a vs ∧ Reps K cn H D vs ts L := by
  cases r with
  | tup h r => exact ⟨_, _, rfl, h, r⟩

/-! ### operators -/
def rAddS : R2 := fun x y H Q => ∃ i j, x = .str i ∧ y = .str j ∧ i.length + j.length ≤ sizeLine ∧ Q (.str (i ++ j)) H
def rAdd8 (K : PySem.W.Frag) : R2 := fun x y H Q => rI0 (fun i j => .int (i + j)) x y H Q ∨ (rAddS x y H Q ∨ (rCatA K x y H Q ∨ rCat x y H Q))
theorem op_add8 {X : Cx} : OpR X (binaryOp .Add) (rAdd8 X.K) := op_add.or (op_add_str.or (op_catA.or op_cat))
theorem pr_add : Pr2 K cn (relV K cn) addT (rAdd8 K) := by
  intro σ H D v w s t u Ls Lt Q rs rt h F
  cases s with
  | int i => cases t with
    | int j =>
      cases rs; cases rt; cases h
      exact .inl ⟨i, j, rfl, rfl, F.old _ fun D' _ => .int _⟩
    | _ => cases h
  | str x => cases t with
    | str y =>
      cases rs; cases rt
      simp only [addT] at h
      split at h
      · rename_i hl
        cases h
        exact .inr (.inl ⟨x, y, rfl, rfl, hl, F.old _ fun D' _ => .str _⟩)
      · cases h
    | _ => cases h
  | tup xs => cases t with
    | tup ys =>
      simp only [addT] at h
      split at h
      · rename_i hl
        obtain ⟨z1, z2, z3⟩ := hl
        cases h
        obtain ⟨a, vs, rfl, ha, ra⟩ := rs.tup_at
        obtain ⟨b, ws, rfl, hb, rb⟩ := rt.tup_at
        have l1 := ra.length
        have l2 := rb.length
        have ra' := ra.nilL z1
        have rb' := rb.nilL z2
        refine .inr (.inr (.inl ⟨a, b, vs, ws, rfl, rfl, (unhT ha), (unhT hb), by omega, fun e => ?_, fun _ e => ?_, fun _ _ p hp => ?_⟩))
        · subst e
          have e : xs = [] := List.length_eq_zero_iff.mp l1.symm
          subst e
          exact F.old _ fun D' hF => .tup (sqT_mono hF hb) (rb.nil_of hF z2)
        · subst e
          have e : ys = [] := List.length_eq_zero_iff.mp l2.symm
          subst e
          rw [List.append_nil] at F
          exact F.old _ fun D' hF => .tup (sqT_mono hF ha) (ra.nil_of hF z1)
        · exact F.new p _ hp fun D' hF hh => .tup (.inl (.inl hh)) ((ra'.append rb').mono hF fun _ z => nomatch z)
      · cases h
    | _ => cases h
  | lst o xs => cases t with
    | lst o' ys =>
      simp only [addT] at h
      split at h
      · rename_i hl
        obtain ⟨z1, z2, z3⟩ := hl
        cases h
        obtain ⟨a, vs, L1, rfl, ha, ra⟩ := rs.lst_at
        obtain ⟨b, ws, L2', rfl, hb, rb⟩ := rt.lst_at
        have l1 := ra.length
        have l2 := rb.length
        exact .inr (.inr (.inr ⟨a, b, vs, ws, rfl, rfl, ha, hb, by omega, fun p hp => F.own p _ hp fun D' m hF => .lstO m upd_same (((ra.nilL z1).append (rb.nilL z2)).mono hF fun _ z => nomatch z)⟩))
      · cases h
    | _ => cases h
  | _ => cases t <;> cases h
theorem pr_sub : Pr2 K cn (relV K cn) subT (rI0 fun i j => .int (i - j)) := by
  intro σ H D v w s t u Ls Lt Q rs rt h F
  cases s with
  | int i => cases t with
    | int j =>
      cases rs; cases rt; cases h
      exact ⟨i, j, rfl, rfl, F.old _ fun D' _ => .int _⟩
    | _ => cases h
  | _ => cases t <;> cases h
def rMul8 (K : PySem.W.Frag) : R2 := fun x y H Q => rI CMul (fun i j => .int (i * j)) x y H Q ∨ (rI CMulW (fun i j => .int (i * j)) x y H Q ∨ (rRep x y H Q ∨ (rRepT K x y H Q ∨ rRepT1 K x y H Q)))
theorem op_mul8 {X : Cx} : OpR X (binaryOp .Mult) (rMul8 X.K) := op_mul.or (op_mulW.or (op_rep.or (op_repT.or op_repT1)))
theorem Reps.repl {vs : List V} {ts : List T} (r : Reps K cn H D vs ts []) : ∀ n, Reps K cn H D (List.replicate n vs).flatten (List.replicate n ts).flatten []
  | 0 => .nil
  | n + 1 => by
    rw [List.replicate_succ, List.replicate_succ, List.flatten_cons, List.flatten_cons]
    exact Reps.append (L := []) (L' := []) r (Reps.repl r n)
theorem pr_mul : Pr2 K cn (relV K cn) mulT (rMul8 K) := by
  intro σ H D v w s t u Ls Lt Q rs rt h F
  cases s with
  | int i => cases t with
    | int j =>
      cases rs; cases rt
      simp only [mulT] at h
      split at h
      · rename_i hm
        cases h
        have q := F.old _ fun D' _ => .int _
        unfold mulOk at hm
        simp only [Bool.or_eq_true, Bool.and_eq_true, decide_eq_true_eq] at hm
        rcases hm with hm | hm | hm
        · exact .inl ⟨i, j, rfl, rfl, .inl hm, q⟩
        · exact .inl ⟨i, j, rfl, rfl, .inr hm, q⟩
        · exact .inr (.inl ⟨i, j, rfl, rfl, hm, q⟩)
      · cases h
    | _ => cases h
  | lst o xs => cases t with
    | int k =>
      simp only [mulT] at h
      split at h
      · rename_i hl
        obtain ⟨z1, z2, z3, z4⟩ := hl
        cases h
        cases rt
        obtain ⟨a, vs, L1, rfl, ha, ra⟩ := rs.lst_at
        have l1 := ra.length
        exact .inr (.inr (.inl ⟨a, k, vs, rfl, rfl, ha, z2, z3, by rw [l1]; exact z4, fun p hp => F.own p _ hp fun D' m hF => .lstO m upd_same (((ra.nilL z1).repl _).mono hF fun _ z => nomatch z)⟩))
      · cases h
    | _ => cases h
  | tup xs => cases t with
    | int k =>
      simp only [mulT] at h
      split at h
      · rename_i hl
        obtain ⟨z1, z2, z3, z4, z5⟩ := hl
        cases h
        cases rt
        obtain ⟨a, vs, rfl, ha, ra⟩ := rs.tup_at
        have l1 := ra.length
        have hne : vs ≠ [] := fun e => z2 (by subst e; exact List.length_eq_zero_iff.mp l1.symm)
        by_cases hk : 2 ≤ k
        · exact .inr (.inr (.inr (.inl ⟨a, k, vs, rfl, rfl, (unhT ha), hne, hk, z4, by omega, fun p hp => F.new p _ hp fun D' hF hh => .tup (.inl (.inl hh)) (((ra.nilL z1).repl _).mono hF fun _ z => nomatch z)⟩)))
        · refine .inr (.inr (.inr (.inr ⟨a, k, vs, rfl, rfl, (unhT ha), hne, z3, by omega, fun e => F.old _ fun D' hF => ?_, fun e p hp => F.new p _ hp fun D' hF hh => ?_⟩)))
          · subst e
            have e2 : (List.replicate (1 : Int).toNat xs).flatten = xs := by simp
            rw [e2]
            exact .tup (sqT_mono hF ha) ((ra.nilL z1).mono hF fun _ z => nomatch z)
          · have e2 : (List.replicate k.toNat xs).flatten = [] := by
              have : k.toNat = 0 := by omega
              rw [this]; rfl
            rw [e2]
            exact .tup (.inl (.inl hh)) .nil
      · cases h
    | _ => cases h
  | _ => cases t <;> cases h
theorem pr_mod : Pr2 K cn (relV K cn) modT (rI (fun _ j => 0 < j) fun i j => .int (i % j)) := by
  intro σ H D v w s t u Ls Lt Q rs rt h F
  cases s with
  | int i => cases t with
    | int j =>
      cases rs; cases rt
      simp only [modT] at h
      split at h
      · rename_i hm
        cases h
        exact ⟨i, j, rfl, rfl, hm, F.old _ fun D' _ => .int _⟩
      · cases h
    | _ => cases h
  | _ => cases t <;> cases h
theorem pr_fdv : Pr2 K cn (relV K cn) fdvT (rI CDivW fun i j => .int (i / j)) := by
  intro σ H D v w s t u Ls Lt Q rs rt h F
  cases s with
  | int i => cases t with
    | int j =>
      cases rs; cases rt
      simp only [fdvT] at h
      split at h
      · rename_i hm
        cases h
        exact ⟨i, j, rfl, rfl, hm, F.old _ fun D' _ => .int _⟩
      · cases h
    | _ => cases h
  | _ => cases t <;> cases h
theorem pr_pow : Pr2 K cn (relV K cn) powT (rI CPow fun i j => .int (i ^ j.toNat)) := by
  intro σ H D v w s t u Ls Lt Q rs rt h F
  cases s with
  | int i => cases t with
    | int j =>
      cases rs; cases rt
      simp only [powT] at h
      split at h
      · rename_i hm
        cases h
        exact ⟨i, j, rfl, rfl, hm, F.old _ fun D' _ => .int _⟩
      · cases h
    | _ => cases h
  | _ => cases t <;> cases h
/-- the rule of an operator -/
def rBin (K : PySem.W.Frag) : Operator → R2
  | .Add => rAdd8 K
  | .Sub => rI0 fun i j => .int (i - j)
  | .Mult => rMul8 K
  | .Mod => rI (fun _ j => 0 < j) fun i j => .int (i % j)
  | .FloorDiv => rI CDivW fun i j => .int (i / j)
  | .Pow => rI CPow fun i j => .int (i ^ j.toNat)
  | _ => fun _ _ _ _ => False
theorem op_bin {X : Cx} (op : Operator) : OpR X (binaryOp op) (rBin X.K op) := by
  cases op
  case Add => exact op_add8
  case Sub => exact op_sub
  case Mult => exact op_mul8
  case Mod => exact op_mod
  case FloorDiv => exact op_fdivW
  case Pow => exact op_pow
  all_goals exact fun _ _ _ _ _ _ _ _ _ _ _ _ h => h.elim
theorem pr_bin (op : Operator) : Pr2 K cn (relV K cn) (binT op) (rBin K op) := by
  cases op
  case Add => exact pr_add
  case Sub => exact pr_sub
  case Mult => exact pr_mul
  case Mod => exact pr_mod
  case FloorDiv => exact pr_fdv
  case Pow => exact pr_pow
  all_goals exact fun _ _ _ _ _ _ _ _ _ _ _ _ _ h => nomatch h

/-! ### comparisons -/
mutual
theorem Rep.dp : ∀ {t : T} {v : V} {L : List Addr} {d : PyData}, Rep K cn H D v t L → toD t = some d → Dp K H v d
  | .non, _, _, _, r, h => by cases r; cases h; exact .non
  | .bl _, _, _, _, r, h => by cases r; cases h; exact .bl _
  | .int _, _, _, _, r, h => by cases r; cases h; exact .int _
  | .str _, _, _, _, r, h => by cases r; cases h; exact .str _
  | .tup xs, _, _, _, r, h => by
    unfold toD at h
    cases e : toDs xs with
    | none => rw [e] at h; cases h
    | some ds =>
      rw [e] at h; cases h
      obtain ⟨a, vs, rfl, ha, ra⟩ := r.tup_at
      exact .tup (unhT ha) (ra.dp e)
  | .lst o xs, _, _, _, r, h => by
    unfold toD at h
    cases e : toDs xs with
    | none => rw [e] at h; cases h
    | some ds =>
      rw [e] at h; cases h
      obtain ⟨a, vs, L', rfl, ha, ra⟩ := r.lst_at
      exact .lst (.inl (.inl ha)) (ra.dp e)
  | .ty _, _, _, _, _, h => by cases h
  | .slst _, _, _, _, _, h => by cases h
  | .ins _ _ _ _, _, _, _, _, h => by cases h
  | .exv _, _, _, _, _, h => by cases h
theorem Reps.dp : ∀ {ts : List T} {vs : List V} {L : List Addr} {ds : List PyData}, Reps K cn H D vs ts L → toDs ts = some ds → DpAll K H vs ds
  | [], _, _, _, r, h => by cases r; cases h; exact .nil
  | t :: ts, _, _, _, r, h => by
    unfold toDs at h
    split at h
    · rename_i d ds e1 e2
      cases h
      cases r with
      | cons r1 r2 => exact .cons (r1.dp e1) (r2.dp e2)
    · cases h
end
theorem pr_eq : Pr2 K cn relB eqT (rEqD K) := by
  intro σ H D v w s t u Ls Lt Q rs rt h F
  unfold eqT at h
  split at h
  · rename_i d e e1 e2
    split at h
    · rename_i hs
      cases h
      simp only [Bool.and_eq_true] at hs
      exact ⟨d, e, rs.dp e1, rt.dp e2, hs.1, hs.2, F.old _ fun _ _ => ⟨rfl, rfl⟩⟩
    · cases h
  · cases h
theorem map_some {α β : Type} {o : Option α} {f : α → β} {b : β} (h : o.map f = some b) : ∃ a, o = some a ∧ f a = b := by
  cases o with
  | none => cases h
  | some a => exact ⟨a, rfl, by cases h; rfl⟩
theorem pr_ne : Pr2 K cn relB (fun x y => (eqT x y).map (!·)) (rNeD K) := by
  intro σ H D v w s t u Ls Lt Q rs rt h F
  replace h := map_some h
  obtain ⟨b, h, e'⟩ := h
  subst e'
  unfold eqT at h
  split at h
  · rename_i d e e1 e2
    split at h
    · rename_i hs
      cases h
      simp only [Bool.and_eq_true] at hs
      exact ⟨d, e, rs.dp e1, rt.dp e2, hs.1, hs.2, F.old _ fun _ _ => ⟨rfl, rfl⟩⟩
    · cases h
  · cases h
theorem pr_lt : Pr2 K cn relB ltT (rI0 fun i j => .bl (decide (i < j))) := by
  intro σ H D v w s t u Ls Lt Q rs rt h F
  cases s with
  | int i => cases t with
    | int j => cases rs; cases rt; cases h; exact ⟨i, j, rfl, rfl, F.old _ fun D' _ => ⟨rfl, rfl⟩⟩
    | _ => cases h
  | _ => cases t <;> cases h
theorem pr_le : Pr2 K cn relB leT (rI0 fun i j => .bl (decide (i ≤ j))) := by
  intro σ H D v w s t u Ls Lt Q rs rt h F
  cases s with
  | int i => cases t with
    | int j => cases rs; cases rt; cases h; exact ⟨i, j, rfl, rfl, F.old _ fun D' _ => ⟨rfl, rfl⟩⟩
    | _ => cases h
  | _ => cases t <;> cases h
theorem pr_gt : Pr2 K cn relB (fun x y => ltT y x) (rI0 fun i j => .bl (decide (j < i))) := by
  intro σ H D v w s t u Ls Lt Q rs rt h F
  cases s with
  | int i => cases t with
    | int j => cases rs; cases rt; cases h; exact ⟨i, j, rfl, rfl, F.old _ fun D' _ => ⟨rfl, rfl⟩⟩
    | _ => cases h
  | _ => cases t <;> cases h
theorem pr_ge : Pr2 K cn relB (fun x y => leT y x) (rI0 fun i j => .bl (decide (j ≤ i))) := by
  intro σ H D v w s t u Ls Lt Q rs rt h F
  cases s with
  | int i => cases t with
    | int j => cases rs; cases rt; cases h; exact ⟨i, j, rfl, rfl, F.old _ fun D' _ => ⟨rfl, rfl⟩⟩
    | _ => cases h
  | _ => cases t <;> cases h
def rIsN8 : R2 := fun x y H Q => (y = .non ∧ Q (.bl (decide (x = .non))) H) ∨ rIsB x y H Q
def rNotN8 : R2 := fun x y H Q => (y = .non ∧ Q (.bl (!decide (x = .non))) H) ∨ rNotB x y H Q
theorem Rep.non_iff {v : V} {t : T} {L : List Addr} (r : Rep K cn H D v t L) : (v = .non) ↔ (t = .non) := by
  cases r <;> simp
theorem isT_non (t : T) (b : Bool) (h : isT t .non = some b) (v : V) (L : List Addr) (r : Rep K cn H D v t L) : decide (v = .non) = b := by
  cases r <;> (cases h; rfl)
theorem isT_cases {s t : T} {b : Bool} (h : isT s t = some b) : t = .non ∨ ∃ p q, s = .bl p ∧ t = .bl q ∧ b = decide (p = q) := by
  cases t with
  | non => exact .inl rfl
  | bl q => cases s with
    | bl p => cases h; exact .inr ⟨p, q, rfl, rfl, rfl⟩
    | _ => cases h
  | _ => cases s <;> cases h
theorem pr_is : Pr2 K cn relB isT rIsN8 := by
  intro σ H D v w s t u Ls Lt Q rs rt h F
  rcases isT_cases h with e | ⟨p, q, e1, e2, e3⟩
  · subst e
    cases rt
    exact .inl ⟨rfl, by rw [isT_non s u h v Ls rs]; exact F.old _ fun _ _ => ⟨rfl, rfl⟩⟩
  · subst e1 e2 e3
    cases rs; cases rt
    exact .inr ⟨p, q, rfl, rfl, F.old _ fun _ _ => ⟨rfl, rfl⟩⟩
theorem pr_isnot : Pr2 K cn relB (fun x y => (isT x y).map (!·)) rNotN8 := by
  intro σ H D v w s t u Ls Lt Q rs rt h F
  replace h := map_some h
  obtain ⟨b, h, e'⟩ := h
  subst e'
  rcases isT_cases h with e | ⟨p, q, e1, e2, e3⟩
  · subst e
    cases rt
    exact .inl ⟨rfl, by rw [isT_non s b h v Ls rs]; exact F.old _ fun _ _ => ⟨rfl, rfl⟩⟩
  · subst e1 e2 e3
    cases rs; cases rt
    exact .inr ⟨p, q, rfl, rfl, F.old _ fun _ _ => ⟨rfl, rfl⟩⟩
theorem Rep.flat {v : V} {t : T} {L : List Addr} (r : Rep K cn H D v t L) (h : flatT t = true) : v = flV t ∧ flatV v = true := by
  cases r <;> first | exact ⟨rfl, rfl⟩ | cases h
theorem Reps.flat : ∀ {vs : List V} {ts : List T} {L : List Addr}, Reps K cn H D vs ts L → ts.all flatT = true → vs = ts.map flV ∧ vs.all flatV = true
  | _, _, _, .nil, _ => ⟨rfl, rfl⟩
  | _, _, _, .cons r rr, h => by
    rw [List.all_cons, Bool.and_eq_true] at h
    obtain ⟨e1, f1⟩ := r.flat h.1
    obtain ⟨e2, f2⟩ := rr.flat h.2
    exact ⟨by rw [e1, e2]; rfl, by rw [List.all_cons, f1, f2]; rfl⟩
def rInS : R2 := fun x y H Q => ∃ i j, x = .str i ∧ y = .str j ∧ Q (.bl (!(Builtin.Str.occurrences j i 0 j.length 1).isEmpty)) H
def rNotInS : R2 := fun x y H Q => ∃ i j, x = .str i ∧ y = .str j ∧ Q (.bl (!(!(Builtin.Str.occurrences j i 0 j.length 1).isEmpty))) H
theorem memT_cases {s t : T} {b : Bool} (h : memT s t = some b) : (∃ x y, s = .str x ∧ t = .str y ∧ b = !(Builtin.Str.occurrences y x 0 y.length 1).isEmpty) ∨
    ∃ xs, ((∃ o, t = .lst o xs) ∨ t = .tup xs) ∧ flatT s = true ∧ xs.all flatT = true ∧ b = inV (flV s) (xs.map flV) := by
  have key : ∀ xs, inT s xs = some b → flatT s = true ∧ xs.all flatT = true ∧ b = inV (flV s) (xs.map flV) := fun xs h => by
    unfold inT at h
    split at h
    · rename_i hh
      rw [Bool.and_eq_true] at hh
      cases h
      exact ⟨hh.1, hh.2, rfl⟩
    · cases h
  cases t with
  | str y => cases s with
    | str x => cases h; exact .inl ⟨x, y, rfl, rfl, rfl⟩
    | _ => cases h
  | lst o xs =>
    have h' : inT s xs = some b := by cases s <;> exact h
    obtain ⟨a, c, d⟩ := key xs h'
    exact .inr ⟨xs, .inl ⟨o, rfl⟩, a, c, d⟩
  | tup xs =>
    have h' : inT s xs = some b := by cases s <;> exact h
    obtain ⟨a, c, d⟩ := key xs h'
    exact .inr ⟨xs, .inr rfl, a, c, d⟩
  | _ => cases s <;> cases h
theorem mem_core {neg : Bool} {v w : V} {s t : T} {Ls Lt : List Addr} {Q : VK} {xs : List T} (rs : Rep K cn H D v s Ls) (rt : Rep K cn H D w t Lt) (ht : (∃ o, t = .lst o xs) ∨ t = .tup xs) (h1 : flatT s = true) (h2 : xs.all flatT = true)
    (q : Q (.bl (if neg then !inV (flV s) (xs.map flV) else inV (flV s) (xs.map flV))) H) : rIn K neg v w H Q := by
  obtain ⟨e1, f1⟩ := rs.flat h1
  rcases ht with ⟨o, rfl⟩ | rfl
  · obtain ⟨a, vs, L', rfl, ha, ra⟩ := rt.lst_at
    obtain ⟨e2, f2⟩ := ra.flat h2
    exact ⟨a, vs, rfl, .inl (.inl (.inl ha)), f1, f2, by rw [e1, e2]; exact q⟩
  · obtain ⟨a, vs, rfl, ha, ra⟩ := rt.tup_at
    obtain ⟨e2, f2⟩ := ra.flat h2
    exact ⟨a, vs, rfl, .inr (unhT ha), f1, f2, by rw [e1, e2]; exact q⟩
theorem pr_in : Pr2 K cn relB memT (fun x y H Q => rInS x y H Q ∨ rIn K false x y H Q) := by
  intro σ H D v w s t u Ls Lt Q rs rt h F
  rcases memT_cases h with ⟨x, y, rfl, rfl, rfl⟩ | ⟨xs, ht, h1, h2, rfl⟩
  · cases rs; cases rt
    exact .inl ⟨x, y, rfl, rfl, F.old _ fun _ _ => ⟨rfl, rfl⟩⟩
  · exact .inr (mem_core rs rt ht h1 h2 (F.old _ fun _ _ => ⟨rfl, rfl⟩))
theorem pr_notin : Pr2 K cn relB (fun x y => (memT x y).map (!·)) (fun x y H Q => rNotInS x y H Q ∨ rIn K true x y H Q) := by
  intro σ H D v w s t u Ls Lt Q rs rt h F
  replace h := map_some h
  obtain ⟨b, h, e'⟩ := h
  subst e'
  rcases memT_cases h with ⟨x, y, rfl, rfl, rfl⟩ | ⟨xs, ht, h1, h2, rfl⟩
  · cases rs; cases rt
    exact .inl ⟨x, y, rfl, rfl, F.old _ fun _ _ => ⟨rfl, rfl⟩⟩
  · exact .inr (mem_core rs rt ht h1 h2 (F.old _ fun _ _ => ⟨rfl, rfl⟩))
def rCmp (K : PySem.W.Frag) : CmpOp → R2
  | .Eq => rEqD K
  | .NotEq => rNeD K
  | .Lt => rI0 fun i j => .bl (decide (i < j))
  | .LtE => rI0 fun i j => .bl (decide (i ≤ j))
  | .Gt => rI0 fun i j => .bl (decide (j < i))
  | .GtE => rI0 fun i j => .bl (decide (j ≤ i))
  | .Is => rIsN8
  | .IsNot => rNotN8
  | .In => fun x y H Q => rInS x y H Q ∨ rIn K false x y H Q
  | .NotIn => fun x y H Q => rNotInS x y H Q ∨ rIn K true x y H Q
theorem op_cmp {X : Cx} (hu : X.A.units + 64 < cLine) (op : CmpOp) : OpR X (compareOp op) (rCmp X.K op) := by
  cases op
  case Eq => exact op_eqD hu
  case NotEq => exact op_neD hu
  case Lt => exact op_lt
  case LtE => exact op_le
  case Gt => exact op_gt
  case GtE => exact op_ge
  case Is => exact op_isN.or op_isBl
  case IsNot => exact op_notN.or op_notBl
  case In => exact op_in_str.or op_in_seq
  case NotIn => exact L2.op_notin_str.or op_notIn_seq
theorem pr_cmp (op : CmpOp) : Pr2 K cn relB (cmpT op) (rCmp K op) := by
  cases op
  case Eq => exact pr_eq
  case NotEq => exact pr_ne
  case Lt => exact pr_lt
  case LtE => exact pr_le
  case Gt => exact pr_gt
  case GtE => exact pr_ge
  case Is => exact pr_is
  case IsNot => exact pr_isnot
  case In => exact pr_in
  case NotIn => exact pr_notin
end
end FT

end
section
set_option Elab.async false
set_option linter.all false
set_option maxRecDepth 100000
set_option maxHeartbeats 4000000
/-! FTPrim2: truth, subscripts, slices, built-in functions. -/
namespace FT
open PySem PySem.Spec PyProof.Rows L2
section
variable {K : PySem.W.Frag} {cn : Nat → Addr} {H H' : Hp} {D D' : List Addr} {σ : St8}
theorem Rep.slst_at {v : V} {ts : List T} {L : List Addr} (r : Rep K cn H D v (.slst ts) L) : ∃ a vs, v = .ref a ∧ SqL K (hide H D) a vs ∧ Reps K cn H D vs ts [] := by
  cases r with
  | slst h r => exact ⟨_, _, rfl, h, r⟩
theorem isE_len {α β : Type} {xs : List α} {ys : List β} (h : xs.length = ys.length) : xs.isEmpty = ys.isEmpty := by
  cases xs <;> cases ys <;> first | rfl | cases h
theorem Rep.truth {v : V} {t : T} {L : List Addr} {k : Bool} (r : Rep K cn H D v t L) (h : truT t = some k) : TruV K v H k := by
  cases t with
  | non => cases r; cases h; exact (rfl : false = false)
  | bl b => cases r; cases h; exact (rfl : k = k)
  | int i => cases r; cases h; exact (rfl : (i != 0) = (i != 0))
  | str y =>
    cases r
    simp only [truT] at h
    split at h
    · rename_i hl; cases h; exact ⟨hl, rfl⟩
    · cases h
  | tup xs =>
    cases h
    obtain ⟨a, vs, rfl, ha, ra⟩ := r.tup_at
    exact .inr (.inl ⟨vs, unhT ha, by rw [isE_len ra.length]⟩)
  | lst o xs =>
    cases h
    obtain ⟨a, vs, L', rfl, ha, ra⟩ := r.lst_at
    exact .inl ⟨vs, .inl (.inl ha), by rw [isE_len ra.length]⟩
  | _ => cases h
theorem Reps.atI {vs : List V} {ts : List T} {L : List Addr} {i : Int} {t : T} (r : Reps K cn H D vs ts L) (h : L2.atI ts i = some t) (hz : isFz t = true) : ∃ v, L2.atI vs i = some v ∧ Rep K cn H D v t [] := by
  unfold L2.atI at h ⊢
  rw [r.length]
  cases e : ixN ts.length i with
  | none => rw [e] at h; cases h
  | some j =>
    rw [e] at h
    obtain ⟨v, L1, e1, r1, _⟩ := r.get (show ts[j]? = some t from h)
    exact ⟨v, e1, r1.nilL hz⟩
theorem pickT_some {o : Option T} {u : T} (h : pickT o = some u) : o = some u ∧ isFz u = true := by
  cases o with
  | none => cases h
  | some t =>
    simp only [pickT] at h
    split at h
    · cases h; exact ⟨rfl, by assumption⟩
    · cases h
theorem pr_ix : Pr2 K cn (relV K cn) ixT (rIx K) := by
  intro σ H D v w s t u Ls Lt Q rs rt h F
  cases t with
  | int i =>
    cases rt
    cases s with
    | tup xs =>
      obtain ⟨h, hz⟩ := pickT_some (show pickT (L2.atI xs i) = some u from h)
      obtain ⟨a, vs, rfl, ha, ra⟩ := rs.tup_at
      obtain ⟨v, e, r⟩ := ra.atI h hz
      exact .inr (.inl ⟨a, vs, i, v, rfl, rfl, unhT ha, e, F.old _ fun D' hF => r.mono hF fun _ z => nomatch z⟩)
    | lst o xs =>
      obtain ⟨h, hz⟩ := pickT_some (show pickT (L2.atI xs i) = some u from h)
      obtain ⟨a, vs, L', rfl, ha, ra⟩ := rs.lst_at
      obtain ⟨v, e, r⟩ := ra.atI h hz
      exact .inl ⟨a, vs, i, v, rfl, rfl, .inl (.inl ha), e, F.old _ fun D' hF => r.mono hF fun _ z => nomatch z⟩
    | slst xs =>
      obtain ⟨h, hz⟩ := pickT_some (show pickT (L2.atI xs i) = some u from h)
      obtain ⟨a, vs, rfl, ha, ra⟩ := rs.slst_at
      obtain ⟨v, e, r⟩ := ra.atI h hz
      exact .inl ⟨a, vs, i, v, rfl, rfl, unhL ha, e, F.old _ fun D' hF => r.mono hF fun _ z => nomatch z⟩
    | str z =>
      cases rs
      simp only [ixT] at h
      split at h
      · rename_i hl
        obtain ⟨c, e, rfl⟩ := map_some h
        exact .inr (.inr ⟨z, i, c, rfl, rfl, hl, e, F.old _ fun D' hF => .str _⟩)
      · cases h
    | _ => cases h
  | _ => cases s <;> cases h
/-! ### slices -/
def rSl8 (K : PySem.W.Frag) : V → Option Int → Option Int → Hp → VK → Prop := fun x lo hi H Q => rSlA K x lo hi H Q ∨ (rSlL K x lo hi H Q ∨ rSlS x lo hi H Q)
theorem sl8 {X : Cx} : SlR X (rSl8 X.K) := sl_tupA.or (sl_list.or sl_str)
theorem Reps.cons_inv {v : V} {vs : List V} {t : T} {ts : List T} {L : List Addr} (r : Reps K cn H D (v :: vs) (t :: ts) L) : ∃ L1 L', L = L1 ++ L' ∧ Rep K cn H D v t L1 ∧ Reps K cn H D vs ts L' := by
  cases r with
  | cons r1 r2 => exact ⟨_, _, rfl, r1, r2⟩
theorem Reps.drop {vs : List V} {ts : List T} : ∀ (n : Nat) {vs : List V} {ts : List T}, Reps K cn H D vs ts [] → isFzs ts = true → Reps K cn H D (vs.drop n) (ts.drop n) []
  | 0, _, _, r, _ => r
  | n + 1, [], [], r, _ => .nil
  | n + 1, [], _ :: _, r, _ => nomatch r.length
  | n + 1, _ :: _, [], r, _ => nomatch r.length
  | n + 1, v :: vs, t :: ts, r, h => by
    unfold isFzs at h
    rw [Bool.and_eq_true] at h
    obtain ⟨_, _, _, r1, r2⟩ := r.cons_inv
    exact Reps.drop (vs := []) (ts := []) n (r2.nilL h.2) h.2
theorem Reps.take {vs : List V} {ts : List T} : ∀ (n : Nat) {vs : List V} {ts : List T}, Reps K cn H D vs ts [] → isFzs ts = true → Reps K cn H D (vs.take n) (ts.take n) []
  | 0, _, _, r, _ => .nil
  | n + 1, [], [], r, _ => .nil
  | n + 1, [], _ :: _, r, _ => nomatch r.length
  | n + 1, _ :: _, [], r, _ => nomatch r.length
  | n + 1, v :: vs, t :: ts, r, h => by
    unfold isFzs at h
    rw [Bool.and_eq_true] at h
    obtain ⟨_, _, _, r1, r2⟩ := r.cons_inv
    exact .cons (L := []) (L' := []) (r1.nilL h.1) (Reps.take (vs := []) (ts := []) n (r2.nilL h.2) h.2)
theorem isFzs_drop : ∀ (n : Nat) {ts : List T}, isFzs ts = true → isFzs (ts.drop n) = true := fun n ts h => by
  rw [isFzs_all, List.all_eq_true] at h ⊢
  exact fun x hx => h x (List.mem_of_mem_drop hx)
theorem isFzs_take : ∀ (n : Nat) {ts : List T}, isFzs ts = true → isFzs (ts.take n) = true := fun n ts h => by
  rw [isFzs_all, List.all_eq_true] at h ⊢
  exact fun x hx => h x (List.mem_of_mem_take hx)
theorem Reps.cut {vs : List V} {ts : List T} (r : Reps K cn H D vs ts []) (h : isFzs ts = true) (lo hi : Option Int) : Reps K cn H D (cutV vs lo hi) (cutT ts lo hi) [] := by
  unfold cutV cutT
  rw [r.length]
  exact Reps.take (vs := []) (ts := []) _ (Reps.drop (vs := []) (ts := []) _ r h) (isFzs_drop _ h)
theorem pr_sl {l h : Option Int} {v : V} {s u : T} {Ls : List Addr} {Q : VK} (rs : Rep K cn H D v s Ls) (e : slT s l h = some u) (F : Fin8 (relV K cn) σ H D u Q) : rSl8 K v l h H Q := by
  cases s with
  | tup xs =>
    simp only [slT] at e
    split at e
    · rename_i hz
      cases e
      obtain ⟨a, vs, rfl, ha, ra⟩ := rs.tup_at
      have rc := (ra.nilL hz).cut hz l h
      refine .inl ⟨a, vs, rfl, unhT ha, fun hw => ?_, fun _ p hp => F.new p _ hp fun D' hF hh => .tup (.inl (.inl hh)) (rc.mono hF fun _ z => nomatch z)⟩
      have e1 : cutT xs l h = xs := by
        unfold cutT
        rw [← ra.length, hw.1, hw.2, List.drop_zero, Nat.sub_zero, ra.length, List.take_length]
      rw [e1] at F
      exact F.old _ fun D' hF => .tup (sqT_mono hF ha) (ra.nil_of hF hz)
    · cases e
  | lst o xs =>
    simp only [slT] at e
    split at e
    · rename_i hz
      cases e
      obtain ⟨a, vs, L', rfl, ha, ra⟩ := rs.lst_at
      have rc := (ra.nilL hz).cut hz l h
      exact .inr (.inl ⟨a, vs, rfl, .inl (.inl ha), fun p hp => F.own p _ hp fun D' m hF => .lstO m upd_same (rc.mono hF fun _ z => nomatch z)⟩)
    · cases e
  | slst xs =>
    simp only [slT] at e
    split at e
    · rename_i hz
      cases e
      obtain ⟨a, vs, rfl, ha, ra⟩ := rs.slst_at
      have rc := (ra.nilL hz).cut hz l h
      exact .inr (.inl ⟨a, vs, rfl, unhL ha, fun p hp => F.own p _ hp fun D' m hF => .lstO m upd_same (rc.mono hF fun _ z => nomatch z)⟩)
    · cases e
  | str z =>
    cases rs
    simp only [slT] at e
    split at e
    · rename_i hl
      cases e
      exact .inr (.inr ⟨z, rfl, hl, F.old _ fun D' hF => .str _⟩)
    · cases e
  | _ => cases e
/-! ### built-in functions of one argument -/
theorem bsT_vals : ∀ {ts : List T} {vs : List V} {L : List Addr} {bs : List Bool}, Reps K cn H D vs ts L → bsT ts = some bs → vs = bs.map V.bl
  | [], _, _, _, r, h => by cases r; cases h; rfl
  | .bl b :: ts, _, _, _, r, h => by
    obtain ⟨bs, e, rfl⟩ := map_some (show (bsT ts).map (b :: ·) = some _ from h)
    cases r with
    | cons r1 r2 => cases r1; rw [bsT_vals r2 e]; rfl
  | .non :: _, _, _, _, _, h => by cases h
  | .int _ :: _, _, _, _, _, h => by cases h
  | .str _ :: _, _, _, _, _, h => by cases h
  | .ty _ :: _, _, _, _, _, h => by cases h
  | .tup _ :: _, _, _, _, _, h => by cases h
  | .lst _ _ :: _, _, _, _, _, h => by cases h
  | .slst _ :: _, _, _, _, _, h => by cases h
  | .ins _ _ _ _ :: _, _, _, _, _, h => by cases h
  | .exv _ :: _, _, _, _, _, h => by cases h
theorem intsT_vals : ∀ {ts : List T} {vs : List V} {L : List Addr} {bs : List Int}, Reps K cn H D vs ts L → intsT ts = some bs → vs = bs.map V.int
  | [], _, _, _, r, h => by cases r; cases h; rfl
  | .int b :: ts, _, _, _, r, h => by
    obtain ⟨bs, e, rfl⟩ := map_some (show (intsT ts).map (b :: ·) = some _ from h)
    cases r with
    | cons r1 r2 => cases r1; rw [intsT_vals r2 e]; rfl
  | .non :: _, _, _, _, _, h => by cases h
  | .bl _ :: _, _, _, _, _, h => by cases h
  | .str _ :: _, _, _, _, _, h => by cases h
  | .ty _ :: _, _, _, _, _, h => by cases h
  | .tup _ :: _, _, _, _, _, h => by cases h
  | .lst _ _ :: _, _, _, _, _, h => by cases h
  | .slst _ :: _, _, _, _, _, h => by cases h
  | .ins _ _ _ _ :: _, _, _, _, _, h => by cases h
  | .exv _ :: _, _, _, _, _, h => by cases h
theorem foldl_max : ∀ (ns : List Int) (i : Int), (ns.foldl (fun a b => if b > a then b else a) i) ∈ i :: ns ∧ ∀ y ∈ i :: ns, y ≤ ns.foldl (fun a b => if b > a then b else a) i
  | [], i => ⟨List.mem_cons_self .., fun y hy => by
    have e : y = i := by simpa using hy
    rw [e]; exact Int.le_refl _⟩
  | n :: ns, i => by
    obtain ⟨h1, h2⟩ := foldl_max ns (if n > i then n else i)
    rw [List.foldl_cons]
    refine ⟨?_, fun y hy => ?_⟩
    · rcases List.mem_cons.mp h1 with e | e
      · rw [e]; split
        · exact List.mem_cons_of_mem _ (List.mem_cons_self ..)
        · exact List.mem_cons_self ..
      · exact List.mem_cons_of_mem _ (List.mem_cons_of_mem _ e)
    · have h3 := h2 _ (List.mem_cons_self ..)
      rcases List.mem_cons.mp hy with e | hy
      · subst e; refine Int.le_trans ?_ h3; split <;> omega
      · rcases List.mem_cons.mp hy with e | hy
        · subst e; refine Int.le_trans ?_ h3; split <;> omega
        · exact h2 y (List.mem_cons_of_mem _ hy)
theorem foldl_min : ∀ (ns : List Int) (i : Int), (ns.foldl (fun a b => if b < a then b else a) i) ∈ i :: ns ∧ ∀ y ∈ i :: ns, ns.foldl (fun a b => if b < a then b else a) i ≤ y
  | [], i => ⟨List.mem_cons_self .., fun y hy => by
    have e : y = i := by simpa using hy
    rw [e]; exact Int.le_refl _⟩
  | n :: ns, i => by
    obtain ⟨h1, h2⟩ := foldl_min ns (if n < i then n else i)
    rw [List.foldl_cons]
    refine ⟨?_, fun y hy => ?_⟩
    · rcases List.mem_cons.mp h1 with e | e
      · rw [e]; split
        · exact List.mem_cons_of_mem _ (List.mem_cons_self ..)
        · exact List.mem_cons_self ..
      · exact List.mem_cons_of_mem _ (List.mem_cons_of_mem _ e)
    · have h3 := h2 _ (List.mem_cons_self ..)
      rcases List.mem_cons.mp hy with e | hy
      · subst e; refine Int.le_trans h3 ?_; split <;> omega
      · rcases List.mem_cons.mp hy with e | hy
        · subst e; refine Int.le_trans h3 ?_; split <;> omega
        · exact h2 y (List.mem_cons_of_mem _ hy)
/-- the rules of the built-in functions of one argument; false: of a type -/
def b1Id : B1 → Bool × String
  | .len => (true, "len") | .int => (false, "int") | .tuple => (false, "tuple") | .list => (false, "list") | .all => (true, "all") | .any => (true, "any") | .sum => (true, "sum") | .abs => (true, "abs") | .max => (true, "max") | .min => (true, "min") | .str => (false, "str")
def rB1 (K : PySem.W.Frag) : B1 → List V → Hp → VK → Prop
  | .len => fun xs H Q => ∃ x n, xs = [x] ∧ LenV K x H n ∧ Q (.int n) H
  | .int => fun xs H Q => (∃ i, xs = [.int i] ∧ Q (.int i) H) ∨ ∃ k, xs = [.bl k] ∧ Q (.int (if k then 1 else 0)) H
  | .tuple => fun xs H Q => ∃ p ys, xs = [.ref p] ∧ ((SqL K H p ys ∧ ∀ l, H l = none → Q (.ref l) (upd H l (.tup ys))) ∨ (SqT K H p ys ∧ Q (.ref p) H))
  | .list => fun xs H Q => ∃ p ys, xs = [.ref p] ∧ (SqL K H p ys ∨ SqT K H p ys) ∧ ∀ l, H l = none → Q (.ref l) (upd H l (.lst ys))
  | .all => rAll K
  | .any => rAny K
  | .sum => rSum K
  | .abs => fun xs H Q => ∃ i, xs = [.int i] ∧ Q (.int (if i < 0 then -i else i)) H
  | .max => rMax K
  | .min => rMin K
  | .str => fun xs H Q => ∃ i, xs = [.int i] ∧ i.natAbs.log2 < 1920 ∧ Q (.str (toString i)) H
def b1Val (b : B1) : Value := if (b1Id b).1 then .builtin (b1Id b).2 else .type (b1Id b).2
theorem call_b1 {X : Cx} (hc : X.calm = true) (b : B1) : CallR X (b1Val b) (rB1 X.K b) := by
  cases b
  case len => exact call_len
  case int => exact call_int1
  case tuple => exact call_tuple_of
  case list => exact call_list_of
  case all => exact cr_all hc
  case any => exact cr_any hc
  case sum => exact cr_sum hc
  case abs => exact call_abs
  case max => exact cr_max hc
  case min => exact cr_min hc
  case str => exact call_str_int
theorem pr_b1 (b : B1) : Pr1 K cn (relV K cn) (b1T b) (fun v H Q => rB1 K b [v] H Q) := by
  intro σ H D v s u Ls Q rs h F
  cases b
  case len =>
    obtain ⟨n, e, rfl⟩ := map_some h
    cases s with
    | str y =>
      cases rs
      simp only [lenT] at e
      split at e
      · rename_i hl; cases e; exact ⟨_, _, rfl, ⟨hl, rfl⟩, F.old _ fun _ _ => .int _⟩
      · cases e
    | tup xs =>
      cases e
      obtain ⟨a, vs, rfl, ha, ra⟩ := rs.tup_at
      exact ⟨_, _, rfl, .inr ⟨vs, unhT ha, ra.length.symm⟩, F.old _ fun _ _ => .int _⟩
    | lst o xs =>
      cases e
      obtain ⟨a, vs, L', rfl, ha, ra⟩ := rs.lst_at
      exact ⟨_, _, rfl, .inl ⟨vs, .inl (.inl ha), ra.length.symm⟩, F.old _ fun _ _ => .int _⟩
    | slst xs =>
      cases e
      obtain ⟨a, vs, rfl, ha, ra⟩ := rs.slst_at
      exact ⟨_, _, rfl, .inl ⟨vs, unhL ha, ra.length.symm⟩, F.old _ fun _ _ => .int _⟩
    | _ => cases e
  case int =>
    cases s with
    | int i => cases rs; cases h; exact .inl ⟨i, rfl, F.old _ fun _ _ => .int _⟩
    | bl i => cases rs; cases h; exact .inr ⟨i, rfl, F.old _ fun _ _ => .int _⟩
    | _ => cases h
  case tuple =>
    cases s with
    | tup xs =>
      simp only [b1T] at h
      split at h
      · rename_i hz; cases h
        obtain ⟨a, vs, rfl, ha, ra⟩ := rs.tup_at
        exact ⟨a, vs, rfl, .inr ⟨unhT ha, F.old _ fun D' hF => .tup (sqT_mono hF ha) (ra.nil_of hF hz)⟩⟩
      · cases h
    | lst o xs =>
      simp only [b1T] at h
      split at h
      · rename_i hz; cases h
        obtain ⟨a, vs, L', rfl, ha, ra⟩ := rs.lst_at
        exact ⟨a, vs, rfl, .inl ⟨.inl (.inl ha), fun p hp => F.new p _ hp fun D' hF hh => .tup (.inl (.inl hh)) (ra.nil_of hF hz)⟩⟩
      · cases h
    | _ => cases h
  case list =>
    cases s with
    | tup xs =>
      simp only [b1T] at h
      split at h
      · rename_i hz; cases h
        obtain ⟨a, vs, rfl, ha, ra⟩ := rs.tup_at
        exact ⟨a, vs, rfl, .inr (unhT ha), fun p hp => F.own p _ hp fun D' m hF => .lstO m upd_same (ra.nil_of hF hz)⟩
      · cases h
    | lst o xs =>
      simp only [b1T] at h
      split at h
      · rename_i hz; cases h
        obtain ⟨a, vs, L', rfl, ha, ra⟩ := rs.lst_at
        exact ⟨a, vs, rfl, .inl (.inl (.inl ha)), fun p hp => F.own p _ hp fun D' m hF => .lstO m upd_same (ra.nil_of hF hz)⟩
      · cases h
    | slst xs =>
      simp only [b1T] at h
      split at h
      · rename_i hz; cases h
        obtain ⟨a, vs, rfl, ha, ra⟩ := rs.slst_at
        exact ⟨a, vs, rfl, .inl (unhL ha), fun p hp => F.own p _ hp fun D' m hF => .lstO m upd_same (ra.nil_of hF hz)⟩
      · cases h
    | _ => cases h
  case all =>
    cases s with
    | lst o xs =>
      obtain ⟨bs, e, rfl⟩ := map_some h
      obtain ⟨a, vs, L', rfl, ha, ra⟩ := rs.lst_at
      exact ⟨a, bs, rfl, by rw [← bsT_vals ra e]; exact .inl (.inl ha), F.old _ fun _ _ => .bl _⟩
    | _ => cases h
  case any =>
    cases s with
    | lst o xs =>
      obtain ⟨bs, e, rfl⟩ := map_some h
      obtain ⟨a, vs, L', rfl, ha, ra⟩ := rs.lst_at
      exact ⟨a, bs, rfl, by rw [← bsT_vals ra e]; exact .inl (.inl ha), F.old _ fun _ _ => .bl _⟩
    | _ => cases h
  case sum =>
    cases s with
    | lst o xs =>
      obtain ⟨bs, e, rfl⟩ := map_some h
      obtain ⟨a, vs, L', rfl, ha, ra⟩ := rs.lst_at
      exact ⟨a, bs, rfl, by rw [← intsT_vals ra e]; exact .inl (.inl ha), F.old _ fun _ _ => .int _⟩
    | _ => cases h
  case abs =>
    cases s with
    | int i => cases rs; cases h; exact ⟨i, rfl, F.old _ fun _ _ => .int _⟩
    | _ => cases h
  case max =>
    cases s with
    | lst o xs =>
      simp only [b1T] at h
      cases e : intsT xs with
      | none => rw [e] at h; cases h
      | some ns =>
        rw [e] at h
        obtain ⟨m, e2, rfl⟩ := map_some (show (maxL ns).map T.int = some u from h)
        obtain ⟨a, vs, L', rfl, ha, ra⟩ := rs.lst_at
        cases ns with
        | nil => cases e2
        | cons n ns =>
          cases e2
          obtain ⟨k1, k2⟩ := foldl_max ns n
          refine ⟨a, n :: ns, rfl, by rw [← intsT_vals ra e]; exact .inl (.inl ha), Nat.succ_pos _, fun m hm hle => ?_⟩
          rw [show m = ns.foldl (fun a b => if b > a then b else a) n from Int.le_antisymm (k2 m hm) (hle _ k1)]
          exact F.old _ fun _ _ => .int _
    | _ => cases h
  case min =>
    cases s with
    | lst o xs =>
      simp only [b1T] at h
      cases e : intsT xs with
      | none => rw [e] at h; cases h
      | some ns =>
        rw [e] at h
        obtain ⟨m, e2, rfl⟩ := map_some (show (minL ns).map T.int = some u from h)
        obtain ⟨a, vs, L', rfl, ha, ra⟩ := rs.lst_at
        cases ns with
        | nil => cases e2
        | cons n ns =>
          cases e2
          obtain ⟨k1, k2⟩ := foldl_min ns n
          refine ⟨a, n :: ns, rfl, by rw [← intsT_vals ra e]; exact .inl (.inl ha), Nat.succ_pos _, fun m hm hle => ?_⟩
          rw [show m = ns.foldl (fun a b => if b < a then b else a) n from Int.le_antisymm (hle _ k1) (k2 m hm)]
          exact F.old _ fun _ _ => .int _
    | _ => cases h
  case str =>
    cases s with
    | int i =>
      cases rs
      simp only [b1T] at h
      split at h
      · rename_i hl; cases h; exact ⟨i, rfl, hl, F.old _ fun _ _ => .str _⟩
      · cases h
    | _ => cases h
def rB2 : B2 → List V → Hp → VK → Prop
  | .max => fun xs H Q => ∃ i j, xs = [.int i, .int j] ∧ Q (.int (if j > i then j else i)) H
  | .min => fun xs H Q => ∃ i j, xs = [.int i, .int j] ∧ Q (.int (if j < i then j else i)) H
def b2Id : B2 → String | .max => "max" | .min => "min"
theorem call_b2 {X : Cx} (hc : X.calm = true) (b : B2) : CallR X (.builtin (b2Id b)) (rB2 b) := by
  cases b
  case max => exact call_max2 hc
  case min => exact call_min2 hc
theorem pr_b2 (b : B2) : Pr2 K cn (relV K cn) (b2T b) (fun v w H Q => rB2 b [v, w] H Q) := by
  intro σ H D v w s t u Ls Lt Q rs rt h F
  cases b <;> (cases s with
  | int i => cases t with
    | int j => cases rs; cases rt; cases h; exact ⟨i, j, rfl, F.old _ fun _ _ => .int _⟩
    | _ => cases h
  | _ => cases t <;> cases h)
theorem pr_neg : Pr1 K cn (relV K cn) (fun | .int i => some (.int (-i)) | _ => none) (rU fun i => .int (-i)) := by
  intro σ H D v s u Ls Q rs h F
  cases s with
  | int i => cases rs; cases h; exact ⟨i, rfl, F.old _ fun _ _ => .int _⟩
  | _ => cases h
/-! ### isinstance -/
theorem kit8 {K : PySem.W.Frag} : ∀ a ∈ ["NoneType", "bool", "int", "str", "tuple", "list"], ∀ b ∈ ["int", "bool", "str", "tuple", "list"], PySem.W.kitOne K (.type a) (.type b) = some (b == a || (a == "bool" && b == "int")) := by
  intro a ha b hb
  have h : kitB a b = some (b == a || (a == "bool" && b == "int")) := by
    have q : (["NoneType", "bool", "int", "str", "tuple", "list"].all fun a => ["int", "bool", "str", "tuple", "list"].all fun b => decide (kitB a b = some (b == a || (a == "bool" && b == "int")))) = true := by decide +kernel
    exact of_decide_eq_true (List.all_eq_true.mp (List.all_eq_true.mp q a ha) b hb)
  exact kit_ty h
theorem kitAny8 {K : PySem.W.Frag} {a : String} (ha : a ∈ ["NoneType", "bool", "int", "str", "tuple", "list"]) : ∀ ts : List String, (∀ b ∈ ts, b ∈ ["int", "bool", "str", "tuple", "list"]) →
    PySem.W.kitAny K (.type a) (ts.map Value.type) = some (ts.any fun b => b == a || (a == "bool" && b == "int"))
  | [], _ => rfl
  | b :: ts, h => by
    rw [List.map_cons, List.any_cons]
    unfold PySem.W.kitAny
    rw [kit8 a ha b (h b (List.mem_cons_self ..))]
    cases (b == a || (a == "bool" && b == "int")) with
    | true => rfl
    | false => exact kitAny8 ha ts fun c hc => h c (List.mem_cons_of_mem _ hc)
theorem Rep.ty8 {v : V} {t : T} {L : List Addr} {n : String} (r : Rep K cn H D v t L) (h : tyT t = some n) : TyX K H v (.type n) ∧ n ∈ ["NoneType", "bool", "int", "str", "tuple", "list"] := by
  cases t with
  | non => cases r; cases h; exact ⟨.base .non, by decide⟩
  | bl b => cases r; cases h; exact ⟨.base (.bl b), by decide⟩
  | int b => cases r; cases h; exact ⟨.base (.int b), by decide⟩
  | str b => cases r; cases h; exact ⟨.base (.str b), by decide⟩
  | tup xs =>
    cases h
    obtain ⟨a, vs, rfl, ha, ra⟩ := r.tup_at
    refine ⟨?_, by decide⟩
    rcases unhT ha with (h | ⟨o, h⟩) | ⟨o, its, m, h1, h2, h3⟩
    · exact .base (.tup h)
    · exact .fTuple h
    · exact .kTuple h1 h2
  | lst o xs =>
    cases h
    obtain ⟨a, vs, L', rfl, ha, ra⟩ := r.lst_at
    exact ⟨.base (.lst ha), by decide⟩
  | _ => cases h
end
end FT

end
section
set_option Elab.async false
set_option linter.all false
set_option maxRecDepth 100000
set_option maxHeartbeats 4000000
/-! FTSnd1: operands; the forms of expressions; what the text must be. -/
namespace FT
open PySem PySem.Spec PyProof.Rows L2

/-! ### the forms of the text -/
def asName : Expr → Option Str | .Name x _ => some x | _ => none
theorem asName_ok {e : Expr} {x : Str} (h : asName e = some x) : ∃ p, e = .Name x p := by
  unfold asName at h
  split at h
  · cases h; exact ⟨_, rfl⟩
  · cases h
def asConst : Expr → Option Const | .Constant c _ _ => some c | _ => none
theorem asConst_ok {e : Expr} {x : Const} (h : asConst e = some x) : ∃ k p, e = .Constant x k p := by
  unfold asConst at h
  split at h
  · cases h; exact ⟨_, _, rfl⟩
  · cases h
def asBin : Expr → Option (Expr × Operator × Expr) | .BinOp a o b _ => some (a, o, b) | _ => none
theorem asBin_ok {e a b : Expr} {o : Operator} (h : asBin e = some (a, o, b)) : ∃ p, e = .BinOp a o b p := by
  unfold asBin at h
  split at h
  · cases h; exact ⟨_, rfl⟩
  · cases h
def asUn : Expr → Option (UnaryOp × Expr) | .UnaryOp o a _ => some (o, a) | _ => none
theorem asUn_ok {e a : Expr} {o : UnaryOp} (h : asUn e = some (o, a)) : ∃ p, e = .UnaryOp o a p := by
  unfold asUn at h
  split at h
  · cases h; exact ⟨_, rfl⟩
  · cases h
def asCmp1 : Expr → Option (Expr × CmpOp × Expr) | .Compare a [o] [b] _ => some (a, o, b) | _ => none
theorem asCmp1_ok {e a b : Expr} {o : CmpOp} (h : asCmp1 e = some (a, o, b)) : ∃ p, e = .Compare a [o] [b] p := by
  unfold asCmp1 at h
  split at h
  · simp only [Option.some.injEq, Prod.mk.injEq] at h; obtain ⟨rfl, rfl, rfl⟩ := h; exact ⟨_, rfl⟩
  · cases h
def asCmp2 : Expr → Option (Expr × CmpOp × Expr × CmpOp × Expr) | .Compare a [o, q] [b, c] _ => some (a, o, b, q, c) | _ => none
theorem asCmp2_ok {e a b c : Expr} {o q : CmpOp} (h : asCmp2 e = some (a, o, b, q, c)) : ∃ p, e = .Compare a [o, q] [b, c] p := by
  unfold asCmp2 at h
  split at h
  · simp only [Option.some.injEq, Prod.mk.injEq] at h; obtain ⟨rfl, rfl, rfl, rfl, rfl⟩ := h; exact ⟨_, rfl⟩
  · cases h
def asBool : Expr → Option (BoolOp × Expr × List Expr × Pos) | .BoolOp o (a :: as) p => some (o, a, as, p) | _ => none
theorem asBool_ok {e a : Expr} {o : BoolOp} {as : List Expr} {p : Pos} (h : asBool e = some (o, a, as, p)) : e = .BoolOp o (a :: as) p := by
  unfold asBool at h
  split at h
  · simp only [Option.some.injEq, Prod.mk.injEq] at h; obtain ⟨rfl, rfl, rfl, rfl⟩ := h; rfl
  · cases h
def asIf : Expr → Option (Expr × Expr × Expr) | .IfExp c a b _ => some (c, a, b) | _ => none
theorem asIf_ok {e c a b : Expr} (h : asIf e = some (c, a, b)) : ∃ p, e = .IfExp c a b p := by
  unfold asIf at h
  split at h
  · cases h; exact ⟨_, rfl⟩
  · cases h
def asTup : Expr → Option (List Expr) | .Tuple es _ _ => some es | _ => none
theorem asTup_ok {e : Expr} {es : List Expr} (h : asTup e = some es) : ∃ k p, e = .Tuple es k p := by
  unfold asTup at h
  split at h
  · cases h; exact ⟨_, _, rfl⟩
  · cases h
def asLst : Expr → Option (List Expr) | .List es _ => some es | _ => none
theorem asLst_ok {e : Expr} {es : List Expr} (h : asLst e = some es) : ∃ p, e = .List es p := by
  unfold asLst at h
  split at h
  · cases h; exact ⟨_, rfl⟩
  · cases h
def asSub : Expr → Option (Expr × Expr) | .Subscript a b _ => some (a, b) | _ => none
theorem asSub_ok {e a b : Expr} (h : asSub e = some (a, b)) : ∃ p, e = .Subscript a b p := by
  unfold asSub at h
  split at h
  · cases h; exact ⟨_, rfl⟩
  · cases h
def asSlc : Expr → Option (Option Expr × Option Expr) | .Slice l h none _ => some (l, h) | _ => none
theorem asSlc_ok {e : Expr} {l u : Option Expr} (h : asSlc e = some (l, u)) : ∃ p, e = .Slice l u none p := by
  unfold asSlc at h
  split at h
  · simp only [Option.some.injEq, Prod.mk.injEq] at h; obtain ⟨rfl, rfl⟩ := h; exact ⟨_, rfl⟩
  · cases h
def isRev : Expr → Bool | .Slice none none (some (.UnaryOp .USub (.Constant (.int 1) _ _) _)) _ => true | _ => false
theorem isRev_ok {e : Expr} (h : isRev e = true) : ∃ k p1 p2 p3, e = .Slice none none (some (.UnaryOp .USub (.Constant (.int 1) k p1) p2)) p3 := by
  unfold isRev at h
  split at h
  · exact ⟨_, _, _, _, rfl⟩
  · cases h
def asCall : Expr → Option (Str × List Expr × List Keyword) | .Call (.Name x _) es ks _ => some (x, es, ks) | _ => none
theorem asCall_ok {e : Expr} {x : Str} {es : List Expr} {ks : List Keyword} (h : asCall e = some (x, es, ks)) : ∃ p q, e = .Call (.Name x p) es ks q := by
  unfold asCall at h
  split at h
  · simp only [Option.some.injEq, Prod.mk.injEq] at h; obtain ⟨rfl, rfl, rfl⟩ := h; exact ⟨_, _, rfl⟩
  · cases h
def asLC : Expr → Option (Expr × Expr × Expr × List Expr × Scope) | .ListComp e [⟨t, i, c, 0⟩] s _ => some (e, t, i, c, s) | _ => none
theorem asLC_ok {x e t i : Expr} {c : List Expr} {s : Scope} (h : asLC x = some (e, t, i, c, s)) : ∃ p, x = .ListComp e [⟨t, i, c, 0⟩] s p := by
  unfold asLC at h
  split at h
  · simp only [Option.some.injEq, Prod.mk.injEq] at h; obtain ⟨rfl, rfl, rfl, rfl, rfl⟩ := h; exact ⟨_, rfl⟩
  · cases h
/-- no star, no slice, no set display -/
def plain : Expr → Bool | .Starred .. => false | .Slice .. => false | .Set .. => false | _ => true
/-- whose test is its value's truth -/
def tested : Expr → Bool | .UnaryOp .Not _ _ => false | .BoolOp .. => false | .IfExp .. => false | .Compare .. => false | _ => true
section
variable {X : Cx}
theorem star_of {e : Expr} {es : List Expr} (h : plain e = true) : starEach (e :: es) X.env = (false, eval e X.env) :: starEach es X.env := by
  cases e <;> first | rfl | cases h
theorem ix_of {b : Expr} (h : plain b = true) : PlainIx b := by
  intro o i
  cases b <;> first | rfl | cases h
theorem marks_of {op : CmpOp} {b : Expr} (h : plain b = true) : behindInMarks op b = false := by
  cases b <;> first | rfl | cases h
theorem marks2_of {p q : CmpOp} {b c : Expr} (h : plain c = true) : lastMarks [p, q] [b, c] = false := by
  show lastMarks [q] [c] = false
  exact marks_of h
theorem fold_of {e : Expr} (h : plain e = true) : ∀ x, foldedSetIterable e X.env x = pure x := by
  intro x
  cases e <;> first | rfl | cases h
theorem tested_of {e : Expr} (h : tested e = true) : ∀ whole, isTrue e X.env whole = (do let v ← whole; standAt e.pos; holding [v] (truthy v)) := by
  intro whole
  cases e with
  | UnaryOp o a p => cases o <;> first | rfl | cases h
  | BoolOp => cases h
  | IfExp => cases h
  | Compare => cases h
  | _ => rfl
def plains (es : List Expr) : Bool := es.all plain
theorem nostar_of {pos : Pos} : ∀ {es : List Expr}, plains es = true → (backTo pos (starEach es X.env)).any (·.1) = false
  | [], _ => rfl
  | e :: es, h => by
    unfold plains at h
    rw [List.all_cons, Bool.and_eq_true] at h
    rw [star_of h.1]
    show (false || (backTo pos (starEach es X.env)).any (·.1)) = false
    rw [Bool.false_or]
    exact nostar_of h.2
end

/-! ### operands -/
section
variable {K : PySem.W.Frag} {cn : Nat → Addr} {H H' H1 H2 H3 : Hp} {D D' Do Dx : List Addr} {σ : St8} {ρ ρ1 ρ' : Env8} {L L' La Lb Lt Lv Lw : List Addr} {W : WX}
abbrev relO (K : PySem.W.Frag) (cn : Nat → Addr) : Rel Opd V := fun σ H D v x Lv => match x with
  | .sl i => σ[i]? = some (some v) ∧ Lv = []
  | .vl t => Rep K cn H D v t Lv
abbrev relN (K : PySem.W.Frag) (cn : Nat → Addr) : Rel (List T) (List V) := fun _ H D vs ts Lv => Reps K cn H D vs ts Lv
abbrev tE (K : PySem.W.Frag) (cn : Nat → Addr) (W : WX) (ev : Env8 → R T) : TE := tG K cn W (relV K cn) ev
abbrev tO (K : PySem.W.Frag) (cn : Nat → Addr) (W : WX) (ev : Env8 → R Opd) : TE := tG K cn W (relO K cn) ev
theorem PE.imp {X : Cx} {e : Expr} {t t' : TE} (h : PE X e t) (k : ∀ σ H Q, t' σ H Q → t σ H Q) : PE X e t' := ⟨fun pins s σ H Q I q => h.run pins s σ H Q I (k σ H Q q)⟩
theorem PT.imp {X : Cx} {e : Expr} {t t' : TT} (h : PT X e t) (k : ∀ σ H Q, t' σ H Q → t σ H Q) : PT X e t' := ⟨fun pins s σ H Q I q => h.run pins s σ H Q I (k σ H Q q)⟩
theorem PA.imp {X : Cx} {e : List Expr} {t t' : TA} (h : PA X e t) (k : ∀ σ H Q, t' σ H Q → t σ H Q) : PA X e t' := ⟨fun pos pins s σ H Q I q => h.run pos pins s σ H Q I (k σ H Q q)⟩
theorem relO.move {v : V} {x : Opd} (r : relO K cn σ H1 (La ++ Dx) v x Lw) (ok : Ok8 K cn Dx σ ρ H1 La) (st : Stp La H1 (Lv ++ Lb) H2) (hw : ∀ a ∈ Lw, a ∈ Dx) (hD : ∀ b ∈ D', b ∈ Lv ++ Lb ∨ b ∈ Dx ∨ b ∈ La) (hD2 : ∀ a ∈ Dx, a ∈ D') : relO K cn σ H2 D' v x Lw := by
  cases x with
  | sl i => exact r
  | vl t => exact Rep.mono (ok.hF st hD) (fun a z => ⟨ok.hL st (hw a z), hD2 a (hw a z)⟩) r
theorem slot_some {i : Nat} {t : T} (h : slot ρ i = some t) : ρ[i]? = some (some t) := by
  unfold slot at h
  split at h
  · cases h; assumption
  · cases h
theorem Slots.get {i : Nat} {t : T} (s : Slots K cn H D σ ρ L) (h : slot ρ i = some t) : ∃ v L1, σ[i]? = some (some v) ∧ Rep K cn H D v t L1 := by
  have e := slot_some h
  obtain ⟨La, L1, Lb, _, g, _, _, _⟩ := s.at i (List.getElem?_eq_some_iff.mp e).1
  obtain ⟨v, e1, r⟩ := g t e
  exact ⟨v, L1, e1, r⟩
theorem relO.get {v : V} {x : Opd} {t : T} (r : relO K cn σ H D v x Lv) (s : Slots K cn H D σ ρ L) (e : x.get ρ = some t) : ∃ L', Rep K cn H D v t L' := by
  cases x with
  | sl i =>
    obtain ⟨w, L1, e1, r1⟩ := s.get (show slot ρ i = some t from e)
    have q : w = v := by
      have z := r.1
      rw [e1] at z
      exact Option.some.inj (Option.some.inj z)
    rw [← q]
    exact ⟨L1, r1⟩
  | vl u => cases e; exact ⟨_, r⟩
theorem mem_sub {a : Addr} {Lb Lv Lw Do La : List Addr} (h : a ∈ Lb ++ ((Lv ++ Lw) ++ Do)) : a ∈ Lv ++ Lb ∨ a ∈ Lw ++ Do ∨ a ∈ La := by
  simp only [List.mem_append] at h ⊢
  rcases h with h | (h | h) | h
  · exact .inl (.inr h)
  · exact .inl (.inl h)
  · exact .inr (.inl (.inl h))
  · exact .inr (.inl (.inr h))
theorem mem_sup {a : Addr} {Lb Lv Lw Do : List Addr} (h : a ∈ Lw ++ Do) : a ∈ Lb ++ ((Lv ++ Lw) ++ Do) := by
  simp only [List.mem_append] at h ⊢
  rcases h with h | h
  · exact .inr (.inl (.inr h))
  · exact .inr (.inr h)
/-- two operands, then a primitive -/
theorem t_op2 {α : Type} {A B : Env8 → R Opd} {f : T → T → Option α} {rel : Rel α V} {r : R2} (hp : Pr2 K cn rel f r) (σ : St8) (H : Hp) (Q : VK)
    (h : tG K cn W rel (fun ρ => (A ρ).bind fun x ρ => (B ρ).bind fun y ρ => op2 f x y ρ) σ H Q) : tOp r (tO K cn W A) (tO K cn W B) σ H Q := by
  obtain ⟨ρ, L, Do, ok, post⟩ := h
  refine ⟨ρ, L, Do, ok, PostG.first post fun x ρ1 v H1 La Lw e1 ok1 r1 st1 post1 => ?_⟩
  refine ⟨ρ1, La, Lw ++ Do, ok1, PostG.sub post1 st1 fun y ρ2 w H2 Lb Lv e2 ok2 r2 st2 stl post2 => ?_⟩
  simp only [op2] at post2
  split at post2
  · rename_i t u et eu
    obtain ⟨Lx, rx⟩ := (relO.move r1 ok1 stl (fun a z => List.mem_append_left _ z) (fun b z => mem_sub z) (fun a z => mem_sup z)).get ok2.sl et
    obtain ⟨Ly, ry⟩ := r2.get ok2.sl eu
    cases ef : f t u with
    | none => rw [ef] at post2; exact post2.elim
    | some b =>
      rw [ef] at post2
      exact hp σ H2 _ v w t u b Lx Ly Q rx ry ef (post2.fin ok2 st2)
  · exact post2.elim
/-- one operand -/
theorem t_op1 {α : Type} {A : Env8 → R Opd} {f : T → Option α} {rel : Rel α V} {r : V → Hp → VK → Prop} (hp : Pr1 K cn rel f r) (σ : St8) (H : Hp) (Q : VK)
    (h : tG K cn W rel (fun ρ => (A ρ).bind fun x ρ => match x.get ρ with | some t => ofO (f t) ρ | none => .bad) σ H Q) : tO K cn W A σ H fun v H1 => r v H1 Q := by
  obtain ⟨ρ, L, Do, ok, post⟩ := h
  refine ⟨ρ, L, Do, ok, PostG.first post fun x ρ1 v H1 La Lw e1 ok1 r1 st1 post1 => ?_⟩
  split at post1
  · rename_i t et
    obtain ⟨Lx, rx⟩ := r1.get ok1.sl et
    cases ef : f t with
    | none => rw [ef] at post1; exact post1.elim
    | some b =>
      rw [ef] at post1
      exact hp σ H1 _ v t b Lx Q rx ef (post1.fin ok1 st1)
  · exact post1.elim
/-- a name read where it may be lent -/
theorem t_var {i : Nat} (σ : St8) (H : Hp) (Q : VK) (h : tO K cn W (fun ρ => match slot ρ i with | some _ => .ok (.sl i) ρ | none => .bad) σ H Q) : tVar i σ H Q := by
  obtain ⟨ρ, L, Do, ok, post⟩ := h
  dsimp only at post
  cases e : slot ρ i with
  | none => rw [e] at post; exact post.elim
  | some t =>
    rw [e] at post
    obtain ⟨v, L1, e1, r⟩ := ok.sl.get e
    exact ⟨v, e1, post v H L [] ok ⟨e1, rfl⟩ (Stp.refl L H)⟩
/-- one slot is emptied -/
theorem Ok8.empty {i : Nat} (ok : Ok8 K cn Do σ ρ H L) (hi : i < ρ.length) (x : Option V) : ∃ La L1 Lb, L = La ++ (L1 ++ Lb) ∧ (∀ t, ρ[i]? = some (some t) → ∃ v, σ[i]? = some (some v) ∧ Rep K cn H (L ++ Do) v t L1) ∧
    (∀ b o, hide H (L ++ Do) b = some o → hide H ((La ++ Lb) ++ Do) b = some o) ∧ (∀ a ∈ L1, a ∉ (La ++ Lb) ++ Do) ∧ L1.Nodup ∧ Ok8 K cn Do (σ.set i x) (ρ.set i none) H (La ++ Lb) := by
  obtain ⟨La, L1, Lb, eL, g, n, p, q⟩ := ok.sl.at i hi
  obtain ⟨n1, n2, n3⟩ := List.nodup_append.mp ok.nd
  subst eL
  obtain ⟨n4, n5, n6⟩ := List.nodup_append.mp n1
  obtain ⟨n7, n8, n9⟩ := List.nodup_append.mp n5
  have hF : ∀ b o, hide H ((La ++ (L1 ++ Lb)) ++ Do) b = some o → hide H ((La ++ Lb) ++ Do) b = some o := fun b o h => by
    obtain ⟨n, e⟩ := hide_some.mp h
    refine hide_some.mpr ⟨fun z => n ?_, e⟩
    simp only [List.mem_append] at z ⊢
    rcases z with (z | z) | z
    · exact .inl (.inl z)
    · exact .inl (.inr (.inr z))
    · exact .inr z
  refine ⟨La, L1, Lb, rfl, g, hF, fun a z hz => ?_, n7, (q x).mono hF (fun a z => ⟨rfl, List.mem_append_left _ z⟩), ?_, ok.out⟩
  · simp only [List.mem_append] at hz
    rcases hz with (q | q) | q
    · exact n6 a q a (List.mem_append_left _ z) rfl
    · exact n9 a z a q rfl
    · exact n3 a (List.mem_append_right _ (List.mem_append_left _ z)) a q rfl
  · refine List.nodup_append.mpr ⟨List.nodup_append.mpr ⟨n4, n8, fun a ha b hb => n6 a ha b (List.mem_append_right _ hb)⟩, n2, fun a ha b hb => n3 a ?_ b hb⟩
    simp only [List.mem_append] at ha ⊢
    rcases ha with q | q
    · exact .inl q
    · exact .inr (.inr q)
/-- an empty slot is filled with what was held aside -/
theorem Ok8.fill {i : Nat} {v : V} {t : T} (ok : Ok8 K cn (Lv ++ Do) σ ρ H L) (hi : ρ[i]? = some none) (r : Rep K cn H (L ++ (Lv ++ Do)) v t Lv) : ∃ L', Ok8 K cn Do (σ.set i (some v)) (ρ.set i (some t)) H L' ∧ (∀ b, b ∈ L' ↔ b ∈ Lv ++ L) := by
  obtain ⟨La, L1, Lb, eL, g, n, p, q⟩ := ok.sl.at i (List.getElem?_eq_some_iff.mp hi).1
  have e1 := n hi
  subst e1
  rw [List.nil_append] at eL
  subst eL
  have hm : ∀ b, b ∈ (La ++ (Lv ++ Lb)) ++ Do ↔ b ∈ (La ++ Lb) ++ (Lv ++ Do) := fun b => by
    simp only [List.mem_append]
    constructor
    · rintro ((h | h | h) | h)
      · exact .inl (.inl h)
      · exact .inr (.inl h)
      · exact .inl (.inr h)
      · exact .inr (.inr h)
    · rintro ((h | h) | h | h)
      · exact .inl (.inl h)
      · exact .inl (.inr (.inr h))
      · exact .inl (.inr (.inl h))
      · exact .inr h
  have hF : ∀ b o, hide H ((La ++ Lb) ++ (Lv ++ Do)) b = some o → hide H ((La ++ (Lv ++ Lb)) ++ Do) b = some o := fun b o h => by
    obtain ⟨n, e⟩ := hide_some.mp h
    exact hide_some.mpr ⟨fun z => n ((hm b).mp z), e⟩
  refine ⟨La ++ (Lv ++ Lb), ⟨(p v t Lv r).mono hF (fun a z => ⟨rfl, List.mem_append_left _ z⟩), ?_, fun b z => ok.out b (List.mem_append_right _ z)⟩, fun b => ?_⟩
  · have pm : ((La ++ (Lv ++ Lb)) ++ Do).Perm ((La ++ Lb) ++ (Lv ++ Do)) := by
      rw [List.append_assoc, List.append_assoc, List.append_assoc]
      refine List.Perm.append_left La ?_
      rw [← List.append_assoc, ← List.append_assoc]
      exact List.Perm.append_right Do List.perm_append_comm
    exact pm.nodup_iff.mpr ok.nd
  · simp only [List.mem_append]
    constructor
    · rintro (h | h | h)
      · exact .inr (.inl h)
      · exact .inl h
      · exact .inr (.inr h)
    · rintro (h | h | h)
      · exact .inr (.inl h)
      · exact .inl h
      · exact .inr (.inr h)
theorem set_set_same {α : Type} : ∀ (xs : List α) (i : Nat) (a b : α), (xs.set i a).set i b = xs.set i b := fun xs i a b => List.set_set ..
/-- the frame with one name's thing no longer its own -/
theorem Ok8.freeze {i : Nat} {t : T} (ok : Ok8 K cn Do σ ρ H L) (e : slot ρ i = some t) : ∃ v L', σ[i]? = some (some v) ∧ Ok8 K cn Do σ (ρ.set i (some (fz t))) H L' ∧ Rep K cn H (L' ++ Do) v (fz t) [] ∧ ∀ b ∈ L', b ∈ L := by
  have e' := slot_some e
  have hi := (List.getElem?_eq_some_iff.mp e').1
  obtain ⟨v0, _, e0, _⟩ := ok.sl.get e
  obtain ⟨La, L1, Lb, eL, g, hF, hn, _, ok1⟩ := ok.empty hi (some v0)
  obtain ⟨v, e1, r⟩ := g t e'
  have hv : v0 = v := by rw [e1] at e0; exact (Option.some.inj (Option.some.inj e0)).symm
  subst hv
  have rf := Rep.freeze hF hn r
  rw [set_self e1] at ok1
  obtain ⟨L', ok2, hm⟩ := Ok8.fill (Lv := []) (i := i) (v := v0) (t := fz t) ok1 (by rw [List.getElem?_set_self hi]) rf
  rw [set_self e1, set_set_same] at ok2
  refine ⟨v0, L', e1, ok2, rf.mono (fun b o h => ?_) (fun _ z => nomatch z), fun b z => ?_⟩
  · obtain ⟨n, e⟩ := hide_some.mp h
    refine hide_some.mpr ⟨fun z => n ?_, e⟩
    rcases List.mem_append.mp z with z | z
    · exact List.mem_append_left _ (by simpa using (hm b).mp z)
    · exact List.mem_append_right _ z
  · have := (hm b).mp z
    rw [eL]
    simp only [List.mem_append, List.nil_append] at this ⊢
    rcases this with q | q
    · exact .inl q
    · exact .inr (.inr q)
/-- a name read: from then on it is not its own -/
theorem t_read {i : Nat} (σ : St8) (H : Hp) (Q : VK) (h : tE K cn W (readV i) σ H Q) : tVar i σ H Q := by
  obtain ⟨ρ, L, Do, ok, post⟩ := h
  unfold readV at post
  cases e : slot ρ i with
  | none => rw [e] at post; exact post.elim
  | some t =>
    rw [e] at post
    dsimp only at post
    split at post
    · rename_i hz
      obtain ⟨v, L1, e1, r⟩ := ok.sl.get e
      exact ⟨v, e1, post v H L [] ok (r.nilL hz) (Stp.refl L H)⟩
    · obtain ⟨v, L', e1, ok', r, hs⟩ := ok.freeze e
      exact ⟨v, e1, post v H L' [] ok' r (Stp.sub hs)⟩
end
end FT

end
section
set_option Elab.async false
set_option linter.all false
set_option maxRecDepth 100000
set_option maxHeartbeats 4000000
/-! FTCall: things lent to a callee, and given back. -/
namespace FT
open PySem PySem.Spec PyProof.Rows L2
section
variable {K : PySem.W.Frag} {cn : Nat → Addr} {H H' H1 H2 H3 : Hp} {D D' Do Do' Dx : List Addr} {σ : St8} {ρ ρ1 ρ' : Env8} {L L' La Lb Lt Lv Lw Ls Lr : List Addr} {W : WX}
theorem hide_mem (h : ∀ b, b ∈ D' → b ∈ D) : ∀ b o, hide H D b = some o → hide H D' b = some o := fun b o e => by
  obtain ⟨n, q⟩ := hide_some.mp e
  exact hide_some.mpr ⟨fun z => n (h b z), q⟩
theorem Rep.same {v : V} {t : T} (r : Rep K cn H D v t L) (h : ∀ b, b ∈ D' ↔ b ∈ D) : Rep K cn H D' v t L := r.mono (hide_mem fun b z => (h b).mp z) fun a z => ⟨rfl, (h a).mpr (r.own a z).1⟩
theorem Reps.same {v : List V} {t : List T} (r : Reps K cn H D v t L) (h : ∀ b, b ∈ D' ↔ b ∈ D) : Reps K cn H D' v t L := r.mono (hide_mem fun b z => (h b).mp z) fun a z => ⟨rfl, (h a).mpr (r.own a z).1⟩
theorem Slots.same (r : Slots K cn H D σ ρ L) (h : ∀ b, b ∈ D' ↔ b ∈ D) : Slots K cn H D' σ ρ L := r.mono (hide_mem fun b z => (h b).mp z) fun a z => ⟨rfl, (h a).mpr (r.own a z).1⟩
theorem Ok8.perm (ok : Ok8 K cn Do σ ρ H L) (p : Do'.Perm Do) : Ok8 K cn Do' σ ρ H L :=
  ⟨ok.sl.same fun b => by simp only [List.mem_append, p.mem_iff], (List.Perm.append_left L p).nodup_iff.mpr ok.nd, fun b z => ok.out b (p.mem_iff.mp z)⟩
/-- one slot's thing is held aside -/
theorem Ok8.aside {i : Nat} {t : T} (ok : Ok8 K cn Do σ ρ H L) (e : slot ρ i = some t) : ∃ v L1 L2', σ[i]? = some (some v) ∧ Ok8 K cn (L1 ++ Do) σ (ρ.set i none) H L2' ∧ Rep K cn H (L ++ Do) v t L1 ∧ L.Perm (L1 ++ L2') := by
  have e' := slot_some e
  have hi := (List.getElem?_eq_some_iff.mp e').1
  obtain ⟨La, L1, Lb, eL, g, n, p, q⟩ := ok.sl.at i hi
  obtain ⟨v, e1, r⟩ := g t e'
  subst eL
  have pm : (La ++ (L1 ++ Lb)).Perm (L1 ++ (La ++ Lb)) := by
    rw [← List.append_assoc, ← List.append_assoc]
    exact List.Perm.append_right Lb List.perm_append_comm
  have pm2 : ((La ++ Lb) ++ (L1 ++ Do)).Perm ((La ++ (L1 ++ Lb)) ++ Do) := by
    rw [← List.append_assoc]
    exact List.Perm.append_right Do (List.perm_append_comm.trans pm.symm)
  have qs := q (some v)
  rw [set_self e1] at qs
  refine ⟨v, L1, La ++ Lb, e1, ⟨qs.same fun b => pm2.mem_iff, pm2.nodup_iff.mpr ok.nd, fun b z => ?_⟩, r, pm⟩
  rcases List.mem_append.mp z with z | z
  · exact (r.own b z).2
  · exact ok.out b z

/-- operands and what stands for them -/
inductive RelA (K : PySem.W.Frag) (cn : Nat → Addr) (σ : St8) (H : Hp) (D : List Addr) : List V → List Opd → List Addr → Prop
  | nil : RelA K cn σ H D [] [] []
  | sl {i : Nat} {v : V} {vs : List V} {xs : List Opd} {L : List Addr} : σ[i]? = some (some v) → RelA K cn σ H D vs xs L → RelA K cn σ H D (v :: vs) (.sl i :: xs) L
  | vl {t : T} {v : V} {vs : List V} {xs : List Opd} {L L' : List Addr} : Rep K cn H D v t L → RelA K cn σ H D vs xs L' → RelA K cn σ H D (v :: vs) (.vl t :: xs) (L ++ L')
theorem RelA.mono (hF : ∀ b o, hide H D b = some o → hide H' D' b = some o) : ∀ {vs : List V} {xs : List Opd} {L : List Addr}, (∀ a ∈ L, H' a = H a ∧ a ∈ D') → RelA K cn σ H D vs xs L → RelA K cn σ H' D' vs xs L
  | _, _, _, hL, .nil => .nil
  | _, _, _, hL, .sl e r => .sl e (r.mono hF hL)
  | _, _, _, hL, .vl h r => .vl (h.mono hF fun a z => hL a (List.mem_append_left _ z)) (r.mono hF fun a z => hL a (List.mem_append_right _ z))
theorem RelA.own : ∀ {vs : List V} {xs : List Opd} {L : List Addr}, RelA K cn σ H D vs xs L → ∀ a ∈ L, a ∈ D ∧ H a ≠ none
  | _, _, _, .nil, a, z => nomatch z
  | _, _, _, .sl e r, a, z => r.own a z
  | _, _, _, .vl h r, a, z => (List.mem_append.mp z).elim (h.own a) (r.own a)
theorem RelA.same {vs : List V} {xs : List Opd} (r : RelA K cn σ H D vs xs L) (h : ∀ b, b ∈ D' ↔ b ∈ D) : RelA K cn σ H D' vs xs L := r.mono (hide_mem fun b z => (h b).mp z) fun a z => ⟨rfl, (h a).mpr (r.own a z).1⟩
/-- the values of the lent arguments -/
def refsV : List Opd → List V → List V
  | .sl _ :: xs, v :: vs => v :: refsV xs vs
  | .vl _ :: xs, _ :: vs => refsV xs vs
  | _, _ => []
def killR : List Nat → Env8 → Env8
  | [], ρ => ρ
  | i :: is, ρ => killR is (ρ.set i none)
theorem slot_set_ne {i j : Nat} {x : Option T} (h : i ≠ j) : slot (ρ.set i x) j = slot ρ j := by
  unfold slot
  rw [List.getElem?_set_ne h]
theorem argsOf_set {i : Nat} {x : Option T} : ∀ {xs : List Opd}, i ∉ refsOf xs → argsOf xs (ρ.set i x) = argsOf xs ρ
  | [], _ => rfl
  | .vl t :: xs, h => by
    show (argsOf xs (ρ.set i x)).map _ = (argsOf xs ρ).map _
    rw [argsOf_set (show i ∉ refsOf xs from h)]
  | .sl j :: xs, h => by
    have h1 : i ≠ j := fun e => h (by rw [e]; exact List.mem_cons_self ..)
    have h2 : i ∉ refsOf xs := fun e => h (List.mem_cons_of_mem _ e)
    unfold argsOf
    rw [slot_set_ne h1, argsOf_set h2]
theorem RelA.lend : ∀ {xs : List Opd} {vs : List V} {Lw : List Addr} {ρ : Env8} {L Dx : List Addr} {ts : List T}, RelA K cn σ H (L ++ Dx) vs xs Lw → Ok8 K cn Dx σ ρ H L → argsOf xs ρ = some ts → nodupN (refsOf xs) = true →
    ∃ Ls Lr, Ok8 K cn (Ls ++ Dx) σ (killR (refsOf xs) ρ) H Lr ∧ L.Perm (Ls ++ Lr) ∧ (∀ D', (∀ b ∈ D', b ∈ L ++ Dx) → (∀ a ∈ Ls, a ∈ D') → (∀ a ∈ Lw, a ∉ D') → Reps K cn H D' vs ts Ls) ∧
      (∀ (j i : Nat), (refsOf xs)[j]? = some i → ∃ v, (refsV xs vs)[j]? = some v ∧ σ[i]? = some (some v))
  | [], _, _, ρ, L, Dx, ts, r, ok, e, _ => by
    cases r
    cases e
    exact ⟨[], L, ok, .refl _, fun _ _ _ _ => .nil, fun j i h => by simp [refsOf] at h⟩
  | .vl t :: xs, _, _, ρ, L, Dx, ts, r, ok, e, nd => by
    cases r with
    | vl h r =>
      obtain ⟨us, e2, e3⟩ := map_some (show (argsOf xs ρ).map (fz t :: ·) = some ts from e)
      subst e3
      obtain ⟨Ls, Lr, ok2, pm, rp, rv⟩ := RelA.lend r ok e2 nd
      refine ⟨Ls, Lr, ok2, pm, fun D' h1 h2 h3 => ?_, rv⟩
      exact .cons (L := []) (Rep.freeze (hide_mem h1) (fun a z => h3 a (List.mem_append_left _ z)) h) (rp D' h1 h2 fun a z => h3 a (List.mem_append_right _ z))
  | .sl i :: xs, _, _, ρ, L, Dx, ts, r, ok, e, nd => by
    cases r with
    | @sl _ v vs _ _ hv r =>
      have nd2 : (!(refsOf xs).contains i && nodupN (refsOf xs)) = true := nd
      simp only [Bool.and_eq_true, Bool.not_eq_true', List.contains_eq_mem, decide_eq_false_iff_not] at nd2
      have e2 : (match slot ρ i, argsOf xs ρ with | some t, some ts => some (t :: ts) | _, _ => none) = some ts := e
      cases es : slot ρ i with
      | none => rw [es] at e2; cases e2
      | some t =>
        cases ea : argsOf xs ρ with
        | none => rw [es, ea] at e2; cases e2
        | some us =>
          rw [es, ea] at e2
          cases e2
          obtain ⟨w, L1, L2', e1, ok1, r1, pm1⟩ := ok.aside es
          have hw : w = v := by rw [e1] at hv; exact Option.some.inj (Option.some.inj hv)
          subst hw
          have mem1 : ∀ b, b ∈ L2' ++ (L1 ++ Dx) ↔ b ∈ L ++ Dx := fun b => by
            simp only [List.mem_append, pm1.mem_iff]
            constructor
            · rintro (h | h | h)
              · exact .inl (.inr h)
              · exact .inl (.inl h)
              · exact .inr h
            · rintro ((h | h) | h)
              · exact .inr (.inl h)
              · exact .inl h
              · exact .inr (.inr h)
          obtain ⟨Ls, Lr, ok2, pm, rp, rv⟩ := RelA.lend (r.same mem1) ok1 (by rw [argsOf_set nd2.1]; exact ea) nd2.2
          refine ⟨L1 ++ Ls, Lr, ok2.perm ?_, pm1.trans ?_, fun D' h1 h2 h3 => ?_, fun j k hj => ?_⟩
          · rw [List.append_assoc, ← List.append_assoc, ← List.append_assoc]
            exact List.Perm.append_right Dx List.perm_append_comm
          · rw [List.append_assoc]
            exact List.Perm.append_left L1 pm
          · exact .cons (r1.mono (hide_mem h1) fun a z => ⟨rfl, h2 a (List.mem_append_left _ z)⟩) (rp D' (fun b z => (mem1 b).mpr (h1 b z)) (fun a z => h2 a (List.mem_append_right _ z)) h3)
          · cases j with
            | zero =>
              have : i = k := by simpa [refsOf] using hj
              subst this
              exact ⟨w, rfl, e1⟩
            | succ j =>
              obtain ⟨u, q1, q2⟩ := rv j k (by simpa [refsOf] using hj)
              exact ⟨u, by simpa [refsV] using q1, q2⟩
/-- all that was lent comes back -/
theorem Ok8.fillAll : ∀ {is : List Nat} {vs : List V} {bs : List T} {ρ : Env8} {L' L : List Addr}, Ok8 K cn (L' ++ Do) σ ρ H L → Reps K cn H (L ++ (L' ++ Do)) vs bs L' → is.length = vs.length → (∀ i ∈ is, ρ[i]? = some none) → nodupN is = true →
    (∀ (j i : Nat), is[j]? = some i → ∃ v, vs[j]? = some v ∧ σ[i]? = some (some v)) → ∃ L'', Ok8 K cn Do σ (setAll is bs ρ) H L'' ∧ ∀ b, b ∈ L'' ↔ b ∈ L' ++ L
  | [], vs, bs, ρ, L', L, ok, r, hl, _, _, _ => by
    cases vs with
    | nil =>
      cases r
      exact ⟨L, ok, fun b => by simp⟩
    | cons _ _ => cases hl
  | i :: is, vs, bs, ρ, L', L, ok, r, hl, hn, nd, hv => by
    cases r with
    | nil => cases hl
    | @cons v vs t bs L1 L2' r1 r2 =>
      have nd2 : (!is.contains i && nodupN is) = true := nd
      simp only [Bool.and_eq_true, Bool.not_eq_true', List.contains_eq_mem, decide_eq_false_iff_not] at nd2
      obtain ⟨w, e1, e2⟩ := hv 0 i rfl
      have ew : v = w := by simpa using e1
      subst ew
      rw [List.append_assoc] at ok
      obtain ⟨L3, ok2, m2⟩ := Ok8.fill (v := v) (t := t) ok (hn i (List.mem_cons_self ..)) (r1.same fun b => by simp only [List.mem_append, or_assoc])
      rw [set_self e2] at ok2
      have hD : ∀ b, b ∈ L3 ++ (L2' ++ Do) ↔ b ∈ L ++ ((L1 ++ L2') ++ Do) := fun b => by
        simp only [List.mem_append, m2]
        constructor
        · rintro ((h | h) | h | h)
          · exact .inr (.inl (.inl h))
          · exact .inl h
          · exact .inr (.inl (.inr h))
          · exact .inr (.inr h)
        · rintro (h | (h | h) | h)
          · exact .inl (.inr h)
          · exact .inl (.inl h)
          · exact .inr (.inl h)
          · exact .inr (.inr h)
      obtain ⟨L4, ok3, m3⟩ := Ok8.fillAll (is := is) ok2 (r2.same hD) (by simpa using hl) (fun j hj => by
        have hji : i ≠ j := fun e => nd2.1 (by rw [e]; exact hj)
        rw [List.getElem?_set_ne hji]
        exact hn j (List.mem_cons_of_mem _ hj)) nd2.2 (fun j k hk => by simpa using hv (j + 1) k (by simpa using hk))
      refine ⟨L4, ok3, fun b => ?_⟩
      simp only [m3, List.mem_append, m2]
      constructor
      · rintro (h | h | h)
        · exact .inl (.inr h)
        · exact .inl (.inl h)
        · exact .inr h
      · rintro ((h | h) | h)
        · exact .inr (.inl h)
        · exact .inl h
        · exact .inr (.inr h)
theorem killR_none : ∀ {is : List Nat} {ρ : Env8} {i : Nat}, i ∈ is → i < ρ.length → (killR is ρ)[i]? = some none := by
  have keep : ∀ {is : List Nat} {ρ : Env8} {i : Nat}, ρ[i]? = some none → (killR is ρ)[i]? = some none := by
    intro is
    induction is with
    | nil => exact fun h => h
    | cons k is ih =>
      intro ρ i h
      refine ih ?_
      by_cases e : k = i
      · subst e
        rw [List.getElem?_set_self (List.getElem?_eq_some_iff.mp h).1]
      · rw [List.getElem?_set_ne e]; exact h
  intro is
  induction is with
  | nil => intro _ _ h; cases h
  | cons k is ih =>
    intro ρ i h hi
    by_cases e : k = i
    · subst e
      exact keep (is := is) (ρ := ρ.set k none) (by rw [List.getElem?_set_self hi])
    · rcases List.mem_cons.mp h with q | q
      · exact absurd q.symm e
      · exact ih q (by rw [List.length_set]; exact hi)
theorem setAll_set {i : Nat} {x : Option T} : ∀ {is : List Nat} {bs : List T} {ρ : Env8}, i ∈ is → is.length = bs.length → setAll is bs (ρ.set i x) = setAll is bs ρ
  | [], _, _, h, _ => nomatch h
  | k :: is, [], _, _, hl => by cases hl
  | k :: is, b :: bs, ρ, h, hl => by
    show setAll is bs ((ρ.set i x).set k (some b)) = setAll is bs (ρ.set k (some b))
    by_cases e : k = i
    · subst e; rw [List.set_set]
    · rw [List.set_comm _ _ (Ne.symm e)]
      rcases List.mem_cons.mp h with q | q
      · exact absurd q.symm e
      · exact setAll_set q (by simpa using hl)
theorem setAll_killR : ∀ {is js : List Nat} {bs : List T} {ρ : Env8}, (∀ i ∈ js, i ∈ is) → is.length = bs.length → setAll is bs (killR js ρ) = setAll is bs ρ
  | is, [], bs, ρ, _, _ => rfl
  | is, j :: js, bs, ρ, h, hl => by
    show setAll is bs (killR js (ρ.set j none)) = _
    rw [setAll_killR (fun i z => h i (List.mem_cons_of_mem _ z)) hl, setAll_set (h j (List.mem_cons_self ..)) hl]
theorem refsV_length : ∀ {xs : List Opd} {vs : List V} {Lw : List Addr}, RelA K cn σ H D vs xs Lw → (refsOf xs).length = (refsV xs vs).length
  | _, _, _, .nil => rfl
  | _, _, _, .sl _ r => congrArg Nat.succ (refsV_length r)
  | .vl _ :: xs, _ :: vs, _, .vl _ r => (refsV_length r : (refsOf xs).length = (refsV xs vs).length)
theorem refs_lt : ∀ {xs : List Opd} {ts : List T}, argsOf xs ρ = some ts → ∀ i ∈ refsOf xs, i < ρ.length
  | [], _, _, i, h => nomatch h
  | .vl t :: xs, _, e, i, h => by
    obtain ⟨us, e, _⟩ := map_some (show (argsOf xs ρ).map (fz t :: ·) = some _ from e)
    exact refs_lt e i h
  | .sl j :: xs, ts, e, i, h => by
    have e2 : (match slot ρ j, argsOf xs ρ with | some t, some ts => some (t :: ts) | _, _ => none) = some ts := e
    cases es : slot ρ j with
    | none => rw [es] at e2; cases e2
    | some t =>
      cases ea : argsOf xs ρ with
      | none => rw [es, ea] at e2; cases e2
      | some us =>
        rcases List.mem_cons.mp (show i ∈ j :: refsOf xs from h) with q | q
        · rw [q]; exact (List.getElem?_eq_some_iff.mp (slot_some es)).1
        · exact refs_lt ea i q

/-! ### a callee's promise -/
/-- what is wanted of a call's outcome; ws: the values of the lent arguments -/
def CallPost (K : PySem.W.Frag) (cn : Nat → Addr) (ws : List V) (H : Hp) (L Do : List Addr) (r : CR) (Q : VK) (E : XK) : Prop := match r with
  | .ok t bs => ∀ v H' L' Lv, Reps K cn H' (L' ++ (Lv ++ Do)) ws bs L' → (L' ++ (Lv ++ Do)).Nodup → (∀ b ∈ Lv ++ Do, H' b ≠ none) → Rep K cn H' (L' ++ (Lv ++ Do)) v t Lv → Stp L H (Lv ++ L') H' → Q v H'
  | .exc x bs => ∀ c d H' L', Reps K cn H' (L' ++ Do) ws bs L' → (L' ++ Do).Nodup → (∀ b ∈ Do, H' b ≠ none) → ExR K cn H' (L' ++ Do) x c d → Stp L H L' H' → E c d H'
  | .bad => False
def pickV (io : List Nat) (vs : List V) : List V := io.map fun i => (vs[i]?).getD .non
def spOf (K : PySem.W.Frag) (cn : Nat → Addr) (φ : List T → CR) (np : Nat) (io : List Nat) : Sp := fun vs H Q E =>
  vs.length = np ∧ ∃ ts L Do, Reps K cn H (L ++ Do) vs ts L ∧ (L ++ Do).Nodup ∧ (∀ b ∈ Do, H b ≠ none) ∧ CallPost K cn (pickV io vs) H L Do (φ ts) Q E

/-- the caller's side: the arguments stand (Lt: what they hold); what is wanted of the whole gives what the callee wants -/
theorem call_up {xs : List Opd} {vs : List V} {ts : List T} {r : CR} {Q : VK} {H0 : Hp} {L0 : List Addr} {rel : Rel T V}
    (hrel : rel = relV K cn) (ok : Ok8 K cn (Lt ++ Do) σ ρ H L) (ra : RelA K cn σ H (L ++ (Lt ++ Do)) vs xs Lw) (hw : ∀ a ∈ Lw, a ∈ Lt) (st : Stp L0 H0 (Lt ++ L) H) (e : argsOf xs ρ = some ts) (nd : nodupN (refsOf xs) = true)
    (post : PostG K cn W rel Do σ H0 L0 (match r with | .ok t bs => R.ok t (setAll (refsOf xs) bs ρ) | .exc x bs => .exc x (setAll (refsOf xs) bs ρ) | .bad => .bad) Q) :
    ∃ Ls Lr, Reps K cn H (Ls ++ (Lr ++ Do)) vs ts Ls ∧ (Ls ++ (Lr ++ Do)).Nodup ∧ (∀ b ∈ Lr ++ Do, H b ≠ none) ∧ CallPost K cn (refsV xs vs) H Ls (Lr ++ Do) r Q (fun c d H' => W c d σ H') := by
  subst hrel
  obtain ⟨Ls, Lr, ok2, pm, rp, rv⟩ := ra.lend ok e nd
  have hlen := refsV_length ra
  have ndL := ok.nd
  obtain ⟨n1, n2, n3⟩ := List.nodup_append.mp ndL
  obtain ⟨n4, n5, n6⟩ := List.nodup_append.mp n2
  have ndA : (Ls ++ (Lr ++ Do)).Nodup := by
    rw [← List.append_assoc]
    exact List.nodup_append.mpr ⟨pm.nodup_iff.mp n1, n5, fun a ha b hb => n3 a (pm.mem_iff.mpr ha) b (List.mem_append_right _ hb)⟩
  have outA : ∀ b ∈ Lr ++ Do, H b ≠ none := fun b z => by
    rcases List.mem_append.mp z with z | z
    · exact (ok2.sl.own b z).2
    · exact ok.out b (List.mem_append_right _ z)
  have reps : Reps K cn H (Ls ++ (Lr ++ Do)) vs ts Ls := rp _ (fun b z => by
      simp only [List.mem_append, pm.mem_iff] at z ⊢
      rcases z with z | z | z
      · exact .inl (.inl z)
      · exact .inl (.inr z)
      · exact .inr (.inr z)) (fun a z => List.mem_append_left _ z) (fun a z q => by
      have hat := hw a z
      rw [← List.append_assoc] at q
      rcases List.mem_append.mp q with q | q
      · exact n3 a (pm.mem_iff.mpr q) a (List.mem_append_left _ hat) rfl
      · exact n6 a hat a q rfl)
  -- what the callee has left, seen by the caller
  have back : ∀ {H' : Hp} {bs : List T} {L' Lv : List Addr}, Reps K cn H' (L' ++ (Lv ++ (Lr ++ Do))) (refsV xs vs) bs L' → (L' ++ (Lv ++ (Lr ++ Do))).Nodup → (∀ b ∈ Lv ++ (Lr ++ Do), H' b ≠ none) → Stp Ls H (Lv ++ L') H' →
      ∃ L'', Ok8 K cn (Lv ++ Do) σ (setAll (refsOf xs) bs ρ) H' L'' ∧ (∀ b, b ∈ L'' ↔ b ∈ L' ++ Lr) ∧ Stp L0 H0 (Lv ++ L'') H' := by
    intro H' bs L' Lv rb nd' out' st'
    have hF : ∀ b o, hide H (Lr ++ (Ls ++ (Lt ++ Do))) b = some o → hide H' (Lr ++ (L' ++ (Lv ++ Do))) b = some o := fun b o h => by
      obtain ⟨n, eb⟩ := hide_some.mp h
      simp only [List.mem_append, not_or] at n
      obtain ⟨q1, q2, q3, q4⟩ := n
      refine hide_some.mpr ⟨fun z => ?_, st'.kp b o eb q2⟩
      simp only [List.mem_append] at z
      have fresh : b ∈ Lv ++ L' → False := fun z => by
        rcases st'.nw b z with w | w
        · exact q2 w
        · rw [eb] at w; cases w
      rcases z with z | z | z | z
      · exact q1 z
      · exact fresh (List.mem_append_right _ z)
      · exact fresh (List.mem_append_left _ z)
      · exact q4 z
    have keepR : ∀ a ∈ Lr, H' a = H a := fun a z => by
      have hn : a ∉ Ls := fun q => (List.nodup_append.mp ndA).2.2 a q a (List.mem_append_left _ z) rfl
      cases ea : H a with
      | none => exact absurd ea (outA a (List.mem_append_left _ z))
      | some o => exact st'.kp a o ea hn
    have pmD : (Lr ++ (L' ++ (Lv ++ Do))).Perm (L' ++ (Lv ++ (Lr ++ Do))) := by
      have p1 : (Lr ++ (L' ++ (Lv ++ Do))).Perm (L' ++ (Lr ++ (Lv ++ Do))) := by
        rw [← List.append_assoc Lr L', ← List.append_assoc L' Lr]; exact List.Perm.append_right _ List.perm_append_comm
      refine p1.trans (List.Perm.append_left L' ?_)
      rw [← List.append_assoc Lr Lv, ← List.append_assoc Lv Lr]; exact List.Perm.append_right _ List.perm_append_comm
    have ok3 : Ok8 K cn (L' ++ (Lv ++ Do)) σ (killR (refsOf xs) ρ) H' Lr := by
      refine ⟨ok2.sl.mono hF fun a z => ⟨keepR a z, List.mem_append_left _ z⟩, pmD.nodup_iff.mpr nd', fun b z => ?_⟩
      simp only [List.mem_append] at z
      rcases z with z | z | z
      · exact (rb.own b z).2
      · exact out' b (List.mem_append_left _ z)
      · exact out' b (List.mem_append_right _ (List.mem_append_right _ z))
    have hbl : (refsOf xs).length = bs.length := hlen.trans rb.length
    obtain ⟨L'', ok4, m4⟩ := Ok8.fillAll (is := refsOf xs) ok3 (rb.same fun b => pmD.mem_iff) hlen (fun i hi => killR_none hi (refs_lt e i hi)) nd rv
    rw [setAll_killR (fun _ z => z) hbl] at ok4
    refine ⟨L'', ok4, m4, ⟨fun b o h0 hn => ?_, fun b z => ?_⟩⟩
    · have hb := st.kp b o h0 hn
      refine st'.kp b o hb fun q => ?_
      rcases st.nw b (List.mem_append_right _ (pm.mem_iff.mpr (List.mem_append_left _ q))) with w | w
      · exact hn w
      · rw [h0] at w; cases w
    · have old : b ∈ L → b ∈ L0 ∨ H0 b = none := fun q => st.nw b (List.mem_append_right _ q)
      have new : b ∈ Ls ∨ H b = none → b ∈ L0 ∨ H0 b = none := fun q => by
        rcases q with q | q
        · exact old (pm.mem_iff.mpr (List.mem_append_left _ q))
        · by_cases n : b ∈ L0
          · exact .inl n
          · cases eb : H0 b with
            | none => exact .inr rfl
            | some o => rw [st.kp b o eb n] at q; cases q
      rcases List.mem_append.mp z with z | z
      · exact new (st'.nw b (List.mem_append_left _ z))
      · rcases List.mem_append.mp ((m4 b).mp z) with z | z
        · exact new (st'.nw b (List.mem_append_right _ z))
        · exact old (pm.mem_iff.mpr (List.mem_append_right _ z))
  refine ⟨Ls, Lr, reps, ndA, outA, ?_⟩
  cases r with
  | bad => exact post
  | ok t bs =>
    intro v H' L' Lv rb nd' out' rv' st'
    obtain ⟨L'', ok4, m4, st4⟩ := back rb nd' out' st'
    exact post v H' L'' Lv ok4 (rv'.same fun b => by
      simp only [List.mem_append, m4]
      constructor
      · rintro ((h | h) | h | h)
        · exact .inl h
        · exact .inr (.inr (.inl h))
        · exact .inr (.inl h)
        · exact .inr (.inr (.inr h))
      · rintro (h | h | h | h)
        · exact .inl (.inl h)
        · exact .inr (.inl h)
        · exact .inl (.inr h)
        · exact .inr (.inr h)) st4
  | exc x bs =>
    intro c d H' L' rb nd' out' rx st'
    obtain ⟨L'', ok4, m4, st4⟩ := back (Lv := []) rb nd' out' st'
    exact post c d H' L'' ok4 (rx.mono (hide_mem fun b z => by
      simp only [List.mem_append, m4] at z ⊢
      rcases z with (h | h) | h
      · exact .inl h
      · exact .inr (.inl h)
      · exact .inr (.inr h))) st4
end
end FT

end
section
set_option Elab.async false
set_option linter.all false
set_option maxRecDepth 100000
set_option maxHeartbeats 4000000
/-! FTIter: walks by trees. -/
namespace FT
open PySem PySem.Spec PyProof.Rows L2

abbrev Keep (H : Hp) (D : List Addr) (H' : Hp) (D' : List Addr) : Prop := ∀ b o, hide H D b = some o → hide H' D' b = some o
section
variable {K : PySem.W.Frag} {cn : Nat → Addr} {H H' H0 H1 H2 H3 : Hp} {D D' D0 Do Dx : List Addr} {σ : St8} {ρ ρ1 ρ' : Env8} {L L' La Lb Lt Lv Lw : List Addr} {W : WX}
/-- what a walk gives at a turn: what stands there; a new thing -/
def Gives (K : PySem.W.Frag) (cn : Nat → Addr) (H : Hp) (D : List Addr) (x : V) (H' : Hp) (t : T) : Prop :=
  (H' = H ∧ Rep K cn H D x t []) ∨ ∃ p u, H p = none ∧ H' = upd H p u ∧ x = .ref p ∧ ∀ D', Keep H D H' D' → hide H' D' p = some u → Rep K cn H' D' (.ref p) t []
/-- the walk J is over the trees ts, while what is seen at (H0, D0) stands -/
structure ItW (K : PySem.W.Frag) (cn : Nat → Addr) (J : L2.It) (ts : List T) (H0 : Hp) (D0 : List Addr) : Prop where
  goes : ∀ i H D, i < ts.length → Keep H0 D0 H D → J.go i H
  stops : ∀ H D, Keep H0 D0 H D → J.stop ts.length H
  yields : ∀ i H D x H', i < ts.length → Keep H0 D0 H D → J.yld i H x H' → ∃ t, ts[i]? = some t ∧ Gives K cn H D x H' t
theorem itw_of {J : L2.It} {n : Nat} {G : Hp → Prop} {Y : Nat → Hp → V → Hp → Prop} {ts : List T} (w : Walk J n G Y) (hn : ts.length = n) (hG : ∀ H D, Keep H0 D0 H D → G H)
    (hY : ∀ i H D x H', i < n → Keep H0 D0 H D → Y i H x H' → ∃ t, ts[i]? = some t ∧ Gives K cn H D x H' t) : ItW K cn J ts H0 D0 := by
  subst hn
  exact ⟨fun i H D hi k => w.goes i H hi (hG H D k), fun H D k => w.stops H (hG H D k), fun i H D x H' hi k y => hY i H D x H' hi k (w.yields i H x H' hi (hG H D k) y)⟩
theorem Reps.atE {vs : List V} {ts : List T} {i : Nat} {x : V} (r : Reps K cn H D vs ts []) (e : vs[i]? = some x) : ∃ t, ts[i]? = some t ∧ Rep K cn H D x t [] := by
  have hi : i < ts.length := by rw [← r.length]; exact (List.getElem?_eq_some_iff.mp e).1
  obtain ⟨v, L1, e1, r1, s1⟩ := r.get (List.getElem?_eq_getElem hi)
  have ev : v = x := Option.some.inj (e1.symm.trans e)
  have eL : L1 = [] := List.eq_nil_iff_forall_not_mem.mpr fun a z => nomatch s1 a z
  subst ev eL
  exact ⟨_, List.getElem?_eq_getElem hi, r1⟩
theorem Rep.keep {x : V} {t : T} (r : Rep K cn H D x t []) (k : Keep H D H' D') : Rep K cn H' D' x t [] := r.mono k fun _ z => nomatch z
theorem Keep.trans {H4 : Hp} {D4 : List Addr} (a : Keep H D H' D') (b : Keep H' D' H4 D4) : Keep H D H4 D4 := fun c o h => b c o (a c o h)
theorem gives_pair {i : Nat} {x : V} {xs ys : Nat → Option V} {t u : T} (y : YPair xs ys i H x H') (hx : ∀ z, xs i = some z → Rep K cn H D z t []) (hy : ∀ z, ys i = some z → Rep K cn H D z u []) : Gives K cn H D x H' (.tup [t, u]) := by
  obtain ⟨p, a, b, e1, e2, e3, e4, e5⟩ := y
  exact .inr ⟨p, _, e2, e3, e1, fun D' k e => .tup (L := []) (.inl (.inl e)) (.cons (L := []) (L' := []) ((hx a e4).keep k) (.cons (L := []) (L' := []) ((hy b e5).keep k) .nil))⟩
theorem itw_list {a : Addr} {vs : List V} {ts : List T} (h : SqL K (hide H0 D0) a vs) (r : Reps K cn H0 D0 vs ts []) : ItW K cn (Itl K a) ts H0 D0 :=
  itw_of walk_list r.length.symm (fun H D k => unhL (sqL_mono k h)) fun i H D x H' hi k ⟨e, ex⟩ => by
    obtain ⟨t, e1, r1⟩ := r.atE ex
    exact ⟨t, e1, .inl ⟨e, r1.keep k⟩⟩
theorem itw_tup {a : Addr} {vs : List V} {ts : List T} (h : SqT K (hide H0 D0) a vs) (r : Reps K cn H0 D0 vs ts []) : ItW K cn (Itt K a) ts H0 D0 :=
  itw_of walk_tup r.length.symm (fun H D k => unhT (sqT_mono k h)) fun i H D x H' hi k ⟨e, ex⟩ => by
    obtain ⟨t, e1, r1⟩ := r.atE ex
    exact ⟨t, e1, .inl ⟨e, r1.keep k⟩⟩
theorem rngL_length (lo : Int) (n : Nat) : (rngL lo n).length = n := by unfold rngL; rw [List.length_map, List.length_range]
theorem itw_range {lo : Int} {n : Nat} : ItW K cn (Itr lo n) (rngL lo n) H0 D0 :=
  itw_of walk_range (rngL_length lo n) (fun _ _ _ => trivial) fun i H D x H' hi k ⟨e, ex⟩ => by
    refine ⟨.int (lo + (i : Nat)), ?_, .inl ⟨e, by rw [ex]; exact .int _⟩⟩
    unfold rngL
    rw [List.getElem?_map, List.getElem?_range hi]; rfl
theorem itw_str {z : Str} : ItW K cn (Its z) (z.cps.toList.map fun c => .str ⟨#[c]⟩) H0 D0 :=
  itw_of walk_str (by rw [List.length_map, Array.length_toList]) (fun _ _ _ => trivial) fun i H D x H' hi k ⟨e, c, hc, ex⟩ => by
    refine ⟨.str ⟨#[c]⟩, ?_, .inl ⟨e, by rw [ex]; exact .str _⟩⟩
    rw [List.getElem?_map, Array.getElem?_toList, hc]; rfl
theorem rev_at {α : Type} {ts : List α} {i : Nat} {t : α} (hi : i < ts.length) (e : ts[ts.length - 1 - i]? = some t) : ts.reverse[i]? = some t := by
  rw [List.getElem?_reverse hi]; exact e
theorem itw_rev {a : Addr} {vs : List V} {ts : List T} (h : SqL K (hide H0 D0) a vs) (r : Reps K cn H0 D0 vs ts []) : ItW K cn (Itv K a vs.length) ts.reverse H0 D0 :=
  itw_of walk_rev (by rw [List.length_reverse]; exact r.length.symm) (fun H D k => unhL (sqL_mono k h)) fun i H D x H' hi k ⟨e, ex⟩ => by
    obtain ⟨t, e1, r1⟩ := r.atE ex
    rw [r.length] at hi e1
    exact ⟨t, rev_at hi e1, .inl ⟨e, r1.keep k⟩⟩
theorem walk_revT {a : Addr} {xs : List V} : Walk (RT.ItvT K a xs.length) xs.length (fun H => SqT K H a xs) (fun i H x H' => H' = H ∧ xs[xs.length - 1 - i]? = some x) :=
  ⟨fun i _ hi q => ⟨hi, xs, xs[xs.length - 1 - i]'(by omega), q, by simp [show xs.length - 1 - i < xs.length by omega]⟩, fun _ _ => Nat.le_refl _, fun _ _ _ _ _ q y => ⟨y.1, y.2 xs q⟩⟩
theorem itw_revT {a : Addr} {vs : List V} {ts : List T} (h : SqT K (hide H0 D0) a vs) (r : Reps K cn H0 D0 vs ts []) : ItW K cn (RT.ItvT K a vs.length) ts.reverse H0 D0 :=
  itw_of walk_revT (by rw [List.length_reverse]; exact r.length.symm) (fun H D k => unhT (sqT_mono k h)) fun i H D x H' hi k ⟨e, ex⟩ => by
    obtain ⟨t, e1, r1⟩ := r.atE ex
    rw [r.length] at hi e1
    exact ⟨t, rev_at hi e1, .inl ⟨e, r1.keep k⟩⟩
theorem zipT_at : ∀ {xs ys : List T} {i : Nat} {x y : T}, xs[i]? = some x → ys[i]? = some y → (zipT xs ys)[i]? = some (.tup [x, y])
  | [], _, i, _, _, h, _ => by simp at h
  | _ :: _, [], i, _, _, _, h => by simp at h
  | a :: xs, b :: ys, 0, x, y, h, h' => by simp at h h'; subst h h'; rfl
  | a :: xs, b :: ys, i + 1, x, y, h, h' => by
    show (zipT xs ys)[i]? = _
    exact zipT_at (by simpa using h) (by simpa using h')
theorem zipT_length : ∀ {xs ys : List T}, (zipT xs ys).length = min xs.length ys.length
  | [], ys => by unfold zipT; simp
  | _ :: _, [] => by unfold zipT; simp
  | a :: xs, b :: ys => by
    show (zipT xs ys).length + 1 = min (xs.length + 1) (ys.length + 1)
    rw [zipT_length]; omega
theorem enumT_at : ∀ {xs : List T} {n i : Nat} {x : T}, xs[i]? = some x → (enumT n xs)[i]? = some (.tup [.int ((n + i : Nat) : Int), x])
  | [], n, i, _, h => by simp at h
  | a :: xs, n, 0, x, h => by simp at h; subst h; rfl
  | a :: xs, n, i + 1, x, h => by
    show (enumT (n + 1) xs)[i]? = _
    rw [enumT_at (x := x) (by simpa using h)]
    rw [show n + 1 + i = n + (i + 1) by omega]
theorem enumT_length : ∀ {xs : List T} {n : Nat}, (enumT n xs).length = xs.length
  | [], n => rfl
  | a :: xs, n => by show (enumT (n + 1) xs).length + 1 = _; rw [enumT_length]; rfl
theorem itw_zipL {a b : Addr} {vs ws : List V} {ts us : List T} (h : SqL K (hide H0 D0) a vs) (r : Reps K cn H0 D0 vs ts []) (h' : SqL K (hide H0 D0) b ws) (r' : Reps K cn H0 D0 ws us []) : ItW K cn (Itz K a b) (zipT ts us) H0 D0 :=
  itw_of (walk_zip rfl) (by rw [zipT_length, r.length, r'.length]) (fun H D k => ⟨unhL (sqL_mono k h), unhL (sqL_mono k h')⟩) fun i H D x H' hi k y => by
    obtain ⟨p, x1, y1, q1, q2, q3, q4, q5⟩ := id y
    obtain ⟨t, e1, r1⟩ := r.atE q4
    obtain ⟨u, e2, r2⟩ := r'.atE q5
    exact ⟨_, zipT_at e1 e2, gives_pair y (fun z e => by have ez := Option.some.inj (q4.symm.trans e); subst ez; exact r1.keep k) (fun z e => by have ez := Option.some.inj (q5.symm.trans e); subst ez; exact r2.keep k)⟩
theorem walk_zipT {a b : Addr} {xs ys : List V} {n : Nat} (hn : n = min xs.length ys.length) : Walk (RZ.ItzT K a b) n (fun H => SqT K H a xs ∧ SqT K H b ys) (YPair (fun i => xs[i]?) (fun i => ys[i]?)) := by
  subst hn
  refine ⟨fun i _ hi q => ?_, fun _ q => ⟨xs, ys, q.1, q.2, by omega⟩, fun i H v H' _ q y => ?_⟩
  · have h1 : i < xs.length := by omega
    have h2 : i < ys.length := by omega
    exact ⟨xs, ys, xs[i], ys[i], q.1, q.2, by simp [h1], by simp [h2]⟩
  · obtain ⟨T, x, z, h1, h2, h3, h4, h5⟩ := y
    exact ⟨T, x, z, h1, h2, h3, h4 xs q.1, h5 ys q.2⟩
theorem itw_zipT {a b : Addr} {vs ws : List V} {ts us : List T} (h : SqT K (hide H0 D0) a vs) (r : Reps K cn H0 D0 vs ts []) (h' : SqT K (hide H0 D0) b ws) (r' : Reps K cn H0 D0 ws us []) : ItW K cn (RZ.ItzT K a b) (zipT ts us) H0 D0 :=
  itw_of (walk_zipT rfl) (by rw [zipT_length, r.length, r'.length]) (fun H D k => ⟨unhT (sqT_mono k h), unhT (sqT_mono k h')⟩) fun i H D x H' hi k y => by
    obtain ⟨p, x1, y1, q1, q2, q3, q4, q5⟩ := id y
    obtain ⟨t, e1, r1⟩ := r.atE q4
    obtain ⟨u, e2, r2⟩ := r'.atE q5
    exact ⟨_, zipT_at e1 e2, gives_pair y (fun z e => by have ez := Option.some.inj (q4.symm.trans e); subst ez; exact r1.keep k) (fun z e => by have ez := Option.some.inj (q5.symm.trans e); subst ez; exact r2.keep k)⟩
theorem itw_enum {a : Addr} {vs : List V} {ts : List T} (h : SqL K (hide H0 D0) a vs) (r : Reps K cn H0 D0 vs ts []) : ItW K cn (Ite K a) (enumT 0 ts) H0 D0 :=
  itw_of walk_enum (by rw [enumT_length, r.length]) (fun H D k => unhL (sqL_mono k h)) fun i H D x H' hi k y => by
    obtain ⟨p, x1, y1, q1, q2, q3, q4, q5⟩ := id y
    obtain ⟨t, e1, r1⟩ := r.atE q5
    exact ⟨_, enumT_at e1, gives_pair y (fun z e => by cases e; rw [Nat.zero_add]; exact .int _) (fun z e => by have ez := Option.some.inj (q5.symm.trans e); subst ez; exact r1.keep k)⟩

/-! ### enumerate(tuple) -/
def IteT (K : PySem.W.Frag) (a : Addr) : L2.It :=
  ⟨fun i H => ∃ (xs : List V) (x : V), SqT K H a xs ∧ xs[i]? = some x, fun i H v H' => ∃ T x, v = .ref T ∧ H T = none ∧ H' = upd H T (.tup [.int (i : Nat), x]) ∧ ∀ xs, SqT K H a xs → xs[i]? = some x, fun i H => ∃ xs : List V, SqT K H a xs ∧ xs.length = i⟩
theorem walk_enumT {a : Addr} {xs : List V} : Walk (IteT K a) xs.length (fun H => SqT K H a xs) (YPair (fun i => some (.int (i : Nat))) (fun i => xs[i]?)) := by
  refine ⟨fun i _ hi q => ⟨xs, xs[i], q, by simp [hi]⟩, fun _ q => ⟨xs, q, rfl⟩, fun i H v H' _ q y => ?_⟩
  obtain ⟨T, x, h1, h2, h3, h4⟩ := y
  exact ⟨T, .int (i : Nat), x, h1, h2, h3, rfl, h4 xs q⟩
theorem itw_enumT {a : Addr} {vs : List V} {ts : List T} (h : SqT K (hide H0 D0) a vs) (r : Reps K cn H0 D0 vs ts []) : ItW K cn (IteT K a) (enumT 0 ts) H0 D0 :=
  itw_of walk_enumT (by rw [enumT_length, r.length]) (fun H D k => unhT (sqT_mono k h)) fun i H D x H' hi k y => by
    obtain ⟨p, x1, y1, q1, q2, q3, q4, q5⟩ := id y
    obtain ⟨t, e1, r1⟩ := r.atE q5
    exact ⟨_, enumT_at e1, gives_pair y (fun z e => by cases e; rw [Nat.zero_add]; exact .int _) (fun z e => by have ez := Option.some.inj (q5.symm.trans e); subst ez; exact r1.keep k)⟩
theorem turn_enumT {P : Program} {w : World} {elts : List Expr} {kk : Nat} {tpos : Pos} (a e it : Addr) :
    Turn P w K (.Tuple elts kk tpos) (IteT K a) [e, it] e (fun i h => (∃ old, IsEnum h e it ((i : Nat) : Int) old) ∧ h.IsTupleIter it a i ∧ e ≠ it) where
  mem := by simp
  obj := fun i h st b hb => by
    obtain ⟨⟨old, he⟩, ⟨o, ho, hc, hd⟩, _⟩ := st
    have e' : b = e ∨ b = it := by simpa using hb
    rcases e' with z | z
    · rw [z]; exact ⟨_, he, fun v q => nomatch q⟩
    · rw [z]; exact ⟨o, ho, fun v q => by rw [hd] at q; cases q⟩
  keep := fun i h h' st k => let ⟨⟨old, he⟩, hi, hne⟩ := st; ⟨⟨old, k e (by simp) _ he⟩, hi.at fun o q => k it (by simp) o q, hne⟩
  item := by
    intro X hP hw hK hc i pins s σ H E I hf st hg
    subst hP hw hK
    obtain ⟨⟨old, he⟩, hit, hne⟩ := st
    obtain ⟨xs, x, hq, hx⟩ := hg
    obtain ⟨its, rv, p, hz⟩ := I.tuple hq
    obtain ⟨u, hu, ru⟩ := rv.get hx
    have hel : e < s.heap.objs.size := Heap.lt_size he
    have hil : it < s.heap.objs.size := by obtain ⟨_, q, _⟩ := hit; exact Heap.lt_size q
    have hne2 : a ≠ it := fun z => by
      subst z
      obtain ⟨o1, q1, q2, _⟩ := hit
      obtain ⟨o2, q3, q4, _⟩ := (show s.heap.IsTuple a its.toArray from p)
      rw [q1] at q3; cases q3
      rw [q2] at q4; exact absurd (Value.type.inj q4) (by decide)
    have hea : e ≠ a := fun z => by
      subst z
      obtain ⟨o2, q3, q4, _⟩ := (show s.heap.IsTuple e its.toArray from p)
      rw [show s.heap.get? e = _ from he] at q3
      cases q3
      exact absurd (Value.type.inj q4) (by decide)
    have hsz : i < its.toArray.size := by
      have := (List.getElem?_eq_some_iff.mp hu).1
      simpa using this
    refine wpAny_pyNext_enum_itemD (Draws.tuple (prog := X.prog) (w := X.w) (A := X.A.in1) (I.ok.hd hc) it a hne2 its.toArray) he ⟨hit, p⟩ hsz hne (by simp [hne, hea]) fun x' h' tk hP' ho hit' hT hsz' hk => ?_
    have ex' : x' = u := by
      have z : its.toArray[i]? = some x' := hP'
      rw [show its.toArray[i]? = some u by simpa using hu] at z
      exact (Option.some.inj z).symm
    subst ex'
    refine ⟨_, rfl, wpAny_letOwnedTupleGo_enum (s := { s with heap := h', toks := tk + 1 }) ho fun h'' he' sb => ?_⟩
    have hT2 : h''.get? s.heap.objs.size = some { cls := .type "tuple", data := .seq #[.int i tk, x'] } := (sb.2 _ (Nat.ne_of_gt hel)).trans hT
    have new : ObjOk X.prog X.w (upd H s.heap.objs.size (.tup [.int (i : Nat), x])) h'' s.heap.objs.size (.tup [.int (i : Nat), x]) :=
      ⟨by show 2 ≤ sizeLine; decide, [.int i tk, x'], .cons ⟨_, rfl⟩ (.cons ru .nil), ⟨_, hT2, rfl, _, rfl⟩⟩
    have I1 : Inv X pins σ (upd H s.heap.objs.size (.tup [.int (i : Nat), x])) { s with heap := h'', toks := tk + 1 } :=
      I.turnedNew (ch := [e, it]) (fun b ob hb q => (sb.2 b (fun z => hb (by simp [z]))).trans (hk b ob (fun z => hb (by simp [z])) (fun z => hb (by simp [z])) q)) hf (Nat.le_refl _) new
    refine ⟨.ref s.heap.objs.size, _, I1, rfl, ⟨_, x, rfl, I.hok.fresh (Nat.le_refl _), rfl, fun ys hy => by rw [I.tuple_inj hy hq]; exact hx⟩, ⟨⟨x', ?_⟩, hit'.1.at fun o q => (sb.2 it (Ne.symm hne)).trans q, hne⟩, fun b hb => ?_⟩
    · have e1 : ((i + 1 : Nat) : Int) = (i : Int) + 1 := by omega
      rw [e1]; exact he'
    · have hb' : b < s.heap.objs.size := by
        have e' : b = e ∨ b = it := by simpa using hb
        rcases e' with z | z
        · rw [z]; exact hel
        · rw [z]; exact hil
      rw [upd_ne (Nat.ne_of_lt hb')]
      exact (hf b hb).1
  done := by
    intro X hP hw hK hc i pins s σ H E I hf st hg
    subst hP hw hK
    obtain ⟨⟨old, he⟩, hit, hne⟩ := st
    obtain ⟨xs, hq, hx⟩ := hg
    obtain ⟨its, rv, p, hz⟩ := I.tuple hq
    obtain ⟨f0, f1, f2, f3, f4, f5⟩ := hf it (by simp)
    have hl := rv.length
    have hne2 : a ≠ it := fun z => by
      subst z
      obtain ⟨o1, q1, q2, _⟩ := hit
      obtain ⟨o2, q3, q4, _⟩ := (show s.heap.IsTuple a its.toArray from p)
      rw [q1] at q3; cases q3
      rw [q2] at q4; exact absurd (Value.type.inj q4) (by decide)
    have ei : its.toArray.size = i := by rw [List.size_toArray, ← hl]; exact hx
    subst ei
    exact wpAny_pyNext_enum_endD (Draws.tuple (prog := X.prog) (w := X.w) (A := X.A.in1) (I.ok.hd hc) it a hne2 its.toArray) he ⟨hit, p⟩ fun h' eb => ⟨rfl, I.turned (t' := s.toks) (fun b o hb q => eb b o hb q) f0 f1 f3 f4 f5⟩
  self := fun A i s Q E st h => let ⟨⟨_, he⟩, _⟩ := st; wpAny_pyIter_enum he h
end
end FT

end
section
set_option Elab.async false
set_option linter.all false
set_option maxRecDepth 100000
set_option maxHeartbeats 4000000
/-! FTZip: zip of two things, each a list or a tuple. -/
namespace FT
open PySem PySem.Spec PyProof.Rows L2

inductive Kd where | l | t
def Kd.sq : Kd → PySem.W.Frag → Hp → Addr → List V → Prop
  | .l => SqL
  | .t => SqT
def Kd.con : Kd → Heap → Addr → Array Value → Prop
  | .l, h, a, xs => h.IsList a xs
  | .t, h, a, xs => h.IsTuple a xs
def Kd.itr : Kd → Heap → Addr → Addr → Nat → Prop
  | .l, h, p, a, i => h.IsListIter p a i
  | .t, h, p, a, i => h.IsTupleIter p a i
def Kd.obj : Kd → Addr → Obj
  | .l, a => { cls := .type "list_iterator", data := .fields #[.ref a, .int 0 0] }
  | .t, a => { cls := .type "tuple_iterator", data := .fields #[.ref a, .int 0 0] }
section
variable {k : Kd} {X : Cx} {pins : List (Addr × Obj)} {σ : L2.St} {H : Hp} {s : Shared} {a p : Addr} {i : Nat} {h h' : Heap} {xs ys : List V}
theorem Kd.open_ (I : Inv X pins σ H s) (q : k.sq X.K H a xs) : ∃ vs : List Value, Vals xs vs ∧ k.con s.heap a vs.toArray := by
  cases k with
  | l =>
    obtain ⟨vs, r, e, _⟩ := I.list q
    exact ⟨vs, r, e.isList⟩
  | t =>
    obtain ⟨vs, r, e, _⟩ := I.tuple q
    exact ⟨vs, r, e⟩
theorem Kd.inj (I : Inv X pins σ H s) (q : k.sq X.K H a xs) (q' : k.sq X.K H a ys) : xs = ys := by
  cases k with
  | l => exact I.list_inj q q'
  | t => exact I.tuple_inj q q'
theorem Kd.begins (vs : Array Value) : Begins (.ref a) (k.obj a) (fun h => k.con h a vs) := by
  cases k with
  | l => exact begins_list a vs
  | t => exact begins_tuple a vs
theorem Kd.start (e : h.get? p = some (k.obj a)) : k.itr h p a 0 := by
  cases k with
  | l => exact ⟨_, e, rfl, rfl⟩
  | t => exact ⟨_, e, rfl, rfl⟩
theorem Kd.itr_at (q : k.itr h p a i) (e : ∀ o, h.get? p = some o → h'.get? p = some o) : k.itr h' p a i := by
  cases k with
  | l => exact Heap.IsListIter.at q e
  | t => exact Heap.IsTupleIter.at q e
theorem Kd.itr_obj (q : k.itr h p a i) : ∃ o, h.get? p = some o ∧ ∀ v, o.data ≠ .cell v := by
  cases k with
  | l => obtain ⟨o, e, _, d⟩ := q; exact ⟨o, e, fun v z => by rw [d] at z; cases z⟩
  | t => obtain ⟨o, e, _, d⟩ := q; exact ⟨o, e, fun v z => by rw [d] at z; cases z⟩
theorem Kd.con_lt {vs : Array Value} (q : k.con h a vs) : a < h.objs.size := by
  cases k with
  | l => obtain ⟨o, e, _⟩ := q; exact Heap.lt_size e
  | t => obtain ⟨o, e, _⟩ := q; exact Heap.lt_size e
theorem Kd.draws {prog : Program} {w : World} {A : Around} (hh : A.handled = none) (ne : a ≠ p) (vs : Array Value) : Draws prog w A p [p, a] vs.size (fun i v => vs[i]? = some v) (fun i h => k.itr h p a i ∧ k.con h a vs) := by
  cases k with
  | l => exact Draws.list hh p a ne vs
  | t => exact Draws.tuple hh p a ne vs
end
/-- what stands at a and b at each turn, the items in new pairs -/
def ItzM (K : PySem.W.Frag) (k1 k2 : Kd) (a b : Addr) : L2.It where
  go := fun i H => ∃ (xs ys : List V) (x y : V), k1.sq K H a xs ∧ k2.sq K H b ys ∧ xs[i]? = some x ∧ ys[i]? = some y
  yld := fun i H v H' => ∃ p x y, v = .ref p ∧ H p = none ∧ H' = upd H p (.tup [x, y]) ∧ (∀ xs, k1.sq K H a xs → xs[i]? = some x) ∧ ∀ ys, k2.sq K H b ys → ys[i]? = some y
  stop := fun i H => ∃ xs ys : List V, k1.sq K H a xs ∧ k2.sq K H b ys ∧ (xs.length = i ∨ ys.length = i) ∧ i ≤ xs.length ∧ i ≤ ys.length
abbrev zM (N : Nat) : List Addr := [N + 4, N + 2, N + 3, N, N + 1]
def zSt (k1 k2 : Kd) (a b N : Addr) (i : Nat) (h : Heap) : Prop := IsZip h (N + 4 : Nat) (N + 2 : Nat) (N + 3 : Nat) .none ∧ IsTupOf2 h (N + 2 : Nat) (.ref N) (.ref (N + 1 : Nat)) ∧ (∃ x y, IsTupOf2 h (N + 3 : Nat) x y) ∧ k1.itr h N a i ∧ k2.itr h (N + 1 : Nat) b i
theorem zM_mem {N c : Nat} : c ∈ zM N ↔ c = N + 4 ∨ c = N + 2 ∨ c = N + 3 ∨ c = N ∨ c = N + 1 := by simp
theorem zM_lt {N c n : Nat} (h : c ∈ zM N) (l : N + 4 < n) : c < n := by
  rcases zM_mem.mp h with e | e | e | e | e <;> omega
theorem zM_le {N c : Nat} (h : c ∈ zM N) : N ≤ c := by
  rcases zM_mem.mp h with e | e | e | e | e <;> omega
theorem turn_zipM {P : Program} {w : World} {K : PySem.W.Frag} {elts : List Expr} {kk : Nat} {tpos : Pos} {k1 k2 : Kd} {a b N : Nat} (la : a < N) (lb : b < N) :
    Turn P w K (.Tuple elts kk tpos) (ItzM K k1 k2 a b) (zM N) (N + 4 : Nat) (zSt k1 k2 a b N) where
  mem := zM_mem.mpr (.inl rfl)
  obj := fun i h S c hc => by
    obtain ⟨s1, s2, ⟨_, _, s3⟩, s4, s5⟩ := S
    rcases zM_mem.mp hc with e | e | e | e | e <;> subst e
    · exact ⟨_, s1, fun v z => nomatch z⟩
    · exact ⟨_, s2, fun v z => nomatch z⟩
    · exact ⟨_, s3, fun v z => nomatch z⟩
    · exact Kd.itr_obj s4
    · exact Kd.itr_obj s5
  keep := fun i h h' S kp => by
    obtain ⟨s1, s2, ⟨x, y, s3⟩, s4, s5⟩ := S
    have m : ∀ c, c ∈ zM N → ∀ o, h.get? c = some o → h'.get? c = some o := kp
    exact ⟨m _ (zM_mem.mpr (.inl rfl)) _ s1, m _ (zM_mem.mpr (.inr (.inl rfl))) _ s2, ⟨x, y, m _ (zM_mem.mpr (.inr (.inr (.inl rfl)))) _ s3⟩, Kd.itr_at s4 (m _ (zM_mem.mpr (.inr (.inr (.inr (.inl rfl)))))), Kd.itr_at s5 (m _ (zM_mem.mpr (.inr (.inr (.inr (.inr rfl))))))⟩
  item := by
    intro X eP ew eK cX i pins s σ H E I fp S G
    cases eP; cases ew; cases eK
    obtain ⟨s1, s2, ⟨_, _, s3⟩, s4, s5⟩ := S
    obtain ⟨xs, ys, x, y, qx, qy, ex, ey⟩ := G
    obtain ⟨us, ru, cu⟩ := Kd.open_ I qx
    obtain ⟨ws, rw', cw⟩ := Kd.open_ I qy
    obtain ⟨u, eu, xu⟩ := ru.get ex
    obtain ⟨w', ew', yw⟩ := rw'.get ey
    have l1 : i < us.toArray.size := by rw [List.size_toArray]; exact (List.getElem?_eq_some_iff.mp eu).1
    have l2 : i < ws.toArray.size := by rw [List.size_toArray]; exact (List.getElem?_eq_some_iff.mp ew').1
    have sep : ZipSep2 (N + 4 : Nat) (N + 2 : Nat) (N + 3 : Nat) N (N + 1 : Nat) [N, a] [(N + 1 : Nat), b] := zip_sep2 (fun c z => by rw [List.mem_singleton.mp z]; exact la) (fun c z => by rw [List.mem_singleton.mp z]; exact lb)
    have nl : (N + 4 : Nat) < s.heap.objs.size := Heap.lt_size s1
    refine wpAny_pyNext_zipD2_item sep (Kd.draws (k := k1) (A := X.A.in1) (show X.A.in1.handled = none from I.ok.hd cX) (Nat.ne_of_lt la) us.toArray) (Kd.draws (k := k2) (A := X.A.in1) (show X.A.in1.handled = none from I.ok.hd cX) (show b ≠ N + 1 by omega) ws.toArray) s1 s2 s3 ⟨s4, cu⟩ ⟨s5, cw⟩ l1 l2 fun v1 v2 g tk p1 p2 t1 t2 t4 t5 t3 sz kp => ?_
    have e1 : v1 = u := by
      have p1' : us[i]? = some v1 := by simpa using p1
      exact Option.some.inj (p1'.symm.trans eu)
    have e2 : v2 = w' := by
      have p2' : ws[i]? = some v2 := by simpa using p2
      exact Option.some.inj (p2'.symm.trans ew')
    subst e1 e2
    refine ⟨_, rfl, wpAny_letOwnedTupleGo_zip (s := { s with heap := g, toks := tk }) t1 fun g2 z2 sb => ?_⟩
    have old : ∀ c o, c ∉ zM N → s.heap.get? c = some o → g2.get? c = some o := fun c o n e => by
      have n' := fun z => n (zM_mem.mpr z)
      refine (sb.2 c fun z => n' (.inl z)).trans (kp c o (fun z => n' (.inl z)) (fun z => n' (.inr (.inr (.inl z)))) (fun z => n' (.inr (.inr (.inr (.inl z))))) (fun z => n' (.inr (.inr (.inr (.inr z))))) e)
    have at3 : g2.get? s.heap.objs.size = some { cls := .type "tuple", data := .seq #[v1, v2] } := (sb.2 _ (Nat.ne_of_gt nl)).trans t3
    have fresh : ObjOk X.prog X.w (upd H s.heap.objs.size (.tup [x, y])) g2 s.heap.objs.size (.tup [x, y]) := ⟨by show 2 ≤ sizeLine; decide, [v1, v2], .cons xu (.cons yw .nil), ⟨_, at3, rfl, _, rfl⟩⟩
    have J := I.turnedNew (t' := tk) (ch := zM N) old fp (Nat.le_refl _) fresh
    refine ⟨.ref s.heap.objs.size, _, J, rfl, ⟨_, x, y, rfl, I.hok.fresh (Nat.le_refl _), rfl, fun zs q => by rw [Kd.inj I q qx]; exact ex, fun zs q => by rw [Kd.inj I q qy]; exact ey⟩, ⟨z2, ?_, ⟨_, _, (sb.2 _ (show (N + 3 : Nat) ≠ N + 4 by omega)).trans t2⟩, ?_, ?_⟩, fun c hc => ?_⟩
    · exact (sb.2 _ (show (N + 2 : Nat) ≠ N + 4 by omega)).trans (kp _ _ (show (N + 2 : Nat) ≠ N + 4 by omega) (show (N + 2 : Nat) ≠ N + 3 by omega) (show (N + 2 : Nat) ≠ N by omega) (show (N + 2 : Nat) ≠ N + 1 by omega) s2)
    · exact Kd.itr_at t4.1 fun o e => (sb.2 _ (show (N : Nat) ≠ N + 4 by omega)).trans e
    · exact Kd.itr_at t5.1 fun o e => (sb.2 _ (show (N + 1 : Nat) ≠ N + 4 by omega)).trans e
    · have lt : c < s.heap.objs.size := zM_lt hc nl
      rw [upd_ne (Nat.ne_of_lt lt)]
      exact (fp c hc).1
  done := by
    intro X eP ew eK cX i pins s σ H E I fp S G
    cases eP; cases ew; cases eK
    obtain ⟨s1, s2, ⟨_, _, s3⟩, s4, s5⟩ := S
    obtain ⟨xs, ys, qx, qy, en, lx, ly⟩ := G
    obtain ⟨us, ru, cu⟩ := Kd.open_ I qx
    obtain ⟨ws, rw', cw⟩ := Kd.open_ I qy
    have z1 : us.toArray.size = xs.length := by rw [List.size_toArray]; exact ru.length.symm
    have z2 : ws.toArray.size = ys.length := by rw [List.size_toArray]; exact rw'.length.symm
    have sep : ZipSep2 (N + 4 : Nat) (N + 2 : Nat) (N + 3 : Nat) N (N + 1 : Nat) [N, a] [(N + 1 : Nat), b] := zip_sep2 (fun c z => by rw [List.mem_singleton.mp z]; exact la) (fun c z => by rw [List.mem_singleton.mp z]; exact lb)
    refine wpAny_pyNext_zipD2_end sep (Kd.draws (k := k1) (A := X.A.in1) (show X.A.in1.handled = none from I.ok.hd cX) (Nat.ne_of_lt la) us.toArray) (Kd.draws (k := k2) (A := X.A.in1) (show X.A.in1.handled = none from I.ok.hd cX) (show b ≠ N + 1 by omega) ws.toArray) s1 s2 s3 ⟨s4, cu⟩ ⟨s5, cw⟩ (by rw [z1]; exact lx) (by rw [z2]; exact ly) (by rw [z1, z2]; omega) fun g tk kp => ⟨rfl, ?_⟩
    refine I.turnedL (t' := tk) (ch := zM N) (fun c o n e => ?_) fp
    have n' := fun z => n (zM_mem.mpr z)
    exact kp c o (fun z => n' (.inl z)) (fun z => n' (.inr (.inr (.inl z)))) (fun z => n' (.inr (.inr (.inr (.inl z))))) (fun z => n' (.inr (.inr (.inr (.inr z))))) e
  self := fun A i s Q E S q => wpAny_pyIter_zip S.1 q
def iZipM (K : PySem.W.Frag) (ta : TA) : TI := fun σ H R => ta σ H fun vs H1 => ∃ k1 k2 a b xs ys, vs = [.ref a, .ref b] ∧ Kd.sq k1 K H1 a xs ∧ Kd.sq k2 K H1 b ys ∧ R (ItzM K k1 k2 a b) H1
theorem pi_zipM {X : Cx} {e1 e2 : Expr} {ta : TA} {p cp tpos : Pos} {elts : List Expr} {kk : Nat} (hg : Gl X "zip") (hm : X.mg "zip" = none) (ha : PA X [e1, e2] ta)
    (h1 : starEach [e1, e2] X.env = (false, eval e1 X.env) :: starEach [e2] X.env) (h2 : (backTo cp (starEach [e2] X.env)).any (·.1) = false) :
    PI X (.Tuple elts kk tpos) (.Call (.Name "zip" p) [e1, e2] [] cp) (iZipM X.K ta) where
  run := fun pins s σ H R I h => by
    have args := ha.run cp pins s σ H _ I h
    refine Call_ (ld_blt I hg hm boot_zip (callWith_type1 (thn args fun us s1 got => ?_) h1 h2))
    obtain ⟨vs, H1, J, rel, k1, k2, a, b, xs, ys, rfl, qx, qy, r⟩ := got
    cases rel with
    | cons ra rest =>
      cases rest with
      | cons rb rest =>
        cases rest
        cases ra
        cases rb
        obtain ⟨us, _, cu⟩ := Kd.open_ J qx
        obtain ⟨ws, _, cw⟩ := Kd.open_ J qy
        refine zip_begins2 (Kd.begins us.toArray) (Kd.begins ws.toArray) cu cw fun g z1 z2 z3 g1 g2 sz kp => wpAny_pyIter_zip z1 ?_
        refine ⟨_, zM s1.heap.objs.size, _, _, H1, rfl, J.kept (t' := s1.toks) kp, turn_zipM (Kd.con_lt cu) (Kd.con_lt cw), ⟨z1, z2, ⟨_, _, z3⟩, Kd.start g1, Kd.start g2⟩, fun c hc => ?_, r⟩
        have le : s1.heap.objs.size ≤ c := zM_le hc
        exact J.fpOk le (J.hok.fresh le)
section
variable {K : PySem.W.Frag} {cn : Nat → Addr} {H H' H0 : Hp} {D D' D0 : List Addr}
theorem Kd.mono {k : Kd} {a : Addr} {vs : List V} (q : k.sq K (hide H0 D0) a vs) (kp : Keep H0 D0 H D) : k.sq K H a vs := by
  cases k with
  | l => exact unhL (sqL_mono kp q)
  | t => exact unhT (sqT_mono kp q)
theorem itw_zipM {k1 k2 : Kd} {a b : Addr} {vs ws : List V} {ts us : List T} (h : k1.sq K (hide H0 D0) a vs) (r : Reps K cn H0 D0 vs ts []) (h' : k2.sq K (hide H0 D0) b ws) (r' : Reps K cn H0 D0 ws us []) : ItW K cn (ItzM K k1 k2 a b) (zipT ts us) H0 D0 where
  goes := fun i H D hi kp => by
    rw [zipT_length, ← r.length, ← r'.length] at hi
    have l1 : i < vs.length := by omega
    have l2 : i < ws.length := by omega
    exact ⟨vs, ws, _, _, Kd.mono h kp, Kd.mono h' kp, List.getElem?_eq_getElem l1, List.getElem?_eq_getElem l2⟩
  stops := fun H D kp => by
    rw [zipT_length, ← r.length, ← r'.length]
    exact ⟨vs, ws, Kd.mono h kp, Kd.mono h' kp, by omega, by omega, by omega⟩
  yields := fun i H D x H' hi kp y => by
    obtain ⟨p, v, w, rfl, e2, e3, e4, e5⟩ := y
    obtain ⟨t, t1, t2⟩ := r.atE (e4 vs (Kd.mono h kp))
    obtain ⟨u, u1, u2⟩ := r'.atE (e5 ws (Kd.mono h' kp))
    exact ⟨_, zipT_at t1 u1, gives_pair (xs := fun i => vs[i]?) (ys := fun i => ws[i]?) ⟨p, v, w, rfl, e2, e3, e4 vs (Kd.mono h kp), e5 ws (Kd.mono h' kp)⟩ (fun z e => by have ez := Option.some.inj ((e4 vs (Kd.mono h kp)).symm.trans e); subst ez; exact t2.keep kp) (fun z e => by have ez := Option.some.inj ((e5 ws (Kd.mono h' kp)).symm.trans e); subst ez; exact u2.keep kp)⟩
end
end FT

end
section
set_option Elab.async false
set_option linter.all false
set_option maxRecDepth 100000
set_option maxHeartbeats 4000000
/-! FTPi: iterables. -/
namespace FT
open PySem PySem.Spec PyProof.Rows L2
section
variable {K : PySem.W.Frag} {cn : Nat → Addr} {H H' H0 H1 H2 H3 : Hp} {D D' D0 Do Dx : List Addr} {σ : St8} {ρ ρ1 ρ' : Env8} {L L' La Lb Lt Lv Lw : List Addr} {W : WX}
abbrev relI (K : PySem.W.Frag) (cn : Nat → Addr) : Rel (List T) L2.It := fun _ H D J ts Lv => ItW K cn J ts H D ∧ Lv = []
abbrev tI (K : PySem.W.Frag) (cn : Nat → Addr) (W : WX) (ev : Env8 → R (List T)) : TI := tG K cn W (relI K cn) ev
theorem PI.imp {X : Cx} {tg e : Expr} {t t' : TI} (h : PI X tg e t) (k : ∀ σ H R, t' σ H R → t σ H R) : PI X tg e t' := ⟨fun pins s σ H R I q => h.run pins s σ H R I (k σ H R q)⟩
theorem Rep.frozen {v : V} {t : T} (ok : Ok8 K cn (Lt ++ Do) σ ρ H L) (r : Rep K cn H (L ++ (Lt ++ Do)) v t Lv) (hv : ∀ a ∈ Lv, a ∈ Lt) : Rep K cn H (L ++ Do) v (fz t) [] := by
  obtain ⟨n1, n2, n3⟩ := List.nodup_append.mp ok.nd
  obtain ⟨n4, n5, n6⟩ := List.nodup_append.mp n2
  refine Rep.freeze (hide_mem fun b z => ?_) (fun a z q => ?_) r
  · rcases List.mem_append.mp z with z | z
    · exact List.mem_append_left _ z
    · exact List.mem_append_right _ (List.mem_append_right _ z)
  · rcases List.mem_append.mp q with q | q
    · exact n3 a q a (List.mem_append_left _ (hv a z)) rfl
    · exact n6 a (hv a z) a q rfl
theorem Rep.move {v : V} {t : T} (r : Rep K cn H1 (La ++ Dx) v t Lw) (ok : Ok8 K cn Dx σ ρ H1 La) (st : Stp La H1 (Lv ++ Lb) H2) (hw : ∀ a ∈ Lw, a ∈ Dx) (hD : ∀ b ∈ D', b ∈ Lv ++ Lb ∨ b ∈ Dx ∨ b ∈ La) (hD2 : ∀ a ∈ Dx, a ∈ D') : Rep K cn H2 D' v t Lw :=
  Rep.mono (ok.hF st hD) (fun a z => ⟨ok.hL st (hw a z), hD2 a (hw a z)⟩) r
theorem ofO_ok {α : Type} {o : Option α} {β : Type} {rel : Rel α β} {Q : β → Hp → Prop} (h : PostG K cn W rel Do σ H L (ofO o ρ) Q) : ∃ a, o = some a ∧ PostG K cn W rel Do σ H L (.ok a ρ) Q := by
  cases o with
  | none => exact h.elim
  | some a => exact ⟨a, rfl, h⟩
def iAny (K : PySem.W.Frag) (te : TE) : TI := fun σ H R => te σ H fun v H1 => (∃ a xs, v = .ref a ∧ SqL K H1 a xs ∧ R (Itl K a) H1) ∨ (∃ a xs, v = .ref a ∧ SqT K H1 a xs ∧ R (Itt K a) H1) ∨ (∃ x, v = .str x ∧ R (Its x) H1)
section
variable {X : Cx} {tg : Expr}
theorem pi_any {l : Expr} {tl : TE} (hl : PE X l tl) : PI X tg l (iAny X.K tl) := by
  refine ⟨fun pins s σ H R I h => ?_⟩
  refine thn (hl.run pins s σ H _ I h) fun v s1 ⟨x, H1, I1, r1, q1⟩ => ?_
  rcases q1 with ⟨a, xs, e, hq, q⟩ | ⟨a, xs, e, hq, q⟩ | ⟨x', e, q⟩
  · subst e
    obtain rfl : v = Value.ref a := r1
    obtain ⟨its, rv, p, hz⟩ := I1.list hq
    exact wpAny_pyIter_list p.isList (pi_one (tk := s1.toks) I1 _ (turn_list a _) ⟨_, Heap.get?_push_size _ rfl, rfl, rfl⟩ q)
  · subst e
    obtain rfl : v = Value.ref a := r1
    obtain ⟨its, rv, p, hz⟩ := I1.tuple hq
    exact wpAny_pyIter_tuple (show s1.heap.IsTuple a its.toArray from p) (pi_one (tk := s1.toks) I1 _ (turn_tuple a _) ⟨_, Heap.get?_push_size _ rfl, rfl, rfl⟩ q)
  · subst e
    obtain ⟨t, rfl⟩ := r1
    cases ha : x'.cps.all (· < 128)
    · exact wpAny_pyIter_wide ha (pi_one (tk := s1.toks) I1 _ (turn_str _ x' t "str_iterator" (.inr rfl)) ⟨_, Heap.get?_push_size _ rfl, rfl, rfl⟩ q)
    · exact wpAny_pyIter_ascii ha (pi_one (tk := s1.toks) I1 _ (turn_str _ x' t "str_ascii_iterator" (.inl rfl)) ⟨_, Heap.get?_push_size _ rfl, rfl, rfl⟩ q)
/-- what stands for a sequence of frozen trees -/
theorem seq_of {v : V} {t : T} {ts : List T} (r : Rep K cn H D v t []) (e : seqT t = some ts) : (∃ a vs, v = .ref a ∧ SqL K (hide H D) a vs ∧ Reps K cn H D vs ts [] ∧ t = .lst false ts) ∨ (∃ a vs, v = .ref a ∧ SqT K (hide H D) a vs ∧ Reps K cn H D vs ts [] ∧ t = .tup ts) := by
  unfold seqT at e
  split at e
  · split at e
    · cases e
      cases r with
      | tup h r => exact .inr ⟨_, _, rfl, h, r, rfl⟩
    · cases e
  · split at e
    · cases e
      cases r with
      | lstF h r => exact .inl ⟨_, _, rfl, .inl (.inl h), r, rfl⟩
    · cases e
  · cases e
theorem itemsT_some {t : T} {ts : List T} (e : itemsT t = some ts) : t = .tup ts ∨ t = .lst false ts ∨ t = .slst ts ∨ ∃ z, t = .str z ∧ ts = z.cps.toList.map fun c => .str ⟨#[c]⟩ := by
  cases t with
  | tup xs =>
    have e' : (if isFzs xs = true then some xs else none) = some ts := e
    split at e'
    · cases e'; exact .inl rfl
    · cases e'
  | lst o xs =>
    cases o with
    | true => cases e
    | false =>
      have e' : (if isFzs xs = true then some xs else none) = some ts := e
      split at e'
      · cases e'; exact .inr (.inl rfl)
      · cases e'
  | slst xs =>
    have e' : (if isFzs xs = true then some xs else none) = some ts := e
    split at e'
    · cases e'; exact .inr (.inr (.inl rfl))
    · cases e'
  | str z => cases e; exact .inr (.inr (.inr ⟨z, rfl, rfl⟩))
  | _ => cases e
theorem pi_sq {l : Expr} {ev : Env8 → R T} (hl : PE X l (tE X.K cn W ev)) : PI X tg l (tI X.K cn W fun ρ => (ev ρ).bind fun t ρ => ofO (itemsT (fz t)) ρ) := by
  refine PI.imp (pi_any hl) fun σ H R h => ?_
  obtain ⟨ρ, L, Do, ok, post⟩ := h
  refine ⟨ρ, L, Do, ok, PostG.first post fun t ρ1 v H1 La Lw e1 ok1 r1 st1 post1 => ?_⟩
  obtain ⟨ts, e2, post2⟩ := ofO_ok post1
  have rf := Rep.frozen ok1 r1 fun _ z => z
  have fin : ∀ J, ItW X.K cn J ts H1 (La ++ ([] ++ Do)) → R J H1 := fun J hJ => post2.done0 ok1 st1 fun _ => ⟨hJ, rfl⟩
  revert e2 rf
  generalize fz t = u
  intro e2 rf
  rcases itemsT_some e2 with rfl | rfl | rfl | ⟨z, rfl, rfl⟩
  · cases rf with
    | tup h r => exact .inr (.inl ⟨_, _, rfl, unhT h, fin _ (itw_tup h r)⟩)
  · cases rf with
    | lstF h r => exact .inl ⟨_, _, rfl, .inl (.inl (hide_sub h)), fin _ (itw_list (.inl (.inl h)) r)⟩
  · cases rf with
    | slst h r => exact .inl ⟨_, _, rfl, unhL h, fin _ (itw_list h r)⟩
  · cases rf
    exact .inr (.inr ⟨_, rfl, fin _ itw_str⟩)
theorem pi_r1 {a : Expr} {ev : Env8 → R T} {p pos : Pos} (hg : Gl X "range") (hm : X.mg "range" = none) (ha : PE X a (tE X.K cn W ev)) (hs : plain a = true) :
    PI X tg (.Call (.Name "range" p) [a] [] pos) (tI X.K cn W fun ρ => (ev ρ).bind fun t ρ => match t with
    | .int j => if rngOk j then .ok (rngL 0 j.toNat) ρ else .bad
    | _ => .bad) := by
  refine PI.imp (pi_range1 hg hm (pa_cons ha pa_nil (star_of hs)) (star_of hs)) fun σ H R h => ?_
  obtain ⟨ρ, L, Do, ok, post⟩ := h
  refine ⟨ρ, L, Do, ok, PostG.first post fun t ρ1 v H1 La Lw e1 ok1 r1 st1 post1 => ?_⟩
  split at post1
  · rename_i j
    cases r1
    split at post1
    · rename_i hj
      unfold rngOk at hj
      simp only [Bool.and_eq_true, decide_eq_true_eq] at hj
      exact ⟨j, rfl, hj.1, hj.2, post1.done0 ok1 st1 fun _ => ⟨itw_range, rfl⟩⟩
    · exact post1.elim
  · exact post1.elim
theorem pi_r2 {a b : Expr} {ev ew : Env8 → R T} {p pos : Pos} (hg : Gl X "range") (hm : X.mg "range" = none) (ha : PE X a (tE X.K cn W ev)) (hb : PE X b (tE X.K cn W ew)) (hs : plain a = true) (hs' : plain b = true) :
    PI X tg (.Call (.Name "range" p) [a, b] [] pos) (tI X.K cn W fun ρ => (ev ρ).bind fun t ρ => (ew ρ).bind fun u ρ => match t, u with
    | .int i, .int j => if rngOk i && rngOk j then .ok (rngL i (j - i).toNat) ρ else .bad
    | _, _ => .bad) := by
  refine PI.imp (pi_range2 hg hm (pa_cons ha (pa_cons hb pa_nil (star_of hs')) (star_of hs)) (by rw [star_of hs, star_of hs']; rfl) (star_of hs')) fun σ H R h => ?_
  obtain ⟨ρ, L, Do, ok, post⟩ := h
  refine ⟨ρ, L, Do, ok, PostG.first post fun t ρ1 v H1 La Lw e1 ok1 r1 st1 post1 => ?_⟩
  refine ⟨ρ1, La, Lw ++ Do, ok1, PostG.sub post1 st1 fun u ρ2 w H2 Lb Lv e2 ok2 r2 st2 stl post2 => ?_⟩
  split at post2
  · rename_i i j
    cases r1
    cases r2
    split at post2
    · rename_i hj
      unfold rngOk at hj
      simp only [Bool.and_eq_true, decide_eq_true_eq] at hj
      exact ⟨i, j, rfl, ⟨hj.1.1, hj.1.2, hj.2.1, hj.2.2⟩, post2.done0 ok2 st2 fun _ => ⟨itw_range, rfl⟩⟩
    · exact post2.elim
  · exact post2.elim
theorem itw_rngD {lo : Int} {n : Nat} {H0 : Hp} {D0 : List Addr} : ItW X.K cn (Itc lo (-1) n) (rngD lo n) H0 D0 :=
  itw_of walk_rangeC (by unfold rngD; rw [List.length_map, List.length_range]) (fun _ _ _ => trivial) fun i H D x H' hi k ⟨e, ex⟩ => by
    refine ⟨.int (lo + (i : Nat) * (-1)), ?_, .inl ⟨e, by rw [ex]; exact .int _⟩⟩
    unfold rngD
    rw [List.getElem?_map, List.getElem?_range hi]; rfl
theorem pi_rr1 {a : Expr} {ev : Env8 → R T} {p p2 pos pos2 : Pos} (hg : Gl X "reversed") (hm : X.mg "reversed" = none) (hg2 : Gl X "range") (hm2 : X.mg "range" = none) (ha : PE X a (tE X.K cn W ev)) (hs : plain a = true) :
    PI X tg (.Call (.Name "reversed" p) [.Call (.Name "range" p2) [a] [] pos2] [] pos) (tI X.K cn W fun ρ => (ev ρ).bind fun t ρ => match t with
    | .int j => if rngOk j then .ok (rngD (0 + (((j - 0).toNat : Nat) : Int) - 1) (j - 0).toNat) ρ else .bad
    | _ => .bad) := by
  refine PI.imp (pi_revR hg hm (prg_1 hg2 hm2 ha (star_of hs)) rfl) fun σ H R h => ?_
  obtain ⟨ρ, L, Do, ok, post⟩ := h
  refine ⟨ρ, L, Do, ok, PostG.first post fun t ρ1 v H1 La Lw e1 ok1 r1 st1 post1 => ?_⟩
  split at post1
  · rename_i j
    cases r1
    split at post1
    · rename_i hj
      unfold rngOk at hj
      simp only [Bool.and_eq_true, decide_eq_true_eq] at hj
      exact ⟨j, rfl, by decide, by decide, hj.1, hj.2, post1.done0 ok1 st1 fun _ => ⟨itw_rngD, rfl⟩⟩
    · exact post1.elim
  · exact post1.elim
theorem pi_r3 {a b c : Expr} {ev ew : Env8 → R T} {p pos : Pos} (hg : Gl X "range") (hm : X.mg "range" = none) (ha : PE X a (tE X.K cn W ev)) (hb : PE X b (tE X.K cn W ew)) (hc : PE X c (tC (.int (-1)))) (hs : plain a = true) (hs' : plain b = true) (hs2 : plain c = true) :
    PI X tg (.Call (.Name "range" p) [a, b, c] [] pos) (tI X.K cn W fun ρ => (ev ρ).bind fun t ρ => (ew ρ).bind fun u ρ => match t, u with
    | .int i, .int j => if rngOk i && rngOk j then .ok (rngD i (i - j).toNat) ρ else .bad
    | _, _ => .bad) := by
  have h1 := star_of (X := X) (es := [c]) hs'
  have h2 := star_of (X := X) (es := []) hs2
  refine PI.imp (pi_range3 hg hm (pa_cons ha (pa_cons hb (pa_cons hc pa_nil h2) h1) (star_of hs)) (star_of hs) (by rw [h1, h2]; rfl)) fun σ H R h => ?_
  obtain ⟨ρ, L, Do, ok, post⟩ := h
  refine ⟨ρ, L, Do, ok, PostG.first post fun t ρ1 v H1 La Lw e1 ok1 r1 st1 post1 => ?_⟩
  refine ⟨ρ1, La, Lw ++ Do, ok1, PostG.sub post1 st1 fun u ρ2 w H2 Lb Lv e2 ok2 r2 st2 stl post2 => ?_⟩
  split at post2
  · rename_i i j
    cases r1
    cases r2
    split at post2
    · rename_i hj
      unfold rngOk at hj
      simp only [Bool.and_eq_true, decide_eq_true_eq] at hj
      exact ⟨i, j, -1, _, rfl, RgC.neg hj.1.1 hj.1.2 hj.2.1 hj.2.2, post2.done0 ok2 st2 fun _ => ⟨itw_rngD, rfl⟩⟩
    · exact post2.elim
  · exact post2.elim
theorem pi_rv {a : Expr} {ev : Env8 → R T} {p pos : Pos} (hg : Gl X "reversed") (hm : X.mg "reversed" = none) (ha : PE X a (tE X.K cn W ev)) (hs : plain a = true) :
    PI X tg (.Call (.Name "reversed" p) [a] [] pos) (tI X.K cn W fun ρ => (ev ρ).bind fun t ρ => ofO ((seqT (fz t)).map List.reverse) ρ) := by
  refine PI.imp (RT.pi_revA hg hm ha (star_of hs)) fun σ H R h => ?_
  obtain ⟨ρ, L, Do, ok, post⟩ := h
  refine ⟨ρ, L, Do, ok, PostG.first post fun t ρ1 v H1 La Lw e1 ok1 r1 st1 post1 => ?_⟩
  obtain ⟨us, e2, post2⟩ := ofO_ok post1
  obtain ⟨ts, e3, e4⟩ := map_some e2
  subst e4
  have rf := Rep.frozen ok1 r1 fun _ z => z
  rcases seq_of rf e3 with ⟨a, vs, rfl, h, r, _⟩ | ⟨a, vs, rfl, h, r, _⟩
  · exact ⟨a, vs, rfl, .inl ⟨unhL h, post2.done0 ok1 st1 fun _ => ⟨itw_rev h r, rfl⟩⟩⟩
  · exact ⟨a, vs, rfl, .inr ⟨unhT h, post2.done0 ok1 st1 fun _ => ⟨itw_revT h r, rfl⟩⟩⟩
/-- a thing as a list or a tuple -/
def kdOf (k : Kd) (xs : List T) : T := match k with | .l => .lst false xs | .t => .tup xs
theorem zipOk_some {t u : T} {ts : List T} (e : zipOk t u = some ts) : ∃ k1 k2 xs ys, t = kdOf k1 xs ∧ u = kdOf k2 ys ∧ ts = zipT xs ys := by
  unfold zipOk at e
  split at e
  · split at e
    · cases e; exact ⟨.t, .t, _, _, rfl, rfl, rfl⟩
    · cases e
  · split at e
    · cases e; exact ⟨.l, .l, _, _, rfl, rfl, rfl⟩
    · cases e
  · split at e
    · cases e; exact ⟨.t, .l, _, _, rfl, rfl, rfl⟩
    · cases e
  · split at e
    · cases e; exact ⟨.l, .t, _, _, rfl, rfl, rfl⟩
    · cases e
  · cases e
theorem kd_rep {K : PySem.W.Frag} {cn : Nat → Addr} {H : Hp} {D : List Addr} {k : Kd} {v : V} {xs : List T} (r : Rep K cn H D v (kdOf k xs) []) : ∃ a vs, v = .ref a ∧ Kd.sq k K (hide H D) a vs ∧ Reps K cn H D vs xs [] := by
  cases k with
  | l => cases r with
    | lstF h r => exact ⟨_, _, rfl, .inl (.inl h), r⟩
  | t => cases r with
    | tup h r => exact ⟨_, _, rfl, h, r⟩
theorem pi_zp {a b : Expr} {elts : List Expr} {kk : Nat} {tpos : Pos} {ev ew : Env8 → R T} {p pos : Pos} (hg : Gl X "zip") (hm : X.mg "zip" = none) (ha : PE X a (tE X.K cn W ev)) (hb : PE X b (tE X.K cn W ew)) (hs : plain a = true) (hs' : plain b = true) :
    PI X (.Tuple elts kk tpos) (.Call (.Name "zip" p) [a, b] [] pos) (tI X.K cn W fun ρ => (ev ρ).bind fun t ρ => (ew ρ).bind fun u ρ => ofO (zipOk (fz t) (fz u)) ρ) := by
  refine PI.imp (pi_zipM hg hm (pa_cons ha (pa_cons hb pa_nil (star_of hs')) (star_of hs)) (star_of hs) (by rw [star_of hs']; rfl)) fun σ H R h => ?_
  obtain ⟨ρ, L, Do, ok, post⟩ := h
  refine ⟨ρ, L, Do, ok, PostG.first post fun t ρ1 v H1 La Lw e1 ok1 r1 st1 post1 => ?_⟩
  refine ⟨ρ1, La, Lw ++ Do, ok1, PostG.sub post1 st1 fun u ρ2 w H2 Lb Lv e2 ok2 r2 st2 stl post2 => ?_⟩
  obtain ⟨ts, e3, post3⟩ := ofO_ok post2
  have r1' := r1.move ok1 stl (fun a z => List.mem_append_left _ z) (fun b z => mem_sub z) (fun a z => mem_sup z)
  have f1 := Rep.frozen ok2 r1' fun _ z => List.mem_append_right _ z
  have f2 := Rep.frozen ok2 r2 fun _ z => List.mem_append_left _ z
  revert f1 f2 e3
  generalize fz t = t'
  generalize fz u = u'
  intro e3 f1 f2
  obtain ⟨k1, k2, xs, ys, rfl, rfl, rfl⟩ := zipOk_some e3
  obtain ⟨a, vs, rfl, h, r⟩ := kd_rep f1
  obtain ⟨b, ws, rfl, h', r'⟩ := kd_rep f2
  exact ⟨k1, k2, _, _, _, _, rfl, Kd.mono h fun b o z => z, Kd.mono h' fun b o z => z, post3.done0 ok2 st2 fun _ => ⟨itw_zipM h r h' r', rfl⟩⟩
end
end

/-! ### enumerate of a list or a tuple -/
theorem meets_enum1 {v : Value} {o : Obj} {H : Heap → Prop} (B : Begins v o H) :
    Meets (Builtin.«enumerate.__new__» ⟨[.type "enumerate", v], []⟩) (fun _ R s => H s.heap ∧
      R (.ok (.ret (.ref (s.heap.push o).objs.size))) { s with heap := (s.heap.push o).push { cls := .type "enumerate", data := .fields #[.none, .bool false, .ref s.heap.objs.size, rawInt 0, .none, .none] } }) :=
  .of_wp fun prog w A R s h => by
    obtain ⟨hp, g, d, tk, os⟩ := s; obtain ⟨h1, h⟩ := h
    have hsub := sub_enumerate
    have q1 : ∀ {A' : Around} {E : Value → Shared → Prop} {Q : Value → Shared → Prop}, Q (.ref hp.objs.size) ⟨hp.push o, g, d, tk, os⟩ → wpAny (model prog w) A' (pyIter v) Q E ⟨hp, g, d, tk, os⟩ :=
      fun q => B.iter prog w _ _ ⟨hp, g, d, tk, os⟩ _ h1 q
    wp_walk using q1
    refine wpAny_stack_any fun st => wpAny_pure ?_
    split
    · rename_i c _ _ _ _ _
      cases (c == Value.type "enumerate")
      · wp_walk using q1
        exact ⟨_, rfl, h⟩
      · wp_walk using q1
        exact ⟨_, rfl, h⟩
    · wp_walk using q1
      exact ⟨_, rfl, h⟩
section
variable {prog : Program} {w : World} {A : Around} {E : Value → Shared → Prop} {s : Shared}
theorem enum1_begins {v : Value} {o : Obj} {H : Heap → Prop} {Q : Value → Shared → Prop} (B : Begins v o H) (h1 : H s.heap)
    (h : ∀ h', IsEnum h' (s.heap.objs.size + 1) s.heap.objs.size 0 .none → h'.get? s.heap.objs.size = some o → h'.objs.size = s.heap.objs.size + 2 →
      (∀ b o, s.heap.get? b = some o → h'.get? b = some o) → Q (.ref (s.heap.objs.size + 1)) { s with heap := h' }) :
    wpAny (model prog w) A (call (.type "enumerate") [v]) Q E s := by
  refine callType_new F.called_enumerate (by decide) (F.typeCall_enumerate_1 _) (F.newCall_enumerate_1 _) (fun obj => F.args_object_init_2 obj _) F.entry_enumerate_new
    (meets_enum1 B) ⟨h1, ?_⟩
  have hz : (s.heap.push o).objs.size = s.heap.objs.size + 1 := Heap.size_push ..
  show _ ∧ _
  rw [hz]
  have he : IsEnum ((s.heap.push o).push { cls := .type "enumerate", data := .fields #[.none, .bool false, .ref s.heap.objs.size, rawInt 0, .none, .none] }) (s.heap.objs.size + 1) s.heap.objs.size 0 .none := by
    have := Heap.get?_push_size (s.heap.push o) (o := { cls := .type "enumerate", data := .fields #[.none, .bool false, .ref s.heap.objs.size, rawInt 0, .none, .none] }) rfl
    rw [hz] at this; exact this
  refine ⟨⟨_, he, rfl⟩, h _ he (Heap.get?_push_of_some _ (Heap.get?_push_size _ B.free)) (by rw [Heap.size_push, hz]) fun b o x => Heap.get?_push_of_some _ (Heap.get?_push_of_some _ x)⟩
end
def iEnA (K : PySem.W.Frag) (te : TE) : TI := fun σ H R => te σ H fun v H1 => (∃ a xs, v = .ref a ∧ SqL K H1 a xs ∧ R (Ite K a) H1) ∨ (∃ a xs, v = .ref a ∧ SqT K H1 a xs ∧ R (IteT K a) H1)
section
variable {X : Cx} {cn : Nat → Addr} {W : WX}
theorem pi_enA {e : Expr} {te : TE} {p pos tpos : Pos} {elts : List Expr} {kk : Nat} (hg : Gl X "enumerate") (hm : X.mg "enumerate" = none) (he : PE X e te) (hs : plain e = true) :
    PI X (.Tuple elts kk tpos) (.Call (.Name "enumerate" p) [e] [] pos) (iEnA X.K te) := by
  refine ⟨fun pins s σ H R I h => ?_⟩
  refine Call_ (ld_blt I hg hm boot_enumerate (PyProof.Rows.callWith_type1 (args_cons (thn (he.run pins s σ H _ I h) fun u s1 ⟨v, H1, I1, r1, q1⟩ => args_nil ?_) (star_of hs)) (star_of hs) rfl))
  have fr : ∀ b ∈ [s1.heap.objs.size + 1, s1.heap.objs.size], FpOk X pins H1 b := fun b hb => by
    have e' : b = s1.heap.objs.size + 1 ∨ b = s1.heap.objs.size := by simpa using hb
    have hle : s1.heap.objs.size ≤ b := by
      rcases e' with z | z
      · rw [z]; exact Nat.le_add_right _ _
      · rw [z]; exact Nat.le_refl _
    exact I1.fpOk hle (I1.hok.fresh hle)
  rcases q1 with ⟨a, xs, ex, hq, q⟩ | ⟨a, xs, ex, hq, q⟩
  · subst ex
    obtain rfl : u = Value.ref a := r1
    obtain ⟨its, rv, p', hz⟩ := I1.list hq
    refine call_enumerate_list p'.isList fun h' he hit hsz hk => wpAny_pyIter_enum he ?_
    exact ⟨s1.heap.objs.size + 1, [s1.heap.objs.size + 1, s1.heap.objs.size], _, _, H1, rfl, I1.kept (t' := s1.toks) hk, turn_enum a (s1.heap.objs.size + 1) s1.heap.objs.size, ⟨⟨.none, he⟩, hit, Nat.succ_ne_self _⟩, fr, q⟩
  · subst ex
    obtain rfl : u = Value.ref a := r1
    obtain ⟨its, rv, p', hz⟩ := I1.tuple hq
    refine enum1_begins (begins_tuple a its.toArray) p' fun h' he hit hsz hk => wpAny_pyIter_enum he ?_
    exact ⟨s1.heap.objs.size + 1, [s1.heap.objs.size + 1, s1.heap.objs.size], _, _, H1, rfl, I1.kept (t' := s1.toks) hk, turn_enumT a (s1.heap.objs.size + 1) s1.heap.objs.size, ⟨⟨.none, he⟩, ⟨_, hit, rfl, rfl⟩, Nat.succ_ne_self _⟩, fr, q⟩
theorem pi_en {a : Expr} {elts : List Expr} {kk : Nat} {tpos : Pos} {ev : Env8 → R T} {p pos : Pos} (hg : Gl X "enumerate") (hm : X.mg "enumerate" = none) (ha : PE X a (tE X.K cn W ev)) (hs : plain a = true) :
    PI X (.Tuple elts kk tpos) (.Call (.Name "enumerate" p) [a] [] pos) (tI X.K cn W fun ρ => (ev ρ).bind fun t ρ => ofO ((seqT (fz t)).map (enumT 0)) ρ) := by
  refine PI.imp (pi_enA hg hm ha hs) fun σ H R h => ?_
  obtain ⟨ρ, L, Do, ok, post⟩ := h
  refine ⟨ρ, L, Do, ok, PostG.first post fun t ρ1 v H1 La Lw e1 ok1 r1 st1 post1 => ?_⟩
  obtain ⟨us, e2, post2⟩ := ofO_ok post1
  obtain ⟨ts, e3, e4⟩ := map_some e2
  subst e4
  have rf := Rep.frozen ok1 r1 fun _ z => z
  rcases seq_of rf e3 with ⟨a, vs, rfl, h, r, _⟩ | ⟨a, vs, rfl, h, r, _⟩
  · exact .inl ⟨a, vs, rfl, unhL h, post2.done0 ok1 st1 fun _ => ⟨itw_enum h r, rfl⟩⟩
  · exact .inr ⟨a, vs, rfl, unhT h, post2.done0 ok1 st1 fun _ => ⟨itw_enumT h r, rfl⟩⟩
end
end FT

end
section
set_option Elab.async false
set_option linter.all false
set_option maxRecDepth 100000
set_option maxHeartbeats 4000000
/-! FTSnd2: stores, comprehensions, loops. -/
namespace FT
open PySem PySem.Spec PyProof.Rows L2
section
variable {K : PySem.W.Frag} {cn : Nat → Addr} {H H' H0 H1 H2 H3 : Hp} {D D' D0 Do Do' Dx : List Addr} {σ σ' : St8} {ρ ρ1 ρ' : Env8} {L L' La Lb Lt Lv Lw : List Addr} {W : WX}
/-! ### stores -/
theorem Ok8.put {i : Nat} {v : V} {t : T} (ok : Ok8 K cn (Lv ++ Do) σ ρ H L) (hi : i < ρ.length) (r : Rep K cn H (L ++ (Lv ++ Do)) v t Lv) : ∃ L', Ok8 K cn Do (σ.set i (some v)) (ρ.set i (some t)) H L' ∧ ∀ b ∈ L', b ∈ Lv ++ L := by
  obtain ⟨La, L1, Lb, eL, g, hF, hn, hnd, ok1⟩ := ok.empty hi none
  obtain ⟨L', ok2, hm⟩ := Ok8.fill (i := i) (v := v) (t := t) ok1 (by rw [List.getElem?_set_self hi]) (r.mono hF fun a z => ⟨rfl, List.mem_append_right _ (List.mem_append_left _ z)⟩)
  rw [set_set_same, set_set_same] at ok2
  refine ⟨L', ok2, fun b z => ?_⟩
  have q := (hm b).mp z
  rw [eL]
  simp only [List.mem_append] at q ⊢
  rcases q with q | q | q
  · exact .inl q
  · exact .inr (.inl q)
  · exact .inr (.inr (.inr q))
def setV : List Nat → List V → St8 → St8
  | i :: is, v :: vs, σ => setV is vs (σ.set i (some v))
  | _, _, σ => σ
theorem Ok8.putAll : ∀ {is : List Nat} {vs : List V} {ts : List T} {σ : St8} {ρ : Env8} {L Lv : List Addr}, Ok8 K cn (Lv ++ Do) σ ρ H L → Reps K cn H (L ++ (Lv ++ Do)) vs ts Lv → is.length = ts.length → (∀ i ∈ is, i < ρ.length) →
    ∃ L', Ok8 K cn Do (setV is vs σ) (setAll is ts ρ) H L' ∧ ∀ b ∈ L', b ∈ Lv ++ L
  | [], vs, ts, σ, ρ, L, Lv, ok, r, hl, _ => by
    cases r with
    | nil => exact ⟨L, ok, fun b z => z⟩
    | cons _ _ => cases hl
  | i :: is, vs, ts, σ, ρ, L, Lv, ok, r, hl, hi => by
    cases r with
    | nil => cases hl
    | @cons v vs t ts L1 L2' r1 r2 =>
      rw [List.append_assoc] at ok
      obtain ⟨L3, ok2, m2⟩ := Ok8.put ok (hi i (List.mem_cons_self ..)) (r1.same fun b => by simp only [List.mem_append, or_assoc])
      obtain ⟨L4, ok3, m3⟩ := Ok8.putAll (is := is) ok2 (r2.mono (hide_mem fun b z => by
        simp only [List.mem_append] at z ⊢
        rcases z with z | z | z
        · have := m2 b z
          simp only [List.mem_append] at this
          rcases this with q | q
          · exact .inr (.inl (.inl q))
          · exact .inl q
        · exact .inr (.inl (.inr z))
        · exact .inr (.inr z)) fun a z => ⟨rfl, List.mem_append_right _ (List.mem_append_left _ z)⟩) (by simpa using hl) (fun j hj => by rw [List.length_set]; exact hi j (List.mem_cons_of_mem _ hj))
      refine ⟨L4, ok3, fun b z => ?_⟩
      have q := m3 b z
      simp only [List.mem_append] at q ⊢
      rcases q with q | q
      · exact .inl (.inr q)
      · have := m2 b q
        simp only [List.mem_append] at this
        rcases this with q | q
        · exact .inl (.inl q)
        · exact .inr q
theorem setV_out {j : Nat} : ∀ {is : List Nat} {vs : List V} {σ : St8}, j ∉ is → (setV is vs σ)[j]? = σ[j]?
  | [], _, _, _ => by unfold setV; rfl
  | i :: is, [], _, _ => by unfold setV; rfl
  | i :: is, v :: vs, σ, h => by
    show (setV is vs (σ.set i (some v)))[j]? = _
    rw [setV_out fun z => h (List.mem_cons_of_mem _ z), List.getElem?_set_ne fun e => h (by rw [e]; exact List.mem_cons_self ..)]
def gSeq : List Nat → TGs
  | [] => gNil
  | i :: is => gCons (gName i) (gSeq is)
theorem gSeq_of : ∀ {is : List Nat} {vs : List V} {σ : St8} {Q : St8 → Hp → Prop}, is.length = vs.length → Q (setV is vs σ) H → gSeq is vs σ H Q
  | [], [], _, _, _, h => ⟨rfl, h⟩
  | [], _ :: _, _, _, e, _ => by cases e
  | _ :: _, [], _, _, e, _ => by cases e
  | i :: is, v :: vs, σ, Q, e, h => ⟨v, vs, rfl, gSeq_of (by simpa using e) h⟩
def tgOf (K : PySem.W.Frag) : G → TG
  | .nm i => gName i
  | .tp is => gTup K is.length (gSeq is)
def gIdx : G → List Nat
  | .nm i => [i]
  | .tp is => is
theorem bind_ok {g : G} {v : V} {t : T} {Q : St8 → Hp → Prop} (ok : Ok8 K cn (Lv ++ Do) σ ρ H L) (r : Rep K cn H (L ++ (Lv ++ Do)) v t Lv) (e : bindG g t ρ = some ρ1)
    (k : ∀ σ1 L1, Ok8 K cn Do σ1 ρ1 H L1 → (∀ b ∈ L1, b ∈ Lv ++ L) → (∀ j, j ∉ gIdx g → σ1[j]? = σ[j]?) → Q σ1 H) : tgOf K g v σ H Q := by
  cases g with
  | nm i =>
    have e' : (if i < ρ.length then some (ρ.set i (some t)) else none) = some ρ1 := e
    split at e'
    · rename_i hi
      cases e'
      obtain ⟨L', ok2, hm⟩ := ok.put hi r
      exact k _ L' ok2 hm fun j hj => List.getElem?_set_ne fun q => hj (by rw [← q]; exact List.mem_singleton.mpr rfl)
    · cases e'
  | tp is =>
    cases t with
    | tup ts =>
      have e' : (if ts.length = is.length ∧ is.all (· < ρ.length) = true then some (setAll is ts ρ) else none) = some ρ1 := e
      split at e'
      · rename_i hi
        cases e'
        cases r with
        | tup h r =>
          obtain ⟨L', ok2, hm⟩ := Ok8.putAll (is := is) ok r hi.1.symm (fun i z => by have := List.all_eq_true.mp hi.2 i z; simpa using this)
          exact ⟨_, _, rfl, unhT h, by rw [r.length]; exact hi.1, gSeq_of (by rw [r.length]; exact hi.1.symm) (k _ L' ok2 hm fun j hj => setV_out hj)⟩
      · cases e'
    | _ => cases e
/-- names forgotten -/
theorem Ok8.kill (ok : Ok8 K cn Do σ ρ H L) : ∀ ks : List Nat, ∃ L', Ok8 K cn Do σ (kill ks ρ) H L' ∧ ∀ b ∈ L', b ∈ L
  | [] => ⟨L, ok, fun _ z => z⟩
  | i :: ks => by
    obtain ⟨L1, ok1, m1⟩ := ok.kill ks
    by_cases hi : i < (FT.kill ks ρ).length
    · have hs : i < σ.length := by rw [ok1.sl.length]; exact hi
      obtain ⟨La, L2, Lb, eL, g, hF, hn, hnd, ok2⟩ := ok1.empty hi σ[i]
      rw [set_self (List.getElem?_eq_getElem hs)] at ok2
      refine ⟨La ++ Lb, ok2, fun b z => m1 b ?_⟩
      rw [eL]
      simp only [List.mem_append] at z ⊢
      rcases z with z | z
      · exact .inl z
      · exact .inr (.inr z)
    · refine ⟨L1, ?_, m1⟩
      show Ok8 K cn Do σ ((FT.kill ks ρ).set i none) H L1
      rw [List.set_eq_of_length_le (Nat.le_of_not_lt hi)]
      exact ok1
theorem kill_length : ∀ (ks : List Nat) (ρ : Env8), (kill ks ρ).length = ρ.length
  | [], _ => rfl
  | i :: ks, ρ => by show ((kill ks ρ).set i none).length = _; rw [List.length_set, kill_length ks ρ]
theorem kill_in {j : Nat} : ∀ {ks : List Nat}, j ∈ ks → j < ρ.length → (kill ks ρ)[j]? = some none
  | i :: ks, h, hj => by
    show ((kill ks ρ).set i none)[j]? = _
    by_cases e : i = j
    · subst e; rw [List.getElem?_set_self (by rw [kill_length]; exact hj)]
    · rw [List.getElem?_set_ne e]
      rcases List.mem_cons.mp h with q | q
      · exact absurd q.symm e
      · exact kill_in q hj
theorem wipe_in {j : Nat} : ∀ {ks : List Nat}, j ∈ ks → j < σ.length → (wipe σ ks)[j]? = some none
  | i :: ks, h, hj => by
    show ((wipe σ ks).set i none)[j]? = _
    by_cases e : i = j
    · subst e; rw [List.getElem?_set_self (by rw [wipe_length]; exact hj)]
    · rw [List.getElem?_set_ne e]
      rcases List.mem_cons.mp h with q | q
      · exact absurd q.symm e
      · exact wipe_in q hj
theorem wipe_eq {ks : List Nat} (hl : σ'.length = σ.length) (h : ∀ j, j ∉ ks → σ'[j]? = σ[j]?) : wipe σ' ks = wipe σ ks := by
  apply List.ext_getElem?
  intro j
  by_cases hj : j ∈ ks
  · by_cases hlt : j < σ.length
    · rw [wipe_in hj hlt, wipe_in hj (by rw [hl]; exact hlt)]
    · rw [List.getElem?_eq_none (by rw [wipe_length]; omega), List.getElem?_eq_none (by rw [wipe_length]; omega)]
  · rw [wipe_out hj, wipe_out hj]; exact h j hj
theorem putBack_length : ∀ (ks : List Nat) (ρ0 ρ : Env8), (putBack ks ρ0 ρ).length = ρ.length
  | [], _, _ => rfl
  | i :: ks, ρ0, ρ => by show ((putBack ks ρ0 ρ).set i _).length = _; rw [List.length_set, putBack_length ks ρ0 ρ]
theorem putBack_in {j : Nat} {ρ0 : Env8} : ∀ {ks : List Nat}, j ∈ ks → j < ρ.length → (putBack ks ρ0 ρ)[j]? = some (keepF ρ0 j)
  | i :: ks, h, hj => by
    show ((putBack ks ρ0 ρ).set i _)[j]? = _
    by_cases e : i = j
    · subst e; rw [List.getElem?_set_self (by rw [putBack_length]; exact hj)]
    · rw [List.getElem?_set_ne e]
      rcases List.mem_cons.mp h with q | q
      · exact absurd q.symm e
      · exact putBack_in q hj
theorem putBack_out {j : Nat} {ρ0 : Env8} : ∀ {ks : List Nat}, j ∉ ks → (putBack ks ρ0 ρ)[j]? = ρ[j]?
  | [], _ => rfl
  | i :: ks, h => by
    show ((putBack ks ρ0 ρ).set i _)[j]? = _
    rw [List.getElem?_set_ne fun e => h (by rw [e]; exact List.mem_cons_self ..)]
    exact putBack_out fun z => h (List.mem_cons_of_mem _ z)
/-- slots changed where nothing stood -/
theorem Slots.pt : ∀ {σ : St8} {ρ : Env8} {L : List Addr}, Slots K cn H D σ ρ L → ∀ {σ' : St8} {ρ' : Env8}, σ'.length = ρ'.length → ρ'.length = ρ.length →
    (∀ i : Nat, (σ'[i]? = σ[i]? ∧ ρ'[i]? = ρ[i]?) ∨ (ρ[i]? = some none ∧ (ρ'[i]? = some none ∨ ∃ v t, σ'[i]? = some (some v) ∧ ρ'[i]? = some (some t) ∧ Rep K cn H D v t []))) → Slots K cn H D σ' ρ' L
  | _, _, _, .nil, σ', ρ', h1, h2, _ => by
    cases ρ' with
    | nil => cases σ' with
      | nil => exact .nil
      | cons _ _ => cases h1
    | cons _ _ => cases h2
  | _, _, _, .un r, σ', ρ', h1, h2, h => by
    cases ρ' with
    | nil => cases h2
    | cons y' ρ' => cases σ' with
      | nil => cases h1
      | cons x' σ' =>
        have ih := r.pt (σ' := σ') (ρ' := ρ') (by simpa using h1) (by simpa using h2) fun i => by simpa using h (i + 1)
        rcases h 0 with ⟨e1, e2⟩ | ⟨_, e2 | ⟨v, t, e2, e3, rr⟩⟩
        · simp at e1 e2; subst e2; exact .un ih
        · simp at e2; subst e2; exact .un ih
        · simp at e2 e3; subst e2 e3; exact .va (L := []) rr ih
  | _, _, _, .va hh r, σ', ρ', h1, h2, h => by
    cases ρ' with
    | nil => cases h2
    | cons y' ρ' => cases σ' with
      | nil => cases h1
      | cons x' σ' =>
        have ih := r.pt (σ' := σ') (ρ' := ρ') (by simpa using h1) (by simpa using h2) fun i => by simpa using h (i + 1)
        rcases h 0 with ⟨e1, e2⟩ | ⟨e1, _⟩
        · simp at e1 e2; subst e1 e2; exact .va hh ih
        · simp at e1
theorem Ok8.pt (ok : Ok8 K cn Do σ ρ H L) (h1 : σ'.length = ρ'.length) (h2 : ρ'.length = ρ.length)
    (h : ∀ i : Nat, (σ'[i]? = σ[i]? ∧ ρ'[i]? = ρ[i]?) ∨ (ρ[i]? = some none ∧ (ρ'[i]? = some none ∨ ∃ v t, σ'[i]? = some (some v) ∧ ρ'[i]? = some (some t) ∧ Rep K cn H (L ++ Do) v t []))) : Ok8 K cn Do σ' ρ' H L := ⟨ok.sl.pt h1 h2 h, ok.nd, ok.out⟩
/-- the own names of a block, at its start and at each turn's end -/
theorem Ok8.wiped {own : List Nat} (ok : Ok8 K cn Do σ ρ H L) : ∃ L', Ok8 K cn Do (wipe σ own) (FT.kill own ρ) H L' ∧ ∀ b ∈ L', b ∈ L := by
  obtain ⟨L', ok1, m⟩ := ok.kill own
  refine ⟨L', ok1.pt (by rw [wipe_length, kill_length, ok.sl.length]) rfl fun i => ?_, m⟩
  by_cases hi : i ∈ own
  · by_cases hlt : i < ρ.length
    · exact .inr ⟨kill_in hi hlt, .inl (kill_in hi hlt)⟩
    · exact .inl ⟨by rw [List.getElem?_eq_none (by rw [wipe_length, ok.sl.length]; omega), List.getElem?_eq_none (by rw [ok.sl.length]; omega)], rfl⟩
  · exact .inl ⟨wipe_out hi, rfl⟩
/-- a new thing, not owned -/
theorem Ok8.newN {p : Addr} {u : HO} (ok : Ok8 K cn Do σ ρ H L) (hp : H p = none) : Ok8 K cn Do σ ρ (upd H p u) L ∧ Keep H (L ++ Do) (upd H p u) (L ++ Do) ∧ hide (upd H p u) (L ++ Do) p = some u := by
  have hn : p ∉ L ++ Do := fun z => by
    rcases List.mem_append.mp z with z | z
    · exact (ok.sl.own p z).2 hp
    · exact ok.out p z hp
  have hF : Keep H (L ++ Do) (upd H p u) (L ++ Do) := fun b o h => by
    obtain ⟨n, e⟩ := hide_some.mp h
    exact hide_some.mpr ⟨n, by rw [upd_ne (ne_of_none e hp)]; exact e⟩
  have ne : ∀ a ∈ L ++ Do, upd H p u a = H a := fun a z => upd_ne fun e => hn (by rw [← e]; exact z)
  refine ⟨⟨ok.sl.mono hF fun a z => ⟨ne a (List.mem_append_left _ z), List.mem_append_left _ z⟩, ok.nd, fun b z => by rw [ne b (List.mem_append_right _ z)]; exact ok.out b z⟩, hF, hide_some.mpr ⟨hn, upd_same⟩⟩
/-- a new thing, held aside -/
theorem Ok8.newO {p : Addr} {u : HO} (ok : Ok8 K cn Do σ ρ H L) (hp : H p = none) : Ok8 K cn (p :: Do) σ ρ (upd H p u) L ∧ Keep H (L ++ Do) (upd H p u) (L ++ (p :: Do)) := by
  have hn : p ∉ L ++ Do := fun z => by
    rcases List.mem_append.mp z with z | z
    · exact (ok.sl.own p z).2 hp
    · exact ok.out p z hp
  have hF : Keep H (L ++ Do) (upd H p u) (L ++ (p :: Do)) := fun b o h => by
    obtain ⟨n, e⟩ := hide_some.mp h
    have hb : b ≠ p := ne_of_none e hp
    refine hide_some.mpr ⟨fun z => ?_, by rw [upd_ne hb]; exact e⟩
    simp only [List.mem_append, List.mem_cons] at z
    rcases z with z | z | z
    · exact n (List.mem_append_left _ z)
    · exact hb z
    · exact n (List.mem_append_right _ z)
  have ne : ∀ a ∈ L ++ Do, upd H p u a = H a := fun a z => upd_ne fun e => hn (by rw [← e]; exact z)
  refine ⟨⟨ok.sl.mono hF fun a z => ⟨ne a (List.mem_append_left _ z), List.mem_append_left _ z⟩, ?_, fun b z => ?_⟩, hF⟩
  · exact (List.perm_middle.nodup_iff).mpr (List.nodup_cons.mpr ⟨hn, ok.nd⟩)
  · rcases List.mem_cons.mp z with z | z
    · rw [z, upd_same]; exact fun q => nomatch q
    · rw [ne b (List.mem_append_right _ z)]; exact ok.out b z
/-- what is held aside is written -/
theorem Ok8.wr {p : Addr} {u : HO} (ok : Ok8 K cn Do σ ρ H L) (hp : p ∈ Do) : Ok8 K cn Do σ ρ (upd H p u) L ∧ Keep H (L ++ Do) (upd H p u) (L ++ Do) := by
  have hF : Keep H (L ++ Do) (upd H p u) (L ++ Do) := fun b o h => by
    obtain ⟨n, e⟩ := hide_some.mp h
    exact hide_some.mpr ⟨n, by rw [upd_ne fun q => n (by rw [q]; exact List.mem_append_right _ hp)]; exact e⟩
  obtain ⟨n1, n2, n3⟩ := List.nodup_append.mp ok.nd
  refine ⟨⟨ok.sl.mono hF fun a z => ⟨upd_ne fun e => n3 a z p hp e, List.mem_append_left _ z⟩, ok.nd, fun b z => ?_⟩, hF⟩
  by_cases hb : b = p
  · rw [hb, upd_same]; exact fun q => nomatch q
  · rw [upd_ne hb]; exact ok.out b z
/-- what a turn gives -/
theorem Ok8.gives {x : V} {t : T} (ok : Ok8 K cn Do σ ρ H L) (g : Gives K cn H (L ++ Do) x H' t) : Ok8 K cn Do σ ρ H' L ∧ Keep H (L ++ Do) H' (L ++ Do) ∧ Rep K cn H' (L ++ Do) x t [] ∧ (∀ b o, H b = some o → H' b = some o) := by
  rcases g with ⟨rfl, r⟩ | ⟨p, u, hp, rfl, rfl, r⟩
  · exact ⟨ok, fun _ _ h => h, r, fun _ _ h => h⟩
  · obtain ⟨ok1, k, e⟩ := ok.newN (u := u) hp
    exact ⟨ok1, k, r _ k e, fun b o h => by rw [upd_ne (ne_of_none h hp)]; exact h⟩

/-! ### comprehensions -/
abbrev relC : Rel Bool Bool := fun _ _ _ b' b Lv => b' = b ∧ Lv = []
abbrev WF : WX := fun _ _ _ _ => False
theorem noExc_ok {α : Type} {r : R α} {a : α} (h : noExc r = .ok a ρ) : r = .ok a ρ := by
  cases r with
  | ok b ρ' => exact h
  | exc x ρ' => cases h
  | bad => cases h
theorem keepF_some {j : Nat} {t : T} (h : keepF ρ j = some t) : slot ρ j = some t ∧ isFz t = true := by
  unfold keepF at h
  split at h
  · rename_i u e
    split at h
    · rename_i z; cases h; exact ⟨e, z⟩
    · cases h
  · cases h
/-- at a comprehension's end -/
theorem Ok8.unwiped {own : List Nat} {ρ2 : Env8} (ok1 : Ok8 K cn Dx σ ρ1 H1 La) (ok : Ok8 K cn Do (wipe σ own) ρ H L) (hk : ρ = FT.kill own ρ2) (k : Keep H1 (La ++ Dx) H (L ++ Do)) : Ok8 K cn Do σ (putBack own ρ1 ρ) H L := by
  have l1 := ok1.sl.length
  have l2 := ok.sl.length
  rw [wipe_length] at l2
  refine ok.pt (by rw [putBack_length]; exact l2) (putBack_length ..) fun i => ?_
  by_cases hi : i ∈ own
  · by_cases hlt : i < ρ.length
    · have e0 : ρ[i]? = some none := by rw [hk]; exact kill_in hi (by rw [hk, kill_length] at hlt; exact hlt)
      refine .inr ⟨e0, ?_⟩
      rw [putBack_in hi hlt]
      cases e : keepF ρ1 i with
      | none => exact .inl rfl
      | some t =>
        obtain ⟨e1, e2⟩ := keepF_some e
        obtain ⟨v, L1, e3, r⟩ := ok1.sl.get e1
        exact .inr ⟨v, t, e3, rfl, (r.nilL e2).keep k⟩
    · exact .inl ⟨by rw [List.getElem?_eq_none (by omega), List.getElem?_eq_none (by rw [wipe_length]; omega)], by rw [List.getElem?_eq_none (by rw [putBack_length]; omega), List.getElem?_eq_none (by omega)]⟩
  · exact .inl ⟨(wipe_out hi).symm, putBack_out hi⟩
end
end FT

end
section
set_option Elab.async false
set_option linter.all false
set_option maxRecDepth 100000
set_option maxHeartbeats 4000000
/-! FTSnd3: comprehensions and loops, by the reckoner. -/
namespace FT
open PySem PySem.Spec PyProof.Rows L2
section
variable {K : PySem.W.Frag} {cn : Nat → Addr} {H H' H0 H1 H2 H3 : Hp} {D D' D0 Do Do' Dx : List Addr} {σ σ' : St8} {ρ ρ1 ρ' : Env8} {L L' La Lb Lt Lv Lw : List Addr} {W : WX}
theorem Keep.of (ok : Ok8 K cn Dx σ ρ H1 La) (st : Stp La H1 Lb H2) (hD : ∀ b ∈ D', b ∈ Lb ∨ b ∈ Dx ∨ b ∈ La) : Keep H1 (La ++ Dx) H2 D' := ok.hF st hD
theorem drop_cons {α : Type} {ts : List α} {i : Nat} {t : α} (e : ts[i]? = some t) : ts.drop i = t :: ts.drop (i + 1) := by
  obtain ⟨h, rfl⟩ := List.getElem?_eq_some_iff.mp e
  exact List.drop_eq_getElem_cons h
theorem sub_app {A B : List Addr} (h : ∀ b ∈ A, b ∈ B) {C : List Addr} : ∀ b ∈ A ++ C, b ∈ B ++ C := fun b z => (List.mem_append.mp z).elim (fun q => List.mem_append_left _ (h b q)) fun q => List.mem_append_right _ q
theorem t_lc {ii : Env8 → R (List T)} {g : G} {c : Env8 → R Bool} {e : Env8 → R T} {own : List Nat} (hg : ∀ j ∈ gIdx g, j ∈ own) (σ : St8) (H : Hp) (Q : VK)
    (h : tE K cn W (fun ρ => (ii ρ).bind fun ts ρ1 => noExc ((compL (bindG g) c e own ts [] (kill own ρ1)).bind fun acc ρ2 => .ok (.lst true acc) (putBack own ρ1 ρ2))) σ H Q) :
    tLc (tI K cn W ii) (tgOf K g) (tG K cn WF relC c) (tE K cn WF e) own σ H Q := by
  obtain ⟨ρ, L, Do, ok, post⟩ := h
  refine ⟨ρ, L, Do, ok, PostG.first post fun ts ρ1 J H1 La Lw e1 ok1 ⟨hJ, hw⟩ st1 post1 => ?_⟩
  subst hw
  intro D hD
  -- a turn's word
  let Pv : Nat → Hp → Prop := fun i H' => ∃ (ρc ρ2 : Env8) (Lc : List Addr) (acc : List T) (vs : List V) (Lacc : List Addr), ρc = FT.kill own ρ2 ∧ Ok8 K cn (D :: (Lacc ++ Do)) (wipe σ own) ρc H' Lc ∧ H' D = some (.lst vs) ∧
    Reps K cn H' (Lc ++ (D :: (Lacc ++ Do))) vs acc Lacc ∧ Keep H1 (La ++ ([] ++ Do)) H' (Lc ++ (D :: (Lacc ++ Do))) ∧ Stp L H ((D :: Lacc) ++ Lc) H' ∧
    PostG K cn W (relV K cn) Do σ H L (noExc ((compL (bindG g) c e own (ts.drop i) acc ρc).bind fun acc ρ2 => .ok (.lst true acc) (putBack own ρ1 ρ2))) Q
  have start : Pv 0 (upd H1 D (.lst [])) := by
    obtain ⟨Lk, okk, mk⟩ := ok1.wiped (own := own)
    obtain ⟨ok2, k2⟩ := okk.newO (u := .lst []) hD
    refine ⟨_, ρ1, Lk, [], [], [], rfl, ok2, upd_same, .nil, ?_, ?_, post1⟩
    · exact Keep.trans (hide_mem (sub_app mk)) k2
    · refine ⟨fun b o e n => ?_, fun b z => ?_⟩
      · have q := st1.kp b o e n
        rw [upd_ne (ne_of_none q hD)]; exact q
      · have old : ∀ {b : Addr}, H1 b = none → b ∈ L ∨ H b = none := fun {b} q => by
          by_cases n : b ∈ L
          · exact .inl n
          · cases e : H b with
            | none => exact .inr rfl
            | some o => rw [st1.kp b o e n] at q; cases q
        rcases List.mem_cons.mp z with z | z
        · rw [z]; exact old hD
        · exact st1.nw b (mk b z)
  refine ⟨fun i m H' => m = ts.length - i ∧ i ≤ ts.length ∧ Pv i H', ⟨_, rfl, Nat.zero_le _, start⟩, ?_⟩
  rintro i m H' ⟨rfl, hi, ρc, ρ0, Lc, acc, vs, Lacc, hk, okc, hDv, rep, kp, st, pst⟩
  by_cases hlt : i < ts.length
  · refine .inr ⟨hJ.goes i H' _ hlt kp, Pv (i + 1), fun H2 p2 => ⟨ts.length - (i + 1), by omega, rfl, hlt, p2⟩, fun x H2 y => ?_⟩
    obtain ⟨t, et, gv⟩ := hJ.yields i H' _ x H2 hlt kp y
    rw [drop_cons et] at pst
    obtain ⟨ok2, k2, r2, s2⟩ := okc.gives gv
    have hD2 : H2 D = some (.lst vs) := s2 _ _ hDv
    simp only [compL] at pst
    cases eg : bindG g t ρc with
    | none => rw [eg] at pst; exact pst.elim
    | some ρ2 =>
      rw [eg] at pst
      dsimp only at pst
      refine bind_ok (Lv := []) ok2 r2 eg fun σ2 L2 ok3 m3 hσ => ?_
      have lσ : σ2.length = (wipe σ own).length := by
        have a1 := ok3.sl.length
        have a2 := ok2.sl.length
        have a3 : ρ2.length = ρc.length := by
          cases g with
          | nm k =>
            have e' : (if k < ρc.length then some (ρc.set k (some t)) else none) = some ρ2 := eg
            split at e'
            · cases e'; simp
            · cases e'
          | tp is =>
            cases t with
            | tup us =>
              have e' : (if us.length = is.length ∧ is.all (· < ρc.length) = true then some (setAll is us ρc) else none) = some ρ2 := eg
              split at e'
              · cases e'
                have : ∀ (is : List Nat) (us : List T) (ρ : Env8), (setAll is us ρ).length = ρ.length := by
                  intro is
                  induction is with
                  | nil => intro us ρ; unfold setAll; rfl
                  | cons k is ih => intro us ρ; cases us with
                    | nil => unfold setAll; rfl
                    | cons u us => unfold setAll; rw [ih, List.length_set]
                exact this ..
              · cases e'
            | _ => cases eg
        omega
      have hw2 : wipe σ2 own = wipe σ own := by
        have z := wipe_eq (ks := own) (σ := wipe σ own) (σ' := σ2) lσ fun j hj => hσ j fun q => hj (hg j q)
        rw [z]
        exact wipe_eq (wipe_length σ own) fun j hj => wipe_out hj
      refine ⟨hw2, ρ2, L2, D :: (Lacc ++ Do), ok3, ?_⟩
      have k3 : Keep H' (Lc ++ (D :: (Lacc ++ Do))) H2 (L2 ++ (D :: (Lacc ++ Do))) := Keep.trans k2 (hide_mem (sub_app fun b z => by simpa using m3 b z))
      -- the turn's end
      have fin : ∀ {H3 : Hp} {ρ3 : Env8} {L3 Lv : List Addr} {accN : List T} {vsN : List V}, Ok8 K cn (D :: ((Lacc ++ Lv) ++ Do)) σ2 ρ3 H3 L3 → H3 D = some (.lst vsN) → Reps K cn H3 (L3 ++ (D :: ((Lacc ++ Lv) ++ Do))) vsN accN (Lacc ++ Lv) →
          Keep H' (Lc ++ (D :: (Lacc ++ Do))) H3 (L3 ++ (D :: ((Lacc ++ Lv) ++ Do))) → (∀ b ∈ Lv ++ L3, b ∈ Lc ∨ H' b = none) → (∀ b o, H' b = some o → b ∉ Lc → b ≠ D → H3 b = some o) →
          PostG K cn W (relV K cn) Do σ H L (noExc ((compL (bindG g) c e own (ts.drop (i + 1)) accN (FT.kill own ρ3)).bind fun acc ρ2 => .ok (.lst true acc) (putBack own ρ1 ρ2))) Q → Pv (i + 1) H3 := by
        intro H3 ρ3 L3 Lv accN vsN ok4 hD4 rep4 k4 nw4 kp4 pst4
        obtain ⟨L5, ok5, m5⟩ := ok4.wiped (own := own)
        rw [hw2] at ok5
        refine ⟨_, ρ3, L5, accN, vsN, Lacc ++ Lv, rfl, ok5, hD4, ?_, Keep.trans kp (Keep.trans k4 (hide_mem (sub_app m5))), ⟨fun b o eb n => ?_, fun b z => ?_⟩, pst4⟩
        · refine rep4.mono (hide_mem (sub_app m5)) fun a z => ⟨rfl, List.mem_append_right _ (List.mem_cons_of_mem _ (List.mem_append_left _ z))⟩
        · have hb := st.kp b o eb n
          have nb : b ∉ (D :: Lacc) ++ Lc := fun z => by
            rcases st.nw b z with q | q
            · exact n q
            · rw [eb] at q; cases q
          exact kp4 b o hb (fun z => nb (List.mem_append_right _ z)) fun z => nb (by rw [z]; exact List.mem_append_left _ (List.mem_cons_self ..))
        · have old : b ∈ Lc ∨ H' b = none → b ∈ L ∨ H b = none := fun q => by
            rcases q with q | q
            · exact st.nw b (List.mem_append_right _ q)
            · by_cases n : b ∈ L
              · exact .inl n
              · cases eb : H b with
                | none => exact .inr rfl
                | some o => rw [st.kp b o eb n] at q; cases q
          simp only [List.mem_append, List.mem_cons] at z
          rcases z with (z | z | z) | z
          · exact st.nw b (by rw [z]; exact List.mem_append_left _ (List.mem_cons_self ..))
          · exact st.nw b (List.mem_append_left _ (List.mem_cons_of_mem _ z))
          · exact old (nw4 b (List.mem_append_left _ z))
          · exact old (nw4 b (List.mem_append_right _ (m5 b z)))
      have nw2 : ∀ b, b ∈ L2 ∨ H2 b = none → b ∈ Lc ∨ H' b = none := fun b z => by
        rcases z with z | z
        · exact .inl (by simpa using m3 b z)
        · cases eb : H' b with
          | none => exact .inr rfl
          | some o => rw [s2 b o eb] at z; cases z
      have kp2 : ∀ b o, H' b = some o → b ∉ Lc → H2 b = some o ∧ b ∉ L2 := fun b o eb n => ⟨s2 b o eb, fun z => n (by simpa using m3 b z)⟩
      cases ec : c ρ2 with
      | bad => rw [ec] at pst; exact pst.elim
      | exc x ρ3 => rw [ec] at pst; exact pst.elim
      | ok b ρ3 =>
        rw [ec] at pst
        intro b' H3 L3 Lv ok4 ⟨eb, ev⟩ st4
        subst eb ev
        rw [R.bind_ok] at pst
        rw [List.nil_append] at ok4 st4
        have hD3 : H3 D = some (.lst vs) := (ok3.hL st4 (List.mem_cons_self ..)).trans hD2
        have rep3 : Reps K cn H3 (L3 ++ (D :: (Lacc ++ Do))) vs acc Lacc := by
          have ra : Reps K cn H2 (L2 ++ (D :: (Lacc ++ Do))) vs acc Lacc := rep.mono k3 fun a z => ⟨?_, List.mem_append_right _ (List.mem_cons_of_mem _ (List.mem_append_left _ z))⟩
          · exact ra.mono (ok3.hF st4 fun b z => (List.mem_append.mp z).imp id fun q => .inl q) fun a z => ⟨ok3.hL st4 (List.mem_cons_of_mem _ (List.mem_append_left _ z)), List.mem_append_right _ (List.mem_cons_of_mem _ (List.mem_append_left _ z))⟩
          · cases ea : H' a with
            | none => exact absurd ea (rep.own a z).2
            | some o => exact s2 a o ea
        have k4 : Keep H' (Lc ++ (D :: (Lacc ++ Do))) H3 (L3 ++ (D :: (Lacc ++ Do))) := Keep.trans k3 (ok3.hF st4 fun b z => (List.mem_append.mp z).imp id fun q => .inl q)
        have nw3 : ∀ b, b ∈ L3 ∨ H3 b = none → b ∈ Lc ∨ H' b = none := fun b z => by
          rcases z with z | z
          · exact nw2 b (st4.nw b z)
          · by_cases n : b ∈ L2
            · exact nw2 b (.inl n)
            · cases eb : H2 b with
              | none => exact nw2 b (.inr eb)
              | some o => rw [st4.kp b o eb n] at z; cases z
        have kp3 : ∀ b o, H' b = some o → b ∉ Lc → H3 b = some o ∧ b ∉ L3 := fun b o eb n => by
          obtain ⟨q1, q2⟩ := kp2 b o eb n
          refine ⟨st4.kp b o q1 q2, fun z => ?_⟩
          rcases st4.nw b z with q | q
          · exact q2 q
          · rw [q1] at q; cases q
        cases b' with
        | false =>
          refine fin (Lv := []) (by rw [List.append_nil]; exact ok4) hD3 (by rw [List.append_nil]; exact rep3) (by rw [List.append_nil]; exact k4) (fun b z => nw3 b (.inl z)) (fun b o eb n _ => (kp3 b o eb n).1) ?_
          simpa using pst
        | true =>
          refine ⟨ρ3, L3, D :: (Lacc ++ Do), ok4, ?_⟩
          simp only [if_true] at pst
          cases ee : e ρ3 with
          | bad => rw [ee] at pst; exact pst.elim
          | exc x ρ4 => rw [ee] at pst; exact pst.elim
          | ok yt ρ4 =>
            rw [ee, R.bind_ok] at pst
            intro v H4 L4 Lv ok5 r5 st5
            by_cases hz : acc.length < sizeLine
            · rw [if_pos hz] at pst
              have hD4 : H4 D = some (.lst vs) := (ok4.hL st5 (List.mem_cons_self ..)).trans hD3
              refine ⟨vs, hD4, by rw [rep.length]; exact hz, ?_⟩
              have pm : (D :: ((Lacc ++ Lv) ++ Do)).Perm (Lv ++ (D :: (Lacc ++ Do))) := by
                refine List.Perm.trans (List.Perm.cons D ?_) List.perm_middle.symm
                rw [← List.append_assoc]
                exact List.Perm.append_right Do List.perm_append_comm
              have ok6 := ok5.perm pm
              obtain ⟨ok7, k7⟩ := ok6.wr (p := D) (u := .lst (vs ++ [v])) (List.mem_cons_self ..)
              have k45 : Keep H3 (L3 ++ (D :: (Lacc ++ Do))) H4 (L4 ++ (D :: ((Lacc ++ Lv) ++ Do))) := ok4.hF st5 fun b z => by
                simp only [List.mem_append, List.mem_cons] at z ⊢
                rcases z with z | z | (z | z) | z
                · exact .inl (.inr z)
                · exact .inr (.inl (.inl z))
                · exact .inr (.inl (.inr (.inl z)))
                · exact .inl (.inl z)
                · exact .inr (.inl (.inr (.inr z)))
              have nd := ok6.nd
              have hDn : ∀ a ∈ Lacc ++ Lv, a ≠ D := fun a z q => by
                have n2 := (List.nodup_append.mp nd).2.1
                exact (List.nodup_cons.mp n2).1 (by rw [← q]; exact List.mem_append_left _ z)
              have rep4 : Reps K cn H4 (L4 ++ (D :: ((Lacc ++ Lv) ++ Do))) vs acc Lacc := rep3.mono k45 fun a z => ⟨ok4.hL st5 (List.mem_cons_of_mem _ (List.mem_append_left _ z)), List.mem_append_right _ (List.mem_cons_of_mem _ (List.mem_append_left _ (List.mem_append_left _ z)))⟩
              have rv4 : Rep K cn H4 (L4 ++ (D :: ((Lacc ++ Lv) ++ Do))) v yt Lv := r5.same fun b => by
                simp only [List.mem_append, pm.mem_iff]
              have repN : Reps K cn H4 (L4 ++ (D :: ((Lacc ++ Lv) ++ Do))) (vs ++ [v]) (acc ++ [yt]) (Lacc ++ Lv) := by
                have z := rep4.append (Reps.cons rv4 .nil)
                rw [List.append_nil] at z
                exact z
              refine fin ok7 upd_same (repN.mono k7 fun a z => ⟨upd_ne (hDn a z), (repN.own a z).1⟩) (Keep.trans (Keep.trans k4 k45) k7) (fun b z => ?_) (fun b o eb n nD => ?_) pst
              · exact nw3 b (st5.nw b z)
              · obtain ⟨q1, q2⟩ := kp3 b o eb n
                rw [upd_ne nD]
                exact st5.kp b o q1 q2
            · rw [if_neg hz] at pst; exact pst.elim
  · have e : i = ts.length := by omega
    subst e
    refine .inl ⟨hJ.stops H' _ kp, ?_⟩
    rw [List.drop_length] at pst
    have pst' : PostG K cn W (relV K cn) Do σ H L (.ok (.lst true acc) (putBack own ρ1 ρc)) Q := pst
    exact pst' (.ref D) H' Lc (D :: Lacc) (ok1.unwiped okc hk kp) (.lstO (List.mem_append_right _ (List.mem_cons_self ..)) hDv rep) st

/-! ### what is wanted of a statement -/
def PostO (K : PySem.W.Frag) (cn : Nat → Addr) (W : WX) (Do : List Addr) (σ : St8) (H : Hp) (L : List Addr) (pr : List Nat) (r : O) (D : Ends) : Prop := match r with
  | .nx ρ' => ∀ σ' H' L', Ok8 K cn Do σ' ρ' H' L' → Stp L H L' H' → (∀ i ∈ pr, σ'[i]? = σ[i]?) → D.nx σ' H'
  | .bk ρ' => ∀ σ' H' L', Ok8 K cn Do σ' ρ' H' L' → Stp L H L' H' → (∀ i ∈ pr, σ'[i]? = σ[i]?) → D.bk σ' H'
  | .ct ρ' => ∀ σ' H' L', Ok8 K cn Do σ' ρ' H' L' → Stp L H L' H' → (∀ i ∈ pr, σ'[i]? = σ[i]?) → D.ct σ' H'
  | .rt t ρ' => ∀ σ' v H' L' Lv, Ok8 K cn (Lv ++ Do) σ' ρ' H' L' → Rep K cn H' (L' ++ (Lv ++ Do)) v t Lv → Stp L H (Lv ++ L') H' → (∀ i ∈ pr, σ'[i]? = σ[i]?) → D.rt v H'
  | .exc x ρ' => ∀ σ' c d H' L', Ok8 K cn Do σ' ρ' H' L' → ExR K cn H' (L' ++ Do) x c d → Stp L H L' H' → (∀ i ∈ pr, σ'[i]? = σ[i]?) → W c d σ' H'
  | .bad => False
def tS (K : PySem.W.Frag) (cn : Nat → Addr) (W : WX) (pr : List Nat) (ev : Env8 → O) : TS := fun D σ H => ∃ ρ L Do, Ok8 K cn Do σ ρ H L ∧ PostO K cn W Do σ H L pr (ev ρ) D
theorem PS.imp {X : Cx} {st : Stmt} {t t' : TS} (h : PS X st t) (k : ∀ D σ H, t' D σ H → t D σ H) : PS X st t' := ⟨fun pins s σ H D I q => h.run pins s σ H D I (k D σ H q)⟩
theorem PSs.imp {X : Cx} {st : List Stmt} {t t' : TS} (h : PSs X st t) (k : ∀ D σ H, t' D σ H → t D σ H) : PSs X st t' := ⟨fun pins s σ H D I q => h.run pins s σ H D I (k D σ H q)⟩
/-- the same wish from a later state -/
theorem PostO.from {pr : List Nat} {r : O} {D : Ends} (h : PostO K cn W Do σ H L pr r D) (st : Stp L H L' H') (hp : ∀ i ∈ pr, σ'[i]? = σ[i]?) : PostO K cn W Do σ' H' L' pr r D := by
  cases r with
  | nx ρ => exact fun σ2 H2 L2 ok s p => h σ2 H2 L2 ok (st.trans s) fun i z => (p i z).trans (hp i z)
  | bk ρ => exact fun σ2 H2 L2 ok s p => h σ2 H2 L2 ok (st.trans s) fun i z => (p i z).trans (hp i z)
  | ct ρ => exact fun σ2 H2 L2 ok s p => h σ2 H2 L2 ok (st.trans s) fun i z => (p i z).trans (hp i z)
  | rt t ρ => exact fun σ2 v H2 L2 Lv ok r s p => h σ2 v H2 L2 Lv ok r (st.trans s) fun i z => (p i z).trans (hp i z)
  | exc x ρ => exact fun σ2 c d H2 L2 ok r s p => h σ2 c d H2 L2 ok r (st.trans s) fun i z => (p i z).trans (hp i z)
  | bad => exact h
/-- an expression ahead of a statement's rest -/
theorem PostO.first {α β : Type} {rel : Rel α β} {pr : List Nat} {ev : R α} {f : α → Env8 → O} {D : Ends} {Q : β → Hp → Prop} (h : PostO K cn W Do σ H L pr (ofR ev f) D)
    (k : ∀ a ρ2 b H2 Lb Lv, ev = .ok a ρ2 → Ok8 K cn (Lv ++ Do) σ ρ2 H2 Lb → rel σ H2 (Lb ++ (Lv ++ Do)) b a Lv → Stp L H (Lv ++ Lb) H2 → PostO K cn W Do σ H L pr (f a ρ2) D → Q b H2) :
    PostG K cn W rel Do σ H L ev Q := by
  cases ev with
  | bad => exact h
  | exc x ρ2 => exact fun c d H2 Lb ok x st => h σ c d H2 Lb ok x st fun _ _ => rfl
  | ok a ρ2 => exact fun b H2 Lb Lv ok r st => k a ρ2 b H2 Lb Lv rfl ok r st h
/-- a statement ahead of the rest -/
theorem t_seq {pr : List Nat} {a b : Env8 → O} (D : Ends) (σ : St8) (H : Hp) (h : tS K cn W pr (fun ρ => match a ρ with | .nx ρ1 => b ρ1 | o => o) D σ H) : tSeq (tS K cn W pr a) (tS K cn W pr b) D σ H := by
  obtain ⟨ρ, L, Do, ok, post⟩ := h
  refine ⟨ρ, L, Do, ok, ?_⟩
  dsimp only at post
  cases e : a ρ with
  | nx ρ1 =>
    rw [e] at post
    exact fun σ2 H2 L2 ok2 s p => ⟨ρ1, L2, Do, ok2, PostO.from post s p⟩
  | bk ρ1 => rw [e] at post; exact post
  | ct ρ1 => rw [e] at post; exact post
  | rt t ρ1 => rw [e] at post; exact post
  | exc x ρ1 => rw [e] at post; exact post
  | bad => rw [e] at post; exact post
/-- a loop's turn -/
theorem bindG_length {g : G} {t : T} (eg : bindG g t ρ = some ρ1) : ρ1.length = ρ.length := by
  cases g with
  | nm k =>
    have e' : (if k < ρ.length then some (ρ.set k (some t)) else none) = some ρ1 := eg
    split at e'
    · cases e'; simp
    · cases e'
  | tp is =>
    cases t with
    | tup us =>
      have e' : (if us.length = is.length ∧ is.all (· < ρ.length) = true then some (setAll is us ρ) else none) = some ρ1 := eg
      split at e'
      · cases e'
        have : ∀ (is : List Nat) (us : List T) (ρ : Env8), (setAll is us ρ).length = ρ.length := by
          intro is
          induction is with
          | nil => intro us ρ; unfold setAll; rfl
          | cons k is ih => intro us ρ; cases us with
            | nil => unfold setAll; rfl
            | cons u us => unfold setAll; rw [ih, List.length_set]
        exact this ..
      · cases e'
    | _ => cases eg
theorem t_for {pr : List Nat} {ii : Env8 → R (List T)} {g : G} {b : Env8 → O} {ks : List Nat} (hg : ∀ j ∈ gIdx g, j ∉ pr) (D : Ends) (σ : St8) (H : Hp)
    (h : tS K cn W pr (fun ρ => ofR (ii ρ) fun ts ρ => forL (bindG g) b ks ts ρ) D σ H) : tFor (tI K cn W ii) (tgOf K g) (tS K cn W pr b) D σ H := by
  obtain ⟨ρ, L, Do, ok, post⟩ := h
  refine ⟨ρ, L, Do, ok, PostO.first post fun ts ρ1 J H1 La Lw e1 ok1 ⟨hJ, hw⟩ st1 post1 => ?_⟩
  subst hw
  rw [List.nil_append] at ok1 st1 hJ
  let Pv : Nat → St8 → Hp → Prop := fun i σ' H' => ∃ ρi Li, Ok8 K cn Do σ' ρi H' Li ∧ Keep H1 (La ++ Do) H' (Li ++ Do) ∧ Stp L H Li H' ∧ (∀ j ∈ pr, σ'[j]? = σ[j]?) ∧ PostO K cn W Do σ H L pr (forL (bindG g) b ks (ts.drop i) ρi) D
  refine ⟨fun i m σ' H' => m = ts.length - i ∧ i ≤ ts.length ∧ Pv i σ' H', ⟨_, rfl, Nat.zero_le _, ρ1, La, ok1, fun _ _ h => h, st1, fun _ _ => rfl, post1⟩, ?_⟩
  rintro i m σ' H' ⟨rfl, hi, ρi, Li, oki, kp, st, hp, pst⟩
  by_cases hlt : i < ts.length
  · refine .inr ⟨hJ.goes i H' _ hlt kp, Pv (i + 1), fun σ2 H2 p2 => ⟨ts.length - (i + 1), by omega, rfl, hlt, p2⟩, fun x H2 y => ?_⟩
    obtain ⟨t, et, gv⟩ := hJ.yields i H' _ x H2 hlt kp y
    rw [drop_cons et] at pst
    obtain ⟨ok2, k2, r2, s2⟩ := oki.gives gv
    simp only [forL] at pst
    cases eg : bindG g t ρi with
    | none => rw [eg] at pst; exact pst.elim
    | some ρ2 =>
      rw [eg] at pst
      dsimp only at pst
      refine bind_ok (Lv := []) ok2 r2 eg fun σ2 L2 ok3 m3 hσ => ⟨ρ2, L2, Do, ok3, ?_⟩
      have m3' : ∀ b ∈ L2, b ∈ Li := fun b z => by simpa using m3 b z
      have st2 : Stp Li H' L2 H2 := ⟨fun b o e _ => s2 b o e, fun b z => .inl (m3' b z)⟩
      have hp2 : ∀ j ∈ pr, σ2[j]? = σ[j]? := fun j hj => (hσ j fun q => hg j q hj).trans (hp j hj)
      have stN : Stp L H L2 H2 := st.trans st2
      have next : ∀ {ρ3 : Env8} {σ3 : St8} {H3 : Hp} {L3 : List Addr}, Ok8 K cn Do σ3 ρ3 H3 L3 → Stp L2 H2 L3 H3 → (∀ j ∈ pr, σ3[j]? = σ2[j]?) → PostO K cn W Do σ H L pr (forL (bindG g) b ks (ts.drop (i + 1)) (FT.kill ks ρ3)) D → Pv (i + 1) σ3 H3 := by
        intro ρ3 σ3 H3 L3 ok4 st4 hp4 pst4
        obtain ⟨L5, ok5, m5⟩ := ok4.kill ks
        refine ⟨_, L5, ok5, ?_, (stN.trans st4).weak m5, fun j hj => (hp4 j hj).trans (hp2 j hj), pst4⟩
        exact Keep.trans kp (Keep.trans k2 (Keep.trans (hide_mem (sub_app m3')) (Keep.trans (ok3.hF st4 fun b z => (List.mem_append.mp z).imp id fun q => .inl q) (hide_mem (sub_app m5)))))
      cases eb : b ρ2 with
      | nx ρ3 => rw [eb] at pst; exact fun σ3 H3 L3 ok4 st4 hp4 => next ok4 st4 hp4 pst
      | ct ρ3 => rw [eb] at pst; exact fun σ3 H3 L3 ok4 st4 hp4 => next ok4 st4 hp4 pst
      | bk ρ3 =>
        rw [eb] at pst
        intro σ3 H3 L3 ok4 st4 hp4
        obtain ⟨L5, ok5, m5⟩ := ok4.kill ks
        exact pst σ3 H3 L5 ok5 ((stN.trans st4).weak m5) fun j hj => (hp4 j hj).trans (hp2 j hj)
      | rt t ρ3 => rw [eb] at pst; exact PostO.from (r := .rt t ρ3) (D := { D with nx := Pv (i + 1), ct := Pv (i + 1), bk := D.nx }) pst stN hp2
      | exc x ρ3 => rw [eb] at pst; exact PostO.from (r := .exc x ρ3) (D := { D with nx := Pv (i + 1), ct := Pv (i + 1), bk := D.nx }) pst stN hp2
      | bad => rw [eb] at pst; exact pst
  · have e : i = ts.length := by omega
    subst e
    refine .inl ⟨hJ.stops H' _ kp, ?_⟩
    rw [List.drop_length] at pst
    exact pst σ' H' Li oki st hp
theorem t_while {pr : List Nat} {c : Env8 → R Bool} {b : Env8 → O} {ks : List Nat} {n : Nat} (D : Ends) (σ : St8) (H : Hp)
    (h : tS K cn W pr (fun ρ => whilL c b ks n ρ) D σ H) : tWhile (tG K cn W relC c) (tS K cn W pr b) D σ H := by
  obtain ⟨ρ, L, Do, ok, post⟩ := h
  let Wm : Nat → St8 → Hp → Prop := fun m σ' H' => ∃ ρi Li, Ok8 K cn Do σ' ρi H' Li ∧ Stp L H Li H' ∧ (∀ j ∈ pr, σ'[j]? = σ[j]?) ∧ PostO K cn W Do σ H L pr (whilL c b ks m ρi) D
  refine ⟨Wm, ⟨n, ρ, L, ok, Stp.refl L H, fun _ _ => rfl, post⟩, ?_⟩
  rintro m σ' H' ⟨ρi, Li, oki, st, hp, pst⟩
  cases m with
  | zero => exact pst.elim
  | succ m =>
    simp only [whilL] at pst
    refine ⟨ρi, Li, Do, oki, ?_⟩
    cases ec : c ρi with
    | bad => rw [ec] at pst; exact pst
    | exc x ρ2 =>
      rw [ec] at pst
      exact fun c d H2 L2 ok2 x st2 => pst σ' c d H2 L2 ok2 x (st.trans st2) hp
    | ok k ρ2 =>
      rw [ec] at pst
      intro k' H2 L2 Lv ok2 ⟨ek, ev⟩ st2
      subst ek ev
      rw [List.nil_append] at ok2 st2
      have stN := st.trans st2
      cases k' with
      | false => exact pst σ' H2 L2 ok2 stN hp
      | true =>
        refine ⟨Wm m, fun σ3 H3 p3 => ⟨m, Nat.lt_succ_self m, p3⟩, ρ2, L2, Do, ok2, ?_⟩
        dsimp only at pst
        have next : ∀ {ρ3 : Env8} {σ3 : St8} {H3 : Hp} {L3 : List Addr}, Ok8 K cn Do σ3 ρ3 H3 L3 → Stp L2 H2 L3 H3 → (∀ j ∈ pr, σ3[j]? = σ'[j]?) → PostO K cn W Do σ H L pr (whilL c b ks m (FT.kill ks ρ3)) D → Wm m σ3 H3 := by
          intro ρ3 σ3 H3 L3 ok4 st4 hp4 pst4
          obtain ⟨L5, ok5, m5⟩ := ok4.kill ks
          exact ⟨_, L5, ok5, (stN.trans st4).weak m5, fun j hj => (hp4 j hj).trans (hp j hj), pst4⟩
        cases eb : b ρ2 with
        | nx ρ3 => rw [eb] at pst; exact fun σ3 H3 L3 ok4 st4 hp4 => next ok4 st4 hp4 pst
        | ct ρ3 => rw [eb] at pst; exact fun σ3 H3 L3 ok4 st4 hp4 => next ok4 st4 hp4 pst
        | bk ρ3 =>
          rw [eb] at pst
          intro σ3 H3 L3 ok4 st4 hp4
          obtain ⟨L5, ok5, m5⟩ := ok4.kill ks
          exact pst σ3 H3 L5 ok5 ((stN.trans st4).weak m5) fun j hj => (hp4 j hj).trans (hp j hj)
        | rt t ρ3 => rw [eb] at pst; exact PostO.from (r := .rt t ρ3) (D := { D with nx := Wm m, ct := Wm m, bk := D.nx }) pst stN hp
        | exc x ρ3 => rw [eb] at pst; exact PostO.from (r := .exc x ρ3) (D := { D with nx := Wm m, ct := Wm m, bk := D.nx }) pst stN hp
        | bad => rw [eb] at pst; exact pst
end
end FT

end
section
set_option Elab.async false
set_option linter.all false
set_option maxRecDepth 100000
set_option maxHeartbeats 4000000
/-! FTOk: that a term of the small language is the text's own. -/
namespace FT
open PySem PySem.Spec PyProof.Rows L2

structure FnI where
  name : Str
  ps : List Str
  io : List Nat
/-- a call by keywords: the def, the keywords as written, whence each parameter comes -/
structure KwI where
  f : Nat
  ks : List Str
  src : List Src
/-- a class of errors that store one text -/
structure ClI where
  name : Str
  f : Str
  code : Str
  deriving DecidableEq
structure Γ8 where
  N : List Str
  sc : Scope
  stor : Str → Bool
  pr : List Nat
  fns : List FnI
  kws : List KwI
  cls : List ClI
  lv : Nat
def Γ8.blk (Γ : Γ8) (scope : Scope) : Γ8 := { Γ with sc := relS scope Γ.sc, stor := fun x => scope.names.lookup x == some .local || scope.names.lookup x == some .cell }
def isVis (sc : Scope) (x : Str) : Bool := sc.names.lookup x == some .local || (sc.names.lookup x == some .cell || sc.names.lookup x == some .free)
def isNm (Γ : Γ8) (i : Nat) (x : Str) : Bool := Γ.N[i]? == some x && (isVis Γ.sc x && (!(x == ("__debug__" : Str)) && !(x == ("__classdict__" : Str))))
def isSt (Γ : Γ8) (i : Nat) (x : Str) : Bool := Γ.N[i]? == some x && (Γ.stor x && !Γ.pr.contains i)
def isGl (Γ : Γ8) (x : Str) : Bool := Γ.sc.names.lookup x == some .globalImplicit && (!(x == ("__name__" : Str)) && !(x == ("__debug__" : Str)))
def b1Nm : B1 → Str
  | .len => "len" | .int => "int" | .tuple => "tuple" | .list => "list" | .all => "all" | .any => "any" | .sum => "sum" | .abs => "abs" | .max => "max" | .min => "min" | .str => "str"
def b2Nm : B2 → Str | .max => "max" | .min => "min"
def tyNames : List String := ["int", "bool", "str", "tuple", "list"]
def tyNm (Γ : Γ8) (t : String) (x : Expr) : Bool := match asName x with
  | some y => y == Str.ofString t && (tyNames.contains t && isGl Γ y)
  | none => false
def tysNm (Γ : Γ8) : List String → List Expr → Bool
  | [], [] => true
  | t :: ts, x :: xs => tyNm Γ t x && (plain x && tysNm Γ ts xs)
  | _, _ => false
def refPos : Nat → As → List Nat
  | _, .nil => []
  | k, .v _ as => refPos (k + 1) as
  | k, .r _ as => k :: refPos (k + 1) as
def asLen : As → Nat
  | .nil => 0
  | .v _ as => asLen as + 1
  | .r _ as => asLen as + 1
def flEq : T → T → Bool
  | .non, .non => true
  | .bl a, .bl b => decide (a = b)
  | .int a, .int b => decide (a = b)
  | .str a, .str b => decide (a = b)
  | _, _ => false
def srcEq : List Src → List Src → Bool
  | [], [] => true
  | .kw i :: a, .kw j :: b => decide (i = j) && srcEq a b
  | .df s :: a, .df t :: b => flEq s t && srcEq a b
  | _, _ => false
def ownNm (Γ : Γ8) (own : List Nat) : List (Str × Nat) := own.map fun i => ((Γ.N[i]?).getD "", i)
def okG (Γ : Γ8) : G → Expr → Bool
  | .nm i, x => match asName x with
    | some y => isSt Γ i y
    | none => false
  | .tp is, x => match asTup x with
    | some xs => okGs Γ is xs
    | none => false
where okGs (Γ : Γ8) : List Nat → List Expr → Bool
  | [], [] => true
  | i :: is, x :: xs => (match asName x with
    | some y => isSt Γ i y
    | none => false) && okGs Γ is xs
  | _, _ => false
def kwNames : List Keyword → Option (List Str)
  | [] => some []
  | ⟨some x, _, _⟩ :: ks => (kwNames ks).map (x :: ·)
  | _ => none
mutual
def okE : Γ8 → E → Expr → Bool
  | Γ, .var i, x => match asName x with
    | some y => isNm Γ i y
    | none => false
  | _, .int i, x => match asConst x with
    | some (.int j) => decide (j = i)
    | _ => false
  | _, .bl i, x => match asConst x with
    | some (.bool j) => decide (j = i)
    | _ => false
  | _, .non, x => match asConst x with
    | some .none => true
    | _ => false
  | _, .str i, x => match asConst x with
    | some (.str j) => decide (j = i)
    | _ => false
  | Γ, .bin op a b, x => match asBin x with
    | some (l, o, r) => decide (o = op) && (okE Γ a l && okE Γ b r)
    | none => false
  | Γ, .neg a, x => match asUn x with
    | some (.USub, l) => okE Γ a l
    | _ => false
  | Γ, .cmp op a b, x => match asCmp1 x with
    | some (l, o, r) => decide (o = op) && (plain r && (okE Γ a l && okE Γ b r))
    | none => false
  | Γ, .chn p q a b c, x => match asCmp2 x with
    | some (l, o, r, o2, r2) => decide (o = p) && (decide (o2 = q) && (plain r2 && (okE Γ a l && (okE Γ b r && okE Γ c r2))))
    | none => false
  | Γ, .and a b, x => match asBool x with
    | some (.And, l, [r], _) => okE Γ a l && okE Γ b r
    | some (.And, l, r :: r2 :: rs, p) => okE Γ a l && okE Γ b (.BoolOp .And (r :: r2 :: rs) p)
    | _ => false
  | Γ, .or a b, x => match asBool x with
    | some (.Or, l, [r], _) => okE Γ a l && okE Γ b r
    | some (.Or, l, r :: r2 :: rs, p) => okE Γ a l && okE Γ b (.BoolOp .Or (r :: r2 :: rs) p)
    | _ => false
  | Γ, .not a, x => match asUn x with
    | some (.Not, l) => okE Γ a l
    | _ => false
  | Γ, .ite c a b, x => match asIf x with
    | some (k, l, r) => okC Γ c k && (okE Γ a l && okE Γ b r)
    | none => false
  | Γ, .tup es, x => match asTup x with
    | some xs => okEs Γ es xs
    | none => false
  | Γ, .lst es, x => match asLst x with
    | some xs => okEs Γ es xs
    | none => false
  | Γ, .ix a b, x => match asSub x with
    | some (l, r) => plain r && (okE Γ a l && okE Γ b r)
    | none => false
  | Γ, .sl a lo hi, x => match asSub x with
    | some (l, r) => (match asSlc r with
      | some (u, v) => okE Γ a l && (okOe Γ lo u && okOe Γ hi v)
      | none => false)
    | none => false
  | Γ, .rev a, x => match asSub x with
    | some (l, r) => isRev r && okE Γ a l
    | none => false
  | Γ, .call f as, x => match asCall x, Γ.fns[f]? with
    | some (y, es, []), some fi => y == fi.name && (isGl Γ y && (okAs Γ as es && (plains es && (refPos 0 as == fi.io && asLen as == fi.ps.length))))
    | _, _ => false
  | Γ, .callW f as, x => match asCall x, Γ.fns[f]? with
    | some (y, es, []), some fi => y == fi.name && (isGl Γ y && (okAs Γ as es && (plains es && (fi.io == [] && asLen as == fi.ps.length))))
    | _, _ => false
  | Γ, .callK k f src ks, x => match asCall x, Γ.fns[f]?, Γ.kws[k]? with
    | some (y, [], kw), some fi, some ki => y == fi.name && (isGl Γ y && (okKs Γ ks kw && (kwNames kw == some ki.ks && (decide (ki.f = f) && (srcEq src ki.src && (src.length == fi.ps.length && fi.io == []))))))
    | _, _, _ => false
  | Γ, .b1 b a, x => match asCall x with
    | some (y, [l], []) => y == b1Nm b && (isGl Γ y && (plain l && okE Γ a l))
    | _ => false
  | Γ, .b2 b a c, x => match asCall x with
    | some (y, [l, r], []) => y == b2Nm b && (isGl Γ y && ((plain l && plain r) && (okE Γ a l && okE Γ c r)))
    | _ => false
  | Γ, .isi a ts, x => match asCall x with
    | some (y, [l, r], []) => y == ("isinstance" : Str) && (isGl Γ y && ((plain l && plain r) && (okE Γ a l && (match asTup r with
      | some cs => tysNm Γ ts cs && decide (ts.length ≤ 8)
      | none => (match ts with
        | [t] => tyNm Γ t r
        | _ => false)))))
    | _ => false
  | Γ, .lc g it c e own, x => match asLC x with
    | some (el, tg, ir, ifs, scope) => okG (Γ.blk scope) g tg && (okIt Γ it tg ir && (okOc (Γ.blk scope) c ifs && (okE (Γ.blk scope) e el && (plain ir && (blkC Γ.N Γ.sc scope (ownNm Γ own) && (gIdx g).all fun j => own.contains j)))))
    | none => false
  | _, .lrng _, _ => false
def okEs : Γ8 → Es → List Expr → Bool
  | _, .nil, [] => true
  | Γ, .cons e es, x :: xs => plain x && (okE Γ e x && okEs Γ es xs)
  | Γ, .star e es, x :: xs => (match x with
    | .Starred y _ => okE Γ e y && okEs Γ es xs
    | _ => false)
  | _, _, _ => false
def okAs : Γ8 → As → List Expr → Bool
  | _, .nil, [] => true
  | Γ, .v e as, x :: xs => okE Γ e x && okAs Γ as xs
  | Γ, .r i as, x :: xs => (match asName x with
    | some y => isNm Γ i y
    | none => false) && okAs Γ as xs
  | _, _, _ => false
def okKs : Γ8 → Es → List Keyword → Bool
  | _, .nil, [] => true
  | Γ, .cons e es, k :: ks => okE Γ e k.value && okKs Γ es ks
  | _, _, _ => false
def okOe : Γ8 → Oe → Option Expr → Bool
  | _, .no, none => true
  | Γ, .so e, some x => okE Γ e x
  | _, _, _ => false
def okOc : Γ8 → Oc → List Expr → Bool
  | _, .no, [] => true
  | Γ, .so c, [x] => okC Γ c x
  | _, _, _ => false
def okC : Γ8 → C → Expr → Bool
  | Γ, .tr e, x => tested x && okE Γ e x
  | Γ, .cmp op a b, x => match asCmp1 x with
    | some (l, o, r) => decide (o = op) && (plain r && (okE Γ a l && okE Γ b r))
    | none => false
  | Γ, .chn p q a b c, x => match asCmp2 x with
    | some (l, o, r, o2, r2) => decide (o = p) && (decide (o2 = q) && (plain r2 && (okE Γ a l && (okE Γ b r && okE Γ c r2))))
    | none => false
  | Γ, .and a b, x => match asBool x with
    | some (.And, l, [r], _) => okC Γ a l && okC Γ b r
    | some (.And, l, r :: r2 :: rs, p) => okC Γ a l && okC Γ b (.BoolOp .And (r :: r2 :: rs) p)
    | _ => false
  | Γ, .or a b, x => match asBool x with
    | some (.Or, l, [r], _) => okC Γ a l && okC Γ b r
    | some (.Or, l, r :: r2 :: rs, p) => okC Γ a l && okC Γ b (.BoolOp .Or (r :: r2 :: rs) p)
    | _ => false
  | Γ, .not a, x => match asUn x with
    | some (.Not, l) => okC Γ a l
    | _ => false
def okIt : Γ8 → It → Expr → Expr → Bool
  | Γ, .sq e, _, x => okE Γ e x
  | Γ, .r1 a, _, x => match asCall x with
    | some (y, [l], []) => y == ("range" : Str) && (isGl Γ y && (plain l && okE Γ a l))
    | _ => false
  | Γ, .r2 a b, _, x => match asCall x with
    | some (y, [l, r], []) => y == ("range" : Str) && (isGl Γ y && ((plain l && plain r) && (okE Γ a l && okE Γ b r)))
    | _ => false
  | Γ, .en a, tg, x => match asCall x with
    | some (y, [l], []) => y == ("enumerate" : Str) && (isGl Γ y && (plain l && (okE Γ a l && (asTup tg).isSome)))
    | _ => false
  | Γ, .zp a b, tg, x => match asCall x with
    | some (y, [l, r], []) => y == ("zip" : Str) && (isGl Γ y && ((plain l && plain r) && (okE Γ a l && (okE Γ b r && (asTup tg).isSome))))
    | _ => false
  | Γ, .rv a, _, x => match asCall x with
    | some (y, [l], []) => y == ("reversed" : Str) && (isGl Γ y && (plain l && okE Γ a l))
    | _ => false
  | Γ, .rr1 a, _, x => match asCall x with
    | some (y, [m], []) => (match asCall m with
      | some (z, [l], []) => y == ("reversed" : Str) && (isGl Γ y && (z == ("range" : Str) && (isGl Γ z && (plain l && okE Γ a l))))
      | _ => false)
    | _ => false
  | Γ, .r3 a b k, _, x => match asCall x with
    | some (y, [l, r, .UnaryOp .USub (.Constant (.int 1) _ _) _], []) => y == ("range" : Str) && (isGl Γ y && ((plain l && plain r) && (okE Γ a l && okE Γ b r)))
    | _ => false
  | _, _, _, _ => false
end
end FT

end
section
set_option Elab.async false
set_option linter.all false
set_option maxRecDepth 100000
set_option maxHeartbeats 4000000
/-! FTSnd4: the forms of expressions keep what the reckoner says. -/
namespace FT
open PySem PySem.Spec PyProof.Rows L2
section
variable {K : PySem.W.Frag} {cn : Nat → Addr} {H H' H0 H1 H2 H3 : Hp} {D D' D0 Do Do' Dx : List Addr} {σ σ' : St8} {ρ ρ1 ρ' : Env8} {L L' La Lb Lt Lv Lw : List Addr} {W : WX}
theorem Fin8.bl {Q : VK} {b : Bool} (F : Fin8 (relV K cn) σ H D (.bl b) Q) : Fin8 relB σ H D b Q where
  old := fun v hr => by
    obtain ⟨e, _⟩ := hr D fun _ _ h => h
    rw [e]
    exact F.old _ fun _ _ => .bl b
  new := fun p u hp hr => by
    have hu : hide (upd H p u) [] p = some u := hide_some.mpr ⟨List.not_mem_nil, upd_same⟩
    obtain ⟨e, _⟩ := hr [] (fun c o h => hide_some.mpr ⟨List.not_mem_nil, by rw [upd_ne (ne_of_none (hide_sub h) hp)]; exact hide_sub h⟩) hu
    cases e
  own := fun p u hp hr => by
    obtain ⟨e, _⟩ := hr [p] (List.mem_singleton.mpr rfl) (fun c o h => hide_some.mpr ⟨fun z => ne_of_none (hide_sub h) hp (List.mem_singleton.mp z), by rw [upd_ne (ne_of_none (hide_sub h) hp)]; exact hide_sub h⟩)
    cases e
theorem Pr2.bl {f : T → T → Option Bool} {r : R2} (h : Pr2 K cn relB f r) : Pr2 K cn (relV K cn) (fun s t => (f s t).map .bl) r := by
  intro σ H D v w s t u Ls Lt Q rs rt e F
  obtain ⟨b, e1, e2⟩ := map_some e
  subst e2
  exact h σ H D v w s t b Ls Lt Q rs rt e1 F.bl
theorem t_const {t : T} {v : V} {Q : VK} (r : ∀ H D, Rep K cn H D v t []) (h : tE K cn W (.ok t) σ H Q) : Q v H := by
  obtain ⟨ρ, L, Do, ok, post⟩ := h
  exact post v H L [] ok (r _ _) (Stp.refl L H)
theorem t_opd {ev : Env8 → R T} (σ : St8) (H : Hp) (Q : VK) (h : tO K cn W (fun ρ => (ev ρ).bind fun t ρ => .ok (.vl t) ρ) σ H Q) : tE K cn W ev σ H Q := by
  obtain ⟨ρ, L, Do, ok, post⟩ := h
  exact ⟨ρ, L, Do, ok, PostG.first post fun t ρ2 v H2 Lb Lv e ok2 r st post2 => post2 v H2 Lb Lv ok2 r st⟩
/-- the rest of the reckoning in the state at hand -/
theorem PostG.rest {α β : Type} {rel : Rel α β} {Q : β → Hp → Prop} {r : R α} (post : PostG K cn W rel Do σ H L r Q) (st : Stp L H La H1) : PostG K cn W rel Do σ H1 La r Q := by
  cases r with
  | bad => exact post
  | exc x ρ => exact fun c d H2 L2 ok e s => post c d H2 L2 ok e (st.trans s)
  | ok a ρ =>
    intro b H2 L2 Lv ok r s
    have z := Stp.then_ (Lt := []) (La := La) (Lv := Lv) (Lb := L2) (by rw [List.nil_append]; exact st) s
    rw [List.append_nil] at z
    exact post b H2 L2 Lv ok r z
/-- an expression, then one of two -/
theorem t_ite {A : Env8 → R Bool} {B C : Env8 → R T} (σ : St8) (H : Hp) (Q : VK) (h : tE K cn W (fun ρ => (A ρ).bind fun k ρ => if k then B ρ else C ρ) σ H Q) : tIf (tG K cn W relC A) (tE K cn W B) (tE K cn W C) σ H Q := by
  obtain ⟨ρ, L, Do, ok, post⟩ := h
  refine ⟨ρ, L, Do, ok, PostG.first post fun k ρ1 k' H1 La Lw e1 ok1 ⟨ek, ev⟩ st1 post1 => ?_⟩
  subst ek ev
  rw [List.nil_append] at ok1 st1
  have go : ∀ {E : Env8 → R T}, PostG K cn W (relV K cn) Do σ H L (E ρ1) Q → tE K cn W E σ H1 Q := fun {E} p => ⟨ρ1, La, Do, ok1, p.rest st1⟩
  cases k' with
  | true => exact go (by simpa using post1)
  | false => exact go (by simpa using post1)
theorem t_and {A B : Env8 → R T} (σ : St8) (H : Hp) (Q : VK) (h : tE K cn W (fun ρ => (A ρ).bind fun t ρ => match t with
    | .bl true => B ρ
    | .bl false => .ok (.bl false) ρ
    | _ => .bad) σ H Q) : tAndV (tE K cn W A) (tE K cn W B) σ H Q := by
  obtain ⟨ρ, L, Do, ok, post⟩ := h
  refine ⟨ρ, L, Do, ok, PostG.first post fun t ρ1 v H1 La Lw e1 ok1 r1 st1 post1 => ?_⟩
  split at post1
  · cases r1
    rw [List.nil_append] at ok1 st1
    exact ⟨true, rfl, ρ1, La, Do, ok1, post1.rest st1⟩
  · cases r1
    rw [List.nil_append] at ok1 st1
    exact ⟨false, rfl, post1 _ _ La [] ok1 (.bl false) st1⟩
  · exact post1.elim
theorem t_or {A B : Env8 → R T} (σ : St8) (H : Hp) (Q : VK) (h : tE K cn W (fun ρ => (A ρ).bind fun t ρ => match t with
    | .bl false => B ρ
    | .bl true => .ok (.bl true) ρ
    | _ => .bad) σ H Q) : tOrV (tE K cn W A) (tE K cn W B) σ H Q := by
  obtain ⟨ρ, L, Do, ok, post⟩ := h
  refine ⟨ρ, L, Do, ok, PostG.first post fun t ρ1 v H1 La Lw e1 ok1 r1 st1 post1 => ?_⟩
  split at post1
  · cases r1
    rw [List.nil_append] at ok1 st1
    exact ⟨false, rfl, ρ1, La, Do, ok1, post1.rest st1⟩
  · cases r1
    rw [List.nil_append] at ok1 st1
    exact ⟨true, rfl, post1 _ _ La [] ok1 (.bl true) st1⟩
  · exact post1.elim
theorem t_op1o {A : Env8 → R Opd} {f : T → Option T} {r : V → Hp → VK → Prop} (hp : Pr1 K cn (relV K cn) f r) (σ : St8) (H : Hp) (Q : VK) (h : tE K cn W (fun ρ => (A ρ).bind fun x ρ => op1 f x ρ) σ H Q) : tO K cn W A σ H fun v H1 => r v H1 Q :=
  t_op1 (f := f) (rel := relV K cn) hp σ H Q h
theorem t_not {A : Env8 → R Opd} (σ : St8) (H : Hp) (Q : VK) (h : tE K cn W (fun ρ => (A ρ).bind fun x ρ => op1 (fun t => (truT t).map fun b => .bl (!b)) x ρ) σ H Q) : tNotT K (tO K cn W A) σ H Q := by
  refine t_op1o (cn := cn) (K := K) (W := W) (A := A) (f := fun t => (truT t).map fun b => .bl (!b)) (r := fun v H Q => ∃ k, TruV K v H k ∧ Q (.bl (!k)) H) (fun σ H D v s u Ls Q rs e F => ?_) σ H Q h
  obtain ⟨b, e1, e2⟩ := map_some e
  subst e2
  exact ⟨b, rs.truth e1, F.old _ fun _ _ => .bl _⟩
theorem t_truth {A : Env8 → R Opd} (σ : St8) (H : Hp) (Q : Bool → Hp → Prop) (h : tG K cn W relC (fun ρ => (A ρ).bind fun x ρ => match x.get ρ with
    | some t => ofO (truT t) ρ
    | none => .bad) σ H Q) : tO K cn W A σ H fun x H' => ∃ k, TruV K x H' k ∧ Q k H' := by
  obtain ⟨ρ, L, Do, ok, post⟩ := h
  refine ⟨ρ, L, Do, ok, PostG.first post fun x ρ1 v H1 La Lw e1 ok1 r1 st1 post1 => ?_⟩
  split at post1
  · rename_i t et
    obtain ⟨Lx, rx⟩ := r1.get ok1.sl et
    obtain ⟨b, e2, post2⟩ := ofO_ok post1
    exact ⟨b, rx.truth e2, post2.done0 ok1 st1 fun _ => ⟨rfl, rfl⟩⟩
  · exact post1.elim
/-- a test by a value's rule -/
theorem tG_test {ev : Env8 → R Bool} {Q : Bool → Hp → Prop} (h : tG K cn W relC ev σ H Q) : tG K cn W relB ev σ H fun x H' => ∃ k, x = .bl k ∧ Q k H' := by
  obtain ⟨ρ, L, Do, ok, post⟩ := h
  refine ⟨ρ, L, Do, ok, ?_⟩
  cases e : ev ρ with
  | bad => rw [e] at post; exact post
  | exc x ρ2 => rw [e] at post; exact post
  | ok b ρ2 =>
    rw [e] at post
    intro v H2 L2 Lv ok2 ⟨r1, r2⟩ st
    exact ⟨b, r1, post b H2 L2 Lv ok2 ⟨rfl, r2⟩ st⟩
theorem t_cmp {A B : Env8 → R Opd} {f : T → T → Option Bool} {r : R2} (hp : Pr2 K cn relB f r) (σ : St8) (H : Hp) (Q : Bool → Hp → Prop)
    (h : tG K cn W relC (fun ρ => (A ρ).bind fun x ρ => (B ρ).bind fun y ρ => op2 f x y ρ) σ H Q) : tTest (tOp r (tO K cn W A) (tO K cn W B)) σ H Q :=
  t_op2 hp σ H _ (tG_test h)
/-- a chain -/
theorem t_chain {α : Type} {rel : Rel α V} {A B C : Env8 → R Opd} {f : T → T → Option Bool} {g : T → T → Option α} {fl : α} {r r' : R2} (hp : Pr2 K cn relB f r) (hq : Pr2 K cn rel g r') (hfl : ∀ σ H D, rel σ H D (.bl false) fl []) (σ : St8) (H : Hp) (Q : VK)
    (h : tG K cn W rel (fun ρ => (A ρ).bind fun x ρ => (B ρ).bind fun y ρ => (op2 f x y ρ).bind fun k ρ => if k then (C ρ).bind fun z ρ => op2 g y z ρ else .ok fl ρ) σ H Q) :
    tChain r r' (tO K cn W A) (tO K cn W B) (tO K cn W C) σ H Q := by
  obtain ⟨ρ, L, Do, ok, post⟩ := h
  refine ⟨ρ, L, Do, ok, PostG.first post fun x ρ1 v H1 La Lw e1 ok1 r1 st1 post1 => ?_⟩
  refine ⟨ρ1, La, Lw ++ Do, ok1, PostG.sub post1 st1 fun y ρ2 w H2 Lb Lv e2 ok2 r2 st2 stl post2 => ?_⟩
  cases eo : op2 f x y ρ2 with
  | bad => rw [eo] at post2; exact post2.elim
  | exc a b =>
    simp only [op2] at eo
    split at eo
    · rename_i t u _ _
      cases ef : f t u with
      | none => rw [ef] at eo; cases eo
      | some c => rw [ef] at eo; cases eo
    · cases eo
  | ok k ρ3 =>
    have hop : ∃ t u, x.get ρ2 = some t ∧ y.get ρ2 = some u ∧ f t u = some k ∧ ρ3 = ρ2 := by
      simp only [op2] at eo
      split at eo
      · rename_i t u e3 e4
        cases ef : f t u with
        | none => rw [ef] at eo; cases eo
        | some c => rw [ef] at eo; cases eo; exact ⟨t, u, e3, e4, ef, rfl⟩
      · cases eo
    obtain ⟨t, u, et, eu, ef, er⟩ := hop
    subst er
    obtain ⟨Lx, rx⟩ := (relO.move r1 ok1 stl (fun a z => List.mem_append_left _ z) (fun b z => mem_sub z) (fun a z => mem_sup z)).get ok2.sl et
    obtain ⟨Ly, ry⟩ := r2.get ok2.sl eu
    have sub := PostG.sub (rel := relB) (ev := op2 f x y ρ3) (Q := fun z H3 => ∃ k, z = .bl k ∧ (if k = true then tO K cn W C σ H3 (fun w' H4 => r' w w' H4 Q) else Q (.bl false) H3)) post2 st2 fun k' ρ4 b H4 Lc Lu e4 ok4 rb st4 stl4 post4 => ?_
    · rw [eo] at sub
      have ok2' : Ok8 K cn ([] ++ ((Lv ++ Lw) ++ Do)) σ ρ3 H2 Lb := ok2
      exact hp σ H2 _ v w t u k Lx Ly _ rx ry ef (sub.fin ok2' (by rw [List.nil_append]; exact Stp.refl Lb H2))
    · obtain ⟨eb, eu2⟩ := rb
      subst eb eu2
      rw [eo] at e4
      cases e4
      refine ⟨k, rfl, ?_⟩
      rw [List.nil_append] at ok4 st4 stl4
      have r2' := relO.move (Lv := []) r2 ok2 (by rw [List.nil_append]; exact stl4) (fun a z => List.mem_append_left _ (List.mem_append_left _ z)) (D' := Lc ++ ((Lv ++ Lw) ++ Do)) (fun b z => (List.mem_append.mp z).imp id fun q => .inl q) (fun a z => List.mem_append_right _ z)
      cases k with
      | false =>
        rw [if_neg Bool.false_ne_true] at post4 ⊢
        exact post4.done0 ok4 st4 fun _ => hfl _ _ _
      | true =>
        rw [if_pos rfl] at post4 ⊢
        refine ⟨ρ3, Lc, (Lv ++ Lw) ++ Do, ok4, PostG.sub post4 st4 fun z ρ5 w' H5 Ld Lz e5 ok5 r5 st5 stl5 post5 => ?_⟩
        simp only [op2] at post5
        split at post5
        · rename_i t' u' et' eu'
          obtain ⟨Lx', rx'⟩ := (relO.move r2' ok4 stl5 (fun a z => List.mem_append_left _ (List.mem_append_left _ z)) (fun b z => mem_sub z) (fun a z => mem_sup z)).get ok5.sl et'
          obtain ⟨Ly', ry'⟩ := r5.get ok5.sl eu'
          cases eg : g t' u' with
          | none => rw [eg] at post5; exact post5.elim
          | some b =>
            rw [eg] at post5
            exact hq σ H5 _ w w' t' u' b Lx' Ly' Q rx' ry' eg (post5.fin ok5 st5)
        · exact post5.elim
theorem t_chainT {A B C : Env8 → R Opd} {f g : T → T → Option Bool} {r r' : R2} (hp : Pr2 K cn relB f r) (hq : Pr2 K cn relB g r') (σ : St8) (H : Hp) (Q : Bool → Hp → Prop)
    (h : tG K cn W relC (fun ρ => (A ρ).bind fun x ρ => (B ρ).bind fun y ρ => (op2 f x y ρ).bind fun k ρ => if k then (C ρ).bind fun z ρ => op2 g y z ρ else .ok false ρ) σ H Q) :
    tTest (tChain r r' (tO K cn W A) (tO K cn W B) (tO K cn W C)) σ H Q :=
  t_chain hp hq (fun _ _ _ => ⟨rfl, rfl⟩) σ H _ (tG_test h)
/-! tests -/
theorem t_andC {A B : Env8 → R Bool} (σ : St8) (H : Hp) (Q : Bool → Hp → Prop) (h : tG K cn W relC (fun ρ => (A ρ).bind fun k ρ => if k then B ρ else .ok false ρ) σ H Q) : tAnd (tG K cn W relC A) (tG K cn W relC B) σ H Q := by
  obtain ⟨ρ, L, Do, ok, post⟩ := h
  refine ⟨ρ, L, Do, ok, PostG.first post fun k ρ1 k' H1 La Lw e1 ok1 ⟨ek, ev⟩ st1 post1 => ?_⟩
  subst ek ev
  rw [List.nil_append] at ok1 st1
  cases k' with
  | true => exact ⟨ρ1, La, Do, ok1, PostG.rest (by simpa using post1) st1⟩
  | false => exact post1 false H1 La [] ok1 ⟨rfl, rfl⟩ st1
theorem t_orC {A B : Env8 → R Bool} (σ : St8) (H : Hp) (Q : Bool → Hp → Prop) (h : tG K cn W relC (fun ρ => (A ρ).bind fun k ρ => if k then .ok true ρ else B ρ) σ H Q) : tOr (tG K cn W relC A) (tG K cn W relC B) σ H Q := by
  obtain ⟨ρ, L, Do, ok, post⟩ := h
  refine ⟨ρ, L, Do, ok, PostG.first post fun k ρ1 k' H1 La Lw e1 ok1 ⟨ek, ev⟩ st1 post1 => ?_⟩
  subst ek ev
  rw [List.nil_append] at ok1 st1
  cases k' with
  | false => exact ⟨ρ1, La, Do, ok1, PostG.rest (by simpa using post1) st1⟩
  | true => exact post1 true H1 La [] ok1 ⟨rfl, rfl⟩ st1
theorem t_notC {A : Env8 → R Bool} (σ : St8) (H : Hp) (Q : Bool → Hp → Prop) (h : tG K cn W relC (fun ρ => (A ρ).bind fun k ρ => .ok (!k) ρ) σ H Q) : tNot (tG K cn W relC A) σ H Q := by
  obtain ⟨ρ, L, Do, ok, post⟩ := h
  refine ⟨ρ, L, Do, ok, PostG.first post fun k ρ1 k' H1 La Lw e1 ok1 ⟨ek, ev⟩ st1 post1 => ?_⟩
  subst ek ev
  rw [List.nil_append] at ok1 st1
  exact post1 _ H1 La [] ok1 ⟨rfl, rfl⟩ st1
/-! displays -/
theorem t_tup {E : Env8 → R (List T)} (σ : St8) (H : Hp) (Q : VK) (h : tE K cn W (fun ρ => (E ρ).bind fun ts ρ => if ts.length ≤ sizeLine then .ok (.tup ts) ρ else .bad) σ H Q) : tTup (tG K cn W (relN K cn) E) σ H Q := by
  obtain ⟨ρ, L, Do, ok, post⟩ := h
  refine ⟨ρ, L, Do, ok, PostG.first post fun ts ρ1 vs H1 La Lw e1 ok1 r1 st1 post1 => ?_⟩
  split at post1
  · rename_i hz
    refine ⟨by rw [r1.length]; exact hz, fun p hp => ?_⟩
    have n1 := ok1.nd
    refine post1.done (Lv := Lw) ok1 st1 (fun b o e => by rw [upd_ne (ne_of_none e hp)]; exact e) (fun a z => .inl z) (List.nodup_append.mp (List.nodup_append.mp n1).2.1).1 (fun a z => ?_) fun hF => ?_
    · have hb := ok1.out a (List.mem_append_left _ z)
      rw [upd_ne (fun e => hb (by rw [e]; exact hp))]
      exact hb
    · refine .tup (.inl (.inl (hide_some.mpr ⟨fun z => ?_, upd_same⟩))) (r1.mono hF fun a z => ⟨upd_ne fun e => ok1.out a (List.mem_append_left _ z) (by rw [e]; exact hp), List.mem_append_right _ (List.mem_append_left _ z)⟩)
      rcases List.mem_append.mp z with z | z
      · exact (ok1.sl.own p z).2 hp
      · exact ok1.out p z hp
  · exact post1.elim
theorem t_lst {E : Env8 → R (List T)} (σ : St8) (H : Hp) (Q : VK) (h : tE K cn W (fun ρ => (E ρ).bind fun ts ρ => if ts.length ≤ sizeLine then .ok (.lst true ts) ρ else .bad) σ H Q) : tLst (tG K cn W (relN K cn) E) σ H Q := by
  obtain ⟨ρ, L, Do, ok, post⟩ := h
  refine ⟨ρ, L, Do, ok, PostG.first post fun ts ρ1 vs H1 La Lw e1 ok1 r1 st1 post1 => ?_⟩
  split at post1
  · rename_i hz
    refine ⟨by rw [r1.length]; exact hz, fun p hp => ?_⟩
    have n1 := ok1.nd
    refine post1.doneO (Lv := Lw) ok1 st1 hp (fun a z => z) (List.nodup_append.mp (List.nodup_append.mp n1).2.1).1 fun hF => ?_
    refine .lstO (List.mem_append_right _ (List.mem_append_left _ (List.mem_cons_self ..))) upd_same (r1.mono hF fun a z => ⟨upd_ne fun e => ok1.out a (List.mem_append_left _ z) (by rw [e]; exact hp), List.mem_append_right _ (List.mem_append_left _ (List.mem_cons_of_mem _ z))⟩)
  · exact post1.elim
/-- what is told is no longer owned -/
theorem t_frz {A : Env8 → R T} (σ : St8) (H : Hp) (Q : VK) (h : tE K cn W (fun ρ => (A ρ).bind fun t ρ => .ok (fz t) ρ) σ H Q) : tE K cn W A σ H Q := by
  obtain ⟨ρ, L, Do, ok, post⟩ := h
  exact ⟨ρ, L, Do, ok, PostG.first post fun t ρ1 v H1 La Lw e1 ok1 r1 st1 post1 => post1 v H1 La [] ok1.dropL (Rep.frozen ok1 r1 fun _ z => z) (st1.weak fun b z => List.mem_append_right _ z)⟩
theorem Reps.frozen {vs : List V} {ts : List T} (ok : Ok8 K cn (Lt ++ Do) σ ρ H L) (r : Reps K cn H (L ++ (Lt ++ Do)) vs ts Lv) (hv : ∀ a ∈ Lv, a ∈ Lt) : Reps K cn H (L ++ Do) vs (fzs ts) [] := by
  obtain ⟨n1, n2, n3⟩ := List.nodup_append.mp ok.nd
  obtain ⟨n4, n5, n6⟩ := List.nodup_append.mp n2
  refine Reps.freeze (hide_mem fun b z => ?_) (fun a z q => ?_) r
  · rcases List.mem_append.mp z with z | z
    · exact List.mem_append_left _ z
    · exact List.mem_append_right _ (List.mem_append_right _ z)
  · rcases List.mem_append.mp q with q | q
    · exact n3 a q a (List.mem_append_left _ (hv a z)) rfl
    · exact n6 a (hv a z) a q rfl
theorem t_frzN {A : Env8 → R (List T)} (σ : St8) (H : Hp) (Q : List V → Hp → Prop) (h : tG K cn W (relN K cn) (fun ρ => (A ρ).bind fun ts ρ => .ok (fzs ts) ρ) σ H Q) : tG K cn W (relN K cn) A σ H Q := by
  obtain ⟨ρ, L, Do, ok, post⟩ := h
  exact ⟨ρ, L, Do, ok, PostG.first post fun ts ρ1 vs H1 La Lw e1 ok1 r1 st1 post1 => post1 vs H1 La [] ok1.dropL (Reps.frozen ok1 r1 fun _ z => z) (st1.weak fun b z => List.mem_append_right _ z)⟩
theorem t_frzI {A : Env8 → R T} (σ : St8) (H : Hp) (Q : VK) (h : tE K cn W (fun ρ => (A ρ).bind fun t ρ => .ok (fzI t) ρ) σ H Q) : tE K cn W A σ H Q := by
  obtain ⟨ρ, L, Do, ok, post⟩ := h
  refine ⟨ρ, L, Do, ok, PostG.first post fun t ρ1 v H1 La Lw e1 ok1 r1 st1 post1 => ?_⟩
  cases t with
  | lst o xs =>
    cases r1 with
    | lstF e r =>
      exact post1 _ H1 La [] ok1 (.lstF e (r.freeze (L := []) (fun _ _ h => h) (fun _ z => nomatch z))) st1
    | @lstO a vs _ M hm e r =>
      have ok2 : Ok8 K cn ([a] ++ Do) σ ρ1 H1 La := by
        refine ok1.drop (fun b z => ?_) ?_
        · rcases List.mem_append.mp z with z | z
          · rw [List.mem_singleton.mp z]; exact List.mem_append_left _ (List.mem_cons_self ..)
          · exact List.mem_append_right _ z
        · have n2 := ok1.ndD
          have n3 : a ∉ M ++ Do ∧ (M ++ Do).Nodup := List.nodup_cons.mp (show (a :: (M ++ Do)).Nodup from n2)
          exact List.nodup_cons.mpr ⟨fun z => n3.1 (List.mem_append_right _ z), (List.nodup_append.mp n3.2).2.1⟩
      have nd := ok1.nd
      refine post1 _ H1 La [a] ok2 (.lstO (List.mem_append_right _ (List.mem_cons_self ..)) e ?_) (st1.weak fun b z => ?_)
      · refine r.freeze (hide_mem fun b z => ?_) fun b z q => ?_
        · rcases List.mem_append.mp z with z | z
          · exact List.mem_append_left _ z
          · rcases List.mem_append.mp z with z | z
            · exact List.mem_append_right _ (List.mem_append_left _ (by rw [List.mem_singleton.mp z]; exact List.mem_cons_self ..))
            · exact List.mem_append_right _ (List.mem_append_right _ z)
        · obtain ⟨n1, n2, n3⟩ := List.nodup_append.mp nd
          have n4 := List.nodup_cons.mp (show (a :: (M ++ Do)).Nodup from n2)
          rcases List.mem_append.mp q with q | q
          · exact n3 b q b (List.mem_append_left _ (List.mem_cons_of_mem _ z)) rfl
          · rcases List.mem_append.mp q with q | q
            · rw [List.mem_singleton.mp q] at z
              exact n4.1 (List.mem_append_left _ z)
            · exact (List.nodup_append.mp n4.2).2.2 b z b q rfl
      · rcases List.mem_append.mp z with z | z
        · rw [List.mem_singleton.mp z]; exact List.mem_append_left _ (List.mem_cons_self ..)
        · exact List.mem_append_right _ z
  | _ => exact post1 v H1 La Lw ok1 r1 st1
theorem t_nil (σ : St8) (H : Hp) (Q : List V → Hp → Prop) (h : tG K cn W (relN K cn) (.ok []) σ H Q) : tNil σ H Q := by
  obtain ⟨ρ, L, Do, ok, post⟩ := h
  exact post [] H L [] ok .nil (Stp.refl L H)
theorem t_cons {A : Env8 → R T} {B : Env8 → R (List T)} (σ : St8) (H : Hp) (Q : List V → Hp → Prop) (h : tG K cn W (relN K cn) (fun ρ => (A ρ).bind fun t ρ => (B ρ).bind fun ts ρ => .ok (t :: ts) ρ) σ H Q) : tCons (tE K cn W A) (tG K cn W (relN K cn) B) σ H Q := by
  obtain ⟨ρ, L, Do, ok, post⟩ := h
  refine ⟨ρ, L, Do, ok, PostG.first post fun t ρ1 v H1 La Lw e1 ok1 r1 st1 post1 => ?_⟩
  refine ⟨ρ1, La, Lw ++ Do, ok1, PostG.sub post1 st1 fun ts ρ2 vs H2 Lb Lv e2 ok2 r2 st2 stl post2 => ?_⟩
  have r1' := r1.move ok1 stl (fun a z => List.mem_append_left _ z) (D' := Lb ++ ((Lv ++ Lw) ++ Do)) (fun b z => mem_sub z) (fun a z => mem_sup z)
  have pm : ((Lw ++ Lv) ++ Do).Perm ((Lv ++ Lw) ++ Do) := List.Perm.append_right Do List.perm_append_comm
  have hm : ∀ b, b ∈ Lb ++ ((Lw ++ Lv) ++ Do) ↔ b ∈ Lb ++ ((Lv ++ Lw) ++ Do) := fun b => by simp only [List.mem_append, or_comm (a := b ∈ Lw)]
  refine post2 (v :: vs) H2 Lb (Lw ++ Lv) (ok2.perm pm) (.cons (r1'.same hm) (r2.same hm)) ⟨st2.kp, fun b z => st2.nw b ?_⟩
  simp only [List.mem_append] at z ⊢
  rcases z with (z | z) | z
  · exact .inl (.inr z)
  · exact .inl (.inl z)
  · exact .inr z
theorem starT_some {t : T} {us : List T} (h : starT t = some us) : (t = .tup us ∨ ∃ o, t = .lst o us) ∧ isFzs us = true := by
  cases t with
  | tup xs =>
    have e : (if isFzs xs = true then some xs else none) = some us := h
    split at e
    · rename_i z; cases e; exact ⟨.inl rfl, z⟩
    · cases e
  | lst o xs =>
    have e : (if isFzs xs = true then some xs else none) = some us := h
    split at e
    · rename_i z; cases e; exact ⟨.inr ⟨o, rfl⟩, z⟩
    · cases e
  | _ => cases h
theorem t_star {A : Env8 → R Opd} {B : Env8 → R (List T)} (σ : St8) (H : Hp) (Q : List V → Hp → Prop) (h : tG K cn W (relN K cn) (fun ρ => (A ρ).bind fun x ρ => match x.get ρ with
    | some t => (match starT t with
      | some us => (B ρ).bind fun ts ρ => .ok (us ++ ts) ρ
      | none => .bad)
    | none => .bad) σ H Q) : StX.tStar K (tO K cn W A) (tG K cn W (relN K cn) B) σ H Q := by
  obtain ⟨ρ, L, Do, ok, post⟩ := h
  refine ⟨ρ, L, Do, ok, PostG.first post fun x ρ1 v H1 La Lw e1 ok1 r1 st1 post1 => ?_⟩
  split at post1
  · rename_i t et
    split at post1
    · rename_i us eu
      obtain ⟨Lx, rx⟩ := r1.get ok1.sl et
      obtain ⟨ht, hz⟩ := starT_some eu
      have seq : ∃ a xs, v = .ref a ∧ (SqT K H1 a xs ∨ SqL K H1 a xs) ∧ Reps K cn H1 (La ++ (Lw ++ Do)) xs us [] := by
        rcases ht with rfl | ⟨o, rfl⟩
        · obtain ⟨a, vs, ev, q, r⟩ := rx.tup_at
          exact ⟨a, vs, ev, .inl (unhT q), r.nilL hz⟩
        · obtain ⟨a, vs, L', ev, q, r⟩ := rx.lst_at
          exact ⟨a, vs, ev, .inr (.inl (.inl q)), r.nilL hz⟩
      obtain ⟨a, xs, ev, hq, rs⟩ := seq
      refine ⟨a, xs, ev, hq, ρ1, La, Lw ++ Do, ok1, PostG.sub post1 st1 fun ts ρ2 vs H2 Lb Lv e2 ok2 r2 st2 stl post2 => ?_⟩
      have rs' : Reps K cn H2 (Lb ++ (Lv ++ Do)) xs us [] := rs.mono (ok1.hF stl fun b z => by
        simp only [List.mem_append] at z ⊢
        rcases z with z | z | z
        · exact .inl (.inr z)
        · exact .inl (.inl z)
        · exact .inr (.inl (.inr z))) fun _ z => nomatch z
      have ok2' : Ok8 K cn (Lv ++ Do) σ ρ2 H2 Lb := ok2.drop (fun b z => by
        simp only [List.mem_append] at z ⊢
        rcases z with z | z
        · exact .inl (.inl z)
        · exact .inr z) (by
        obtain ⟨n1, n2, n3⟩ := List.nodup_append.mp ok2.ndD
        obtain ⟨n4, n5, n6⟩ := List.nodup_append.mp n1
        exact List.nodup_append.mpr ⟨n4, n2, fun a ha b hb => n3 a (List.mem_append_left _ ha) b hb⟩)
      have r2' : Reps K cn H2 (Lb ++ (Lv ++ Do)) vs ts Lv := r2.mono (hide_mem fun b z => by
        simp only [List.mem_append] at z ⊢
        rcases z with z | z | z
        · exact .inl z
        · exact .inr (.inl (.inl z))
        · exact .inr (.inr z)) fun a z => ⟨rfl, List.mem_append_right _ (List.mem_append_left _ z)⟩
      have rr := rs'.append r2'
      rw [List.nil_append] at rr
      exact post2 (xs ++ vs) H2 Lb Lv ok2' rr (st2.weak fun b z => by
        simp only [List.mem_append] at z ⊢
        rcases z with z | z
        · exact .inl (.inl z)
        · exact .inr z)
    · exact post1.elim
  · exact post1.elim
end
end FT

end
section
set_option Elab.async false
set_option linter.all false
set_option maxRecDepth 100000
set_option maxHeartbeats 4000000
/-! FTRev: x[::-1] of a list or a tuple. -/
namespace FT
open PySem PySem.Spec PyProof.Rows L2
theorem fm_congr {α β : Type} {f g : α → Option β} : ∀ {l : List α}, (∀ m ∈ l, f m = g m) → l.filterMap f = l.filterMap g
  | [], _ => rfl
  | a :: l, h => by rw [List.filterMap_cons, List.filterMap_cons, h a (List.mem_cons_self ..), fm_congr fun m z => h m (List.mem_cons_of_mem _ z)]
theorem places_rev (n : Nat) : Builtin.Slice.slicePlaces ((n : Int) - 1) (-1) (-1) = n := by
  unfold Builtin.Slice.slicePlaces
  have h1 : ¬ ((-1 : Int) > 0) := by decide
  simp only [h1, if_false]
  by_cases h : n = 0
  · subst h; decide
  · have e : ((n : Int) - 1 - -1 - -1 - 1) / (- -1) = (n : Int) := by
      rw [show (- -1 : Int) = 1 by decide, Int.ediv_one]
      omega
    split
    · first
      | (rw [show (- -1 : Int) = 1 by decide, Int.ediv_one]; omega)
      | omega
    · omega
theorem adjust_rev (n : Nat) : Builtin.Slice.sliceAdjust none none (-1) (n : Int) = ((n : Int) - 1, -1) := by
  unfold Builtin.Slice.sliceAdjust
  have h1 : ((-1 : Int) < 0) := by decide
  simp only [h1, if_true]
section
variable {prog : Program} {w : World} {A : Around} {E : Value → Shared → Prop} {s : Shared}
theorem sliceApplied_rev {sl : Addr} {vl vu vs : Value} {n : Nat} {Q : Int × Int × Nat → Shared → Prop} (hs : s.heap.IsSliceOf sl vl vu vs) (pl : IsPart vl none) (pu : IsPart vu none) (ps : IsPart vs (some (-1)))
    (h : Q ((n : Int) - 1, -1, n) s) : wpAny (model prog w) A (Builtin.Slice.sliceApplied (.ref sl) (pure (n : Int))) Q E s := by
  obtain ⟨os, hos, hcs, hds⟩ := id hs
  unfold Builtin.Slice.sliceApplied Builtin.Slice.sliceFields
  refine wpAny_bind (wpAny_bind (wpAny_field hos hds (x := vl) rfl (wpAny_bind (wpAny_field hos hds (x := vu) rfl (wpAny_bind (wpAny_field hos hds (x := vs) rfl (wpAny_pure ?_)))))))
  refine wpAny_bind (HT.slicePart_ ps ?_)
  show wpAny _ _ (if ((-1 : Int) == 0) = true then _ else _) _ _ s
  rw [if_neg (by decide)]
  refine wpAny_bind (HT.slicePart_ pl (wpAny_bind (HT.slicePart_ pu (wpAny_bind (wpAny_pure ?_)))))
  show wpAny _ _ (match Builtin.Slice.sliceAdjust none none (-1) (n : Int) with | (lo, hi) => pure (lo, (-1 : Int), Builtin.Slice.slicePlaces lo hi (-1))) _ _ s
  rw [adjust_rev n]
  show wpAny _ _ (pure ((n : Int) - 1, (-1 : Int), Builtin.Slice.slicePlaces ((n : Int) - 1) (-1) (-1))) _ _ s
  rw [places_rev]
  exact wpAny_pure h
theorem pick_rev (xs : Array Value) : ((List.range xs.size).filterMap fun (m : Nat) => xs[((xs.size : Int) - 1 + (m : Int) * -1).toNat]?).toArray = xs.toList.reverse.toArray := by
  have e : (List.range xs.size).filterMap (fun (m : Nat) => xs[((xs.size : Int) - 1 + (m : Int) * -1).toNat]?) = xs.toList.reverse := by
    have e1 : (List.range xs.size).filterMap (fun (m : Nat) => xs[((xs.size : Int) - 1 + (m : Int) * -1).toNat]?) = (List.range xs.size).filterMap fun m => xs.toList.reverse[m]? := by
      apply fm_congr
      intro m hm
      have hm' := List.mem_range.mp hm
      rw [List.getElem?_reverse (by rw [Array.length_toList]; exact hm'), Array.length_toList, Array.getElem?_toList]
      congr 1
      omega
    rw [e1]
    have : ∀ (ys : List Value), (List.range ys.length).filterMap (fun m => ys[m]?) = ys := by
      intro ys
      induction ys with
      | nil => rfl
      | cons y ys ih =>
        rw [List.length_cons, List.range_succ_eq_map, List.filterMap_cons]
        simp only [List.getElem?_cons_zero, List.filterMap_map]
        congr 1
    have z := this xs.toList.reverse
    rw [List.length_reverse, Array.length_toList] at z
    exact z
  rw [e]
theorem getItem_tuple_rev {t sl : Addr} {items : Array Value} {vl vu vs : Value} {Q : Value → Shared → Prop} (ht : IsTup s.heap t items) (hs : s.heap.IsSliceOf sl vl vu vs) (pl : IsPart vl none) (pu : IsPart vu none) (ps : IsPart vs (some (-1)))
    (h : Q (.ref s.heap.objs.size) { s with heap := s.heap.push { cls := .type "tuple", data := .seq items.toList.reverse.toArray } })
    (hsz : items.size ≤ sizeLine) : wpAny (model prog w) A (getItem (.ref t) (.ref sl)) Q E s := by
  have htake : sizeOk (.seq items.toList.reverse.toArray) := by
    show items.toList.reverse.toArray.size ≤ sizeLine
    rw [List.size_toArray, List.length_reverse, Array.length_toList]
    exact hsz
  obtain ⟨os, hos, hcs, hds⟩ := id hs
  have hTs : s.TypeIs (.ref sl) "slice" := ⟨os, hos, hcs⟩
  unfold getItem
  try with_reducible refine wpAny_holding ?_
  first | refine wpAny_bind (wpAny_pure ?_) | skip
  refine wpAny_bind (wpAny_sequenceKey (IsTup.typeIs ht) (by decide) ?_)
  refine wpAny_bind (wpAny_callSpecial?_slot (name := Str.ofString "__getitem__") (IsTup.typeIs ht) PyProof.Rows.slot_tuple_getitem
    (wpAny_call_entry PyProof.Rows.slot_tuple_getitem (IsTup.typeIs ht) entry_tuple_getitem ?_ (args_tuple_getitem _ _)))
  show wpAny _ _ (Builtin.Tuple.tupleItemsOf (.ref t) >>= _) _ _ s
  refine wpAny_bind (tupleItemsOf_ ht ?_)
  refine wpAny_bind (wpAny_typeOf hTs ?_)
  rw [if_pos (by decide)]
  refine wpAny_bind (sliceApplied_rev hs pl pu ps ?_)
  show wpAny _ _ (if (((items.size : Int) - 1) == 0 && (-1 : Int) == 1 && items.size == items.size) = true then _ else _) _ _ s
  rw [if_neg (by intro q; rw [Bool.and_eq_true, Bool.and_eq_true] at q; exact absurd q.1.2 (by decide)), pick_rev]
  first
    | exact wpAny_bind (m := Builtin.Tuple.tupleExact _) (wpAny_newObj_type (wpAny_pure ⟨_, rfl, wpAny_pure h⟩) htake)
    | exact wpAny_bind (m := Builtin.Tuple.tupleExact _) (wpAny_newObj_type (wpAny_bind (wpAny_pure (wpAny_pure ⟨_, rfl, wpAny_pure h⟩))) htake)
    | exact wpAny_bind (wpAny_bind (m := Builtin.Tuple.tupleExact _) (wpAny_newObj_type (wpAny_pure (wpAny_pure ⟨_, rfl, wpAny_pure h⟩)) htake))
    | exact wpAny_bind (wpAny_bind (m := Builtin.Tuple.tupleExact _) (wpAny_newObj_type (wpAny_pure ⟨_, rfl, wpAny_pure h⟩) htake))
end
def tRevA (K : PySem.W.Frag) (te : TE) : TE := fun σ H Q => te σ H fun x H1 => ∃ a xs, x = .ref a ∧ ((SqL K H1 a xs ∧ ∀ p, H1 p = none → Q (.ref p) (upd H1 p (.lst xs.reverse))) ∨ (SqT K H1 a xs ∧ ∀ p, H1 p = none → Q (.ref p) (upd H1 p (.tup xs.reverse))))
section
variable {X : Cx} {cn : Nat → Addr} {W : WX}
theorem pe_revA {e : Expr} {te : TE} {k : Nat} {p1 p2 p3 pos : Pos} (he : PE X e te) : PE X (.Subscript e (.Slice none none (some (.UnaryOp .USub (.Constant (.int 1) k p1) p2)) p3) pos) (tRevA X.K te) := by
  refine ⟨fun pins s σ H Q I h => ?_⟩
  refine Subscript_ (thn (he.run pins s σ H _ I h) fun v s1 ⟨x, H1, I1, r1, q1⟩ => ?_)
  obtain ⟨a, xs, ex, hx⟩ := q1
  subst ex
  cases r1
  have hst : PO X (some (.UnaryOp .USub (.Constant (.int 1) k p1) p2)) (tPart (tUn (rU fun i => .int (-i)) (tC (.int 1)))) := po_some (pe_un un_neg pe_int)
  refine wpAny_Slice (thn (po_none.run pins s1 σ H1 (fun o H2 => o = none ∧ H2 = H1) I1 ⟨rfl, rfl⟩) fun vl s2 ⟨l, H2, I2, pl, el, e2⟩ => ?_)
  subst el e2
  refine thn (po_none.run pins s2 σ H2 (fun o H3 => o = none ∧ H3 = H2) I2 ⟨rfl, rfl⟩) fun vu s3 ⟨u, H3, I3, pu, eu, e3⟩ => ?_
  subst eu e3
  refine thn (hst.run pins s3 σ H3 (fun o H4 => o = some (-1) ∧ H4 = H3) I3 ⟨1, rfl, -1, rfl, rfl, rfl⟩) fun vs s4 ⟨o, H4, I4, ps, eo, e4⟩ => ?_
  subst eo e4
  have I5 : Inv X pins σ H4 { s4 with heap := s4.heap.push { cls := .type "slice", data := .fields #[vl, vu, vs] } } := I4.kept (t' := s4.toks) fun b ob q => Heap.get?_push_of_some _ q
  show wpAny (model X.prog X.w) X.A (subscriptTail e (.Slice none none (some (.UnaryOp .USub (.Constant (.int 1) k p1) p2)) p3) (.ref a) (.ref s4.heap.objs.size)) (EP X pins σ Q) X.xe { s4 with heap := s4.heap.push { cls := .type "slice", data := .fields #[vl, vu, vs] } }
  rcases hx with ⟨hx, q⟩ | ⟨hx, q⟩
  · obtain ⟨its, r, ht, hz⟩ := I5.list hx
    have hlen := r.length
    refine tail_any (ops := [.ref a, .ref s4.heap.objs.size]) ht.isList.typeIs (PySem.slot_list_getitem.lookup) ?_ (by with_unfolding_all rfl)
    refine wpAny_getItem_list_slice ht.isList (Heap.IsSliceOf.new _ vl vu vs) pl pu ps (by decide) ?_ (by rw [List.size_toArray]; omega)
    rw [PySem.W.krv_pick]
    refine ⟨.ref _, _, I5.laid (t' := s4.toks) (o := .lst xs.reverse) (fun b ob q => Heap.get?_push_of_some _ q) (Nat.le_refl _) ?_, rfl, q _ (I5.hok.fresh (Nat.le_refl _))⟩
    exact ⟨by rw [List.length_reverse]; exact hz, _, 0, r.reverse, Heap.get?_push_size _ rfl⟩
  · obtain ⟨its, r, ht, hz⟩ := I5.tuple hx
    have hlen := r.length
    refine tail_any (ops := [.ref a, .ref s4.heap.objs.size]) (IsTup.typeIs ht) (PyProof.Rows.slot_tuple_getitem.lookup) ?_ (by with_unfolding_all rfl)
    refine getItem_tuple_rev ht (Heap.IsSliceOf.new _ vl vu vs) pl pu ps ?_ (by rw [List.size_toArray]; omega)
    refine ⟨.ref _, _, I5.laid (t' := s4.toks) (o := .tup xs.reverse) (fun b ob q => Heap.get?_push_of_some _ q) (Nat.le_refl _) ?_, rfl, q _ (I5.hok.fresh (Nat.le_refl _))⟩
    exact ⟨by rw [List.length_reverse]; exact hz, its.reverse, r.reverse, ⟨_, Heap.get?_push_size _ rfl, rfl, _, rfl⟩⟩
end
section
variable {K : PySem.W.Frag} {cn : Nat → Addr} {W : WX}
theorem Reps.reverse {H : Hp} {D : List Addr} {vs : List V} {ts : List T} {L : List Addr} (r : Reps K cn H D vs ts L) (hz : isFzs ts = true) : Reps K cn H D vs.reverse ts.reverse [] := by
  induction ts generalizing vs L with
  | nil => cases r; exact .nil
  | cons t ts ih =>
    have hz2 : (isFz t && isFzs ts) = true := by unfold isFzs at hz; exact hz
    simp only [Bool.and_eq_true] at hz2
    cases r with
    | @cons v vs _ _ L1 L2 r1 r2 =>
      rw [List.reverse_cons, List.reverse_cons]
      have z := (ih r2 hz2.2).append (.cons (r1.nilL hz2.1) .nil)
      exact z
theorem t_rev {A : Env8 → R Opd} (σ : St8) (H : Hp) (Q : VK) (h : tE K cn W (fun ρ => (A ρ).bind fun x ρ => op1 revT x ρ) σ H Q) : tRevA K (tO K cn W A) σ H Q := by
  refine t_op1o (cn := cn) (K := K) (W := W) (A := A) (f := revT) (r := fun v H Q => ∃ a xs, v = .ref a ∧ ((SqL K H a xs ∧ ∀ p, H p = none → Q (.ref p) (upd H p (.lst xs.reverse))) ∨ (SqT K H a xs ∧ ∀ p, H p = none → Q (.ref p) (upd H p (.tup xs.reverse))))) (fun σ H D v s u Ls Q rs e F => ?_) σ H Q h
  cases s with
  | lst o xs =>
    have e' : (if isFzs xs = true then some (T.lst true xs.reverse) else none) = some u := e
    split at e'
    · rename_i hz
      cases e'
      obtain ⟨a, vs, L', rfl, q, r⟩ := rs.lst_at
      refine ⟨a, vs, rfl, .inl ⟨.inl (.inl q), fun p hp => F.own p _ hp fun D' hD k => .lstO hD upd_same ?_⟩⟩
      exact (r.reverse hz).mono k fun _ z => nomatch z
    · cases e'
  | tup xs =>
    have e' : (if isFzs xs = true then some (T.tup xs.reverse) else none) = some u := e
    split at e'
    · rename_i hz
      cases e'
      obtain ⟨a, vs, rfl, q, r⟩ := rs.tup_at
      refine ⟨a, vs, rfl, .inr ⟨unhT q, fun p hp => F.new p _ hp fun D' k hu => .tup (.inl (.inl hu)) ?_⟩⟩
      exact (r.reverse hz).mono k fun _ z => nomatch z
    · cases e'
  | _ => cases e
end
end FT

end
section
set_option Elab.async false
set_option linter.all false
set_option maxRecDepth 100000
set_option maxHeartbeats 4000000
/-! FTSnd5: calls, slices, isinstance. -/
namespace FT
open PySem PySem.Spec PyProof.Rows L2
section
variable {K : PySem.W.Frag} {cn : Nat → Addr} {H H' H0 H1 H2 H3 : Hp} {D D' D0 Do Do' Dx : List Addr} {σ σ' : St8} {ρ ρ1 ρ' : Env8} {L L' La Lb Lt Lv Lw : List Addr} {W : WX} {Φ : Nat → List T → CR}
abbrev relA (K : PySem.W.Frag) (cn : Nat → Addr) : Rel (List Opd) (List V) := fun σ H D vs xs Lw => RelA K cn σ H D vs xs Lw
theorem bind_okE {α β : Type} {r : R α} {f : α → Env8 → R β} {b : β} (h : r.bind f = .ok b ρ') : ∃ a ρ1, r = .ok a ρ1 ∧ f a ρ1 = .ok b ρ' := by
  cases r with
  | ok a ρ1 => exact ⟨a, ρ1, rfl, h⟩
  | exc x ρ1 => cases h
  | bad => cases h
theorem t_aNil (σ : St8) (H : Hp) (Q : List V → Hp → Prop) (h : tG K cn W (relA K cn) (.ok []) σ H Q) : tNil σ H Q := by
  obtain ⟨ρ, L, Do, ok, post⟩ := h
  exact post [] H L [] ok .nil (Stp.refl L H)
theorem RelA.same2 {vs : List V} {xs : List Opd} (r : RelA K cn σ H D vs xs L) (h : ∀ b, b ∈ D' ↔ b ∈ D) : RelA K cn σ H D' vs xs L := r.same h
theorem t_aV {A : Env8 → R T} {B : Env8 → R (List Opd)} (σ : St8) (H : Hp) (Q : List V → Hp → Prop) (h : tG K cn W (relA K cn) (fun ρ => (A ρ).bind fun t ρ => (B ρ).bind fun xs ρ => .ok (.vl t :: xs) ρ) σ H Q) : tCons (tE K cn W A) (tG K cn W (relA K cn) B) σ H Q := by
  obtain ⟨ρ, L, Do, ok, post⟩ := h
  refine ⟨ρ, L, Do, ok, PostG.first post fun t ρ1 v H1 La Lw e1 ok1 r1 st1 post1 => ?_⟩
  refine ⟨ρ1, La, Lw ++ Do, ok1, PostG.sub post1 st1 fun ts ρ2 vs H2 Lb Lv e2 ok2 r2 st2 stl post2 => ?_⟩
  have r1' := r1.move ok1 stl (fun a z => List.mem_append_left _ z) (D' := Lb ++ ((Lv ++ Lw) ++ Do)) (fun b z => mem_sub z) (fun a z => mem_sup z)
  have pm : ((Lw ++ Lv) ++ Do).Perm ((Lv ++ Lw) ++ Do) := List.Perm.append_right Do List.perm_append_comm
  have hm : ∀ b, b ∈ Lb ++ ((Lw ++ Lv) ++ Do) ↔ b ∈ Lb ++ ((Lv ++ Lw) ++ Do) := fun b => by simp only [List.mem_append, or_comm (a := b ∈ Lw)]
  refine post2 (v :: vs) H2 Lb (Lw ++ Lv) (ok2.perm pm) (.vl (r1'.same hm) (r2.same hm)) ⟨st2.kp, fun b z => st2.nw b ?_⟩
  simp only [List.mem_append] at z ⊢
  rcases z with (z | z) | z
  · exact .inl (.inr z)
  · exact .inl (.inl z)
  · exact .inr z
theorem t_aR {i : Nat} {B : Env8 → R (List Opd)} (σ : St8) (H : Hp) (Q : List V → Hp → Prop) (h : tG K cn W (relA K cn) (fun ρ => match slot ρ i with
    | some _ => (B ρ).bind fun xs ρ => .ok (.sl i :: xs) ρ
    | none => .bad) σ H Q) : tCons (tVar i) (tG K cn W (relA K cn) B) σ H Q := by
  obtain ⟨ρ, L, Do, ok, post⟩ := h
  dsimp only at post
  cases e : slot ρ i with
  | none => rw [e] at post; exact post.elim
  | some t =>
    rw [e] at post
    obtain ⟨v, L1, e1, r⟩ := ok.sl.get e
    refine ⟨v, e1, ρ, L, Do, ok, PostG.first post fun xs ρ1 vs H1 La Lw _ ok1 r1 st1 post1 => ?_⟩
    exact post1 (v :: vs) H1 La Lw ok1 (.sl e1 r1) st1
theorem refs_pick : ∀ (as : As) {k : Nat} {xs : List Opd} {ρ ρ' : Env8} {vs pre : List V} {Lw : List Addr}, evalAs Φ as ρ = .ok xs ρ' → RelA K cn σ H D vs xs Lw → pre.length = k → refsV xs vs = pickV (refPos k as) (pre ++ vs)
  | .nil, k, xs, ρ, ρ', vs, pre, Lw, e, r, hk => by
    cases e
    rfl
  | .v ex as, k, xs, ρ, ρ', vs, pre, Lw, e, r, hk => by
    obtain ⟨t, ρ1, _, e1⟩ := bind_okE (show (evalE Φ ex ρ).bind (fun t ρ => (evalAs Φ as ρ).bind fun xs ρ => .ok (.vl t :: xs) ρ) = .ok xs ρ' from e)
    obtain ⟨ys, ρ2, e2, e3⟩ := bind_okE e1
    cases e3
    cases r with
    | @vl _ v vs _ _ _ r1 r2 =>
      have z := refs_pick as (k := k + 1) (pre := pre ++ [v]) e2 r2 (by rw [List.length_append, hk]; rfl)
      rw [List.append_assoc] at z
      exact z
  | .r i as, k, xs, ρ, ρ', vs, pre, Lw, e, r, hk => by
    have e' : (match slot ρ i with | some _ => (evalAs Φ as ρ).bind fun xs ρ => R.ok (Opd.sl i :: xs) ρ | none => .bad) = .ok xs ρ' := e
    cases es : slot ρ i with
    | none => rw [es] at e'; cases e'
    | some t =>
      rw [es] at e'
      obtain ⟨ys, ρ2, e2, e3⟩ := bind_okE e'
      cases e3
      cases r with
      | @sl _ v vs _ _ h1 r2 =>
        have z := refs_pick as (k := k + 1) (pre := pre ++ [v]) e2 r2 (by rw [List.length_append, hk]; rfl)
        rw [List.append_assoc] at z
        have e0 : (((pre ++ v :: vs)[k]?).getD V.non) = v := by
          rw [List.getElem?_append_right (by omega), hk, Nat.sub_self]; rfl
        show v :: refsV ys vs = ((pre ++ v :: vs)[k]?).getD V.non :: pickV (refPos (k + 1) as) (pre ++ v :: vs)
        rw [e0, z]
        rfl
theorem relA_len : ∀ (as : As) {xs : List Opd} {ρ ρ' : Env8} {vs : List V} {Lw : List Addr}, evalAs Φ as ρ = .ok xs ρ' → RelA K cn σ H D vs xs Lw → vs.length = asLen as
  | .nil, xs, ρ, ρ', vs, Lw, e, r => by cases e; cases r; rfl
  | .v ex as, xs, ρ, ρ', vs, Lw, e, r => by
    obtain ⟨t, ρ1, _, e1⟩ := bind_okE (show (evalE Φ ex ρ).bind (fun t ρ => (evalAs Φ as ρ).bind fun xs ρ => .ok (.vl t :: xs) ρ) = .ok xs ρ' from e)
    obtain ⟨ys, ρ2, e2, e3⟩ := bind_okE e1
    cases e3
    cases r with
    | vl r1 r2 => exact congrArg Nat.succ (relA_len as e2 r2)
  | .r i as, xs, ρ, ρ', vs, Lw, e, r => by
    have e' : (match slot ρ i with | some _ => (evalAs Φ as ρ).bind fun xs ρ => R.ok (Opd.sl i :: xs) ρ | none => .bad) = .ok xs ρ' := e
    cases es : slot ρ i with
    | none => rw [es] at e'; cases e'
    | some t =>
      rw [es] at e'
      obtain ⟨ys, ρ2, e2, e3⟩ := bind_okE e'
      cases e3
      cases r with
      | sl h1 r2 => exact congrArg Nat.succ (relA_len as e2 r2)
theorem t_call {f : Nat} {as : As} {np : Nat} {io : List Nat} (hio : refPos 0 as = io) (hnp : asLen as = np) (σ : St8) (H : Hp) (Q : VK) (h : tE K cn W (fun ρ => (evalAs Φ as ρ).bind fun xs ρ => doCall Φ f xs some ρ) σ H Q) :
    tG K cn W (relA K cn) (evalAs Φ as) σ H fun vs H1 => spOf K cn (Φ f) np io (vs ++ []) H1 Q (WE W σ) := by
  obtain ⟨ρ, L, Do, ok, post⟩ := h
  refine ⟨ρ, L, Do, ok, PostG.first post fun xs ρ1 vs H1 La Lw e1 ok1 r1 st1 post1 => ?_⟩
  unfold doCall at post1
  cases ea : argsOf xs ρ1 with
  | none => rw [ea] at post1; exact post1.elim
  | some ts =>
    rw [ea] at post1
    dsimp only at post1
    split at post1
    · rename_i nd
      obtain ⟨Ls, Lr, reps, nda, out, cp⟩ := call_up (cn := cn) (W := W) (r := Φ f ts) (Q := Q) (H0 := H) (L0 := L) (Do := Do) rfl ok1 r1 (fun a z => z) st1 ea nd post1
      rw [List.append_nil]
      have e := refs_pick as (k := 0) (pre := []) e1 r1 rfl
      rw [List.nil_append, hio] at e
      rw [e] at cp
      exact ⟨(relA_len as e1 r1).trans hnp, ts, Ls, Lr ++ Do, reps, nda, out, cp⟩
    · exact post1.elim
theorem pure_fz : ∀ t : T, pureT t = true → isFz t = true
  | .tup xs, h => by unfold pureT at h; unfold isFz; exact pures_fz xs h
  | .non, _ => rfl | .bl _, _ => rfl | .int _, _ => rfl | .str _, _ => rfl | .ty _, _ => rfl
  | .slst _, h => by cases h
  | .lst _ _, h => by cases h
  | .ins _ _ _ _, h => by cases h
  | .exv _, h => by cases h
where pures_fz : ∀ ts : List T, pureTs ts = true → isFzs ts = true
  | [], _ => rfl
  | t :: ts, h => by
    unfold pureTs at h
    simp only [Bool.and_eq_true] at h
    unfold isFzs
    rw [pure_fz t h.1, pures_fz ts h.2]; rfl
mutual
/-- lists may be hidden from what has none in it -/
theorem Rep.cover (hc : ∀ a ∈ D', a ∈ D ∨ ∃ vs, H a = some (.lst vs)) : ∀ {v : V} {t : T} {L : List Addr}, Rep K cn H D v t L → pureT t = true → Rep K cn H D' v t []
  | _, _, _, .non, _ => .non
  | _, _, _, .bl b, _ => .bl b
  | _, _, _, .int i, _ => .int i
  | _, _, _, .str x, _ => .str x
  | _, _, _, .ty x, _ => .ty x
  | _, _, _, .tup h r, z => by
    have rs := Reps.cover hc r (by unfold pureT at z; exact z)
    refine .tup ?_ rs
    have up : ∀ a o, (∀ vs, o ≠ .lst vs) → hide H D a = some o → hide H D' a = some o := fun a o no q => by
      obtain ⟨n, e⟩ := hide_some.mp q
      refine hide_some.mpr ⟨fun m => ?_, e⟩
      rcases hc a m with w | ⟨vs, w⟩
      · exact n w
      · rw [e] at w; exact no vs (Option.some.inj w)
    rcases h with (h | ⟨o, h⟩) | h
    · exact .inl (.inl (up _ _ (fun vs q => by cases q) h))
    · exact .inl (.inr ⟨o, up _ _ (fun vs q => by cases q) h⟩)
    · exact .inr h
  | _, _, _, .lstF _ _, z => by cases z
  | _, _, _, .slst _ _, z => by cases z
  | _, _, _, .lstO _ _ _, z => by cases z
  | _, _, _, .insF _ _ _, z => by cases z
  | _, _, _, .insO _ _ _ _, z => by cases z
  | _, _, _, .exv _, z => by cases z
theorem Reps.cover (hc : ∀ a ∈ D', a ∈ D ∨ ∃ vs, H a = some (.lst vs)) : ∀ {vs : List V} {ts : List T} {L : List Addr}, Reps K cn H D vs ts L → pureTs ts = true → Reps K cn H D' vs ts []
  | _, _, _, .nil, _ => .nil
  | _, _, _, .cons h r, z => by
    unfold pureTs at z
    simp only [Bool.and_eq_true] at z
    exact .cons (L := []) (L' := []) (Rep.cover hc h z.1) (Reps.cover hc r z.2)
end
theorem argsW_reps : ∀ {xs : List Opd} {vs : List V} {Lw : List Addr} {ts : List T}, RelA K cn σ H (La ++ (Lt ++ Do)) vs xs Lw → (∀ a ∈ Lw, a ∈ Lt) → Ok8 K cn Do σ ρ H La → argsW xs ρ = some ts →
    ∃ Bo : List Addr, (∀ a ∈ Bo, a ∈ La ∧ ∃ vs, H a = some (.lst vs)) ∧ ∀ D', (∀ b ∈ D', b ∈ La ++ Do) → (∀ a ∈ Bo, a ∉ D') → (∀ a ∈ Lt, a ∉ D') → Reps K cn H D' vs ts []
  | [], vs, Lw, ts, r, _, _, e => by
    cases r
    cases e
    exact ⟨[], (fun a z => nomatch z), fun _ _ _ _ => .nil⟩
  | .vl t :: xs, _, _, ts, r, hw, ok, e => by
    cases r with
    | @vl _ v vs _ L1 L2 r1 r2 =>
      obtain ⟨us, e1, e2⟩ := map_some (show (argsW xs ρ).map (fz t :: ·) = some ts from e)
      cases e2
      obtain ⟨Bo, b1, b2⟩ := argsW_reps r2 (fun a z => hw a (List.mem_append_right _ z)) ok e1
      refine ⟨Bo, b1, fun D' h1 h2 h3 => .cons (L := []) (L' := []) (Rep.freeze (hide_mem fun b z => ?_) (fun a z => h3 a (hw a (List.mem_append_left _ z))) r1) (b2 D' h1 h2 h3)⟩
      rcases List.mem_append.mp (h1 b z) with q | q
      · exact List.mem_append_left _ q
      · exact List.mem_append_right _ (List.mem_append_right _ q)
  | .sl i :: xs, _, _, ts, r, hw, ok, e => by
    cases r with
    | @sl _ v vs _ _ hv r2 =>
      have e' : (match slot ρ i, argsW xs ρ with | some t, some ts => if oneL t then some (fz t :: ts) else none | _, _ => none) = some ts := e
      cases es : slot ρ i with
      | none => rw [es] at e'; cases e'
      | some t =>
        cases ea : argsW xs ρ with
        | none => rw [es, ea] at e'; cases e'
        | some us =>
          rw [es, ea] at e'
          dsimp only at e'
          split at e'
          · rename_i one
            cases e'
            obtain ⟨Bo, b1, b2⟩ := argsW_reps r2 hw ok ea
            obtain ⟨w, L1, L2', e1, _, r1, pm⟩ := ok.aside es
            have ew : w = v := by rw [e1] at hv; exact Option.some.inj (Option.some.inj hv)
            subst ew
            have bl : ∀ a ∈ L1, a ∈ La ∧ ∃ vs, H a = some (.lst vs) := by
              intro a z
              refine ⟨pm.mem_iff.mpr (List.mem_append_left _ z), ?_⟩
              cases r1 with
              | lstO m h rr =>
                rcases List.mem_cons.mp z with y | y
                · subst y; exact ⟨_, h⟩
                · have := rr.fzL (by unfold oneL at one; exact one)
                  subst this
                  cases y
              | non => cases z
              | bl _ => cases z
              | int _ => cases z
              | str _ => cases z
              | ty _ => cases z
              | tup h rr =>
                have := rr.fzL (by unfold oneL isFz at one; exact one)
                subst this
                cases z
              | lstF _ _ => cases z
              | slst _ _ => cases z
              | insF _ _ _ => cases z
              | insO _ _ _ _ => unfold oneL isFz at one; cases one
              | exv _ => cases z
            refine ⟨L1 ++ Bo, fun a z => (List.mem_append.mp z).elim (bl a) (b1 a), fun D' h1 h2 h3 => .cons (L := []) (L' := []) (Rep.freeze (hide_mem h1) (fun a z => h2 a (List.mem_append_left _ z)) r1) (b2 D' h1 (fun a z => h2 a (List.mem_append_right _ z)) h3)⟩
          · cases e'
theorem t_callW {f : Nat} {as : As} {np : Nat} (hnp : asLen as = np) (σ : St8) (H : Hp) (Q : VK) (h : tE K cn W (fun ρ => (evalAs Φ as ρ).bind fun xs ρ => doCallW Φ f xs ρ) σ H Q) :
    tG K cn W (relA K cn) (evalAs Φ as) σ H fun vs H1 => spOf K cn (Φ f) np [] (vs ++ []) H1 Q (WE W σ) := by
  obtain ⟨ρ, L, Do, ok, post⟩ := h
  refine ⟨ρ, L, Do, ok, PostG.first post fun xs ρ1 vs H1 La Lw e1 ok1 r1 st1 post1 => ?_⟩
  unfold doCallW at post1
  cases ea : argsW xs ρ1 with
  | none => rw [ea] at post1; exact post1.elim
  | some ts =>
    rw [ea] at post1
    dsimp only at post1
    have ok2 := ok1.dropL
    obtain ⟨n1, n2, n3⟩ := List.nodup_append.mp ok1.nd
    obtain ⟨n4, n5, n6⟩ := List.nodup_append.mp n2
    obtain ⟨Bo, b1, b2⟩ := argsW_reps r1 (fun a z => z) ok2 ea
    have mem' : ∀ b, b ∈ La.filter (fun b => !Bo.contains b) ++ Do → b ∈ La ++ Do := fun b z => (List.mem_append.mp z).elim (fun q => List.mem_append_left _ (List.mem_filter.mp q).1) (List.mem_append_right _)
    have reps : Reps K cn H1 (La.filter (fun b => !Bo.contains b) ++ Do) vs ts [] := b2 _ mem' (fun a z q => by
        rcases List.mem_append.mp q with q | q
        · have := (List.mem_filter.mp q).2
          simp only [Bool.not_eq_true', List.contains_eq_mem, decide_eq_false_iff_not] at this
          exact this z
        · exact n3 a (b1 a z).1 a (List.mem_append_right _ q) rfl) (fun a z q => by
        rcases List.mem_append.mp q with q | q
        · exact n3 a (List.mem_filter.mp q).1 a (List.mem_append_left _ z) rfl
        · exact n6 a z a q rfl)
    have nd' : (La.filter (fun b => !Bo.contains b) ++ Do).Nodup := by
      obtain ⟨m1, m2, m3⟩ := List.nodup_append.mp ok2.nd
      exact List.nodup_append.mpr ⟨m1.filter _, m2, fun a z b q => m3 a (List.mem_filter.mp z).1 b q⟩
    have out' : ∀ b ∈ La.filter (fun b => !Bo.contains b) ++ Do, H1 b ≠ none := fun b z => by
      rcases List.mem_append.mp (mem' b z) with q | q
      · exact (ok2.sl.own b q).2
      · exact ok2.out b q
    rw [List.append_nil]
    refine ⟨(relA_len as e1 r1).trans hnp, ts, [], _, reps, nd', out', ?_⟩
    cases ef : Φ f ts with
    | bad => rw [ef] at post1; exact post1.elim
    | exc x bs => rw [ef] at post1; exact post1.elim
    | ok t bs =>
      rw [ef] at post1
      dsimp only at post1
      split at post1
      · rename_i hb
        simp only [Bool.and_eq_true, List.isEmpty_iff] at hb
        obtain ⟨hb1, hb2⟩ := hb
        subst hb1
        intro v H' L' Lv rb nd2 out2 rv st'
        have eL' : L' = [] := by cases rb; rfl
        subst eL'
        have eLv : Lv = [] := rv.fzL (pure_fz t hb2)
        subst eLv
        have hkp : ∀ b o, H1 b = some o → H' b = some o := fun b o q => st'.kp b o q fun z => nomatch z
        have hsame : ∀ a, H1 a ≠ none → H' a = H1 a := fun a z => by
          cases q : H1 a with
          | none => exact absurd q z
          | some o => exact hkp a o q
        refine post1 v H' La [] ⟨ok2.sl.mono (fun b o q => ?_) (fun a z => ⟨hsame a (ok2.sl.own a z).2, List.mem_append_left _ z⟩), ok2.nd, fun b z => ?_⟩ ?_ ⟨fun b o hb hn => hkp b o (st1.kp b o hb hn), fun b z => st1.nw b (List.mem_append_right _ z)⟩
        · obtain ⟨q1, q2⟩ := hide_some.mp q
          exact hide_some.mpr ⟨q1, hkp b o q2⟩
        · rw [hsame b (ok2.out b z)]; exact ok2.out b z
        · refine Rep.cover (fun a z => ?_) rv hb2
          rcases List.mem_append.mp z with q | q
          · by_cases y : a ∈ Bo
            · right
              obtain ⟨_, ws, w⟩ := b1 a y
              exact ⟨ws, hkp a _ w⟩
            · left
              refine List.mem_append_right _ (List.mem_append_right _ (List.mem_append_left _ (List.mem_filter.mpr ⟨q, ?_⟩)))
              simp only [Bool.not_eq_true', List.contains_eq_mem, decide_eq_false_iff_not]
              exact y
          · left
            exact List.mem_append_right _ (List.mem_append_right _ (List.mem_append_right _ (by simpa using q)))
      · exact post1.elim
def srcV (zs : List V) (src : List Src) : List V := src.map fun s => match s with
  | .kw k => (zs[k]?).getD .non
  | .df t => flV t
  | .pos _ => .non
theorem flEq_ok {s t : T} (h : flEq s t = true) : s = t ∧ flatT s = true := by
  cases s <;> cases t <;> first
    | exact ⟨rfl, rfl⟩
    | (have e := of_decide_eq_true (show decide _ = true from h); subst e; exact ⟨rfl, rfl⟩)
    | cases h
theorem srcEq_ok : ∀ {a b : List Src}, srcEq a b = true → a = b ∧ ∀ t, Src.df t ∈ a → flatT t = true
  | [], [], _ => ⟨rfl, fun _ z => nomatch z⟩
  | .kw i :: a, .kw j :: b, h => by
    have h' : (decide (i = j) && srcEq a b) = true := h
    simp only [Bool.and_eq_true, decide_eq_true_eq] at h'
    obtain ⟨e, k⟩ := srcEq_ok h'.2
    refine ⟨by rw [h'.1, e], fun t z => ?_⟩
    rcases List.mem_cons.mp z with q | q
    · cases q
    · exact k t q
  | .df s :: a, .df t :: b, h => by
    have h' : (flEq s t && srcEq a b) = true := h
    simp only [Bool.and_eq_true] at h'
    obtain ⟨e, k⟩ := srcEq_ok h'.2
    obtain ⟨e1, k1⟩ := flEq_ok h'.1
    refine ⟨by rw [e1, e], fun u z => ?_⟩
    rcases List.mem_cons.mp z with q | q
    · cases q; exact k1
    · exact k u q
theorem rep_flat {t : T} (h : flatT t = true) : Rep K cn H D (flV t) t [] := by
  cases t with
  | non => exact .non
  | bl b => exact .bl b
  | int i => exact .int i
  | str x => exact .str x
  | _ => cases h
theorem src_reps {vs : List V} {zs : List T} (r : Reps K cn H D vs zs []) : ∀ {src : List Src} {us : List T}, (∀ t, Src.df t ∈ src → flatT t = true) → srcT [] zs src = some us → Reps K cn H D (srcV vs src) us []
  | [], us, _, e => by cases e; exact .nil
  | .pos k :: src, us, _, e => by
    have e' : (match ([] : List T)[k]?, srcT [] zs src with | some t, some ts => some (t :: ts) | _, _ => none) = some us := e
    simp at e'
  | .kw k :: src, us, hd, e => by
    have e' : (match zs[k]?, srcT [] zs src with | some t, some ts => some (t :: ts) | _, _ => none) = some us := e
    split at e'
    · rename_i t ts e1 e2
      cases e'
      obtain ⟨v, L1, e3, r1, s1⟩ := r.get e1
      have eL : L1 = [] := List.eq_nil_iff_forall_not_mem.mpr fun a z => nomatch s1 a z
      subst eL
      have ev : ((vs[k]?).getD V.non) = v := by rw [e3]; rfl
      show Reps K cn H D (((vs[k]?).getD V.non) :: srcV vs src) (t :: ts) []
      rw [ev]
      exact .cons (L := []) (L' := []) r1 (src_reps r (fun t z => hd t (List.mem_cons_of_mem _ z)) e2)
    · cases e'
  | .df t :: src, us, hd, e => by
    obtain ⟨ts, e1, e2⟩ := map_some (show (srcT [] zs src).map (t :: ·) = some us from e)
    cases e2
    exact .cons (L := []) (L' := []) (rep_flat (hd t (List.mem_cons_self ..))) (src_reps r (fun t z => hd t (List.mem_cons_of_mem _ z)) e1)
theorem t_callK {f : Nat} {A : Env8 → R (List T)} {src : List Src} {np n : Nat} (hd : ∀ t, Src.df t ∈ src → flatT t = true) (hnp : src.length = np) (hn : ∀ ρ ρ' zs, A ρ = .ok zs ρ' → zs.length = n) (σ : St8) (H : Hp) (Q : VK)
    (h : tE K cn W (fun ρ => (A ρ).bind fun zs ρ => doCallK Φ f src (fzs zs) ρ) σ H Q) : tG K cn W (relN K cn) A σ H fun zs H1 => zs.length = n ∧ spOf K cn (Φ f) np [] (srcV zs src) H1 Q (WE W σ) := by
  obtain ⟨ρ, L, Do, ok, post⟩ := h
  refine ⟨ρ, L, Do, ok, PostG.first post fun zs ρ1 vs H1 La Lw e1 ok1 r1 st1 post1 => ?_⟩
  refine ⟨r1.length.trans (hn _ _ _ e1), by unfold srcV; rw [List.length_map]; exact hnp, ?_⟩
  unfold doCallK at post1
  cases es : srcT [] (fzs zs) src with
  | none => rw [es] at post1; exact post1.elim
  | some us =>
    rw [es] at post1
    dsimp only at post1
    have ok2 := ok1.dropL
    obtain ⟨n1, n2, n3⟩ := List.nodup_append.mp ok1.nd
    obtain ⟨n4, n5, n6⟩ := List.nodup_append.mp n2
    have rf : Reps K cn H1 (La ++ Do) vs (fzs zs) [] := Reps.freeze (hide_mem fun b z => by
      rcases List.mem_append.mp z with z | z
      · exact List.mem_append_left _ z
      · exact List.mem_append_right _ (List.mem_append_right _ z)) (fun a z q => by
      rcases List.mem_append.mp q with q | q
      · exact n3 a q a (List.mem_append_left _ z) rfl
      · exact n6 a z a q rfl) r1
    have back : ∀ {H' : Hp} {Lv : List Addr}, ([] ++ (Lv ++ (La ++ Do))).Nodup → (∀ b ∈ Lv ++ (La ++ Do), H' b ≠ none) → Stp [] H1 (Lv ++ []) H' → Ok8 K cn (Lv ++ Do) σ ρ1 H' La ∧ Stp L H (Lv ++ La) H' := by
      intro H' Lv nd' out' st'
      rw [List.nil_append] at nd'
      rw [List.append_nil] at st'
      have pm : (La ++ (Lv ++ Do)).Perm (Lv ++ (La ++ Do)) := by
        rw [← List.append_assoc, ← List.append_assoc]; exact List.Perm.append_right _ List.perm_append_comm
      refine ⟨⟨ok2.sl.mono (fun b o hb => ?_) (fun a z => ⟨?_, List.mem_append_left _ z⟩), pm.nodup_iff.mpr nd', fun b z => ?_⟩, fun b o hb hn => st'.kp b o (st1.kp b o hb hn) (fun z => nomatch z), fun b z => ?_⟩
      · obtain ⟨q1, q2⟩ := hide_some.mp hb
        refine hide_some.mpr ⟨fun z => ?_, st'.kp b o q2 fun z => nomatch z⟩
        simp only [List.mem_append] at z q1
        rcases z with z | z | z
        · exact q1 (.inl z)
        · rcases st'.nw b z with w | w
          · cases w
          · rw [q2] at w; cases w
        · exact q1 (.inr z)
      · cases ea : H1 a with
        | none => exact absurd ea (ok2.sl.own a z).2
        | some o => exact st'.kp a o ea fun z => nomatch z
      · rcases List.mem_append.mp z with z | z
        · exact out' b (List.mem_append_left _ z)
        · exact out' b (List.mem_append_right _ (List.mem_append_right _ z))
      · rcases List.mem_append.mp z with z | z
        · rcases st'.nw b z with w | w
          · cases w
          · by_cases n : b ∈ L
            · exact .inl n
            · cases eb : H b with
              | none => exact .inr rfl
              | some o => rw [st1.kp b o eb n] at w; cases w
        · exact st1.nw b (List.mem_append_right _ z)
    refine ⟨us, [], La ++ Do, src_reps rf hd es, ok2.nd, fun b z => ?_, ?_⟩
    · rcases List.mem_append.mp z with z | z
      · exact (ok2.sl.own b z).2
      · exact ok2.out b z
    · cases ef : Φ f us with
      | bad => rw [ef] at post1; exact post1.elim
      | ok t bs =>
        rw [ef] at post1
        intro v H' L' Lv rb nd' out' rv st'
        cases rb
        obtain ⟨ok3, st3⟩ := back nd' out' st'
        refine (show PostG K cn W (relV K cn) Do σ H L (.ok t ρ1) Q from post1) v H' La Lv ok3 (rv.same fun b => ?_) st3
        simp only [List.mem_append, List.not_mem_nil, false_or]
        constructor
        · rintro (h | h | h)
          · exact .inr (.inl h)
          · exact .inl h
          · exact .inr (.inr h)
        · rintro (h | h | h)
          · exact .inr (.inl h)
          · exact .inl h
          · exact .inr (.inr h)
      | exc x bs =>
        rw [ef] at post1
        intro c d H' L' rb nd' out' rx st'
        cases rb
        obtain ⟨ok3, st3⟩ := back (Lv := []) nd' out' st'
        refine (show PostG K cn W (relV K cn) Do σ H L (.exc x ρ1) Q from post1) c d H' La ok3 (rx.mono (hide_mem fun b z => ?_)) st3
        simpa using z
/-! slices -/
abbrev relP : Rel (Option Int) (Option Int) := fun _ _ _ b a Lv => b = a ∧ Lv = []
theorem t_so {A : Env8 → R T} (σ : St8) (H : Hp) (Q : Option Int → Hp → Prop) (h : tG K cn W relP (fun ρ => (A ρ).bind fun t ρ => match t with
    | .int i => .ok (some i) ρ
    | _ => .bad) σ H Q) : tPart (tE K cn W A) σ H Q := by
  obtain ⟨ρ, L, Do, ok, post⟩ := h
  refine ⟨ρ, L, Do, ok, PostG.first post fun t ρ1 v H1 La Lw e1 ok1 r1 st1 post1 => ?_⟩
  split at post1
  · cases r1
    exact ⟨_, rfl, post1 _ H1 La [] ok1 ⟨rfl, rfl⟩ st1⟩
  · exact post1.elim
theorem t_no (σ : St8) (H : Hp) (Q : Option Int → Hp → Prop) (h : tG K cn W relP (.ok none) σ H Q) : tNoPart σ H Q := by
  obtain ⟨ρ, L, Do, ok, post⟩ := h
  exact post none H L [] ok ⟨rfl, rfl⟩ (Stp.refl L H)
theorem t_sl {A : Env8 → R Opd} {B C : Env8 → R (Option Int)} (σ : St8) (H : Hp) (Q : VK) (h : tE K cn W (fun ρ => (A ρ).bind fun x ρ => (B ρ).bind fun l ρ => (C ρ).bind fun h ρ => op1 (fun t => slT t l h) x ρ) σ H Q) :
    tSl (rSl8 K) (tO K cn W A) (tG K cn W relP B) (tG K cn W relP C) σ H Q := by
  obtain ⟨ρ, L, Do, ok, post⟩ := h
  refine ⟨ρ, L, Do, ok, PostG.first post fun x ρ1 v H1 La Lw e1 ok1 r1 st1 post1 => ?_⟩
  refine ⟨ρ1, La, Lw ++ Do, ok1, PostG.sub post1 st1 fun l ρ2 l' H2 Lb Lv e2 ok2 ⟨el, ev⟩ st2 stl post2 => ?_⟩
  subst el ev
  rw [List.nil_append] at ok2 st2 stl
  have r2 : relO K cn σ H2 (Lb ++ (Lw ++ Do)) v x Lw := relO.move (Lv := []) r1 ok1 (by rw [List.nil_append]; exact stl) (fun a z => List.mem_append_left _ z) (fun b z => (List.mem_append.mp z).imp id fun q => .inl q) (fun a z => List.mem_append_right _ z)
  refine ⟨ρ2, Lb, Lw ++ Do, ok2, PostG.sub post2 st2 fun u ρ3 u' H3 Lc Lv e3 ok3 ⟨eu, ev⟩ st3 stl3 post3 => ?_⟩
  subst eu ev
  rw [List.nil_append] at ok3 st3 stl3
  have r3 : relO K cn σ H3 (Lc ++ (Lw ++ Do)) v x Lw := relO.move (Lv := []) r2 ok2 (by rw [List.nil_append]; exact stl3) (fun a z => List.mem_append_left _ z) (fun b z => (List.mem_append.mp z).imp id fun q => .inl q) (fun a z => List.mem_append_right _ z)
  unfold op1 at post3
  split at post3
  · rename_i t et
    obtain ⟨Lx, rx⟩ := r3.get ok3.sl et
    obtain ⟨w, ew, post4⟩ := ofO_ok post3
    exact pr_sl rx ew (post4.fin ok3 st3)
  · exact post3.elim
end
section
variable {X : Cx} {CX : CXT} {k n : Nat} {f : Addr} {fd : FuncData} {ps ks : List Str} {sp : Sp} {E : L2.St → XK} {x : Str} {p pos : Pos} {kws : List Keyword} {tk : TA} {g : List Value → List Value → List Value} {gV : List V → List V → List V}
theorem run_fnNS {pins : List (Addr × Obj)} {σ : L2.St} {H : Hp} {s : Shared} {Q : VK} {us ws : List Value} {vs zs : List V} (F : FnOk X.prog X.w X.K X.mg X.base CX k f fd ps sp) (hr : Room k X.A) (hb : KBn X.K fd ps n ks g gV) (hx : PassesAt CX X σ (E σ))
    (I : Inv X pins σ H s) (r : Vals vs us) (rz : Vals zs ws) (l1 : vs.length = n) (l2 : zs.length = ks.length) (h : sp (gV vs zs) H Q (E σ)) : wpAny (model X.prog X.w) X.A (call (.ref f) us (ks.zip ws)) (EP X pins σ Q) X.xe s := by
  have r2 := hb.rel r rz
  refine wpAny_call (codeAny_mono (F.run X.A X.stack s H ⟨us, ks.zip ws⟩ (g us ws) (gV vs zs) Q (E σ) hr I.env0 (hb.to s us ws I.kIn (r.length.symm.trans l1) (rz.length.symm.trans l2)) r2 h) fun r s' hq => ?_)
  cases r with
  | error e => exact hx pins H s e s' I hq
  | ok fl =>
    cases fl with
    | ret u => exact I.after hq
    | next => exact False.elim hq
    | brk => exact False.elim hq
    | cont => exact False.elim hq
theorem pe_kw0 (F : FnOk X.prog X.w X.K X.mg X.base CX k f fd ps sp) (hr : Room k X.A) (hg : Gl X x) (hm : X.mg x = some (.ref f)) (hk : PySem.W.keepIn X.K (.ref f) = true) (hb : KBn X.K fd ps 0 ks g gV) (hx : ∀ σ, PassesAt CX X σ (E σ))
    (hkw : PK X kws tk) (hall : (backToKw pos (keywordEach kws X.env)).all (·.1.isSome) = true) (hks : (backToKw pos (keywordEach kws X.env)).filterMap (·.1) = ks)
    (hdb : (x == ("__debug__" : Str)) = false) (hpl : ((backTo pos (starEach [] X.env)).any (·.1) || (backToKw pos (keywordEach kws X.env)).any (·.1.isNone)) = false) :
    PE X (.Call (.Name x p) [] kws pos) (fun σ H Q => tk σ H fun zs H2 => zs.length = ks.length ∧ sp (gV [] zs) H2 Q (E σ)) := by
  refine ⟨fun pins s σ H Q I h => ?_⟩
  refine wpAny_Call_Name_kw (ld_glob I hg hm ?_ hdb)
  refine PySem.W.callWith_KW0 (h₀ := X.base) I.ok.mod.kin hk hall (thn (hkw.run pos pins s σ H _ I h) fun ws s2 ⟨zs, H2, I2, rz, l2, q2⟩ => ⟨I2.kIn, ?_⟩) hpl
  rw [hks]
  exact run_fnNS (us := []) (vs := []) F hr hb (hx σ) I2 .nil rz rfl l2 q2
theorem kw_names : ∀ {kws : List Keyword} {ks : List Str}, kwNames kws = some ks → (backToKw pos (keywordEach kws X.env)).all (·.1.isSome) = true ∧ (backToKw pos (keywordEach kws X.env)).filterMap (·.1) = ks ∧ (backToKw pos (keywordEach kws X.env)).any (·.1.isNone) = false
  | [], ks, h => by cases h; exact ⟨rfl, rfl, rfl⟩
  | ⟨none, v, q⟩ :: kws, ks, h => by cases h
  | ⟨some y, v, q⟩ :: kws, ks, h => by
    obtain ⟨zs, e1, e2⟩ := map_some (show (kwNames kws).map (y :: ·) = some ks from h)
    obtain ⟨h1, h2, h3⟩ := kw_names e1
    subst e2
    refine ⟨?_, ?_, ?_⟩
    · show (true && (backToKw pos (keywordEach kws X.env)).all (·.1.isSome)) = true
      rw [h1]; rfl
    · show y :: (backToKw pos (keywordEach kws X.env)).filterMap (·.1) = y :: zs
      rw [h2]
    · show (false || (backToKw pos (keywordEach kws X.env)).any (·.1.isNone)) = false
      rw [h3]; rfl
end
end FT

end
section
set_option Elab.async false
set_option linter.all false
set_option maxRecDepth 100000
set_option maxHeartbeats 8000000
/-! FTSnd6: the soundness of the check, expressions. -/
namespace FT
open PySem PySem.Spec PyProof.Rows L2

def bltNames : List Str := ["len", "int", "tuple", "list", "all", "any", "sum", "abs", "max", "min", "str", "bool", "isinstance", "range", "enumerate", "zip", "reversed"]
/-- a def that may be called from X -/
def Cal (X : Cx) (cn : Nat → Addr) (φ : List T → CR) (n : Nat) (fi : FnI) : Prop :=
  ∃ fa fd, FnOk X.prog X.w X.K X.mg X.base (L2.CX X.prog X.w) n fa fd fi.ps (spOf X.K cn φ fi.ps.length fi.io) ∧ X.mg fi.name = some (.ref fa) ∧ PySem.W.keepIn X.K (.ref fa) = true ∧ Binds X.K fd fi.ps []
def CalK (X : Cx) (cn : Nat → Addr) (φ : List T → CR) (n : Nat) (fi : FnI) (ki : KwI) : Prop :=
  ∃ fa fd g, FnOk X.prog X.w X.K X.mg X.base (L2.CX X.prog X.w) n fa fd fi.ps (spOf X.K cn φ fi.ps.length fi.io) ∧ X.mg fi.name = some (.ref fa) ∧ PySem.W.keepIn X.K (.ref fa) = true ∧ KBn X.K fd fi.ps 0 ki.ks g (fun _ zs => srcV zs ki.src)
structure Hx (Γ : Γ8) (cn : Nat → Addr) (Φ : Nat → List T → CR) (n : Nat) (X : Cx) (W : WX) : Prop where
  N : X.N = Γ.N
  nd : X.N.Nodup
  sc : X.env.scope = Γ.sc
  calm : X.calm = true
  tk : Takes X W
  room : Room n X.A
  st : ∀ x, Γ.stor x = true → Loc Γ.sc x ∧ (X.fn x = true ∨ Γ.sc.names.lookup x = some .local)
  fns : ∀ (f : Nat) (fi : FnI), Γ.fns[f]? = some fi → Cal X cn (Φ f) n fi
  kws : ∀ (k : Nat) (ki : KwI) (fi : FnI), Γ.kws[k]? = some ki → Γ.fns[ki.f]? = some fi → CalK X cn (Φ ki.f) n fi ki
  blt : ∀ b ∈ bltNames, X.mg b = none
  cls : ∀ (c : Nat) (ci : ClI), Γ.cls[c]? = some ci → Φ Γ.lv [] = .ok .non [] → ZfX X.prog X.w X.K X.mg X.base X.A ci.name ci.f ci.code (cn c)
section
variable {Γ : Γ8} {cn : Nat → Addr} {Φ : Nat → List T → CR} {n : Nat} {X : Cx} {W : WX}
theorem beq_str {x y : Str} (h : (x == y) = true) : x = y := by simpa using h
theorem gl_ok (hx : Hx Γ cn Φ n X W) {x : Str} (h : isGl Γ x = true) : Gl X x ∧ x ≠ "__name__" ∧ (x == ("__debug__" : Str)) = false := by
  unfold isGl at h
  simp only [Bool.and_eq_true, Bool.not_eq_true', beq_iff_eq] at h
  refine ⟨?_, fun e => ?_, h.2.2⟩
  · show X.env.scope.names.lookup x = some .globalImplicit
    rw [hx.sc]; exact h.1
  · have := h.2.1
    rw [e] at this
    simp at this
theorem nm_ok (hx : Hx Γ cn Φ n X W) {i : Nat} {x : Str} {p : Pos} (h : isNm Γ i x = true) : PE X (.Name x p) (tVar i) := by
  unfold isNm isVis at h
  simp only [Bool.and_eq_true, Bool.or_eq_true, Bool.not_eq_true', beq_iff_eq] at h
  refine pe_var (by rw [hx.N]; exact h.1) ?_ h.2.2.1 h.2.2.2
  rw [hx.sc]
  exact h.2.1
theorem st_ok (hx : Hx Γ cn Φ n X W) {i : Nat} {x : Str} {p : Pos} (h : isSt Γ i x = true) : PG X (.Name x p) (gName i) ∧ i ∉ Γ.pr := by
  unfold isSt at h
  simp only [Bool.and_eq_true, Bool.not_eq_true', beq_iff_eq, List.contains_eq_mem, decide_eq_false_iff_not] at h
  obtain ⟨h1, h2⟩ := hx.st x h.2.1
  refine ⟨pg_name hx.nd (by rw [hx.N]; exact h.1) (by rw [hx.sc]; exact h1) (by rw [hx.sc]; exact h2), h.2.2⟩
theorem gs_ok (hx : Hx Γ cn Φ n X W) : ∀ {is : List Nat} {xs : List Expr}, okG.okGs Γ is xs = true → PGs X xs (gSeq is) ∧ (assignEach xs X.env).length = is.length ∧ (assignEach xs X.env).findIdx? (·.1) = none ∧ ∀ j ∈ is, j ∉ Γ.pr
  | [], [], _ => ⟨pgs_nil, rfl, rfl, fun _ z => nomatch z⟩
  | [], _ :: _, h => by unfold okG.okGs at h; cases h
  | _ :: _, [], h => by unfold okG.okGs at h; cases h
  | i :: is, x :: xs, h => by
    unfold okG.okGs at h
    simp only [Bool.and_eq_true] at h
    obtain ⟨h1, h2⟩ := h
    split at h1
    · rename_i y ey
      obtain ⟨p, rfl⟩ := asName_ok ey
      obtain ⟨a1, a2⟩ := st_ok hx (p := p) h1
      obtain ⟨b1, b2, b3, b4⟩ := gs_ok hx h2
      refine ⟨pgs_cons a1 b1 rfl, ?_, ?_, fun j hj => ?_⟩
      · show (assignEach xs X.env).length + 1 = is.length + 1
        rw [b2]
      · show ((false, _) :: assignEach xs X.env).findIdx? (·.1) = none
        rw [List.findIdx?_cons]
        simp only [Bool.false_eq_true, if_false, b3, Option.map_none]
      · rcases List.mem_cons.mp hj with e | hj
        · rw [e]; exact a2
        · exact b4 j hj
    · cases h1
theorem g_ok (hx : Hx Γ cn Φ n X W) {g : G} {x : Expr} (h : okG Γ g x = true) : PG X x (tgOf X.K g) ∧ ∀ j ∈ gIdx g, j ∉ Γ.pr := by
  cases g with
  | nm i =>
    have h' : (match asName x with | some y => isSt Γ i y | none => false) = true := h
    cases ey : asName x with
    | some y =>
      rw [ey] at h'
      obtain ⟨p, rfl⟩ := asName_ok ey
      obtain ⟨a1, a2⟩ := st_ok hx (p := p) h'
      exact ⟨a1, fun j hj => by rw [List.mem_singleton.mp hj]; exact a2⟩
    | none => rw [ey] at h'; cases h'
  | tp is =>
    have h' : (match asTup x with | some xs => okG.okGs Γ is xs | none => false) = true := h
    cases ex : asTup x with
    | some xs =>
      rw [ex] at h'
      obtain ⟨k, p, rfl⟩ := asTup_ok ex
      obtain ⟨b1, b2, b3, b4⟩ := gs_ok hx h'
      exact ⟨pg_tup hx.calm b1 b2 b3, b4⟩
    | none => rw [ex] at h'; cases h'
/-- operands -/
theorem o_ok (hx : Hx Γ cn Φ n X W) {a : E} {x : Expr} (h : okE Γ a x = true) (ha : PE X x (tE X.K cn W (evalE Φ a))) : PE X x (tO X.K cn W (opdOf a (evalE Φ a))) := by
  cases a with
  | var i =>
    unfold okE at h
    split at h
    · rename_i y ey
      obtain ⟨p, rfl⟩ := asName_ok ey
      exact PE.imp (nm_ok hx h) fun σ H Q q => t_var σ H Q q
    · cases h
  | _ => exact PE.imp ha fun σ H Q q => t_opd σ H Q q
theorem blt_ok (hx : Hx Γ cn Φ n X W) {b : Str} (h : b ∈ bltNames) : X.mg b = none := hx.blt b h
theorem b1_ok (hx : Hx Γ cn Φ n X W) {b : B1} {x : Expr} {p pos : Pos} {A : Env8 → R Opd} (hg : isGl Γ (b1Nm b) = true) (hp : plain x = true) (ha : PE X x (tO X.K cn W A)) :
    PE X (.Call (.Name (b1Nm b) p) [x] [] pos) (tE X.K cn W fun ρ => (A ρ).bind fun x ρ => op1 (b1T b) x ρ) := by
  obtain ⟨g1, g2, g3⟩ := gl_ok hx hg
  have pa := pa_cons ha pa_nil (star_of hp)
  have k : ∀ σ H Q, tE X.K cn W (fun ρ => (A ρ).bind fun x ρ => op1 (b1T b) x ρ) σ H Q → tCB (rB1 X.K b) (tCons (tO X.K cn W A) tNil) σ H Q := fun σ H Q q => t_op1o (pr_b1 b) σ H Q q
  have mem : b1Nm b ∈ bltNames := by cases b <;> decide
  have hm := hx.blt _ mem
  have c := call_b1 hx.calm b (X := X)
  cases b
  case len => exact PE.imp (pe_callB c g1 hm boot_len pa g2 g3 (star_of hp) rfl) k
  case int => exact PE.imp (pe_callTy c g1 hm boot_int pa g2 g3 (star_of hp) rfl) k
  case tuple => exact PE.imp (pe_callTy c g1 hm boot_tuple pa g2 g3 (star_of hp) rfl) k
  case list => exact PE.imp (pe_callTy c g1 hm boot_list pa g2 g3 (star_of hp) rfl) k
  case all => exact PE.imp (pe_callB c g1 hm boot_all pa g2 g3 (star_of hp) rfl) k
  case any => exact PE.imp (pe_callB c g1 hm boot_any pa g2 g3 (star_of hp) rfl) k
  case sum => exact PE.imp (pe_callB c g1 hm boot_sum pa g2 g3 (star_of hp) rfl) k
  case abs => exact PE.imp (pe_callB c g1 hm boot_abs pa g2 g3 (star_of hp) rfl) k
  case max => exact PE.imp (pe_callB c g1 hm boot_max pa g2 g3 (star_of hp) rfl) k
  case min => exact PE.imp (pe_callB c g1 hm boot_min pa g2 g3 (star_of hp) rfl) k
  case str => exact PE.imp (pe_callTy c g1 hm boot_str pa g2 g3 (star_of hp) rfl) k
theorem b2_ok (hx : Hx Γ cn Φ n X W) {b : B2} {x y : Expr} {p pos : Pos} {A B : Env8 → R Opd} (hg : isGl Γ (b2Nm b) = true) (hp : plain x = true) (hp' : plain y = true) (ha : PE X x (tO X.K cn W A)) (hb : PE X y (tO X.K cn W B)) :
    PE X (.Call (.Name (b2Nm b) p) [x, y] [] pos) (tE X.K cn W fun ρ => (A ρ).bind fun x ρ => (B ρ).bind fun y ρ => op2 (b2T b) x y ρ) := by
  obtain ⟨g1, g2, g3⟩ := gl_ok hx hg
  have pa := pa_cons ha (pa_cons hb pa_nil (star_of hp')) (star_of hp)
  have k : ∀ σ H Q, tE X.K cn W (fun ρ => (A ρ).bind fun x ρ => (B ρ).bind fun y ρ => op2 (b2T b) x y ρ) σ H Q → tCB (rB2 b) (tCons (tO X.K cn W A) (tCons (tO X.K cn W B) tNil)) σ H Q := fun σ H Q q => t_op2 (pr_b2 (K := X.K) (cn := cn) b) σ H Q q
  have mem : b2Nm b ∈ bltNames := by cases b <;> decide
  have hm := hx.blt _ mem
  have c := call_b2 hx.calm b (X := X)
  have np : ∀ pos : Pos, (backTo pos (starEach [y] X.env)).any (·.1) = false := fun pos => by rw [star_of hp']; rfl
  cases b
  case max => exact PE.imp (pe_callB c g1 hm boot_max pa g2 g3 (star_of hp) (np _)) k
  case min => exact PE.imp (pe_callB c g1 hm boot_min pa g2 g3 (star_of hp) (np _)) k
/-! isinstance -/
theorem ty_ok (hx : Hx Γ cn Φ n X W) {t : String} {x : Expr} (h : tyNm Γ t x = true) : PE X x (tC (.ty t)) ∧ t ∈ tyNames := by
  unfold tyNm at h
  split at h
  · rename_i y ey
    obtain ⟨p, rfl⟩ := asName_ok ey
    simp only [Bool.and_eq_true, List.contains_eq_mem, decide_eq_true_eq] at h
    obtain ⟨h1, h2, h3⟩ := h
    have e := beq_str h1
    subst e
    obtain ⟨g1, g2, g3⟩ := gl_ok hx h3
    refine ⟨?_, h2⟩
    have cases5 : t = "int" ∨ t = "bool" ∨ t = "str" ∨ t = "tuple" ∨ t = "list" := by simpa [tyNames] using h2
    rcases cases5 with rfl | rfl | rfl | rfl | rfl
    · exact pe_bltn g1 (hx.blt _ (by decide)) boot_int rfl g2 g3
    · exact pe_bltn g1 (hx.blt _ (by decide)) boot_bool rfl g2 g3
    · exact pe_bltn g1 (hx.blt _ (by decide)) boot_str rfl g2 g3
    · exact pe_bltn g1 (hx.blt _ (by decide)) boot_tuple rfl g2 g3
    · exact pe_bltn g1 (hx.blt _ (by decide)) boot_list rfl g2 g3
  · cases h
def tTys (ts : List String) : TA := fun _ H Q => Q (ts.map V.ty) H
theorem tys_ok (hx : Hx Γ cn Φ n X W) : ∀ {ts : List String} {xs : List Expr}, tysNm Γ ts xs = true → PA X xs (tTys ts) ∧ ∀ t ∈ ts, t ∈ tyNames
  | [], [], _ => ⟨pa_nil, fun _ z => nomatch z⟩
  | [], _ :: _, h => by unfold tysNm at h; cases h
  | _ :: _, [], h => by unfold tysNm at h; cases h
  | t :: ts, x :: xs, h => by
    unfold tysNm at h
    simp only [Bool.and_eq_true] at h
    obtain ⟨a1, a2⟩ := ty_ok hx h.1
    obtain ⟨b1, b2⟩ := tys_ok hx h.2.2
    refine ⟨PA.imp (pa_cons a1 b1 (star_of h.2.1)) fun σ H Q q => q, fun u hu => ?_⟩
    rcases List.mem_cons.mp hu with e | hu
    · rw [e]; exact a2
    · exact b2 u hu
theorem isiT_some {ts : List String} {t : T} {b : Bool} (h : isiT ts t = some b) : ∃ m, tyT t = some m ∧ (ts.any fun k => k == m || (m == "bool" && k == "int")) = b := map_some h
theorem paired_ty : ∀ ts : List String, Paired ClsV (ts.map V.ty) (ts.map Value.type)
  | [] => .nil
  | t :: ts => .cons (.ty t) (paired_ty ts)
theorem isi1_ok (hx : Hx Γ cn Φ n X W) {x y : Expr} {t : String} {p pos : Pos} {A : Env8 → R Opd} (hg : isGl Γ "isinstance" = true) (hp : plain x = true) (hp' : plain y = true) (ha : PE X x (tO X.K cn W A)) (hy : tyNm Γ t y = true) :
    PE X (.Call (.Name "isinstance" p) [x, y] [] pos) (tE X.K cn W fun ρ => (A ρ).bind fun x ρ => op1 (fun u => (isiT [t] u).map .bl) x ρ) := by
  obtain ⟨g1, g2, g3⟩ := gl_ok hx hg
  obtain ⟨a1, a2⟩ := ty_ok hx hy
  refine PE.imp (pe_callB call_isi g1 (hx.blt _ (by decide)) boot_isinstance (pa_cons ha (pa_cons a1 pa_nil (star_of hp')) (star_of hp)) g2 g3 (star_of hp) (by rw [star_of hp']; rfl)) fun σ H Q q => ?_
  refine t_op1o (cn := cn) (K := X.K) (W := W) (A := A) (f := fun u => (isiT [t] u).map .bl) (r := fun v H Q => rIsi X.K [v, .ty t] H Q) (fun σ H D v s u Ls Q rs e F => ?_) σ H Q q
  obtain ⟨b, e1, e2⟩ := map_some e
  subst e2
  obtain ⟨m, e3, e4⟩ := isiT_some e1
  obtain ⟨h1, h2⟩ := rs.ty8 e3
  refine ⟨v, .ty t, .type m, .type t, b, rfl, .ty t, h1, ?_, F.old _ fun _ _ => .bl b⟩
  rw [kit8 m h2 t a2, ← e4]
  simp
theorem isiN_ok (hx : Hx Γ cn Φ n X W) {x : Expr} {ys : List Expr} {ts : List String} {p pos tp : Pos} {kk : Nat} {A : Env8 → R Opd} (hg : isGl Γ "isinstance" = true) (hp : plain x = true) (ha : PE X x (tO X.K cn W A)) (hy : tysNm Γ ts ys = true) (hl : ts.length ≤ 8) :
    PE X (.Call (.Name "isinstance" p) [x, .Tuple ys kk tp] [] pos) (tE X.K cn W fun ρ => (A ρ).bind fun x ρ => op1 (fun u => (isiT ts u).map .bl) x ρ) := by
  obtain ⟨g1, g2, g3⟩ := gl_ok hx hg
  obtain ⟨a1, a2⟩ := tys_ok hx hy
  refine PE.imp (pe_callB call_isiT g1 (hx.blt _ (by decide)) boot_isinstance (pa_cons ha (pa_cons (pe_tup a1) pa_nil (star_of rfl)) (star_of hp)) g2 g3 (star_of hp) (by rw [star_of rfl]; rfl)) fun σ H Q q => ?_
  have lt : ts.length ≤ sizeLine := by rw [sizeLine_eq]; omega
  obtain ⟨ρ, L, Do, ok, post⟩ := q
  refine ⟨ρ, L, Do, ok, PostG.first post fun x ρ1 v H1 La Lw e1 ok1 r1 st1 post1 => ?_⟩
  unfold op1 at post1
  split at post1
  · rename_i t et
    obtain ⟨w, ew, post2⟩ := ofO_ok post1
    obtain ⟨b, e1, e2⟩ := map_some ew
    subst e2
    refine ⟨by rw [List.length_map]; exact lt, fun q hq => ?_⟩
    obtain ⟨ok2, k2, hu⟩ := ok1.newN (u := .tup (ts.map V.ty)) hq
    obtain ⟨Lx, rx⟩ := r1.get ok1.sl et
    have rx' : Rep X.K cn (upd H1 q (.tup (ts.map V.ty))) (La ++ (Lw ++ Do)) v t Lx := rx.mono k2 fun a z => by
      obtain ⟨z1, z2⟩ := rx.own a z
      exact ⟨upd_ne fun e => z2 (by rw [e]; exact hq), z1⟩
    obtain ⟨m, e3, e4⟩ := isiT_some e1
    obtain ⟨h1, h2⟩ := rx'.ty8 e3
    have st2 : Stp L H (Lw ++ La) (upd H1 q (.tup (ts.map V.ty))) := ⟨fun c o e n => by rw [upd_ne (ne_of_none (st1.kp c o e n) hq)]; exact st1.kp c o e n, st1.nw⟩
    refine ⟨v, q, _, .type m, ts.map Value.type, b, rfl, upd_same, paired_ty ts, h1, ?_, post2.done0 ok2 st2 fun _ => .bl b⟩
    rw [kitAny8 h2 ts a2, ← e4]
  · exact post1.elim
end
end FT

end
section
set_option Elab.async false
set_option linter.all false
set_option maxRecDepth 100000
set_option maxHeartbeats 8000000
/-! FTSnd7: the soundness of the check, by recursion. -/
namespace FT
open PySem PySem.Spec PyProof.Rows L2
section
variable {cn : Nat → Addr} {Φ : Nat → List T → CR} {n : Nat}
theorem PT.toPTs {X : Cx} {c : Expr} {t : TT} (h : PT X c t) : PTs X [c] t := pts_one h
/-- the context of a block -/
theorem Hx.blk {Γ : Γ8} {X : Cx} {W : WX} (hx : Hx Γ cn Φ n X W) (s : Shared) (H : Hp) (scope : Scope) (C : Addr) (cl : List (Str × Addr)) (fp : List Addr) : Hx (Γ.blk scope) cn Φ n (X.blk s H scope (compEnvC scope cl C X.env) fp) WF where
  N := hx.N
  nd := hx.nd
  sc := by
    show relS scope X.env.scope = relS scope Γ.sc
    rw [hx.sc]
  calm := hx.calm
  tk := fun u s' h => by
    obtain ⟨a, B, sI, pins, σ, H, cls, d, e, I, nb, up, sky, na, os, ag, w⟩ := h
    exact w.elim
  room := hx.room
  st := fun x h => by
    have h' : (scope.names.lookup x == some .local || scope.names.lookup x == some .cell) = true := h
    simp only [Bool.or_eq_true, beq_iff_eq] at h'
    rcases h' with h' | h'
    · have z := lookup_relS_keep (sc := Γ.sc) (names := scope.names) (k := .local) (by decide) h'
      exact ⟨.inl z, .inr z⟩
    · have z := lookup_relS_keep (sc := Γ.sc) (names := scope.names) (k := .cell) (by decide) h'
      exact ⟨.inr z, .inl (by show (scope.names.lookup x == some .cell) = true; rw [h']; rfl)⟩
  fns := hx.fns
  kws := hx.kws
  blt := hx.blt
  cls := hx.cls
theorem kws_len : ∀ (es : Es) {Γ : Γ8} {kw : List Keyword} {ρ ρ' : Env8} {zs : List T}, okKs Γ es kw = true → evalEs Φ es ρ = .ok zs ρ' → zs.length = kw.length
  | .nil, Γ, kw, ρ, ρ', zs, h, e => by
    cases e
    cases kw with
    | nil => rfl
    | cons _ _ => unfold okKs at h; cases h
  | .cons a es, Γ, kw, ρ, ρ', zs, h, e => by
    cases kw with
    | nil => unfold okKs at h; cases h
    | cons k kw =>
      simp only [okKs, Bool.and_eq_true] at h
      obtain ⟨t, ρ1, _, e1⟩ := bind_okE (show (evalE Φ a ρ).bind (fun t ρ => (evalEs Φ es ρ).bind fun ts ρ => .ok (t :: ts) ρ) = .ok zs ρ' from e)
      obtain ⟨ys, ρ2, e2, e3⟩ := bind_okE e1
      cases e3
      exact congrArg Nat.succ (kws_len es h.2 e2)
  | .star a es, Γ, kw, ρ, ρ', zs, h, e => by
    cases kw <;> (unfold okKs at h; cases h)
theorem kwNames_len : ∀ {kw : List Keyword} {ks : List Str}, kwNames kw = some ks → ks.length = kw.length
  | [], ks, h => by cases h; rfl
  | ⟨none, v, q⟩ :: kw, ks, h => by cases h
  | ⟨some y, v, q⟩ :: kw, ks, h => by
    obtain ⟨zs, e1, e2⟩ := map_some (show (kwNames kw).map (y :: ·) = some ks from h)
    subst e2
    exact congrArg Nat.succ (kwNames_len e1)
theorem ownNm_snd (Γ : Γ8) (own : List Nat) : (ownNm Γ own).map (·.2) = own := by
  unfold ownNm
  rw [List.map_map]
  exact List.map_id own
/-- and, or: the rest of the line -/
theorem bool_rest {X : Cx} {op : BoolOp} {r : Expr} {p : Pos} {t : TE} (h : PE X r t) : PE X (.BoolOp op [r] p) t := pe_one h
theorem pe_neg1 {X : Cx} {j : Nat} {p1 p2 : Pos} : PE X (.UnaryOp .USub (.Constant (.int 1) j p1) p2) (tC (.int (-1))) := PE.imp (pe_un un_neg pe_int) fun σ H Q q => ⟨1, rfl, q⟩
mutual
theorem sndE : ∀ (e : E) {Γ : Γ8} {X : Cx} {W : WX} {x : Expr}, Hx Γ cn Φ n X W → okE Γ e x = true → PE X x (tE X.K cn W (evalE Φ e))
  | .var i, Γ, X, W, x, hx, h => by
    simp only [okE] at h
    split at h
    · rename_i y ey
      obtain ⟨p, rfl⟩ := asName_ok ey
      exact PE.imp (nm_ok hx h) fun σ H Q q => t_read σ H Q q
    · cases h
  | .int i, Γ, X, W, x, hx, h => by
    simp only [okE] at h
    split at h
    · rename_i j ey
      obtain ⟨k, p, rfl⟩ := asConst_ok ey
      have e := of_decide_eq_true h
      subst e
      exact PE.imp pe_int fun σ H Q q => t_const (fun _ _ => .int _) q
    · cases h
  | .bl i, Γ, X, W, x, hx, h => by
    simp only [okE] at h
    split at h
    · rename_i j ey
      obtain ⟨k, p, rfl⟩ := asConst_ok ey
      have e := of_decide_eq_true h
      subst e
      exact PE.imp pe_bl fun σ H Q q => t_const (fun _ _ => .bl _) q
    · cases h
  | .non, Γ, X, W, x, hx, h => by
    simp only [okE] at h
    split at h
    · rename_i ey
      obtain ⟨k, p, rfl⟩ := asConst_ok ey
      exact PE.imp pe_non fun σ H Q q => t_const (fun _ _ => .non) q
    · cases h
  | .str i, Γ, X, W, x, hx, h => by
    simp only [okE] at h
    split at h
    · rename_i j ey
      obtain ⟨k, p, rfl⟩ := asConst_ok ey
      have e := of_decide_eq_true h
      subst e
      exact PE.imp pe_str fun σ H Q q => t_const (fun _ _ => .str _) q
    · cases h
  | .bin op a b, Γ, X, W, x, hx, h => by
    simp only [okE] at h
    split at h
    · rename_i l o r ey
      simp only [Bool.and_eq_true, decide_eq_true_eq] at h
      obtain ⟨e, h1, h2⟩ := h
      subst e
      obtain ⟨p, rfl⟩ := asBin_ok ey
      exact PE.imp (pe_op (op_bin o) (o_ok hx h1 (sndE a hx h1)) (o_ok hx h2 (sndE b hx h2))) fun σ H Q q => t_op2 (pr_bin o) σ H Q q
    · cases h
  | .neg a, Γ, X, W, x, hx, h => by
    simp only [okE] at h
    split at h
    · rename_i l ey
      obtain ⟨p, rfl⟩ := asUn_ok ey
      exact PE.imp (pe_un un_neg (o_ok hx h (sndE a hx h))) fun σ H Q q => t_op1o pr_neg σ H Q q
    · cases h
  | .cmp op a b, Γ, X, W, x, hx, h => by
    simp only [okE] at h
    split at h
    · rename_i l o r ey
      simp only [Bool.and_eq_true, decide_eq_true_eq] at h
      obtain ⟨e, hp, h1, h2⟩ := h
      subst e
      obtain ⟨p, rfl⟩ := asCmp1_ok ey
      exact PE.imp (pe_cmpR (op_cmp hx.room.units o) (o_ok hx h1 (sndE a hx h1)) (o_ok hx h2 (sndE b hx h2)) (marks_of hp)) fun σ H Q q => t_op2 (pr_cmp o).bl σ H Q q
    · cases h
  | .chn p q a b c, Γ, X, W, x, hx, h => by
    simp only [okE] at h
    split at h
    · rename_i l o r o2 r2 ey
      simp only [Bool.and_eq_true, decide_eq_true_eq] at h
      obtain ⟨e, e2, hp, h1, h2, h3⟩ := h
      subst e e2
      obtain ⟨ps, rfl⟩ := asCmp2_ok ey
      exact PE.imp (pe_chain (op_cmp hx.room.units o) (op_cmp hx.room.units o2) (o_ok hx h1 (sndE a hx h1)) (o_ok hx h2 (sndE b hx h2)) (o_ok hx h3 (sndE c hx h3)) (marks2_of hp)) fun σ H Q q =>
        t_chain (α := T) (rel := relV X.K cn) (g := fun s t => (cmpT o2 s t).map .bl) (fl := T.bl false) (pr_cmp o) (pr_cmp o2).bl (fun _ _ _ => .bl false) σ H Q q
    · cases h
  | .and a b, Γ, X, W, x, hx, h => by
    simp only [okE] at h
    split at h
    · rename_i l r p ey
      simp only [Bool.and_eq_true] at h
      have ex := asBool_ok ey
      subst ex
      exact PE.imp (pe_and (sndE a hx h.1) (bool_rest (sndE b hx h.2))) fun σ H Q q => t_and σ H Q q
    · rename_i l r r2 rs p ey
      simp only [Bool.and_eq_true] at h
      have ex := asBool_ok ey
      subst ex
      exact PE.imp (pe_and (sndE a hx h.1) (sndE b hx h.2)) fun σ H Q q => t_and σ H Q q
    · cases h
  | .or a b, Γ, X, W, x, hx, h => by
    simp only [okE] at h
    split at h
    · rename_i l r p ey
      simp only [Bool.and_eq_true] at h
      have ex := asBool_ok ey
      subst ex
      exact PE.imp (pe_or (sndE a hx h.1) (bool_rest (sndE b hx h.2))) fun σ H Q q => t_or σ H Q q
    · rename_i l r r2 rs p ey
      simp only [Bool.and_eq_true] at h
      have ex := asBool_ok ey
      subst ex
      exact PE.imp (pe_or (sndE a hx h.1) (sndE b hx h.2)) fun σ H Q q => t_or σ H Q q
    · cases h
  | .not a, Γ, X, W, x, hx, h => by
    simp only [okE] at h
    split at h
    · rename_i l ey
      obtain ⟨p, rfl⟩ := asUn_ok ey
      exact PE.imp (pe_notT (o_ok hx h (sndE a hx h))) fun σ H Q q => t_not σ H Q q
    · cases h
  | .ite c a b, Γ, X, W, x, hx, h => by
    simp only [okE] at h
    split at h
    · rename_i k l r ey
      simp only [Bool.and_eq_true] at h
      obtain ⟨h1, h2, h3⟩ := h
      obtain ⟨p, rfl⟩ := asIf_ok ey
      exact PE.imp (pe_ifExp (sndC c hx h1).1 (sndE a hx h2) (sndE b hx h3)) fun σ H Q q => t_ite σ H Q q
    · cases h
  | .tup es, Γ, X, W, x, hx, h => by
    simp only [okE] at h
    split at h
    · rename_i xs ey
      obtain ⟨k, p, rfl⟩ := asTup_ok ey
      exact PE.imp (pe_tup (sndEs es hx h)) fun σ H Q q => t_frzN σ H _ (t_tup σ H Q q)
    · cases h
  | .lst es, Γ, X, W, x, hx, h => by
    simp only [okE] at h
    split at h
    · rename_i xs ey
      obtain ⟨p, rfl⟩ := asLst_ok ey
      exact PE.imp (pe_lst (sndEs es hx h)) fun σ H Q q => t_frzN σ H _ (t_lst σ H Q q)
    · cases h
  | .ix a b, Γ, X, W, x, hx, h => by
    simp only [okE] at h
    split at h
    · rename_i l r ey
      simp only [Bool.and_eq_true] at h
      obtain ⟨hp, h1, h2⟩ := h
      obtain ⟨p, rfl⟩ := asSub_ok ey
      exact PE.imp (pe_ix ix_seq (o_ok hx h1 (sndE a hx h1)) (o_ok hx h2 (sndE b hx h2)) (ix_of hp)) fun σ H Q q => t_op2 pr_ix σ H Q q
    · cases h
  | .sl a lo hi, Γ, X, W, x, hx, h => by
    simp only [okE] at h
    split at h
    · rename_i l r ey
      split at h
      · rename_i u v ez
        simp only [Bool.and_eq_true] at h
        obtain ⟨h1, h2, h3⟩ := h
        obtain ⟨p, rfl⟩ := asSub_ok ey
        obtain ⟨p2, rfl⟩ := asSlc_ok ez
        exact PE.imp (pe_slice sl8 (o_ok hx h1 (sndE a hx h1)) (sndOe lo hx h2) (sndOe hi hx h3)) fun σ H Q q => t_sl σ H Q q
      · cases h
    · cases h
  | .rev a, Γ, X, W, x, hx, h => by
    simp only [okE] at h
    split at h
    · rename_i l r ey
      simp only [Bool.and_eq_true] at h
      obtain ⟨p, rfl⟩ := asSub_ok ey
      obtain ⟨k, p1, p2, p3, rfl⟩ := isRev_ok h.1
      exact PE.imp (pe_revA (o_ok hx h.2 (sndE a hx h.2))) fun σ H Q q => t_rev σ H Q q
    · cases h
  | .call f as, Γ, X, W, x, hx, h => by
    simp only [okE] at h
    split at h
    · rename_i y es fi ey ef
      simp only [Bool.and_eq_true] at h
      obtain ⟨h1, h2, h3, h4, h5, h6⟩ := h
      have e := beq_str h1
      subst e
      obtain ⟨p, pos, rfl⟩ := asCall_ok ey
      obtain ⟨fa, fd, F, hm, hk, hb⟩ := hx.fns f fi ef
      obtain ⟨g1, g2, g3⟩ := gl_ok hx h2
      have pa := sndAs as hx h3 h4
      have k : ∀ σ H Q, tE X.K cn W (evalE Φ (.call f as)) σ H Q → tCallSD (spOf X.K cn (Φ f) fi.ps.length fi.io) [] (WE W) (tG X.K cn W (relA X.K cn) (evalAs Φ as)) σ H Q := fun σ H Q q =>
        t_call (by simpa using h5) (by simpa using h6) σ H Q q
      cases es with
      | nil =>
        have ea : as = .nil := by
          cases as with
          | nil => rfl
          | v _ _ => simp only [okAs] at h3; cases h3
          | r _ _ => simp only [okAs] at h3; cases h3
        subst ea
        refine PE.imp (t' := tE X.K cn W (evalE Φ (.call f .nil))) (t := fun σ H Q => tNil σ H fun vs H1 => spOf X.K cn (Φ f) fi.ps.length fi.io (vs ++ []) H1 Q (WE W σ)) ⟨fun pins s σ H Q I q => ?_⟩ fun σ H Q q => t_aNil σ H _ (k σ H Q q)
        refine wpAny_Call_Name_kw (ld_glob I g1 hm ?_ g3)
        exact PySem.W.callWith_K0 I.kIn hk (run_fnSD (us := []) (vs := []) F hx.room hb .nil (passAt hx.tk σ) I .nil q)
      | cons a es =>
        simp only [plains, List.all_cons, Bool.and_eq_true] at h4
        exact PE.imp (pe_callSD F hx.room g1 hm hk hb .nil (fun σ => passAt hx.tk σ) pa g3 (star_of h4.1) (nostar_of h4.2)) k
    · cases h
  | .callW f as, Γ, X, W, x, hx, h => by
    simp only [okE] at h
    split at h
    · rename_i y es fi ey ef
      simp only [Bool.and_eq_true] at h
      obtain ⟨h1, h2, h3, h4, h5, h6⟩ := h
      have e := beq_str h1
      subst e
      obtain ⟨p, pos, rfl⟩ := asCall_ok ey
      obtain ⟨fa, fd, F, hm, hk, hb⟩ := hx.fns f fi ef
      obtain ⟨g1, g2, g3⟩ := gl_ok hx h2
      have hio : fi.io = [] := by simpa using h5
      rw [hio] at F
      have pa := sndAs as hx h3 h4
      have k : ∀ σ H Q, tE X.K cn W (evalE Φ (.callW f as)) σ H Q → tCallSD (spOf X.K cn (Φ f) fi.ps.length []) [] (WE W) (tG X.K cn W (relA X.K cn) (evalAs Φ as)) σ H Q := fun σ H Q q =>
        t_callW (by simpa using h6) σ H Q q
      cases es with
      | nil =>
        have ea : as = .nil := by
          cases as with
          | nil => rfl
          | v _ _ => simp only [okAs] at h3; cases h3
          | r _ _ => simp only [okAs] at h3; cases h3
        subst ea
        refine PE.imp (t' := tE X.K cn W (evalE Φ (.callW f .nil))) (t := fun σ H Q => tNil σ H fun vs H1 => spOf X.K cn (Φ f) fi.ps.length [] (vs ++ []) H1 Q (WE W σ)) ⟨fun pins s σ H Q I q => ?_⟩ fun σ H Q q => t_aNil σ H _ (k σ H Q q)
        refine wpAny_Call_Name_kw (ld_glob I g1 hm ?_ g3)
        exact PySem.W.callWith_K0 I.kIn hk (run_fnSD (us := []) (vs := []) F hx.room hb .nil (passAt hx.tk σ) I .nil q)
      | cons a es =>
        simp only [plains, List.all_cons, Bool.and_eq_true] at h4
        exact PE.imp (pe_callSD F hx.room g1 hm hk hb .nil (fun σ => passAt hx.tk σ) pa g3 (star_of h4.1) (nostar_of h4.2)) k
    · cases h
  | .callK kk f src ks, Γ, X, W, x, hx, h => by
    simp only [okE] at h
    split at h
    · rename_i y kw fi ki ey ef ek
      simp only [Bool.and_eq_true, decide_eq_true_eq] at h
      obtain ⟨h1, h2, h3, h4, h5, h6, h7, h8⟩ := h
      have e := beq_str h1
      subst e h5
      obtain ⟨p, pos, rfl⟩ := asCall_ok ey
      obtain ⟨fa, fd, g, F, hm, hk, hb⟩ := hx.kws kk ki fi ek ef
      obtain ⟨g1, g2, g3⟩ := gl_ok hx h2
      obtain ⟨es, hd⟩ := srcEq_ok h6
      rw [← es] at hb
      have hn : kwNames kw = some ki.ks := by simpa using h4
      obtain ⟨n1, n2, n3⟩ := kw_names (X := X) (pos := pos) hn
      have hio : fi.io = [] := by simpa using h8
      rw [hio] at F
      refine PE.imp (pe_kw0 F hx.room g1 hm hk hb (fun σ => passAt hx.tk σ) (sndKs ks hx h3) n1 n2 g3 (by rw [n3]; rfl)) fun σ H Q q => ?_
      exact t_callK (f := ki.f) (A := evalEs Φ ks) hd (by simpa using h7) (fun ρ ρ' zs ez => (kws_len ks h3 ez).trans (kwNames_len hn).symm) σ H Q q
    · cases h
  | .b1 b a, Γ, X, W, x, hx, h => by
    simp only [okE] at h
    split at h
    · rename_i y l ey
      simp only [Bool.and_eq_true] at h
      obtain ⟨h1, h2, h3, h4⟩ := h
      have e := beq_str h1
      subst e
      obtain ⟨p, pos, rfl⟩ := asCall_ok ey
      exact b1_ok hx h2 h3 (o_ok hx h4 (sndE a hx h4))
    · cases h
  | .b2 b a c, Γ, X, W, x, hx, h => by
    simp only [okE] at h
    split at h
    · rename_i y l r ey
      simp only [Bool.and_eq_true] at h
      obtain ⟨h1, h2, ⟨h3, h3'⟩, h4, h5⟩ := h
      have e := beq_str h1
      subst e
      obtain ⟨p, pos, rfl⟩ := asCall_ok ey
      exact b2_ok hx h2 h3 h3' (o_ok hx h4 (sndE a hx h4)) (o_ok hx h5 (sndE c hx h5))
    · cases h
  | .isi a ts, Γ, X, W, x, hx, h => by
    simp only [okE] at h
    split at h
    · rename_i y l r ey
      simp only [Bool.and_eq_true] at h
      obtain ⟨h1, h2, ⟨h3, h3'⟩, h4, h5⟩ := h
      have e := beq_str h1
      subst e
      obtain ⟨p, pos, rfl⟩ := asCall_ok ey
      have ha := o_ok hx h4 (sndE a hx h4)
      split at h5
      · rename_i cs ec
        simp only [Bool.and_eq_true, decide_eq_true_eq] at h5
        obtain ⟨k, p2, rfl⟩ := asTup_ok ec
        exact isiN_ok hx h2 h3 ha h5.1 h5.2
      · split at h5
        · exact isi1_ok hx h2 h3 h3' ha h5
        · cases h5
    · cases h
  | .lc g it c e own, Γ, X, W, x, hx, h => by
    simp only [okE] at h
    split at h
    · rename_i el tg ir ifs scope ey
      simp only [Bool.and_eq_true] at h
      obtain ⟨h1, h2, h3, h4, h5, h6, h7⟩ := h
      obtain ⟨p, rfl⟩ := asLC_ok ey
      have blk : BlkOk X.N X.env.scope scope (ownNm Γ own) := by
        rw [hx.N, hx.sc]
        exact blkOk_by h6
      have hj : ∀ j ∈ gIdx g, j ∈ own := fun j z => by
        have := List.all_eq_true.mp h7 j z
        simpa using this
      have z := pe_lc (pos := p) (elt := el) (te := tE X.K cn WF (evalE Φ e)) (tt := tG X.K cn WF relC (evalOc Φ c)) (g := tgOf X.K g) hx.calm hx.nd (sndIt it tg hx h2) blk (fun s H C cl fp => (g_ok (hx.blk s H scope C cl fp) h1).1) (fun s H C cl fp => sndOc c (hx.blk s H scope C cl fp) h3) (fun s H C cl fp => sndE e (hx.blk s H scope C cl fp) h4) (fold_of h5)
      rw [ownNm_snd] at z
      exact PE.imp z fun σ H Q q => t_lc hj σ H Q (t_frzI σ H Q q)
    · cases h
  | .lrng it, Γ, X, W, x, hx, h => by
    simp only [okE] at h
    cases h
theorem sndEs : ∀ (es : Es) {Γ : Γ8} {X : Cx} {W : WX} {xs : List Expr}, Hx Γ cn Φ n X W → okEs Γ es xs = true → PA X xs (tG X.K cn W (relN X.K cn) (evalEs Φ es))
  | .nil, Γ, X, W, xs, hx, h => by
    cases xs with
    | nil => exact PA.imp pa_nil fun σ H Q q => t_nil σ H Q q
    | cons _ _ => simp only [okEs] at h; cases h
  | .cons e es, Γ, X, W, xs, hx, h => by
    cases xs with
    | nil => simp only [okEs] at h; cases h
    | cons x xs =>
      simp only [okEs, Bool.and_eq_true] at h
      exact PA.imp (pa_cons (sndE e hx h.2.1) (sndEs es hx h.2.2) (star_of h.1)) fun σ H Q q => t_cons σ H Q q
  | .star e es, Γ, X, W, xs, hx, h => by
    cases xs with
    | nil => simp only [okEs] at h; cases h
    | cons x xs =>
      simp only [okEs] at h
      split at h
      · simp only [Bool.and_eq_true] at h
        exact PA.imp (StX.pa_star (o_ok hx h.1 (sndE e hx h.1)) (sndEs es hx h.2)) fun σ H Q q => t_star σ H Q q
      · cases h
theorem sndKs : ∀ (es : Es) {Γ : Γ8} {X : Cx} {W : WX} {xs : List Keyword}, Hx Γ cn Φ n X W → okKs Γ es xs = true → PK X xs (tG X.K cn W (relN X.K cn) (evalEs Φ es))
  | .nil, Γ, X, W, xs, hx, h => by
    cases xs with
    | nil => exact ⟨fun pos pins s σ H Q I q => pk_nil.run pos pins s σ H Q I (t_nil σ H Q q)⟩
    | cons _ _ => simp only [okKs] at h; cases h
  | .cons e es, Γ, X, W, xs, hx, h => by
    cases xs with
    | nil => simp only [okKs] at h; cases h
    | cons x xs =>
      obtain ⟨nm, xv, xp⟩ := x
      simp only [okKs, Bool.and_eq_true] at h
      exact ⟨fun pos pins s σ H Q I q => (pk_cons (sndE e hx h.1) (sndKs es hx h.2)).run pos pins s σ H Q I (t_cons σ H Q q)⟩
  | .star e es, Γ, X, W, xs, hx, h => by
    cases xs <;> (simp only [okKs] at h; cases h)
theorem sndAs : ∀ (as : As) {Γ : Γ8} {X : Cx} {W : WX} {xs : List Expr}, Hx Γ cn Φ n X W → okAs Γ as xs = true → plains xs = true → PA X xs (tG X.K cn W (relA X.K cn) (evalAs Φ as))
  | .nil, Γ, X, W, xs, hx, h, hp => by
    cases xs with
    | nil => exact PA.imp pa_nil fun σ H Q q => t_aNil σ H Q q
    | cons _ _ => simp only [okAs] at h; cases h
  | .v e as, Γ, X, W, xs, hx, h, hp => by
    cases xs with
    | nil => simp only [okAs] at h; cases h
    | cons x xs =>
      simp only [okAs, Bool.and_eq_true] at h
      simp only [plains, List.all_cons, Bool.and_eq_true] at hp
      exact PA.imp (pa_cons (sndE e hx h.1) (sndAs as hx h.2 hp.2) (star_of hp.1)) fun σ H Q q => t_aV σ H Q q
  | .r i as, Γ, X, W, xs, hx, h, hp => by
    cases xs with
    | nil => simp only [okAs] at h; cases h
    | cons x xs =>
      simp only [okAs, Bool.and_eq_true] at h
      simp only [plains, List.all_cons, Bool.and_eq_true] at hp
      obtain ⟨h1, h2⟩ := h
      split at h1
      · rename_i y ey
        obtain ⟨p, rfl⟩ := asName_ok ey
        exact PA.imp (pa_cons (nm_ok hx h1) (sndAs as hx h2 hp.2) (star_of hp.1)) fun σ H Q q => t_aR σ H Q q
      · cases h1
theorem sndOe : ∀ (o : Oe) {Γ : Γ8} {X : Cx} {W : WX} {x : Option Expr}, Hx Γ cn Φ n X W → okOe Γ o x = true → PO X x (tG X.K cn W relP (evalOe Φ o))
  | .no, Γ, X, W, x, hx, h => by
    cases x with
    | none => exact ⟨fun pins s σ H Q I q => po_none.run pins s σ H Q I (t_no σ H Q q)⟩
    | some _ => simp only [okOe] at h; cases h
  | .so e, Γ, X, W, x, hx, h => by
    cases x with
    | none => simp only [okOe] at h; cases h
    | some x =>
      simp only [okOe] at h
      exact ⟨fun pins s σ H Q I q => (po_some (sndE e hx h)).run pins s σ H Q I (t_so σ H Q q)⟩
theorem sndOc : ∀ (o : Oc) {Γ : Γ8} {X : Cx} {W : WX} {x : List Expr}, Hx Γ cn Φ n X W → okOc Γ o x = true → PTs X x (tG X.K cn W relC (evalOc Φ o))
  | .no, Γ, X, W, x, hx, h => by
    cases x with
    | nil => exact ⟨fun pins s σ H Q I q => pts_nil.run pins s σ H Q I (by
        obtain ⟨ρ, L, Do, ok, post⟩ := q
        exact post true H L [] ok ⟨rfl, rfl⟩ (Stp.refl L H))⟩
    | cons _ _ => simp only [okOc] at h; cases h
  | .so c, Γ, X, W, x, hx, h => by
    cases x with
    | nil => simp only [okOc] at h; cases h
    | cons y ys =>
      cases ys with
      | nil =>
        simp only [okOc] at h
        exact pts_one (sndC c hx h).1
      | cons _ _ => simp only [okOc] at h; cases h
theorem sndC : ∀ (c : C) {Γ : Γ8} {X : Cx} {W : WX} {x : Expr}, Hx Γ cn Φ n X W → okC Γ c x = true → PT X x (tG X.K cn W relC (evalC Φ c)) ∧ ∀ o as p, x = .BoolOp o as p → PW X x (tG X.K cn W relC (evalC Φ c))
  | .tr e, Γ, X, W, x, hx, h => by
    simp only [okC, Bool.and_eq_true] at h
    refine ⟨PT.imp (pt_truth (o_ok hx h.2 (sndE e hx h.2)) (tested_of h.1)) fun σ H Q q => t_truth σ H Q q, fun o as p e => ?_⟩
    subst e
    cases h.1
  | .cmp op a b, Γ, X, W, x, hx, h => by
    simp only [okC] at h
    split at h
    · rename_i l o r ey
      simp only [Bool.and_eq_true, decide_eq_true_eq] at h
      obtain ⟨e, hp, h1, h2⟩ := h
      subst e
      obtain ⟨p, rfl⟩ := asCmp1_ok ey
      exact ⟨PT.imp (pt_cmpR (op_cmp hx.room.units o) (o_ok hx h1 (sndE a hx h1)) (o_ok hx h2 (sndE b hx h2)) (marks_of hp)) fun σ H Q q => t_cmp (pr_cmp o) σ H Q q, fun o as p e => by cases e⟩
    · cases h
  | .chn p q a b c, Γ, X, W, x, hx, h => by
    simp only [okC] at h
    split at h
    · rename_i l o r o2 r2 ey
      simp only [Bool.and_eq_true, decide_eq_true_eq] at h
      obtain ⟨e, e2, hp, h1, h2, h3⟩ := h
      subst e e2
      obtain ⟨ps, rfl⟩ := asCmp2_ok ey
      exact ⟨PT.imp (pt_chain (op_cmp hx.room.units o) (op_cmp hx.room.units o2) (o_ok hx h1 (sndE a hx h1)) (o_ok hx h2 (sndE b hx h2)) (o_ok hx h3 (sndE c hx h3)) (marks2_of hp)) fun σ H Q q =>
        t_chainT (pr_cmp o) (pr_cmp o2) σ H Q q, fun o as p e => by cases e⟩
    · cases h
  | .and a b, Γ, X, W, x, hx, h => by
    simp only [okC] at h
    split at h
    · rename_i l r p ey
      simp only [Bool.and_eq_true] at h
      have ex := asBool_ok ey
      subst ex
      have z := pw_and (pos := p) (sndC a hx h.1).1 (pw_and1 (pos := p) (sndC b hx h.2).1)
      have w : PW X _ (tG X.K cn W relC (evalC Φ (.and a b))) := ⟨fun wh pins s σ H Q I q => z.run wh pins s σ H Q I (t_andC σ H Q q)⟩
      exact ⟨w.pt, fun _ _ _ _ => w⟩
    · rename_i l r r2 rs p ey
      simp only [Bool.and_eq_true] at h
      have ex := asBool_ok ey
      subst ex
      have z := pw_and (pos := p) (sndC a hx h.1).1 ((sndC b hx h.2).2 _ _ _ rfl)
      have w : PW X _ (tG X.K cn W relC (evalC Φ (.and a b))) := ⟨fun wh pins s σ H Q I q => z.run wh pins s σ H Q I (t_andC σ H Q q)⟩
      exact ⟨w.pt, fun _ _ _ _ => w⟩
    · cases h
  | .or a b, Γ, X, W, x, hx, h => by
    simp only [okC] at h
    split at h
    · rename_i l r p ey
      simp only [Bool.and_eq_true] at h
      have ex := asBool_ok ey
      subst ex
      have z := pw_or (pos := p) (sndC a hx h.1).1 (pw_or1 (pos := p) (sndC b hx h.2).1)
      have w : PW X _ (tG X.K cn W relC (evalC Φ (.or a b))) := ⟨fun wh pins s σ H Q I q => z.run wh pins s σ H Q I (t_orC σ H Q q)⟩
      exact ⟨w.pt, fun _ _ _ _ => w⟩
    · rename_i l r r2 rs p ey
      simp only [Bool.and_eq_true] at h
      have ex := asBool_ok ey
      subst ex
      have z := pw_or (pos := p) (sndC a hx h.1).1 ((sndC b hx h.2).2 _ _ _ rfl)
      have w : PW X _ (tG X.K cn W relC (evalC Φ (.or a b))) := ⟨fun wh pins s σ H Q I q => z.run wh pins s σ H Q I (t_orC σ H Q q)⟩
      exact ⟨w.pt, fun _ _ _ _ => w⟩
    · cases h
  | .not a, Γ, X, W, x, hx, h => by
    simp only [okC] at h
    split at h
    · rename_i l ey
      obtain ⟨p, rfl⟩ := asUn_ok ey
      exact ⟨PT.imp (pt_not (sndC a hx h).1) fun σ H Q q => t_notC σ H Q q, fun o as p e => by cases e⟩
    · cases h
theorem sndIt : ∀ (it : It) {Γ : Γ8} {X : Cx} {W : WX} (tg : Expr) {x : Expr}, Hx Γ cn Φ n X W → okIt Γ it tg x = true → PI X tg x (tI X.K cn W (evalIt Φ it))
  | .sq e, Γ, X, W, tg, x, hx, h => by
    simp only [okIt] at h
    exact pi_sq (sndE e hx h)
  | .r1 a, Γ, X, W, tg, x, hx, h => by
    simp only [okIt] at h
    split at h
    · rename_i y l ey
      simp only [Bool.and_eq_true] at h
      obtain ⟨h1, h2, h3, h4⟩ := h
      have e := beq_str h1
      subst e
      obtain ⟨p, pos, rfl⟩ := asCall_ok ey
      exact pi_r1 (gl_ok hx h2).1 (hx.blt _ (by decide)) (sndE a hx h4) h3
    · cases h
  | .r2 a b, Γ, X, W, tg, x, hx, h => by
    simp only [okIt] at h
    split at h
    · rename_i y l r ey
      simp only [Bool.and_eq_true] at h
      obtain ⟨h1, h2, ⟨h3, h3'⟩, h4, h5⟩ := h
      have e := beq_str h1
      subst e
      obtain ⟨p, pos, rfl⟩ := asCall_ok ey
      exact pi_r2 (gl_ok hx h2).1 (hx.blt _ (by decide)) (sndE a hx h4) (sndE b hx h5) h3 h3'
    · cases h
  | .r3 a b k, Γ, X, W, tg, x, hx, h => by
    simp only [okIt] at h
    split at h
    · rename_i y l r c1 c2 c3 ey
      simp only [Bool.and_eq_true] at h
      obtain ⟨h1, h2, ⟨h3, h3'⟩, h4, h5⟩ := h
      have e := beq_str h1
      subst e
      obtain ⟨p, pos, rfl⟩ := asCall_ok ey
      exact pi_r3 (gl_ok hx h2).1 (hx.blt _ (by decide)) (sndE a hx h4) (sndE b hx h5) pe_neg1 h3 h3' rfl
    · cases h
  | .en a, Γ, X, W, tg, x, hx, h => by
    simp only [okIt] at h
    split at h
    · rename_i y l ey
      simp only [Bool.and_eq_true] at h
      obtain ⟨h1, h2, h3, h4, h5⟩ := h
      have e := beq_str h1
      subst e
      obtain ⟨p, pos, rfl⟩ := asCall_ok ey
      obtain ⟨xs, ex⟩ := Option.isSome_iff_exists.mp h5
      obtain ⟨k, p2, rfl⟩ := asTup_ok ex
      exact pi_en (gl_ok hx h2).1 (hx.blt _ (by decide)) (sndE a hx h4) h3
    · cases h
  | .zp a b, Γ, X, W, tg, x, hx, h => by
    simp only [okIt] at h
    split at h
    · rename_i y l r ey
      simp only [Bool.and_eq_true] at h
      obtain ⟨h1, h2, ⟨h3, h3'⟩, h4, h5, h6⟩ := h
      have e := beq_str h1
      subst e
      obtain ⟨p, pos, rfl⟩ := asCall_ok ey
      obtain ⟨xs, ex⟩ := Option.isSome_iff_exists.mp h6
      obtain ⟨k, p2, rfl⟩ := asTup_ok ex
      exact pi_zp (gl_ok hx h2).1 (hx.blt _ (by decide)) (sndE a hx h4) (sndE b hx h5) h3 h3'
    · cases h
  | .rv a, Γ, X, W, tg, x, hx, h => by
    simp only [okIt] at h
    split at h
    · rename_i y l ey
      simp only [Bool.and_eq_true] at h
      obtain ⟨h1, h2, h3, h4⟩ := h
      have e := beq_str h1
      subst e
      obtain ⟨p, pos, rfl⟩ := asCall_ok ey
      exact pi_rv (gl_ok hx h2).1 (hx.blt _ (by decide)) (sndE a hx h4) h3
    · cases h
  | .rr1 a, Γ, X, W, tg, x, hx, h => by
    simp only [okIt] at h
    split at h
    · rename_i y m ey
      split at h
      · rename_i z l ez
        simp only [Bool.and_eq_true] at h
        obtain ⟨h1, h2, h3, h4, h5, h6⟩ := h
        have e := beq_str h1
        subst e
        have e' := beq_str h3
        subst e'
        obtain ⟨p, pos, rfl⟩ := asCall_ok ey
        obtain ⟨p2, pos2, rfl⟩ := asCall_ok ez
        exact pi_rr1 (gl_ok hx h2).1 (hx.blt _ (by decide)) (gl_ok hx h4).1 (hx.blt _ (by decide)) (sndE a hx h6) h5
      · cases h
    · cases h
  | .rr2 a b, Γ, X, W, tg, x, hx, h => by
    simp only [okIt] at h; cases h
end
end
end FT

end
section
set_option Elab.async false
set_option linter.all false
set_option maxRecDepth 100000
set_option maxHeartbeats 8000000
/-! FTStm: statements. -/
namespace FT
open PySem PySem.Spec PyProof.Rows L2

section
variable {K : PySem.W.Frag} {cn : Nat → Addr} {H H' H0 H1 H2 H3 : Hp} {D' D0 Do Do' Dx : List Addr} {σ σ' : St8} {ρ ρ1 ρ' : Env8} {L L' La Lb Lt Lv Lw : List Addr} {W : WX} {pr : List Nat}
theorem t_drop {A : Env8 → R T} (D : Ends) (σ : St8) (H : Hp) (h : tS K cn W pr (fun ρ => ofR (A ρ) fun _ ρ => .nx ρ) D σ H) : tDrop (tE K cn W A) D σ H := by
  obtain ⟨ρ, L, Do, ok, post⟩ := h
  exact ⟨ρ, L, Do, ok, PostO.first post fun t ρ1 v H1 La Lw e1 ok1 r1 st1 post1 => post1 σ H1 La ok1.dropL (st1.weak fun b z => List.mem_append_right _ z) fun _ _ => rfl⟩
theorem t_asg {A : Env8 → R T} {g : G} (hg : ∀ j ∈ gIdx g, j ∉ pr) (D : Ends) (σ : St8) (H : Hp) (h : tS K cn W pr (fun ρ => ofR (A ρ) fun t ρ => match bindG g t ρ with
    | some ρ1 => .nx ρ1
    | none => .bad) D σ H) : tAsg (tE K cn W A) (tgOf K g) D σ H := by
  obtain ⟨ρ, L, Do, ok, post⟩ := h
  refine ⟨ρ, L, Do, ok, PostO.first post fun t ρ1 v H1 La Lw e1 ok1 r1 st1 post1 => ?_⟩
  try dsimp only at post1
  cases eg : bindG g t ρ1 with
  | none => rw [eg] at post1; exact post1.elim
  | some ρ2 =>
    rw [eg] at post1
    exact bind_ok ok1 r1 eg fun σ2 L2 ok2 m2 hσ => post1 σ2 H1 L2 ok2 (st1.weak m2) fun j hj => hσ j fun q => hg j q hj
theorem t_ret {A : Env8 → R T} (D : Ends) (σ : St8) (H : Hp) (h : tS K cn W pr (fun ρ => ofR (A ρ) fun t ρ => .rt t ρ) D σ H) : tRet (tE K cn W A) D σ H := by
  obtain ⟨ρ, L, Do, ok, post⟩ := h
  exact ⟨ρ, L, Do, ok, PostO.first post fun t ρ1 v H1 La Lw e1 ok1 r1 st1 post1 => post1 σ v H1 La Lw ok1 r1 st1 fun _ _ => rfl⟩
theorem t_retN (D : Ends) (σ : St8) (H : Hp) (h : tS K cn W pr (fun ρ => .rt .non ρ) D σ H) : tRetN D σ H := by
  obtain ⟨ρ, L, Do, ok, post⟩ := h
  exact post σ .non H L [] ok .non (Stp.refl L H) fun _ _ => rfl
theorem t_next (D : Ends) (σ : St8) (H : Hp) (h : tS K cn W pr .nx D σ H) : tNext D σ H := by
  obtain ⟨ρ, L, Do, ok, post⟩ := h
  exact post σ H L ok (Stp.refl L H) fun _ _ => rfl
theorem t_break (D : Ends) (σ : St8) (H : Hp) (h : tS K cn W pr .bk D σ H) : tBreak D σ H := by
  obtain ⟨ρ, L, Do, ok, post⟩ := h
  exact post σ H L ok (Stp.refl L H) fun _ _ => rfl
theorem t_cont (D : Ends) (σ : St8) (H : Hp) (h : tS K cn W pr .ct D σ H) : tCont D σ H := by
  obtain ⟨ρ, L, Do, ok, post⟩ := h
  exact post σ H L ok (Stp.refl L H) fun _ _ => rfl
theorem t_ifs {A : Env8 → R Bool} {B C : Env8 → O} (D : Ends) (σ : St8) (H : Hp) (h : tS K cn W pr (fun ρ => ofR (A ρ) fun k ρ => if k then B ρ else C ρ) D σ H) : tIfS (tG K cn W relC A) (tS K cn W pr B) (tS K cn W pr C) D σ H := by
  obtain ⟨ρ, L, Do, ok, post⟩ := h
  refine ⟨ρ, L, Do, ok, PostO.first post fun k ρ1 k' H1 La Lw e1 ok1 ⟨ek, ev⟩ st1 post1 => ?_⟩
  subst ek ev
  rw [List.nil_append] at ok1 st1
  cases k' with
  | true => exact ⟨ρ1, La, Do, ok1, PostO.from (by simpa using post1) st1 fun _ _ => rfl⟩
  | false => exact ⟨ρ1, La, Do, ok1, PostO.from (by simpa using post1) st1 fun _ _ => rfl⟩
theorem t_par {is : List Nat} {A : Env8 → R (List T)} (hg : ∀ j ∈ is, j ∉ pr) (D : Ends) (σ : St8) (H : Hp) (h : tS K cn W pr (fun ρ => ofR (A ρ) fun ts ρ => if ts.length = is.length ∧ is.all (· < ρ.length) = true then .nx (setAll is ts ρ) else .bad) D σ H) :
    tG K cn W (relN K cn) A σ H fun vs H1 => vs.length = is.length ∧ D.nx (setV is vs σ) H1 := by
  obtain ⟨ρ, L, Do, ok, post⟩ := h
  refine ⟨ρ, L, Do, ok, PostO.first post fun ts ρ1 vs H1 La Lw e1 ok1 r1 st1 post1 => ?_⟩
  try dsimp only at post1
  split at post1
  · rename_i hl
    obtain ⟨L', ok2, hm⟩ := Ok8.putAll (is := is) ok1 r1 hl.1.symm (fun i z => by have := List.all_eq_true.mp hl.2 i z; simpa using this)
    exact ⟨r1.length.trans hl.1, post1 _ H1 L' ok2 (st1.weak hm) fun j hj => setV_out fun z => hg j z hj⟩
  · exact post1.elim
theorem Reps.set {v : V} {t : T} {n : Nat} : ∀ {vs : List V} {xs : List T} {M : List Addr} {y : T}, Reps K cn H D' vs xs M → xs[n]? = some y → isFz y = true → Rep K cn H D' v t Lw → ∃ M', Reps K cn H D' (vs.set n v) (xs.set n t) M' ∧ M'.Perm (Lw ++ M) := by
  induction n with
  | zero =>
    intro vs xs M y r e hz rv
    cases r with
    | nil => cases e
    | @cons v0 vs t0 ts L1 L2 r1 r2 =>
      have e' : t0 = y := by simpa using e
      subst e'
      have eL := r1.fzL hz
      subst eL
      exact ⟨Lw ++ L2, .cons rv r2, .refl _⟩
  | succ n ih =>
    intro vs xs M y r e hz rv
    cases r with
    | nil => cases e
    | @cons v0 vs t0 ts L1 L2 r1 r2 =>
      obtain ⟨M', r', p'⟩ := ih r2 (by simpa using e) hz rv
      refine ⟨L1 ++ M', .cons r1 r', ?_⟩
      refine (List.Perm.append_left L1 p').trans ?_
      rw [← List.append_assoc, ← List.append_assoc]
      exact List.Perm.append_right L2 List.perm_append_comm
theorem t_setix {A B : Env8 → R T} {i : Nat} (D : Ends) (σ : St8) (H : Hp) (h : tS K cn W pr (fun ρ => ofR (A ρ) fun t ρ => match slot ρ i with
    | some _ => ofR (B ρ) fun u ρ => (match slot ρ i, u with
      | some (.lst true xs), .int j => (match ixN xs.length j with
        | some n => (match xs[n]? with
          | some y => if isFz y then .nx (ρ.set i (some (.lst true (xs.set n t)))) else .bad
          | none => .bad)
        | none => .bad)
      | _, _ => .bad)
    | none => .bad) D σ H) : tAsg (tE K cn W A) (gSub (tVar i) (tE K cn W B) rSetL) D σ H := by
  obtain ⟨ρ, L, Do, ok, post⟩ := h
  refine ⟨ρ, L, Do, ok, PostO.first post fun t ρ1 v H1 La Lw e1 ok1 r1 st1 post1 => ?_⟩
  try dsimp only at post1
  cases es : slot ρ1 i with
  | none => rw [es] at post1; exact post1.elim
  | some t0 =>
    rw [es] at post1
    dsimp only at post1
    obtain ⟨v0, _, ev0, _⟩ := ok1.sl.get es
    refine ⟨v0, ev0, ρ1, La, Lw ++ Do, ok1, ?_⟩
    have st0 : Stp L H La H1 := st1.weak fun b z => List.mem_append_right _ z
    cases eb : B ρ1 with
    | bad => rw [eb] at post1; exact post1
    | exc x ρ2 =>
      rw [eb] at post1
      intro c d H2 Lb ok2 x2 st2
      refine post1 σ c d H2 Lb ok2.dropL (x2.mono (hide_mem fun b z => ?_)) (st0.trans st2) fun _ _ => rfl
      rcases List.mem_append.mp z with z | z
      · exact List.mem_append_left _ z
      · exact List.mem_append_right _ (List.mem_append_right _ z)
    | ok u ρ2 =>
      rw [eb] at post1
      intro w H2 Lb Lv ok2 r2 st2
      simp only [ofR] at post1
      have post2 := post1
      clear post1
      split at post2
      · rename_i xs j e2
        split at post2
        · rename_i m em
          split at post2
          · rename_i y ey
            split at post2
            · rename_i hz
              cases r2
              rw [List.nil_append] at ok2 st2
              have r1' : Rep K cn H2 (Lb ++ (Lw ++ Do)) v t Lw := r1.move (Lv := []) ok1 (by rw [List.nil_append]; exact st2) (fun a z => List.mem_append_left _ z) (fun b z => (List.mem_append.mp z).imp id fun q => .inl q) (fun a z => List.mem_append_right _ z)
              obtain ⟨v1, L1, Lr, ev1, ok3, ro, pm⟩ := ok2.aside e2
              have evv : v0 = v1 := by rw [ev1] at ev0; exact (Option.some.inj (Option.some.inj ev0)).symm
              subst evv
              have memD : ∀ b, b ∈ Lr ++ (L1 ++ (Lw ++ Do)) ↔ b ∈ Lb ++ (Lw ++ Do) := fun b => by
                simp only [List.mem_append, pm.mem_iff]
                constructor
                · rintro (h | h | h | h)
                  · exact .inl (.inr h)
                  · exact .inl (.inl h)
                  · exact .inr (.inl h)
                  · exact .inr (.inr h)
                · rintro ((h | h) | h | h)
                  · exact .inr (.inl h)
                  · exact .inl h
                  · exact .inr (.inr (.inl h))
                  · exact .inr (.inr (.inr h))
              have ro' := ro.same memD
              have rv' := r1'.same memD
              cases ro' with
              | @lstO a vs _ M hm ha rs =>
                refine ⟨a, vs, j, m, rfl, rfl, ha, by rw [rs.length]; exact em, ?_⟩
                have nd3 := ok3.nd
                obtain ⟨M', rs', pM⟩ := rs.set (t := t) ey hz rv'
                obtain ⟨ok4, k4⟩ := ok3.wr (p := a) (u := .lst (vs.set m v)) (List.mem_append_left _ (List.mem_cons_self ..))
                have naM : a ∉ M ∧ a ∉ Lw := by
                  have n2 := (List.nodup_append.mp nd3).2.1
                  have n4 : a ∉ M ++ (Lw ++ Do) := (List.nodup_cons.mp (show (a :: (M ++ (Lw ++ Do))).Nodup from n2)).1
                  exact ⟨fun z => n4 (List.mem_append_left _ z), fun z => n4 (List.mem_append_right _ (List.mem_append_left _ z))⟩
                have naM' : a ∉ M' := fun z => by
                  rcases List.mem_append.mp (pM.mem_iff.mp z) with q | q
                  · exact naM.2 q
                  · exact naM.1 q
                have pD : ((a :: M') ++ Do).Perm ((a :: M) ++ (Lw ++ Do)) := by
                  refine List.Perm.cons a (show (M' ++ Do).Perm (M ++ (Lw ++ Do)) from ?_)
                  rw [← List.append_assoc]
                  exact List.Perm.append_right Do (pM.trans List.perm_append_comm)
                have ok5 := ok4.perm pD
                have hmem : ∀ b, b ∈ Lr ++ ((a :: M') ++ Do) ↔ b ∈ Lr ++ ((a :: M) ++ (Lw ++ Do)) := fun b => by simp only [List.mem_append (s := Lr), pD.mem_iff]
                have rN : Rep K cn (upd H2 a (.lst (vs.set m v))) (Lr ++ ((a :: M') ++ Do)) (.ref a) (.lst true (xs.set m t)) (a :: M') := by
                  refine .lstO (List.mem_append_right _ (List.mem_append_left _ (List.mem_cons_self ..))) upd_same ?_
                  refine (rs'.mono k4 fun b z => ⟨upd_ne fun e => naM' (by rw [← e]; exact z), (rs'.own b z).1⟩).same hmem
                have hi : (ρ2.set i none)[i]? = some none := List.getElem?_set_self (List.getElem?_eq_some_iff.mp (slot_some e2)).1
                obtain ⟨L5, ok6, m6⟩ := Ok8.fill ok5 hi rN
                rw [set_self ev1, set_set_same] at ok6
                refine post2 σ _ L5 ok6 ⟨fun b o eb hn => ?_, fun b z => ?_⟩ fun _ _ => rfl
                · have q1 := st1.kp b o eb hn
                  have nb : b ∉ Lw ++ La := fun z => by
                    rcases st1.nw b z with q | q
                    · exact hn q
                    · rw [eb] at q; cases q
                  have q2 := st2.kp b o q1 fun z => nb (List.mem_append_right _ z)
                  have nb2 : b ∉ Lb := fun z => by
                    rcases st2.nw b z with q | q
                    · exact nb (List.mem_append_right _ q)
                    · rw [q1] at q; cases q
                  rw [upd_ne fun e => nb2 (pm.mem_iff.mpr (List.mem_append_left _ (by rw [e]; exact List.mem_cons_self ..)))]
                  exact q2
                · have old : b ∈ Lb → b ∈ L ∨ H b = none := fun z => by
                    rcases st2.nw b z with q | q
                    · exact st1.nw b (List.mem_append_right _ q)
                    · by_cases n : b ∈ L
                      · exact .inl n
                      · cases eb : H b with
                        | none => exact .inr rfl
                        | some o => rw [st1.kp b o eb n] at q; cases q
                  have z' := (m6 b).mp z
                  rcases List.mem_append.mp z' with z' | z'
                  · rcases List.mem_cons.mp z' with q | q
                    · exact old (pm.mem_iff.mpr (List.mem_append_left _ (by rw [q]; exact List.mem_cons_self ..)))
                    · rcases List.mem_append.mp (pM.mem_iff.mp q) with q | q
                      · exact st1.nw b (List.mem_append_left _ q)
                      · exact old (pm.mem_iff.mpr (List.mem_append_left _ (List.mem_cons_of_mem _ q)))
                  · exact old (pm.mem_iff.mpr (List.mem_append_right _ z'))
            · exact post2.elim
          · exact post2.elim
        · exact post2.elim
      · exact post2.elim
def relU : Rel Unit Unit := fun _ _ _ _ _ Lv => Lv = []
theorem t_sub0 {B : Env8 → R T} {i : Nat} {v : V} {t : T} {Q : St8 → Hp → Prop} (ok : Ok8 K cn Do σ ρ H L) (rv : Rep K cn H (L ++ Do) v t []) (post : PostG K cn W relU Do σ H L (stepSub i B t ρ) fun _ H' => Q σ H') : gSub (tVar i) (tE K cn W B) rSetL v σ H Q := by
  unfold stepSub at post
  split at post
  · rename_i t0 es
    obtain ⟨v0, L0, ev0, _⟩ := ok.sl.get es
    refine ⟨v0, ev0, ρ, L, Do, ok, ?_⟩
    cases eb : B ρ with
    | bad => rw [eb] at post; exact post
    | exc x ρ2 =>
      rw [eb] at post
      intro c d H2 Lb ok2 x2 st2
      exact post c d H2 Lb ok2 x2 st2
    | ok u ρ2 =>
      rw [eb] at post
      intro w H2 Lb Lv ok2 r2 st2
      simp only [R.bind] at post
      split at post
      · rename_i xs j e2
        split at post
        · rename_i m em
          split at post
          · rename_i y ey
            split at post
            · rename_i hz
              cases r2
              rw [List.nil_append] at ok2 st2
              have r1' : Rep K cn H2 (Lb ++ Do) v t [] := rv.mono (ok.hF st2 fun b z => (List.mem_append.mp z).elim .inl fun q => .inr (.inl q)) fun _ z => nomatch z
              obtain ⟨v1, L1, Lr, ev1, ok3, ro, pm⟩ := ok2.aside e2
              have evv : v0 = v1 := by rw [ev1] at ev0; exact (Option.some.inj (Option.some.inj ev0)).symm
              subst evv
              have memD : ∀ b, b ∈ Lr ++ (L1 ++ Do) ↔ b ∈ Lb ++ Do := fun b => by
                simp only [List.mem_append, pm.mem_iff]
                constructor
                · rintro (h | h | h)
                  · exact .inl (.inr h)
                  · exact .inl (.inl h)
                  · exact .inr h
                · rintro ((h | h) | h)
                  · exact .inr (.inl h)
                  · exact .inl h
                  · exact .inr (.inr h)
              have ro' := ro.same memD
              have rv' := r1'.same memD
              cases ro' with
              | @lstO a vs _ M hm ha rs =>
                refine ⟨a, vs, j, m, rfl, rfl, ha, by rw [rs.length]; exact em, ?_⟩
                have nd3 := ok3.nd
                obtain ⟨M', rs', pM⟩ := rs.set (t := t) ey hz rv'
                rw [List.nil_append] at pM
                obtain ⟨ok4, k4⟩ := ok3.wr (p := a) (u := .lst (vs.set m v)) (List.mem_append_left _ (List.mem_cons_self ..))
                have naM : a ∉ M := by
                  have n2 := (List.nodup_append.mp nd3).2.1
                  have n4 : a ∉ M ++ Do := (List.nodup_cons.mp (show (a :: (M ++ Do)).Nodup from n2)).1
                  exact fun z => n4 (List.mem_append_left _ z)
                have naM' : a ∉ M' := fun z => naM (pM.mem_iff.mp z)
                have pD : ((a :: M') ++ Do).Perm ((a :: M) ++ Do) := List.Perm.append_right Do (List.Perm.cons a pM)
                have ok5 := ok4.perm pD
                have hmem : ∀ b, b ∈ Lr ++ ((a :: M') ++ Do) ↔ b ∈ Lr ++ ((a :: M) ++ Do) := fun b => by simp only [List.mem_append (s := Lr), pD.mem_iff]
                have rN : Rep K cn (upd H2 a (.lst (vs.set m v))) (Lr ++ ((a :: M') ++ Do)) (.ref a) (.lst true (xs.set m t)) (a :: M') := by
                  refine .lstO (List.mem_append_right _ (List.mem_append_left _ (List.mem_cons_self ..))) upd_same ?_
                  refine (rs'.mono k4 fun b z => ⟨upd_ne fun e => naM' (by rw [← e]; exact z), (rs'.own b z).1⟩).same hmem
                have hi : (ρ2.set i none)[i]? = some none := List.getElem?_set_self (List.getElem?_eq_some_iff.mp (slot_some e2)).1
                obtain ⟨L5, ok6, m6⟩ := Ok8.fill ok5 hi rN
                rw [set_self ev1, set_set_same] at ok6
                refine post () _ L5 [] (by rw [List.nil_append]; exact ok6) rfl ?_
                rw [List.nil_append]
                refine ⟨fun b o eb hn => ?_, fun b z => ?_⟩
                · have q2 := st2.kp b o eb hn
                  have nb2 : b ∉ Lb := fun z => by
                    rcases st2.nw b z with q | q
                    · exact hn q
                    · rw [eb] at q; cases q
                  rw [upd_ne fun e => nb2 (pm.mem_iff.mpr (List.mem_append_left _ (by rw [e]; exact List.mem_cons_self ..)))]
                  exact q2
                · have z' := (m6 b).mp z
                  refine st2.nw b (pm.mem_iff.mpr ?_)
                  rcases List.mem_append.mp z' with z' | z'
                  · rcases List.mem_cons.mp z' with q | q
                    · exact List.mem_append_left _ (by rw [q]; exact List.mem_cons_self ..)
                    · exact List.mem_append_left _ (List.mem_cons_of_mem _ (pM.mem_iff.mp q))
                  · exact List.mem_append_right _ z'
            · exact post.elim
          · exact post.elim
        · exact post.elim
      · exact post.elim
  · exact post.elim
theorem PostO.stepU {r : R Unit} {f : Env8 → O} {D : Ends} {Q : Unit → Hp → Prop} {pr : List Nat} (h : PostO K cn W Do σ H L pr (ofR r fun _ ρ => f ρ) D) (k : ∀ ρ2 H2 Lb, r = .ok () ρ2 → Ok8 K cn Do σ ρ2 H2 Lb → Stp L H Lb H2 → PostO K cn W Do σ H L pr (f ρ2) D → Q () H2) : PostG K cn W relU Do σ H L r Q :=
  PostO.first h fun a ρ2 b H2 Lb Lv e ok2 r st2 q => by
    have e0 : Lv = [] := r
    subst e0
    rw [List.nil_append] at ok2 st2
    exact k ρ2 H2 Lb e ok2 st2 q
theorem t_set2 {A B1 B2 : Env8 → R T} {i : Nat} (D : Ends) (σ : St8) (H : Hp) (h : tS K cn W pr (fun ρ => ofR ((A ρ).bind fun t ρ => .ok (fz t) ρ) fun t ρ => (match t with
    | .tup [t1, t2] => ofR (stepSub i B1 t1 ρ) fun _ ρ => ofR (stepSub i B2 t2 ρ) fun _ ρ => .nx ρ
    | _ => .bad)) D σ H) : tAsg (tE K cn W fun ρ => (A ρ).bind fun t ρ => .ok (fz t) ρ) (gTup K 2 (gCons (gSub (tVar i) (tE K cn W B1) rSetL) (gCons (gSub (tVar i) (tE K cn W B2) rSetL) gNil))) D σ H := by
  obtain ⟨ρ, L, Do, ok, post⟩ := h
  refine ⟨ρ, L, Do, ok, PostO.first post fun t ρ1 v H1 La Lw e1 ok1 r1 st1 post1 => ?_⟩
  have hz : isFz t = true := by
    dsimp only at e1
    cases ea : A ρ with
    | ok t0 ρ0 => rw [ea] at e1; simp only [R.bind, R.ok.injEq] at e1; rw [← e1.1]; exact isFz_fz t0
    | exc x ρ0 => rw [ea] at e1; cases e1
    | bad => rw [ea] at e1; cases e1
  try dsimp only at post1
  split at post1
  · rename_i t1 t2
    cases r1 with
    | tup hs rs =>
      rename_i a vs
      cases rs with
      | @cons v1 _ _ _ L1 L2 q1 rs =>
        cases rs with
        | @cons v2 _ _ _ L3 L4 q2 rs =>
          cases rs
          have fz2 : isFz t1 = true ∧ isFz t2 = true := by simpa [isFz, isFzs] using hz
          have n1 := q1.fzL fz2.1
          have n2 := q2.fzL fz2.2
          subst n1 n2
          simp only [List.nil_append, List.append_nil] at ok1 q1 q2 st1 hs
          refine ⟨a, [v1, v2], rfl, unhT hs, rfl, v1, [v2], rfl, ?_⟩
          have post1' := PostO.from post1 st1 (fun _ _ => rfl)
          refine t_sub0 ok1 q1 (PostO.stepU post1' fun ρ2 H2 Lb e2 ok2 st2 post2 => ?_)
          have q2' : Rep K cn H2 (Lb ++ Do) v2 t2 [] := q2.mono (ok1.hF st2 fun b z => (List.mem_append.mp z).elim .inl fun q => .inr (.inl q)) fun _ z => nomatch z
          refine ⟨v2, [], rfl, ?_⟩
          have post2' := PostO.from post2 st2 (fun _ _ => rfl)
          refine t_sub0 ok2 q2' (PostO.stepU post2' fun ρ3 H3 Lc e3 ok3 st3 post3 => ?_)
          exact ⟨rfl, post3 σ H3 Lc ok3 st3 fun _ _ => rfl⟩
  · exact post1.elim
theorem Reps.snoc {v : V} {t : T} : ∀ {vs : List V} {xs : List T} {M : List Addr}, Reps K cn H D' vs xs M → Rep K cn H D' v t Lw → ∃ M', Reps K cn H D' (vs ++ [v]) (xs ++ [t]) M' ∧ M'.Perm (Lw ++ M)
  | _, _, _, .nil, rv => ⟨Lw ++ [], .cons rv .nil, .refl _⟩
  | _, _, _, .cons (L := L1) (L' := L2) r1 r2, rv => by
    obtain ⟨M', r', p'⟩ := Reps.snoc r2 rv
    refine ⟨L1 ++ M', .cons r1 r', ?_⟩
    refine (List.Perm.append_left L1 p').trans ?_
    rw [← List.append_assoc, ← List.append_assoc]
    exact List.Perm.append_right L2 List.perm_append_comm
theorem t_app {B : Env8 → R T} {i : Nat} (D : Ends) (σ : St8) (H : Hp) (h : tS K cn W pr (fun ρ => match slot ρ i with
    | some (.lst true _) => ofR (B ρ) fun t ρ => (match slot ρ i with
      | some (.lst true xs) => if xs.length < sizeLine then .nx (ρ.set i (some (.lst true (xs ++ [t])))) else .bad
      | _ => .bad)
    | _ => .bad) D σ H) : tDrop (tBM K "list" rAppend (tVar i) (tCons (tE K cn W B) tNil)) D σ H := by
  obtain ⟨ρ, L, Do, ok, post⟩ := h
  dsimp only at post
  split at post
  · rename_i xs0 es
    obtain ⟨v0, L0, ev0, r0⟩ := ok.sl.get es
    have ty : tyV K "list" v0 H := by
      cases r0 with
      | lstO hm ha rs => exact .inl ⟨rfl, _, .inl (.inl ha)⟩
    refine ⟨v0, ev0, ty, ρ, L, Do, ok, ?_⟩
    cases eb : B ρ with
    | bad => rw [eb] at post; exact post
    | exc x ρ2 =>
      rw [eb] at post
      intro c d H2 Lb ok2 x2 st2
      exact post σ c d H2 Lb ok2 x2 st2 fun _ _ => rfl
    | ok u ρ2 =>
      rw [eb] at post
      intro w H2 Lb Lv ok2 r2 st2
      simp only [ofR] at post
      have post2 := post
      clear post
      split at post2
      · rename_i xs e2
        split at post2
        · rename_i hlen
          obtain ⟨v1, L1, Lr, ev1, ok3, ro, pm⟩ := ok2.aside e2
          have evv : v0 = v1 := by rw [ev1] at ev0; exact (Option.some.inj (Option.some.inj ev0)).symm
          subst evv
          have memD : ∀ b, b ∈ Lr ++ (L1 ++ (Lv ++ Do)) ↔ b ∈ Lb ++ (Lv ++ Do) := fun b => by
            simp only [List.mem_append, pm.mem_iff]
            constructor
            · rintro (h | h | h | h)
              · exact .inl (.inr h)
              · exact .inl (.inl h)
              · exact .inr (.inl h)
              · exact .inr (.inr h)
            · rintro ((h | h) | h | h)
              · exact .inr (.inl h)
              · exact .inl h
              · exact .inr (.inr (.inl h))
              · exact .inr (.inr (.inr h))
          have ro' := ro.same memD
          have rv' := r2.same memD
          cases ro' with
          | @lstO a vs _ M hm ha rs =>
            refine ⟨a, vs, w, rfl, rfl, ha, by rw [rs.length]; exact hlen, ?_⟩
            have nd3 := ok3.nd
            obtain ⟨M', rs', pM⟩ := rs.snoc (t := u) rv'
            obtain ⟨ok4, k4⟩ := ok3.wr (p := a) (u := .lst (vs ++ [w])) (List.mem_append_left _ (List.mem_cons_self ..))
            have naM : a ∉ M ∧ a ∉ Lv := by
              have n2 := (List.nodup_append.mp nd3).2.1
              have n4 : a ∉ M ++ (Lv ++ Do) := (List.nodup_cons.mp (show (a :: (M ++ (Lv ++ Do))).Nodup from n2)).1
              exact ⟨fun z => n4 (List.mem_append_left _ z), fun z => n4 (List.mem_append_right _ (List.mem_append_left _ z))⟩
            have naM' : a ∉ M' := fun z => by
              rcases List.mem_append.mp (pM.mem_iff.mp z) with q | q
              · exact naM.2 q
              · exact naM.1 q
            have pD : ((a :: M') ++ Do).Perm ((a :: M) ++ (Lv ++ Do)) := by
              refine List.Perm.cons a (show (M' ++ Do).Perm (M ++ (Lv ++ Do)) from ?_)
              rw [← List.append_assoc]
              exact List.Perm.append_right Do (pM.trans List.perm_append_comm)
            have ok5 := ok4.perm pD
            have hmem : ∀ b, b ∈ Lr ++ ((a :: M') ++ Do) ↔ b ∈ Lr ++ ((a :: M) ++ (Lv ++ Do)) := fun b => by simp only [List.mem_append (s := Lr), pD.mem_iff]
            have rN : Rep K cn (upd H2 a (.lst (vs ++ [w]))) (Lr ++ ((a :: M') ++ Do)) (.ref a) (.lst true (xs ++ [u])) (a :: M') := by
              refine .lstO (List.mem_append_right _ (List.mem_append_left _ (List.mem_cons_self ..))) upd_same ?_
              refine (rs'.mono k4 fun b z => ⟨upd_ne fun e => naM' (by rw [← e]; exact z), (rs'.own b z).1⟩).same hmem
            have hi : (ρ2.set i none)[i]? = some none := List.getElem?_set_self (List.getElem?_eq_some_iff.mp (slot_some e2)).1
            obtain ⟨L5, ok6, m6⟩ := Ok8.fill ok5 hi rN
            rw [set_self ev1, set_set_same] at ok6
            refine post2 σ _ L5 ok6 ⟨fun b o eb hn => ?_, fun b z => ?_⟩ fun _ _ => rfl
            · have q2 := st2.kp b o eb hn
              have nb2 : b ∉ Lb := fun z => by
                rcases st2.nw b (List.mem_append_right _ z) with q | q
                · exact hn q
                · rw [eb] at q; cases q
              rw [upd_ne fun e => nb2 (pm.mem_iff.mpr (List.mem_append_left _ (by rw [e]; exact List.mem_cons_self ..)))]
              exact q2
            · have z' := (m6 b).mp z
              rcases List.mem_append.mp z' with z' | z'
              · rcases List.mem_cons.mp z' with q | q
                · exact st2.nw b (List.mem_append_right _ (pm.mem_iff.mpr (List.mem_append_left _ (by rw [q]; exact List.mem_cons_self ..))))
                · rcases List.mem_append.mp (pM.mem_iff.mp q) with q | q
                  · exact st2.nw b (List.mem_append_left _ q)
                  · exact st2.nw b (List.mem_append_right _ (pm.mem_iff.mpr (List.mem_append_left _ (List.mem_cons_of_mem _ q))))
              · exact st2.nw b (List.mem_append_right _ (pm.mem_iff.mpr (List.mem_append_right _ z')))
        · exact post2.elim
      · exact post2.elim
  · exact post.elim
theorem t_aug {A : Env8 → R T} {i : Nat} {f : Int → Int → Int} (hi : i ∉ pr) (D : Ends) (σ : St8) (H : Hp) (h : tS K cn W pr (fun ρ => match slot ρ i with
    | some (.int m) => ofR (A ρ) fun t ρ => (match t with
      | .int n => .nx (ρ.set i (some (.int (f m n))))
      | _ => .bad)
    | _ => .bad) D σ H) : tAug i (tE K cn W A) (ipI f) D σ H := by
  obtain ⟨ρ, L, Do, ok, post⟩ := h
  dsimp only at post
  split at post
  · rename_i m es
    obtain ⟨v, L1, e1, r⟩ := ok.sl.get es
    cases r
    refine ⟨_, e1, ρ, L, Do, ok, PostO.first post fun t ρ1 v H1 La Lw e1 ok1 r1 st1 post1 => ?_⟩
    split at post1
    · rename_i n
      cases r1
      rw [List.nil_append] at ok1 st1
      have hlt : i < ρ1.length := by
        rw [← ok1.sl.length, ok.sl.length]
        exact (List.getElem?_eq_some_iff.mp (slot_some es)).1
      obtain ⟨L', ok2, hm⟩ := Ok8.put (Lv := []) (v := .int (f m n)) (t := .int (f m n)) ok1 hlt (.int _)
      refine ⟨m, n, rfl, rfl, post1 _ H1 L' ok2 (st1.weak fun b z => by simpa using hm b z) fun j hj => ?_⟩
      exact List.getElem?_set_ne fun e => hi (by rw [e]; exact hj)
    · exact post1.elim
  · exact post.elim
end
end FT

end
section
set_option Elab.async false
set_option linter.all false
set_option maxRecDepth 100000
set_option maxHeartbeats 4000000
/-! FTTry: an error raised; a try with one handler that hands back a tuple. -/
namespace FT
open PySem PySem.Spec PyProof.Rows L2
section
variable {K : PySem.W.Frag} {cn : Nat → Addr} {H H' H0 H1 H2 H3 : Hp} {D' D0 Do Do' Dx : List Addr} {σ σ' σ0 : St8} {ρ ρ1 ρ' : Env8} {L L' L0 La Lb Lt Lv Lw : List Addr} {W : WX} {pr : List Nat} {D : Ends} {c : Nat} {i : Option Nat} {h : List HI}
theorem t_raise {r : CR} {f code : Str} (q : tS K cn W pr (raiseO r c f code) D σ H) : r = .ok .non [] ∧ ∀ d, H d = none → W (.ref (cn c)) (some d) σ (upd H d (.xd [(f, .str code)])) := by
  obtain ⟨ρ, L, Do, ok, post⟩ := q
  unfold raiseO at post
  split at post
  · refine ⟨rfl, fun d hd => ?_⟩
    obtain ⟨ok', kp, hh⟩ := ok.newN (u := .xd [(f, .str code)]) hd
    exact post σ _ _ _ L ok' (.mk (vs := [.str code]) rfl hh (.cons (L := []) (L' := []) (.str _) .nil)) ⟨fun b o e n => by rw [upd_ne (ne_of_none e hd)]; exact e, fun b z => .inl z⟩ fun _ _ => rfl
  · exact post.elim
/-! the handler's tuple -/
def tHI (a : Addr) (cls : Value) (d : Option Addr) (C : Addr) (j : Nat) : List HI → TA
  | [] => tNil
  | .s z :: r => tCons (tC (.str z)) (tHI a cls d C j r)
  | .at_ f :: r => tCons (tXf a cls d C f (tVar j)) (tHI a cls d C j r)
theorem look_if {α : Type} (f n : Str) (v : α) (r : List (Str × α)) : List.lookup f ((n, v) :: r) = if f = n then some v else r.lookup f := by
  rw [List.lookup_cons]
  by_cases q : f = n
  · subst q
    rw [if_pos rfl, beq_self_eq_true]
  · rw [if_neg q, beq_false_of_ne q]
theorem zip_look {f : Str} {t : T} : ∀ {ns : List Str} {vs : List V} {ts : List T} {L : List Addr}, Reps K cn H D' vs ts L → L = [] → (ns.zip ts).lookup f = some t → ∃ v, (ns.zip vs).lookup f = some v ∧ Rep K cn H D' v t []
  | [], _, _, _, _, _, e => by cases e
  | n :: ns, _, _, _, .nil, _, e => by cases e
  | n :: ns, v :: vs, t0 :: ts, _, .cons (L := L1) (L' := L2) r rs, hL, e => by
    obtain ⟨h1, h2⟩ := List.append_eq_nil_iff.mp hL
    subst h1
    have e' : (if f = n then some t0 else (ns.zip ts).lookup f) = some t := by
      rw [← e]
      exact (look_if f n t0 (ns.zip ts)).symm
    have g : List.lookup f ((n :: ns).zip (v :: vs)) = if f = n then some v else (ns.zip vs).lookup f := look_if f n v (ns.zip vs)
    by_cases q : f = n
    · rw [if_pos q] at e' g
      cases e'
      exact ⟨v, g, r⟩
    · rw [if_neg q] at e' g
      obtain ⟨u, e1, r1⟩ := zip_look rs h2 e'
      exact ⟨u, g.trans e1, r1⟩
theorem tHI_of {x : Ex8} {cls : Value} {d : Option Addr} {a : Addr} {j : Nat} (rx : ExR K cn H D' x cls d) (hc : x.c = c) : ∀ (h : List HI) {ts : List T}, hiTs x h = some ts → (∀ f, HI.at_ f ∈ h → σ[j]? = some (some (.ref a))) → ∃ vs, Reps K cn H D' vs ts [] ∧ ∀ Q : List V → Hp → Prop, Q vs H → tHI a cls d (cn c) j h σ H Q
  | [], ts, hs, _ => by
    cases hs
    exact ⟨[], .nil, fun Q q => q⟩
  | .s z :: r, ts, hs, hv => by
    have hs' : (match hiTs x r with | some ts => some (T.str z :: ts) | _ => none) = some ts := by
      rw [← hs]
      show _ = (match some (T.str z), hiTs x r with | some t, some ts => some (t :: ts) | _, _ => none)
      cases hiTs x r <;> rfl
    cases er : hiTs x r with
    | none => rw [er] at hs'; cases hs'
    | some us =>
      rw [er] at hs'
      cases hs'
      obtain ⟨vs, rv, hq⟩ := tHI_of rx hc r er fun f z => hv f (List.mem_cons_of_mem _ z)
      exact ⟨.str z :: vs, .cons (L := []) (L' := []) (.str z) rv, fun Q q => hq _ q⟩
  | .at_ f :: r, ts, hs, hv => by
    have hs' : (match (x.ns.zip x.vs).lookup f, hiTs x r with | some t, some ts => some (t :: ts) | _, _ => none) = some ts := hs
    cases el : (x.ns.zip x.vs).lookup f with
    | none => rw [el] at hs'; cases hs'
    | some t =>
      cases er : hiTs x r with
      | none => rw [el, er] at hs'; cases hs'
      | some us =>
        rw [el, er] at hs'
        cases hs'
        obtain ⟨vs, rv, hq⟩ := tHI_of rx hc r er fun f z => hv f (List.mem_cons_of_mem _ z)
        have hj := hv f (List.mem_cons_self ..)
        cases rx with
        | @mk d0 ws e1 e2 e3 =>
          obtain ⟨v, l1, r1⟩ := zip_look e3 rfl el
          exact ⟨v :: vs, .cons (L := []) (L' := []) r1 rv, fun Q q => ⟨.ref a, hj, rfl, by rw [hc], d0, _, v, rfl, (hide_some.mp e2).2, l1, hq _ q⟩⟩
def setI (i : Option Nat) (a : Addr) (σ : St8) : St8 := match i with
  | none => σ
  | some j => σ.set j (some (.ref a))
theorem hands_ok {x : Ex8} {cls : Value} {d : Option Addr} (ok : Ok8 K cn Do σ ρ H L) (rx : ExR K cn H (L ++ Do) x cls d) (post : PostO K cn W Do σ0 H0 L0 pr (hands c i h x ρ) D) (st : Stp L0 H0 L H) (hp : ∀ j ∈ pr, σ[j]? = σ0[j]?) (hi : ∀ j, i = some j → j ∉ pr) (hat : i = none → ∀ f, HI.at_ f ∉ h) :
    x.c = c ∧ ∀ a : Addr, tRet (tTup (tHI a cls d (cn c) (i.getD 0) h)) D (setI i a σ) H := by
  unfold hands at post
  split at post
  · rename_i hc
    refine ⟨hc, fun a => ?_⟩
    split at post
    · rename_i ts ρ1 hs hcl
      split at post
      · rename_i hl
        have key : ∃ L1, Ok8 K cn Do (setI i a σ) ρ1 H L1 ∧ (∀ b ∈ L1, b ∈ L) ∧ (∀ j ∈ pr, (setI i a σ)[j]? = σ0[j]?) ∧ (∀ f, HI.at_ f ∈ h → (setI i a σ)[i.getD 0]? = some (some (.ref a))) := by
          cases i with
          | none =>
            cases hcl
            exact ⟨L, ok, fun _ z => z, hp, fun f z => absurd z (hat rfl f)⟩
          | some j =>
            unfold clr at hcl
            dsimp only at hcl
            split at hcl
            · rename_i hj
              cases hcl
              obtain ⟨La, L1, Lb, eL, _, _, _, _, ok1⟩ := ok.empty hj (some (.ref a))
              refine ⟨La ++ Lb, ok1, fun b z => ?_, fun k hk => ?_, fun f z => ?_⟩
              · rw [eL]
                rcases List.mem_append.mp z with z | z
                · exact List.mem_append_left _ z
                · exact List.mem_append_right _ (List.mem_append_right _ z)
              · have ne : j ≠ k := fun e => hi j rfl (by rw [e]; exact hk)
                show (σ.set j (some (.ref a)))[k]? = _
                rw [List.getElem?_set_ne ne]
                exact hp k hk
              · show (σ.set j (some (.ref a)))[j]? = _
                exact List.getElem?_set_self (by rw [ok.sl.length]; exact hj)
            · cases hcl
        obtain ⟨L1, ok1, sub1, hp1, hv1⟩ := key
        have rx1 : ExR K cn H (L1 ++ Do) x cls d := rx.mono (hide_mem fun b z => (List.mem_append.mp z).elim (fun q => List.mem_append_left _ (sub1 b q)) fun q => List.mem_append_right _ q)
        obtain ⟨vs, rv, hq⟩ := tHI_of rx1 hc h hs hv1
        refine hq _ ⟨by rw [rv.length]; exact hl, fun p hp0 => ?_⟩
        obtain ⟨ok2, kp2, hh⟩ := ok1.newN (u := .tup vs) hp0
        refine post (setI i a σ) (.ref p) _ L1 [] ok2 (.tup (.inl (.inl hh)) (rv.mono kp2 fun _ z => nomatch z)) ⟨fun b o e n => ?_, fun b z => st.nw b (sub1 b z)⟩ hp1
        have e2 := st.kp b o e n
        rw [upd_ne (ne_of_none e2 hp0)]
        exact e2
      · exact post.elim
    · exact post.elim
  · exact post.elim
/-- the body of a try, by what is wanted of the whole -/
theorem t_try {b : Env8 → O} {Wn : WX} (q : tS K cn W pr (fun ρ => tryO c i h (b ρ)) D σ H) (hi : ∀ j, i = some j → j ∉ pr) (hat : i = none → ∀ f, HI.at_ f ∉ h)
    (hW : ∀ (d : Option Addr) (σ' : St8) (H' : Hp), (∀ a : Addr, tRet (tTup (tHI a (.ref (cn c)) d (cn c) (i.getD 0) h)) D (setI i a σ') H') → Wn (.ref (cn c)) d σ' H') : tS K cn Wn pr b D σ H := by
  obtain ⟨ρ, L, Do, ok, post⟩ := q
  have post : PostO K cn W Do σ H L pr (tryO c i h (b ρ)) D := post
  refine ⟨ρ, L, Do, ok, ?_⟩
  cases eb : b ρ with
  | nx ρ1 => rw [eb] at post; exact post
  | rt t ρ1 => rw [eb] at post; exact post
  | bk ρ1 => rw [eb] at post; exact post
  | ct ρ1 => rw [eb] at post; exact post
  | bad => rw [eb] at post; exact post
  | exc x ρ1 =>
    rw [eb] at post
    intro σ' cls d H' L' ok' rx st hp
    obtain ⟨hc, hq⟩ := hands_ok ok' rx (show PostO K cn W Do σ H L pr (hands c i h x ρ1) D from post) st hp hi hat
    cases rx with
    | @mk d0 ws e1 e2 e3 =>
      rw [hc] at hq ⊢
      exact hW _ σ' H' hq
end
end FT

end
section
set_option Elab.async false
set_option linter.all false
set_option maxRecDepth 100000
set_option maxHeartbeats 8000000
/-! FTOkS: that a statement of the small language is the text's own; the soundness. -/
namespace FT
open PySem PySem.Spec PyProof.Rows L2

def envS (sc : Scope) : Env := { scope := sc, locals := 0, globals := 0, cells := [] }
theorem ss_env {env : Env} {sc : Scope} {ts : List Expr} {v : Expr} (h : env.scope = sc) : swappedStores ts v env = swappedStores ts v (envS sc) := by
  unfold swappedStores Env.blockKind Env.kindOf
  rw [h]
  rfl
theorem sw_env {env : Env} {sc : Scope} {v : Expr} {t : Option Expr} {l : Nat} (h : env.scope = sc) : swapsWith v t l env = swapsWith v t l (envS sc) := by
  unfold swapsWith Env.blockKind Env.kindOf
  rw [h]
  rfl
def semB : Sem Bool → Option Bool
  | .pure b => some b
  | _ => none
theorem semB_ok {s : Sem Bool} {b : Bool} (h : semB s = some b) : s = pure b := by
  unfold semB at h
  split at h
  · cases h; rfl
  · cases h
def semN : Sem (Option (List Str)) → Option (Option (List Str))
  | .pure b => some b
  | _ => none
theorem semN_ok {s : Sem (Option (List Str))} {b : Option (List Str)} (h : semN s = some b) : s = pure b := by
  unfold semN at h
  split at h
  · cases h; rfl
  · cases h
def swB (Γ : Γ8) (v : Expr) (t : Option Expr) (l : Nat) (b : Bool) : Bool := semB (swapsWith v t l (envS Γ.sc)) == some b
def ssB (Γ : Γ8) (ts : List Expr) (v : Expr) (b : Option (List Str)) : Bool := semN (swappedStores ts v (envS Γ.sc)) == some b
def isLoc (Γ : Γ8) (i : Nat) (x : Str) : Bool := Γ.N[i]? == some x && (Γ.sc.names.lookup x == some .local && !Γ.pr.contains i)
/-- the shape of statements -/
def asAsg : Stmt → Option (Expr × Expr × Pos) | .Assign [t] e p => some (t, e, p) | _ => none
theorem asAsg_ok {s : Stmt} {t e : Expr} {p : Pos} (h : asAsg s = some (t, e, p)) : s = .Assign [t] e p := by
  unfold asAsg at h
  split at h
  · simp only [Option.some.injEq, Prod.mk.injEq] at h; obtain ⟨rfl, rfl, rfl⟩ := h; rfl
  · cases h
def isLC : E → Bool | .lc .. => true | _ => false
/-- a target that is no star and no list -/
def plainT : Expr → Bool | .Name .. => true | .Tuple .. => true | .Subscript .. => true | _ => false
def okHI (nm : Option Str) (f0 : Str) : List HI → List Expr → Bool
  | [], [] => true
  | .s z :: hs, .Constant (.str z') _ _ :: es => z == z' && okHI nm f0 hs es
  | .at_ f :: hs, .Attribute (.Name y _) f' _ :: es => nm == some y && (f == f' && (f == f0 && okHI nm f0 hs es))
  | _, _ => false
mutual
def okS : Γ8 → S → Stmt → Bool
  | _, .pass, s => match s with
    | .Pass _ => true
    | .Expr (.Constant (.str _) _ _) _ => true
    | _ => false
  | Γ, .expr e, s => match s with
    | .Expr x p => okE Γ e x && swB Γ x none p.line false
    | _ => false
  | Γ, .asg g e, s => match asAsg s with
    | some (t, x, p) => okG Γ g t && (okE Γ e x && (plainT t && ((swB Γ x (some t) p.line false && ssB Γ [t] x none) || (swB Γ x (some t) p.line true && (isLC e && (match g, t with
      | .nm i, .Name y _ => isLoc Γ i y
      | _, _ => false))))))
    | none => false
  | Γ, .par is es, s => match asAsg s with
    | some (t, v, p) => (match asTup t, asTup v with
      | some [t1, t2], some [v1, v2] => (match is, asName t1, asName t2 with
        | [i, j], some x, some y => isLoc Γ i x && (isLoc Γ j y && (i != j && (okEs Γ es [v1, v2] && (swB Γ v (some t) p.line false && ssB Γ [t] v (some [x, y])))))
        | _, _, _ => false)
      | some [t1, t2, t3], some [v1, v2, v3] => (match is, asName t1, asName t2, asName t3 with
        | [i, j, k], some x, some y, some z => isLoc Γ i x && (isLoc Γ j y && (isLoc Γ k z && (i != j && (i != k && (j != k && (okEs Γ es [v1, v2, v3] && (swB Γ v (some t) p.line false && ssB Γ [t] v (some [x, y, z]))))))))
        | _, _, _, _ => false)
      | _, _ => false)
    | none => false
  | Γ, .setix i k e, s => match asAsg s with
    | some (t, x, p) => (match asSub t with
      | some (o, kx) => (match asName o with
        | some y => isNm Γ i y && (plain kx && (okE Γ k kx && (okE Γ e x && (swB Γ x (some t) p.line false && ssB Γ [t] x none))))
        | none => false)
      | none => false)
    | none => false
  | Γ, .aug op i e, s => match s with
    | .AugAssign (.Name y _) o x _ => decide (o = op) && ((match op with | .Add => true | .Sub => true | _ => false) && (isSt Γ i y && (isVis Γ.sc y && okE Γ e x)))
    | _ => false
  | Γ, .ifs c a b, s => match s with
    | .If x p q _ => okC Γ c x && (okSs Γ a p && okSs Γ b q)
    | _ => false
  | Γ, .for_ g it b _, s => match s with
    | .For t x p [] _ => okG Γ g t && (okIt Γ it t x && (okSs Γ b p && plain x))
    | _ => false
  | Γ, .whil c b _, s => match s with
    | .While x p [] _ => okC Γ c x && okSs Γ b p
    | _ => false
  | Γ, .ret e, s => match s with
    | .Return (some x) _ => okE Γ e x
    | _ => false
  | _, .retN, s => match s with
    | .Return none _ => true
    | _ => false
  | _, .brk, s => match s with
    | .Break _ => true
    | _ => false
  | _, .cnt, s => match s with
    | .Continue _ => true
    | _ => false
  | _, .dead, _ => true
  | Γ, .set2 i k1 k2 e, s => match asAsg s with
    | some (t, x, p) => (match asTup t with
      | some [s1, s2] => (match asSub s1, asSub s2 with
        | some (o1, kx1), some (o2, kx2) => (match asName o1, asName o2 with
          | some y1, some y2 => isNm Γ i y1 && (isNm Γ i y2 && (plain kx1 && (plain kx2 && (okE Γ k1 kx1 && (okE Γ k2 kx2 && (okE Γ e x && (swB Γ x (some t) p.line false && ssB Γ [t] x none)))))))
          | _, _ => false)
        | _, _ => false)
      | _ => false)
    | none => false
  | Γ, .app i e, s => match s with
    | .Expr (.Call (.Attribute (.Name y np) a ap) [x] [] cp) p => isNm Γ i y && (a == ("append" : Str) && (plain x && (okE Γ e x && (swB Γ (.Call (.Attribute (.Name y np) a ap) [x] [] cp) none p.line false && ap.endLine == cp.line))))
    | _ => false
  | Γ, .raise0 c lv f code, s => match s with
    | .Raise (some (.Call (.Name x p) [] [] q)) none pos => decide (Γ.cls[c]? = some ⟨x, f, code⟩) && (lv == Γ.lv && isGl Γ x)
    | _ => false
  | Γ, .tryC b c lv i h, s => match s with
    | .Try body [.ExceptHandler (some (.Name x np)) nm [.Return (some (.Tuple es k tp)) rp] pos'] [] [] pos => okSs Γ b body && (lv == Γ.lv && (isGl Γ x && (match Γ.cls[c]? with
      | some ci => ci.name == x && (match i, nm with
        | none, none => okHI none ci.f h es
        | some j, some n => isLoc Γ j n && (isNm Γ j n && okHI (some n) ci.f h es)
        | _, _ => false)
      | none => false)))
    | _ => false
def okSs : Γ8 → Ss → List Stmt → Bool
  | _, .nil, [] => true
  | Γ, .cons s ss, x :: xs => okS Γ s x && okSs Γ ss xs
  | _, _, _ => false
end
section
variable {cn : Nat → Addr} {Φ : Nat → List T → CR} {n : Nat}
theorem swB_ok {Γ : Γ8} {X : Cx} {W : WX} (hx : Hx Γ cn Φ n X W) {v : Expr} {t : Option Expr} {l : Nat} {b : Bool} (h : swB Γ v t l b = true) : swapsWith v t l X.env = pure b := by
  rw [sw_env hx.sc]
  exact semB_ok (by unfold swB at h; simpa using h)
theorem ssB_ok {Γ : Γ8} {X : Cx} {W : WX} (hx : Hx Γ cn Φ n X W) {ts : List Expr} {v : Expr} {b : Option (List Str)} (h : ssB Γ ts v b = true) : swappedStores ts v X.env = pure b := by
  rw [ss_env hx.sc]
  exact semN_ok (by unfold ssB at h; simpa using h)
theorem isLoc_ok {Γ : Γ8} {X : Cx} {W : WX} (hx : Hx Γ cn Φ n X W) {i : Nat} {x : Str} (h : isLoc Γ i x = true) : X.N[i]? = some x ∧ X.env.scope.names.lookup x = some .local ∧ i ∉ Γ.pr := by
  unfold isLoc at h
  simp only [Bool.and_eq_true, Bool.not_eq_true', beq_iff_eq, List.contains_eq_mem, decide_eq_false_iff_not] at h
  rw [hx.N, hx.sc]
  exact h
theorem asg_one {X : Cx} {t : Expr} (h : plainT t = true) : (assignEach [t] X.env).map (·.2) = [assign t X.env] := by
  cases t <;> first | rfl | cases h
/-- x = [..], the list swapped in -/
theorem lc_asg {Γ : Γ8} {X : Cx} {W : WX} (hx : Hx Γ cn Φ n X W) {g : G} {it : It} {c : Oc} {e : E} {own : List Nat} {x : Expr} {y : Str} {py p : Pos} {i : Nat} (h : okE Γ (.lc g it c e own) x = true) (hl : isLoc Γ i y = true) (hs : swapsWith x (some (.Name y py)) p.line X.env = pure true) :
    PS X (.Assign [.Name y py] x p) (tAsg (tE X.K cn W (evalE Φ (.lc g it c e own))) (gName i)) := by
  simp only [okE] at h
  split at h
  · rename_i el tg ir ifs scope ey
    simp only [Bool.and_eq_true] at h
    obtain ⟨h1, h2, h3, h4, h5, h6, h7⟩ := h
    obtain ⟨pp, rfl⟩ := asLC_ok ey
    obtain ⟨l1, l2, l3⟩ := isLoc_ok hx hl
    have blk : BlkOk X.N X.env.scope scope (ownNm Γ own) := by
      rw [hx.N, hx.sc]
      exact blkOk_by h6
    have hj : ∀ j ∈ gIdx g, j ∈ own := fun j z => by
      have := List.all_eq_true.mp h7 j z
      simpa using this
    have z := ps_setLc (py := py) (spos := p) (elt := el) (te := tE X.K cn WF (evalE Φ e)) (tt := tG X.K cn WF relC (evalOc Φ c)) (g := tgOf X.K g) hx.calm hx.nd l1 l2 hs (sndIt it tg hx h2) blk (fun s H C cl fp => (g_ok (hx.blk s H scope C cl fp) h1).1) (fun s H C cl fp => sndOc c (hx.blk s H scope C cl fp) h3)
      (fun s H C cl fp => sndE e (hx.blk s H scope C cl fp) h4) (fold_of h5)
    rw [ownNm_snd] at z
    exact PS.imp z fun D σ H q => t_lc hj σ H _ (t_frzI σ H _ q)
  · cases h
theorem asg_sub {X : Cx} {y : Str} {p2 p1 : Pos} {kx : Expr} (h : plain kx = true) : ∀ v, assign (.Subscript (.Name y p2) kx p1) X.env v = (do
      let ov ← holding [v] (eval (.Name y p2) X.env)
      let iv ← holding [v, ov] (eval kx X.env)
      standAt p1
      holding [v, ov, iv] (setItem ov iv v)
      release [v, ov, iv] []) := by
  intro v
  cases kx <;> first | rfl | cases h
theorem app_pe {X : Cx} {y : Str} {np ap cp : Pos} {x : Expr} {to te : TE} (h : plain x = true) (hl : ap.endLine = cp.line) (ho : PE X (.Name y np) to) (he : PE X x te) : PE X (.Call (.Attribute (.Name y np) "append" ap) [x] [] cp) (tBM X.K "list" rAppend to (tCons te tNil)) := by
  have e1 : starEach [x] X.env = (false, eval x X.env) :: starEach [] X.env := by cases x <;> first | rfl | cases h
  refine pe_bm F.plainAttrs_list F.slot_list_append F.type_list_append mt_append ho (pa_cons he pa_nil e1) rfl ?_ (by rw [hl]; exact beq_self_eq_true _) e1 rfl
  rw [e1]
  rfl
theorem app_frz {K : PySem.W.Frag} {cn : Nat → Addr} {W : WX} {i : Nat} {A : Env8 → R T} (D : Ends) (σ : St8) (H : Hp) (h : tDrop (tBM K "list" rAppend (tVar i) (tCons (tE K cn W fun ρ => (A ρ).bind fun t ρ => .ok (fz t) ρ) tNil)) D σ H) : tDrop (tBM K "list" rAppend (tVar i) (tCons (tE K cn W A) tNil)) D σ H := by
  obtain ⟨v, e, ty, q⟩ := h
  exact ⟨v, e, ty, t_frz σ H _ q⟩
theorem okHI_no {f0 : Str} : ∀ (h : List HI) (es : List Expr), okHI none f0 h es = true → ∀ f, HI.at_ f ∉ h
  | [], _, _, f, z => nomatch z
  | .s z :: r, es, h, f, m => by
    cases es with
    | nil => cases h
    | cons e es =>
      unfold okHI at h
      split at h
      · cases ‹HI.s z :: r = []›
      · rename_i e1 e2
        simp only [Bool.and_eq_true] at h
        cases e1
        cases e2
        rcases List.mem_cons.mp m with q | q
        · cases q
        · exact okHI_no r _ h.2 f q
      · cases ‹HI.s z :: r = HI.at_ _ :: _›
      · cases h
  | .at_ g :: r, es, h, f, m => by
    unfold okHI at h
    split at h
    · cases ‹HI.at_ g :: r = []›
    · cases ‹HI.at_ g :: r = HI.s _ :: _›
    · simp at h
    · cases h
theorem hi_pa {X : Cx} {a C : Addr} {oe : Obj} {cls : Value} {d : Option Addr} {pn : List (Addr × Obj)} {nm : Option Str} {j : Nat} {f0 : Str} (T : XfC X.K C) (hno : PySem.W.findIn X.K (.ref C) f0 = some none) (hz : Zc cls d oe) (hf : ∃ vs, oe.data = .fields vs)
    (hn : ∀ y, nm = some y → X.N[j]? = some y ∧ Vis X.env.scope y ∧ (y == ("__debug__" : Str)) = false ∧ (y == ("__classdict__" : Str)) = false) : ∀ (h : List HI) (es : List Expr), okHI nm f0 h es = true → PA (X.suite a ((a, oe) :: pn)) es (tHI a cls d C j h)
  | [], es, h => by
    unfold okHI at h
    split at h
    · exact pa_nil
    · cases ‹[] = HI.s _ :: _›
    · cases ‹[] = HI.at_ _ :: _›
    · cases h
  | .s z :: r, es, h => by
    unfold okHI at h
    split at h
    · cases ‹HI.s z :: r = []›
    · rename_i e1
      cases e1
      simp only [Bool.and_eq_true, beq_iff_eq] at h
      obtain ⟨rfl, h2⟩ := h
      exact pa_cons pe_str (hi_pa T hno hz hf hn r _ h2)
    · cases ‹HI.s z :: r = HI.at_ _ :: _›
    · cases h
  | .at_ g :: r, es, h => by
    unfold okHI at h
    split at h
    · cases ‹HI.at_ g :: r = []›
    · cases ‹HI.at_ g :: r = HI.s _ :: _›
    · rename_i e1
      cases e1
      simp only [Bool.and_eq_true, beq_iff_eq] at h
      obtain ⟨h1, rfl, rfl, h4⟩ := h
      obtain ⟨n1, n2, n3, n4⟩ := hn _ h1
      exact pa_cons (pe_xf T hno hz hf (pe_var (X := X.suite a ((a, oe) :: pn)) n1 n2 n3 n4)) (hi_pa T hno hz hf hn r _ h4)
    · cases h
theorem Hx.tr {Γ : Γ8} {X : Cx} {W W' : WX} {pn : List (Addr × Obj)} {xe : Value → Shared → Prop} (hx : Hx Γ cn Φ n X W) (tk : Takes (X.tr pn xe) W') : Hx Γ cn Φ n (X.tr pn xe) W' where
  N := hx.N
  nd := hx.nd
  sc := hx.sc
  calm := hx.calm
  tk := tk
  room := hx.room
  st := hx.st
  fns := hx.fns
  kws := hx.kws
  blt := hx.blt
  cls := hx.cls
mutual
theorem sndS : ∀ (s : S) {Γ : Γ8} {X : Cx} {W : WX} {x : Stmt}, Hx Γ cn Φ n X W → PassesOwn (model X.prog X.w) X.A X.env X.xe → (X.stack = X.env :: X.outer ∧ X.env.frame = some X.env.locals) → okS Γ s x = true → PS X x (tS X.K cn W Γ.pr (execS Φ s))
  | .pass, Γ, X, W, x, hx, po, sx, h => by
    simp only [okS] at h
    split at h
    · exact PS.imp ps_pass fun D σ H q => t_next D σ H q
    · exact PS.imp ps_doc fun D σ H q => t_next D σ H q
    · cases h
  | .expr e, Γ, X, W, x, hx, po, sx, h => by
    simp only [okS] at h
    split at h
    · simp only [Bool.and_eq_true] at h
      exact PS.imp (ps_expr (sndE e hx h.1) (swB_ok hx h.2)) fun D σ H q => t_drop D σ H q
    · cases h
  | .asg g e, Γ, X, W, x, hx, po, sx, h => by
    simp only [okS] at h
    split at h
    · rename_i t v p ey
      have ex := asAsg_ok ey
      subst ex
      simp only [Bool.and_eq_true, Bool.or_eq_true] at h
      obtain ⟨h1, h2, h3, h4⟩ := h
      obtain ⟨pg, hg⟩ := g_ok hx h1
      rcases h4 with ⟨h4, h5⟩ | ⟨h4, h5, h6⟩
      · exact PS.imp (ps_asg (sndE e hx h2) pg (swB_ok hx h4) (ssB_ok hx h5) (asg_one h3)) fun D σ H q => t_asg hg D σ H q
      · split at h6
        · rename_i i y py
          cases e with
          | lc g' it c el own => exact PS.imp (lc_asg hx h2 h6 (swB_ok hx h4)) fun D σ H q => t_asg (g := .nm i) hg D σ H q
          | _ => cases h5
        · cases h6
    · cases h
  | .par is es, Γ, X, W, x, hx, po, sx, h => by
    simp only [okS] at h
    split at h
    · rename_i t v p ey
      have ex := asAsg_ok ey
      subst ex
      split at h
      · rename_i t1 t2 v1 v2 et ev
        split at h
        · rename_i i j x y e1 e2
          obtain ⟨kt, pt, rfl⟩ := asTup_ok et
          obtain ⟨kv, pv, rfl⟩ := asTup_ok ev
          obtain ⟨px, rfl⟩ := asName_ok e1
          obtain ⟨py, rfl⟩ := asName_ok e2
          simp only [Bool.and_eq_true, bne_iff_ne, ne_eq] at h
          obtain ⟨h1, h2, h3, h4, h5, h6⟩ := h
          obtain ⟨a1, a2, a3⟩ := isLoc_ok hx h1
          obtain ⟨b1, b2, b3⟩ := isLoc_ok hx h2
          refine PS.imp (ps_par hx.calm hx.nd a1 b1 h3 a2 b2 (sndEs es hx h4) (ssB_ok hx h6) (swB_ok hx h5)) fun D σ H q => ?_
          have z := t_par (is := [i, j]) (fun k hk => by
            rcases List.mem_cons.mp hk with e | hk
            · rw [e]; exact a3
            · rw [List.mem_singleton.mp hk]; exact b3) D σ H q
          obtain ⟨ρ, L, Do, ok, post⟩ := z
          refine ⟨ρ, L, Do, ok, ?_⟩
          cases eE : evalEs Φ es ρ with
          | bad => rw [eE] at post; exact post
          | exc x ρ2 => rw [eE] at post; exact post
          | ok ts ρ2 =>
            rw [eE] at post
            intro vs H' L' Lv ok' r' st'
            obtain ⟨hl, hd⟩ := post vs H' L' Lv ok' r' st'
            match vs, hl with
            | [v, w], _ => exact ⟨v, w, rfl, hd⟩
        · cases h
      · rename_i t1 t2 t3 v1 v2 v3 et ev
        split at h
        · rename_i i j k x y z e1 e2 e3
          obtain ⟨kt, pt, rfl⟩ := asTup_ok et
          obtain ⟨kv, pv, rfl⟩ := asTup_ok ev
          obtain ⟨px, rfl⟩ := asName_ok e1
          obtain ⟨py, rfl⟩ := asName_ok e2
          obtain ⟨pz, rfl⟩ := asName_ok e3
          simp only [Bool.and_eq_true, bne_iff_ne, ne_eq] at h
          obtain ⟨h1, h2, h3, h4, h5, h6, h7, h8, h9⟩ := h
          obtain ⟨a1, a2, a3⟩ := isLoc_ok hx h1
          obtain ⟨b1, b2, b3⟩ := isLoc_ok hx h2
          obtain ⟨c1, c2, c3⟩ := isLoc_ok hx h3
          refine PS.imp (ps_par3 hx.calm hx.nd a1 b1 c1 h4 h5 h6 a2 b2 c2 (sndEs es hx h7) (ssB_ok hx h9) (swB_ok hx h8)) fun D σ H q => ?_
          have z := t_par (is := [i, j, k]) (fun m hk => by
            rcases List.mem_cons.mp hk with e | hk
            · rw [e]; exact a3
            · rcases List.mem_cons.mp hk with e | hk
              · rw [e]; exact b3
              · rw [List.mem_singleton.mp hk]; exact c3) D σ H q
          obtain ⟨ρ, L, Do, ok, post⟩ := z
          refine ⟨ρ, L, Do, ok, ?_⟩
          cases eE : evalEs Φ es ρ with
          | bad => rw [eE] at post; exact post
          | exc x ρ2 => rw [eE] at post; exact post
          | ok ts ρ2 =>
            rw [eE] at post
            intro vs H' L' Lv ok' r' st'
            obtain ⟨hl, hd⟩ := post vs H' L' Lv ok' r' st'
            match vs, hl with
            | [u, v, w], _ => exact ⟨u, v, w, rfl, hd⟩
        · cases h
      · cases h
    · cases h
  | .setix i k e, Γ, X, W, x, hx, po, sx, h => by
    simp only [okS] at h
    split at h
    · rename_i t v p ey
      have ex := asAsg_ok ey
      subst ex
      split at h
      · rename_i o kx eo
        split at h
        · rename_i y en
          simp only [Bool.and_eq_true] at h
          obtain ⟨h1, hp, h2, h3, h4, h5⟩ := h
          obtain ⟨p1, rfl⟩ := asSub_ok eo
          obtain ⟨p2, rfl⟩ := asName_ok en
          exact PS.imp (ps_asg (sndE e hx h3) (pg_sub (nm_ok hx h1) (sndE k hx h2) set_list (asg_sub hp)) (swB_ok hx h4) (ssB_ok hx h5)) fun D σ H q => t_frz σ H _ (t_setix D σ H q)
        · cases h
      · cases h
    · cases h
  | .aug op i e, Γ, X, W, x, hx, po, sx, h => by
    simp only [okS] at h
    split at h
    · rename_i y py o v p
      simp only [Bool.and_eq_true, decide_eq_true_eq] at h
      obtain ⟨h1, h0, h2, h3, h4⟩ := h
      subst h1
      unfold isSt at h2
      simp only [Bool.and_eq_true, Bool.not_eq_true', beq_iff_eq, List.contains_eq_mem, decide_eq_false_iff_not] at h2
      obtain ⟨s1, s2⟩ := hx.st y h2.2.1
      cases o
      case Add =>
        refine PS.imp (ps_aug hx.nd (by rw [hx.N]; exact h2.1) (by rw [hx.sc]; exact s1) (sndE e hx h4) ip_add (by rw [hx.sc]; exact s2)) fun D σ H q => t_aug (f := fun i j => i + j) h2.2.2 D σ H ?_
        obtain ⟨ρ, L, Do, ok, post⟩ := q
        refine ⟨ρ, L, Do, ok, ?_⟩
        simp only [execS] at post
        dsimp only
        split at post
        · rename_i m es
          try simp only [es]
          cases ee : evalE Φ e ρ with
          | bad => rw [ee] at post; exact post
          | exc x ρ2 => rw [ee] at post; exact post
          | ok t ρ2 =>
            rw [ee] at post
            simp only [ofR] at post ⊢
            cases t <;> first | exact post | exact post.elim
        · exact post.elim
      case Sub =>
        refine PS.imp (ps_aug hx.nd (by rw [hx.N]; exact h2.1) (by rw [hx.sc]; exact s1) (sndE e hx h4) ip_sub (by rw [hx.sc]; exact s2)) fun D σ H q => t_aug (f := fun i j => i - j) h2.2.2 D σ H ?_
        obtain ⟨ρ, L, Do, ok, post⟩ := q
        refine ⟨ρ, L, Do, ok, ?_⟩
        simp only [execS] at post
        dsimp only
        split at post
        · rename_i m es
          try simp only [es]
          cases ee : evalE Φ e ρ with
          | bad => rw [ee] at post; exact post
          | exc x ρ2 => rw [ee] at post; exact post
          | ok t ρ2 =>
            rw [ee] at post
            simp only [ofR] at post ⊢
            cases t <;> first | exact post | exact post.elim
        · exact post.elim
      all_goals cases h0
    · cases h
  | .ifs c a b, Γ, X, W, x, hx, po, sx, h => by
    simp only [okS] at h
    split at h
    · simp only [Bool.and_eq_true] at h
      exact PS.imp (ps_if (sndC c hx h.1).1 (sndSs a hx po sx h.2.1) (sndSs b hx po sx h.2.2)) fun D σ H q => t_ifs D σ H q
    · cases h
  | .for_ g it b ks, Γ, X, W, x, hx, po, sx, h => by
    simp only [okS] at h
    split at h
    · rename_i t v p pos
      simp only [Bool.and_eq_true] at h
      obtain ⟨h1, h2, h3, h4⟩ := h
      obtain ⟨pg, hg⟩ := g_ok hx h1
      exact PS.imp (ps_for po hx.calm (sndIt it t hx h2) pg (sndSs b hx po sx h3) (fold_of h4)) fun D σ H q => t_for hg D σ H q
    · cases h
  | .whil c b ks, Γ, X, W, x, hx, po, sx, h => by
    simp only [okS] at h
    split at h
    · simp only [Bool.and_eq_true] at h
      exact PS.imp (ps_while po (sndC c hx h.1).1 (sndSs b hx po sx h.2)) fun D σ H q => t_while D σ H q
    · cases h
  | .ret e, Γ, X, W, x, hx, po, sx, h => by
    simp only [okS] at h
    split at h
    · exact PS.imp (ps_ret (sndE e hx h)) fun D σ H q => t_ret D σ H q
    · cases h
  | .retN, Γ, X, W, x, hx, po, sx, h => by
    simp only [okS] at h
    split at h
    · exact PS.imp ps_retN fun D σ H q => t_retN D σ H q
    · cases h
  | .brk, Γ, X, W, x, hx, po, sx, h => by
    simp only [okS] at h
    split at h
    · exact PS.imp ps_break fun D σ H q => t_break D σ H q
    · cases h
  | .cnt, Γ, X, W, x, hx, po, sx, h => by
    simp only [okS] at h
    split at h
    · exact PS.imp ps_continue fun D σ H q => t_cont D σ H q
    · cases h
  | .dead, Γ, X, W, x, hx, po, sx, h => ⟨fun pins s σ H D I q => by
    obtain ⟨ρ, L, Do, ok, z⟩ := q
    exact z.elim⟩
  | .set2 i k1 k2 e, Γ, X, W, x, hx, po, sx, h => by
    simp only [okS] at h
    split at h
    · rename_i t v p ey
      have ex := asAsg_ok ey
      subst ex
      split at h
      · rename_i s1 s2 et
        split at h
        · rename_i o1 kx1 o2 kx2 e1 e2
          split at h
          · rename_i y1 y2 n1 n2
            obtain ⟨kt, pt, rfl⟩ := asTup_ok et
            obtain ⟨q1, rfl⟩ := asSub_ok e1
            obtain ⟨q2, rfl⟩ := asSub_ok e2
            obtain ⟨m1, rfl⟩ := asName_ok n1
            obtain ⟨m2, rfl⟩ := asName_ok n2
            simp only [Bool.and_eq_true] at h
            obtain ⟨h1, h2, h3, h4, h5, h6, h7, h8, h9⟩ := h
            exact PS.imp (ps_asg (sndE e hx h7) (pg_tup (n := 2) hx.calm (pgs_cons (pg_sub (nm_ok hx h1) (sndE k1 hx h5) set_list (asg_sub h3)) (pgs_cons (pg_sub (nm_ok hx h2) (sndE k2 hx h6) set_list (asg_sub h4)) pgs_nil rfl) rfl) rfl rfl) (swB_ok hx h8) (ssB_ok hx h9)) fun D σ H q => t_frz σ H _ (t_set2 D σ H q)
          · cases h
        · cases h
      · cases h
    · cases h
  | .app i e, Γ, X, W, x, hx, po, sx, h => by
    simp only [okS] at h
    split at h
    · rename_i y np a ap x cp p
      simp only [Bool.and_eq_true, beq_iff_eq] at h
      obtain ⟨h1, rfl, hp, h3, h4, h5⟩ := h
      exact PS.imp (ps_expr (app_pe hp h5 (nm_ok hx h1) (sndE e hx h3)) (swB_ok hx h4)) fun D σ H q => app_frz D σ H (t_app D σ H q)
    · cases h
  | .raise0 c lv f code, Γ, X, W, x, hx, po, sx, h => by
    simp only [okS] at h
    split at h
    · rename_i y p q pos
      simp only [Bool.and_eq_true, decide_eq_true_eq, beq_iff_eq] at h
      obtain ⟨h1, h2, h3⟩ := h
      subst h2
      obtain ⟨g1, g2, g3⟩ := gl_ok hx h3
      by_cases hΦ : Φ Γ.lv [] = .ok .non []
      · exact PS.imp (ps_raise hx.calm hx.tk (pmk_zf (hx.cls c _ h1 hΦ) (passes_call hx.tk fun _ _ _ _ z => z.elim) g1 g3)) fun D σ H q => (t_raise q).2
      · exact ⟨fun pins s σ H D I q => absurd (t_raise q).1 hΦ⟩
    · cases h
  | .tryC b c lv i h0, Γ, X, W, x, hx, po, sx, h => by
    simp only [okS] at h
    split at h
    · rename_i body y np nm es k tp rp pos' pos
      simp only [Bool.and_eq_true, beq_iff_eq] at h
      obtain ⟨h1, h2, h3, h4⟩ := h
      subst h2
      obtain ⟨g1, g2, g3⟩ := gl_ok hx h3
      by_cases hΦ : Φ Γ.lv [] = .ok .non []
      case neg =>
        refine ⟨fun pins s σ H D I q => ?_⟩
        obtain ⟨ρ, L, Do, ok, post⟩ := q
        simp only [execS, tryL] at post
        exact post.elim
      case pos =>
      have ev : ∀ {D σ H}, tS X.K cn W Γ.pr (execS Φ (.tryC b c Γ.lv i h0)) D σ H → tS X.K cn W Γ.pr (fun ρ => tryO c i h0 (execSs Φ b ρ)) D σ H := fun {D σ H} q => by
        obtain ⟨ρ, L, Do, ok, post⟩ := q
        refine ⟨ρ, L, Do, ok, ?_⟩
        simp only [execS, tryL, hΦ] at post
        exact post
      split at h4
      · rename_i ci ec
        simp only [Bool.and_eq_true, beq_iff_eq] at h4
        obtain ⟨e5, h5⟩ := h4
        have Z := hx.cls c ci ec hΦ
        rw [e5] at Z
        split at h5
        · have z := ps_try_only (x := y) (body := body) (tb := fun W' => tS X.K cn W' Γ.pr (execSs Φ b)) (pos := pos) (pos' := pos') (np := np) (ts := fun a cls d => tRet (tTup (tHI a cls d (cn c) 0 h0))) sx.1 sx.2 ⟨g1, g3, .inl Z.gl⟩ hx.tk (fun W' pn xe tk' po' => sndSs b (hx.tr tk') po' sx h1) (fun a oe cls d pn hz hf => pss_one (ps_ret (pos := rp) (pe_tup (x1 := k) (pos := tp) (hi_pa (nm := none) Z.xf Z.no hz hf (fun y e => nomatch e) h0 es h5))))
          exact PS.imp z fun D σ H q => t_try (ev q) (fun j e => nomatch e) (fun _ => okHI_no h0 es h5) fun d σ' H' hq => ⟨true, Z.cls.exm, fun _ a _ => hq a, fun z => nomatch z⟩
        · rename_i j nn
          simp only [Bool.and_eq_true] at h5
          obtain ⟨h6, h7, h8⟩ := h5
          obtain ⟨l1, l2, l3⟩ := isLoc_ok hx h6
          have nmv : X.N[j]? = some nn ∧ Vis X.env.scope nn ∧ (nn == ("__debug__" : Str)) = false ∧ (nn == ("__classdict__" : Str)) = false := by
            unfold isNm isVis at h7
            simp only [Bool.and_eq_true, Bool.or_eq_true, Bool.not_eq_true', beq_iff_eq] at h7
            exact ⟨l1, .inl l2, h7.2.2.1, h7.2.2.2⟩
          have z := ps_try_as (x := y) (n := nn) (body := body) (tb := fun W' => tS X.K cn W' Γ.pr (execSs Φ b)) (pos := pos) (pos' := pos') (np := np) (ts := fun a cls d => tRet (tTup (tHI a cls d (cn c) j h0))) sx.1 sx.2 hx.nd l1 l2 ⟨g1, g3, .inl Z.gl⟩ hx.tk (fun W' pn xe tk' po' => sndSs b (hx.tr tk') po' sx h1) (fun a oe cls d pn hz hf => pss_one (ps_ret (pos := rp) (pe_tup (x1 := k) (pos := tp) (hi_pa (nm := some nn) Z.xf Z.no hz hf (fun y e => by cases e; exact nmv) h0 es h8))))
          exact PS.imp z fun D σ H q => t_try (ev q) (fun j' e => by cases e; exact l3) (fun e => nomatch e) fun d σ' H' hq => ⟨true, Z.cls.exm, fun _ a _ => hq a, fun z => nomatch z⟩
        · cases h5
      · cases h4
    · cases h
theorem sndSs : ∀ (ss : Ss) {Γ : Γ8} {X : Cx} {W : WX} {xs : List Stmt}, Hx Γ cn Φ n X W → PassesOwn (model X.prog X.w) X.A X.env X.xe → (X.stack = X.env :: X.outer ∧ X.env.frame = some X.env.locals) → okSs Γ ss xs = true → PSs X xs (tS X.K cn W Γ.pr (execSs Φ ss))
  | .nil, Γ, X, W, xs, hx, po, sx, h => by
    cases xs with
    | nil => exact PSs.imp pss_nil fun D σ H q => t_next D σ H q
    | cons _ _ => simp only [okSs] at h; cases h
  | .cons s ss, Γ, X, W, xs, hx, po, sx, h => by
    cases xs with
    | nil => simp only [okSs] at h; cases h
    | cons x xs =>
      simp only [okSs, Bool.and_eq_true] at h
      exact PSs.imp (pss_cons (sndS s hx po sx h.1) (sndSs ss hx po sx h.2)) fun D σ H q => t_seq D σ H q
end
end
end FT

end
section
set_option Elab.async false
set_option linter.all false
set_option maxRecDepth 100000
set_option maxHeartbeats 4000000
/-! FTZf2: the making of such an error is what its text says. -/
namespace FT
open PySem PySem.Spec PyProof.Rows L2
def zfBody (sc : Scope) (y f code : Str) : List Stmt → Bool
  | [.Assign [.Attribute (.Name y' np) f' ap] (.Constant (.str z) j cp) p] => y' == y && (f' == f && (z == code && (semB (swapsWith (.Constant (.str z) j cp) (some (.Attribute (.Name y' np) f' ap)) p.line (envS sc)) == some false && (isVis sc y && (!(y == ("__debug__" : Str)) && !(y == ("__classdict__" : Str)))))))
  | _ => false
theorem zf_fn {P : Program} {w : World} {K : PySem.W.Frag} {mg : Str → Option Value} {base : Heap} {CX : CXT} {x qual y f code : Str} {params : Arguments} {body : List Stmt} {scope : Scope} {dvs : List V} {kws : List (Str × V)} {C fI : Addr} {fd : FuncData} (k : Nat)
    (F : FunD K x qual params body scope dvs kws fI fd) (S : FnScope [y] [y] scope) (hb : zfBody scope y f code body = true) : FnOk P w K mg base CX (k + 1) fI fd [y] (spZ K C f code) := by
  refine F.ok S (fun vs H Q E h => ?_) fun cdv A outer s H vs Q E hr h => ?_
  · obtain ⟨a, e, _⟩ := h
    rw [e]; rfl
  · unfold zfBody at hb
    split at hb
    · rename_i y' np f' ap z j cp p
      simp only [Bool.and_eq_true, beq_iff_eq, Bool.not_eq_true'] at hb
      obtain ⟨rfl, rfl, rfl, h4, h5, h6, h7⟩ := hb
      refine ⟨_, pss_one (ps_zst (pe_var (i := 0) rfl (by
        unfold isVis at h5
        simp only [Bool.or_eq_true, beq_iff_eq] at h5
        exact h5) h6 h7) pe_str (by
        exact (sw_env (sc := scope) rfl).trans (semB_ok h4))), ?_⟩
      obtain ⟨a, e, Z, ea, q⟩ := h
      subst e
      exact ⟨.ref a, rfl, a, C, rfl, Z, ea, fun dx n ne => q dx n ne⟩
    · cases hb
/-! classes, as the head's look tells of them -/
def iniA (K : PySem.W.Frag) (x : Str) : Addr := He.ma K (He.ga K x) "__init__"
def zfAll (K : PySem.W.Frag) (ci : ClI) : Bool := zfB K (He.ga K ci.name) ci.f && (xfB K (He.ga K ci.name) && (decide (PySem.W.findIn K (.ref (He.ga K ci.name)) ci.f = some none) && (decide (PySem.W.nsIn K mainGlobals ci.name = some (some (.ref (He.ga K ci.name)))) &&
  (decide (PySem.W.findIn K (.ref (He.ga K ci.name)) "__init__" = some (some (.ref (iniA K ci.name)))) && decide (PySem.W.typeIn K (.ref (iniA K ci.name)) = some (.type "function"))))))
def obsZ (cls : List ClI) (fa : List He.Fa) (fn : List He.DefD) (K : PySem.W.Frag) : Bool × He.AlD := (cls.all fun ci => zfAll K ci, He.obsD fa fn K)
def obsZG (n : Nat) (cls : List ClI) (fa : List He.Fa) (fn : List He.DefD) (g : Addr → Option Obj) : Bool × He.AlD := obsZ cls fa fn (He.frG g (He.asD g n))
def hookZ (n : Nat) (cls : List ClI) (fa : List He.Fa) (fn : List He.DefD) : PySem.W.Hook := { α := Bool × He.AlD, obs := fun s => obsZG n cls fa fn s.heap.get?, val := fun _ => (true, He.valD fn), says := fun _ h => ∃ K : PySem.W.Frag, K.In h ∧ obsZ cls fa fn K = (true, He.valD fn), of := fun _ _ e => ⟨_, He.frG_in, e⟩, keeps := fun _ _ _ ⟨K, i, c⟩ k => ⟨K, PySem.W.Frag.In.keeps i k, c⟩ }
theorem obsZ_eq {n : Nat} {cls : List ClI} {fa : List He.Fa} {fn : List He.DefD} {g : Addr → Option Obj} {s : Shared} (h : ∀ a, g a = s.heap.get? a) : obsZG n cls fa fn g = (hookZ n cls fa fn).obs s := by
  rw [show g = s.heap.get? from funext h]
  rfl
/-- what is known of a class of errors -/
def ClsT (K : PySem.W.Frag) (mg : Str → Option Value) (ci : ClI) (C : Addr) : Prop := ZfC K C ci.f ∧ XfC K C ∧ PySem.W.findIn K (.ref C) ci.f = some none ∧ mg ci.name = some (.ref C) ∧
  ∃ (fI : Addr) (fd : FuncData) (y x qual : Str) (params : Arguments) (body : List Stmt) (scope : Scope), PySem.W.findIn K (.ref C) "__init__" = some (some (.ref fI)) ∧ PySem.W.typeIn K (.ref fI) = some (.type "function") ∧ FunD K x qual params body scope [] [] fI fd ∧ Binds K fd [y] [] ∧ FnScope [y] [y] scope ∧ zfBody scope y ci.f ci.code body = true
theorem zfAll_ok {K : PySem.W.Frag} {h : Heap} {mg : Str → Option Value} {ci : ClI} {fd : FuncData} {y x qual : Str} {params : Arguments} {body : List Stmt} {scope : Scope} (X : K.In h) (G : h.Ns mainGlobals mg) (c : zfAll K ci = true) (F : FunD K x qual params body scope [] [] (iniA K ci.name) fd) (b : Binds K fd [y] []) (S : FnScope [y] [y] scope) (hb : zfBody scope y ci.f ci.code body = true) : ClsT K mg ci (He.ga K ci.name) := by
  unfold zfAll at c
  simp only [Bool.and_eq_true, decide_eq_true_eq] at c
  obtain ⟨c1, c2, c3, c4, c5, c6⟩ := c
  exact ⟨zfB_ok c1, xfB_ok c2, c3, PySem.W.mg_of X G c4, _, fd, y, x, qual, params, body, scope, c5, c6, F, b, S, hb⟩
end FT

end
section
set_option Elab.async false
set_option linter.all false
set_option maxRecDepth 100000
set_option maxHeartbeats 8000000
/-! FTTop: every def keeps what the reckoner says of it. -/
namespace FT
open PySem PySem.Spec PyProof.Rows L2

section
variable {K : PySem.W.Frag} {cn : Nat → Addr} {H H' H0 H1 H2 H3 : Hp} {D D' D0 Do Do' Dx : List Addr} {σ σ' : St8} {ρ ρ1 ρ' : Env8} {L L' La Lb Lt Lv Lw : List Addr} {W : WX}
theorem slots_rep : ∀ n : Nat, Slots K cn H D (List.replicate n none) (List.replicate n none) []
  | 0 => .nil
  | n + 1 => .un (slots_rep n)
theorem Reps.slots {n : Nat} : ∀ {vs : List V} {ts : List T} {L : List Addr}, Reps K cn H D vs ts L → Slots K cn H D (vs.map some ++ List.replicate n none) (ts.map some ++ List.replicate n none) L
  | _, _, _, .nil => slots_rep n
  | _, _, _, .cons h r => .va h r.slots
/-- what the lent names hold at the end -/
theorem backs_reps : ∀ {io : List Nat} {ws : List V} {bs : List T} {ρ : Env8} {L Do : List Addr}, Ok8 K cn Do σ ρ H L → backs io ρ = some bs → nodupN io = true → ws.length = io.length → (∀ (j i : Nat), io[j]? = some i → ∃ v, ws[j]? = some v ∧ σ[i]? = some (some v)) →
    ∃ L', Reps K cn H (L' ++ Do) ws bs L' ∧ (L' ++ Do).Nodup ∧ ∀ b ∈ L', b ∈ L
  | [], ws, bs, ρ, L, Do, ok, e, _, hl, _ => by
    cases e
    cases ws with
    | nil => exact ⟨[], .nil, ok.ndD, fun _ z => nomatch z⟩
    | cons _ _ => cases hl
  | i :: io, ws, bs, ρ, L, Do, ok, e, nd, hl, hv => by
    have nd2 : (!io.contains i && nodupN io) = true := nd
    simp only [Bool.and_eq_true, Bool.not_eq_true', List.contains_eq_mem, decide_eq_false_iff_not] at nd2
    have e' : (match slot ρ i, backs io ρ with | some t, some ts => some (t :: ts) | _, _ => none) = some bs := e
    cases es : slot ρ i with
    | none => rw [es] at e'; cases e'
    | some t =>
      cases eb : backs io ρ with
      | none => rw [es, eb] at e'; cases e'
      | some ts =>
        rw [es, eb] at e'
        cases e'
        cases ws with
        | nil => cases hl
        | cons w ws =>
          obtain ⟨v, L1, L2', e1, ok1, r1, pm⟩ := ok.aside es
          obtain ⟨u, q1, q2⟩ := hv 0 i rfl
          have eu : w = u := by simpa using q1
          subst eu
          have ev : v = w := by rw [e1] at q2; exact Option.some.inj (Option.some.inj q2)
          subst ev
          have hb : ∀ {io : List Nat}, i ∉ io → backs io (ρ.set i none) = backs io ρ := by
            intro io
            induction io with
            | nil => intro _; rfl
            | cons k io ih =>
              intro h
              have h1 : i ≠ k := fun e => h (by rw [e]; exact List.mem_cons_self ..)
              unfold backs
              rw [slot_set_ne h1, ih fun z => h (List.mem_cons_of_mem _ z)]
          obtain ⟨L3, r3, n3, s3⟩ := backs_reps (io := io) ok1 (by rw [hb nd2.1]; exact eb) nd2.2 (by simpa using hl) (fun j k hj => by simpa using hv (j + 1) k (by simpa using hj))
          have pD : ((L1 ++ L3) ++ Do).Perm (L3 ++ (L1 ++ Do)) := by
            rw [← List.append_assoc]
            exact List.Perm.append_right Do List.perm_append_comm
          refine ⟨L1 ++ L3, .cons (r1.mono (hide_mem fun b z => ?_) fun a z => ⟨rfl, List.mem_append_left _ (List.mem_append_left _ z)⟩) (r3.same fun b => pD.mem_iff), pD.nodup_iff.mpr n3, fun b z => ?_⟩
          · simp only [List.mem_append] at z ⊢
            rcases z with (z | z) | z
            · exact .inl (pm.mem_iff.mpr (List.mem_append_left _ z))
            · exact .inl (pm.mem_iff.mpr (List.mem_append_right _ (s3 b z)))
            · exact .inr z
          · rcases List.mem_append.mp z with z | z
            · exact pm.mem_iff.mpr (List.mem_append_left _ z)
            · exact pm.mem_iff.mpr (List.mem_append_right _ (s3 b z))
theorem pickV_len (io : List Nat) (vs : List V) : (pickV io vs).length = io.length := by unfold pickV; rw [List.length_map]
end

def fnScopeC (N ps : List Str) (sc : Scope) : Bool :=
  decide (sc.kind = .function) && (!sc.isCoroutine && (!sc.isGenerator && (decide N.Nodup && (decide (N.take ps.length = ps) && (ps.all (fun x => sc.names.lookup x == some .local || sc.names.lookup x == some .cell) && sc.names.all fun y => decide (y.2 ≠ .free))))))
theorem fnScope_ok {N ps : List Str} {sc : Scope} (h : fnScopeC N ps sc = true) : FnScope N ps sc := by
  unfold fnScopeC at h
  simp only [Bool.and_eq_true, decide_eq_true_eq, Bool.not_eq_true', List.all_eq_true, Bool.or_eq_true, beq_iff_eq] at h
  obtain ⟨h1, h2, h3, h4, h5, h6, h7⟩ := h
  exact ⟨h1, h2, h3, h4, h5, h6, h7⟩
def Γof (fis : List FnI) (kws : List KwI) (cls : List ClI) (lv : Nat) (N : List Str) (sc : Scope) (io : List Nat) : Γ8 where
  N := N
  sc := sc
  stor := fun x => sc.names.lookup x == some .local || sc.names.lookup x == some .cell
  pr := io
  fns := fis
  kws := kws
  cls := cls
  lv := lv
def fnC (fis : List FnI) (kws : List KwI) (cls : List ClI) (lv : Nat) (fi : FnI) (fn : Fn) (body : List Stmt) (sc : Scope) : Bool :=
  fnScopeC fn.N fi.ps sc && (fn.np == fi.ps.length && (fn.io == fi.io && (nodupN fi.io && (fi.io.all (fun i => decide (i < fi.ps.length)) && okSs (Γof fis kws cls lv fn.N sc fi.io) fn.body body))))
section
variable {P : Program} {w : World} {K : PySem.W.Frag} {mg : Str → Option Value} {base : Heap} {cn : Nat → Addr} {fns : List Fn} {fis : List FnI} {kws : List KwI} {cls : List ClI} {lv : Nat}
/-- what the text says of the def number f -/
def Txt (K : PySem.W.Frag) (mg : Str → Option Value) (fns : List Fn) (fis : List FnI) (kws : List KwI) (cls : List ClI) (lv : Nat) (f : Nat) (fi : FnI) (fa : Addr) (fd : FuncData) : Prop :=
  ∃ (x qual : Str) (params : Arguments) (body : List Stmt) (scope : Scope) (fn : Fn), FunD K x qual params body scope [] [] fa fd ∧ mg fi.name = some (.ref fa) ∧ Binds K fd fi.ps [] ∧
    (∀ (k : Nat) (ki : KwI), kws[k]? = some ki → ki.f = f → ∃ g, KBn K fd fi.ps 0 ki.ks g (fun _ zs => srcV zs ki.src)) ∧ fns[f]? = some fn ∧ fnC fis kws cls lv fi fn body scope = true
theorem level (hB : ∀ b ∈ bltNames, mg b = none) (hC : ∀ (c : Nat) (ci : ClI), cls[c]? = some ci → ClsT K mg ci (cn c)) (hv : cls ≠ [] → ∀ n, callN fns n lv [] = .ok .non [] → 2 ≤ n) (hT : ∀ (f : Nat) (fi : FnI), fis[f]? = some fi → ∃ fa fd, Txt K mg fns fis kws cls lv f fi fa fd) :
    ∀ (n f : Nat) (fi : FnI) (fa : Addr) (fd : FuncData), fis[f]? = some fi → Txt K mg fns fis kws cls lv f fi fa fd → FnOk P w K mg base (L2.CX P w) n fa fd fi.ps (spOf K cn (callN fns n f) fi.ps.length fi.io) := by
  intro n
  induction n with
  | zero =>
    intro f fi fa fd hf hT
    refine ⟨fun vs H Q E h => h.1, fun A outer s H args us vs Q E _ _ _ _ h => ?_⟩
    obtain ⟨_, ts, L, Do, _, _, _, cp⟩ := h
    exact cp.elim
  | succ n ih =>
    intro f fi fa fd hf hTx
    obtain ⟨x, qual, params, body, scope, fn, F, hm, hb, hk, hfn, hc⟩ := hTx
    unfold fnC at hc
    simp only [Bool.and_eq_true, beq_iff_eq, List.all_eq_true, decide_eq_true_eq] at hc
    obtain ⟨c1, c2, c3, c4, c5, c6⟩ := hc
    have S := fnScope_ok c1
    refine F.ok S (fun vs H Q E h => h.1) fun cdv A outer s H vs Q E hr h => ⟨tS K cn (fun cls d _ H => E cls d H) fi.io (execSs (callN fns n) fn.body), ?_, ?_⟩
    · refine sndSs (Γ := Γof fis kws cls lv fn.N scope fi.io) (X := cxOf (L2.CX P w) P w K mg base fn.N qual scope fa cdv A outer s H E) (n := n) fn.body ⟨rfl, S.nd, rfl, rfl, takes_of rfl rfl rfl rfl, hr, fun y hy => ?_, fun g gi hg => ?_, fun k ki gi hki hgi => ?_, hB, fun c ci hci hΦ => ?_⟩ (passes_of rfl) ⟨rfl, rfl⟩ c6
      · have hy' : (scope.names.lookup y == some .local || scope.names.lookup y == some .cell) = true := hy
        simp only [Bool.or_eq_true, beq_iff_eq] at hy'
        exact ⟨hy', .inl rfl⟩
      · obtain ⟨ga, gd, tx⟩ := hT g gi hg
        have F2 := ih g gi ga gd hg tx
        obtain ⟨_, _, _, _, _, _, G, gm, gb, _, _, _⟩ := tx
        exact ⟨ga, gd, F2, gm, G.kp, gb⟩
      · obtain ⟨ga, gd, tx⟩ := hT ki.f gi hgi
        have F2 := ih ki.f gi ga gd hgi tx
        obtain ⟨_, _, _, _, _, _, G, gm, gb, gk, _, _⟩ := tx
        obtain ⟨g, kb⟩ := gk k ki hki rfl
        exact ⟨ga, gd, g, F2, gm, G.kp, kb⟩
      · obtain ⟨z1, z2, z3, z4, fI, fdI, y, x', qual', params', body', scope', z5, z6, z7, z8, z9, z10⟩ := hC c ci hci
        have two : 2 ≤ n := hv (fun e => by rw [e] at hci; cases hci) n hΦ
        exact ⟨z1, z2, z3, z4, ⟨fI, fdI, y, z5, z6, zf_fn 0 z7 z9 z10, z8⟩, hr.mono two⟩
    · obtain ⟨hl, ts, L, Do, reps, nd, out, cp⟩ := h
      have lts : ts.length = fi.ps.length := by rw [← reps.length]; exact hl
      have hst : L2.start fn.N vs = vs.map some ++ List.replicate (fn.N.length - ts.length) none := by unfold L2.start; rw [hl, lts]
      refine ⟨ts.map some ++ List.replicate (fn.N.length - ts.length) none, L, Do, ⟨?_, nd, out⟩, ?_⟩
      · rw [hst]; exact reps.slots
      · have ec : callN fns (n + 1) f ts = runFn (callN fns n) fn ts := by
          show (match fns[f]? with | some fn => runFn (callN fns n) fn ts | none => CR.bad) = _
          rw [hfn]
        rw [ec] at cp
        unfold runFn at cp
        rw [if_pos (lts.trans c2.symm), c3] at cp
        have hpr : ∀ {σ' : L2.St}, (∀ i ∈ fi.io, σ'[i]? = (L2.start fn.N vs)[i]?) → ∀ (j i : Nat), fi.io[j]? = some i → ∃ v, (pickV fi.io vs)[j]? = some v ∧ σ'[i]? = some (some v) := by
          intro σ' hp j i hj
          have hi : i ∈ fi.io := List.mem_of_getElem? hj
          have hlt : i < vs.length := by rw [hl]; exact c5 i hi
          refine ⟨vs[i], ?_, ?_⟩
          · unfold pickV
            rw [List.getElem?_map, hj]
            simp [hlt]
          · rw [hp i hi, hst, List.getElem?_append_left (by rw [List.length_map]; exact hlt), List.getElem?_map, List.getElem?_eq_getElem hlt]
            rfl
        have hw := pickV_len fi.io vs
        cases er : execSs (callN fns n) fn.body (ts.map some ++ List.replicate (fn.N.length - ts.length) none) with
        | nx ρ' =>
          rw [er] at cp
          dsimp only at cp
          cases eb : backs fi.io ρ' with
          | none => rw [eb] at cp; exact cp.elim
          | some bs =>
            rw [eb] at cp
            intro σ' H' L' ok' st' hp
            obtain ⟨L2, r2, n2, s2⟩ := backs_reps ok' eb c4 hw (hpr hp)
            exact cp .non H' L2 [] r2 n2 ok'.out .non (st'.weak s2)
        | rt t ρ' =>
          rw [er] at cp
          dsimp only at cp
          cases eb : backs fi.io ρ' with
          | none => rw [eb] at cp; exact cp.elim
          | some bs =>
            rw [eb] at cp
            intro σ' v H' L' Lv ok' rv st' hp
            obtain ⟨L2, r2, n2, s2⟩ := backs_reps ok' eb c4 hw (hpr hp)
            exact cp v H' L2 Lv r2 n2 ok'.out (rv.mono (hide_mem (sub_app s2)) fun a z => ⟨rfl, List.mem_append_right _ (List.mem_append_left _ z)⟩) (st'.weak fun b z => by
              rcases List.mem_append.mp z with z | z
              · exact List.mem_append_left _ z
              · exact List.mem_append_right _ (s2 b z))
        | exc x ρ' =>
          rw [er] at cp
          dsimp only at cp
          cases eb : backs fi.io ρ' with
          | none => rw [eb] at cp; exact cp.elim
          | some bs =>
            rw [eb] at cp
            intro σ' c d H' L' ok' rx st' hp
            obtain ⟨L2, r2, n2, s2⟩ := backs_reps ok' eb c4 hw (hpr hp)
            exact cp c d H' L2 r2 n2 ok'.out (rx.mono (hide_mem (sub_app s2))) (st'.weak s2)
        | bk ρ' => rw [er] at cp; exact cp.elim
        | ct ρ' => rw [er] at cp; exact cp.elim
        | bad => rw [er] at cp; exact cp.elim
end
end FT

end
section
set_option Elab.async false
set_option linter.all false
set_option maxRecDepth 100000
set_option maxHeartbeats 8000000
/-! FTEnd: the law's end. -/
namespace FT
open PySem PySem.Spec PyProof.Rows L2

def srcU (ws : List Value) (src : List Src) : List Value := src.map fun s => match s with
  | .kw k => (ws[k]?).getD .none
  | _ => .none
def kwOnly (src : List Src) : Bool := src.all fun s => match s with | .kw _ => true | _ => false
theorem vals_getD : ∀ {zs : List V} {ws : List Value} (k : Nat), Vals zs ws → RelV ((zs[k]?).getD .non) ((ws[k]?).getD .none)
  | _, _, k, .nil => rfl
  | _, _, 0, .cons r t => r
  | _, _, k + 1, .cons r t => by simpa using vals_getD k t
theorem src_vals {zs : List V} {ws : List Value} (r : Vals zs ws) : ∀ {src : List Src}, kwOnly src = true → Vals (srcV zs src) (srcU ws src)
  | [], _ => .nil
  | .kw k :: src, h => by
    have h' : kwOnly src = true := by
      unfold kwOnly at h ⊢
      rw [List.all_cons, Bool.and_eq_true] at h
      exact h.2
    exact .cons (vals_getD k r) (src_vals r h')
  | .pos k :: src, h => by unfold kwOnly at h; cases h
  | .df k :: src, h => by unfold kwOnly at h; cases h
section
variable {K : PySem.W.Frag} {x qual : Str} {params : Arguments} {body : List Stmt} {scope : Scope} {f : Addr} {fd : FuncData} {ps : List Str}
/-- a call by keywords alone, no defaults -/
theorem _root_.L2.FunD.kbn0 (F : FunD K x qual params body scope [] [] f fd) (ks : List Str) (src : List Src)
    (h : ∀ (kV doc pm : Value) (an : Option Addr) (cdv ct : Value) (ws : List Value), ws.length = ks.length → bindArgs (PySem.W.fnOf x qual params body scope .none kV doc pm an cdv ct) ⟨[], ks.zip ws⟩ = pure (ps.zip (srcU ws src))) (hs : kwOnly src = true := by rfl) :
    ∃ g, KBn K fd ps 0 ks g (fun _ zs => srcV zs src) := by
  obtain ⟨oc, od, dV, kV, doc, pm, an, cdv, ct, osl, rfl, lk, hcd, hD, hK⟩ := F.ex
  rcases hD with ⟨_, rfl⟩ | ⟨e, _⟩
  · refine ⟨fun _ ws => srcU ws src, ⟨fun s us ws _ h1 h2 => ?_, fun _ r => src_vals r hs⟩⟩
    have e : us = [] := List.eq_nil_of_length_eq_zero h1
    subst e
    exact .of_eq (h kV doc pm an cdv ct ws h2)
  · exact absurd rfl e
end
theorem FnOk.nox {P : Program} {w : World} {K : PySem.W.Frag} {mg : Str → Option Value} {base : Heap} {k : Nat} {f : Addr} {fd : FuncData} {ps : List Str} {sp : Sp} (F : FnOk P w K mg base (L2.CX P w) k f fd ps sp) :
    FnOk P w K mg base CX0 k f fd ps (fun vs H Q _ => sp vs H Q fun _ _ _ => False) := by
  refine ⟨fun vs H Q E h => F.len vs H Q _ h, fun A outer s H args us vs Q E hr e0 hb hv h => codeAny_mono (F.run A outer s H args us vs Q (fun _ _ _ => False) hr e0 hb hv h) fun r s' hq => ?_⟩
  cases r with
  | ok fl => cases fl <;> exact hq
  | error e =>
    obtain ⟨a, B, H', cls, d, _, _, _, _, _, _, _, z⟩ := (show L2.CX P w outer H s (fun _ _ _ => False) e s' from hq)
    exact z.elim
theorem hide_nil (H : Hp) : hide H [] = H := by
  funext b
  unfold hide
  simp
theorem ints_reps {K : PySem.W.Frag} {cn : Nat → Addr} {H : Hp} {D : List Addr} : ∀ ns : List Int, Reps K cn H D (ns.map V.int) (ns.map T.int) []
  | [] => .nil
  | n :: ns => .cons (L := []) (L' := []) (.int n) (ints_reps ns)
theorem law_sp {K : PySem.W.Frag} {cn : Nat → Addr} {φ : List T → CR} {ns : List Int} {H : Hp} {a : Addr} (h : φ [.slst (ns.map T.int)] = .ok (.bl true) []) (hS : SqL K H a (ns.map V.int)) :
    spOf K cn φ 1 [] [.ref a] H (fun v _ => v = .bl true) fun _ _ _ => False := by
  refine ⟨rfl, [.slst (ns.map T.int)], [], [], .cons (L := []) (L' := []) (.slst (by show SqL K (hide H []) a (ns.map V.int); rw [hide_nil]; exact hS) (ints_reps ns)) .nil, List.nodup_nil, (fun _ z => nomatch z), ?_⟩
  rw [h]
  intro v H' L' Lv _ _ _ r _
  cases r
  rfl
end FT

end
set_option Elab.async false
set_option linter.all false
set_option maxRecDepth 100000
set_option maxHeartbeats 0
namespace LK
open PySem PySem.Spec PyProof.Rows L2 FT
/-- inverse -/
def f0 : Fn where
  N := ["prime", "residue", "high", "low", "old", "new", "part"]
  np := 2
  io := []
  body := (.cons (.asg (.nm 2) (.var 0)) (.cons (.asg (.nm 3) (.var 1)) (.cons (.asg (.nm 4) (.int 0)) (.cons (.asg (.nm 5) (.int 1)) (.cons (.whil (.cmp .Gt (.var 3) (.int 1)) (.cons (.asg (.nm 6) (.bin .FloorDiv (.var 2) (.var 3))) (.cons (.par [2, 3] (.cons (.var 3) (.cons (.bin .Sub (.var 2) (.bin .Mult (.var 6) (.var 3))) .nil))) (.cons (.par [4, 5] (.cons (.var 5) (.cons (.bin .Sub (.var 4) (.bin .Mult (.var 6) (.var 5))) .nil))) .nil))) [6]) (.cons (.ret (.bin .Mod (.var 5) (.var 0))) .nil))))))
/-- form_of -/
def f1 : Fn where
  N := ["prime", "numbers", "residues", "size", "number"]
  np := 2
  io := []
  body := (.cons (.asg (.nm 2) (.lc (.nm 4) (.sq (.var 1)) .no (.bin .Mod (.var 4) (.var 0)) [4])) (.cons (.asg (.nm 3) (.b1 .len (.var 2))) (.cons (.whil (.and (.cmp .Gt (.var 3) (.int 0)) (.cmp .Eq (.ix (.var 2) (.bin .Sub (.var 3) (.int 1))) (.int 0))) (.cons (.asg (.nm 3) (.bin .Sub (.var 3) (.int 1))) .nil) []) (.cons (.ret (.b1 .tuple (.sl (.var 2) .no (.so (.var 3))))) .nil))))
/-- multiply -/
def f2 : Fn where
  N := ["prime", "one", "other", "sums", "at", "left", "_", "by", "right"]
  np := 3
  io := []
  body := (.cons (.ifs (.or (.not (.tr (.var 1))) (.not (.tr (.var 2)))) (.cons (.ret (.tup .nil)) .nil) .nil) (.cons (.asg (.nm 3) (.lc (.nm 6) (.r1 (.bin .Sub (.bin .Add (.b1 .len (.var 1)) (.b1 .len (.var 2))) (.int 1))) .no (.int 0) [6])) (.cons (.for_ (.tp [4, 5]) (.en (.var 1)) (.cons (.ifs (.cmp .NotEq (.var 5) (.int 0)) (.cons (.for_ (.tp [7, 8]) (.en (.var 2)) (.cons (.setix 3 (.bin .Add (.var 4) (.var 7)) (.bin .Add (.ix (.var 3) (.bin .Add (.var 4) (.var 7))) (.bin .Mult (.var 5) (.var 8)))) .nil) [7, 8]) .nil) .nil) .nil) [4, 5]) (.cons (.ret (.call 1 (.v (.var 0) (.v (.var 3) .nil)))) .nil))))
/-- divided -/
def f3 : Fn where
  N := ["prime", "form", "by", "size", "left", "figures", "back", "at", "figure", "_", "place", "residue"]
  np := 3
  io := []
  body := (.cons (.ifs (.not (.tr (.var 2))) (.cons (.raise0 0 24 "code" "ZeroForm") .nil) .nil) (.cons (.asg (.nm 3) (.b1 .len (.var 2))) (.cons (.ifs (.cmp .Lt (.b1 .len (.var 1)) (.var 3)) (.cons (.ret (.tup (.cons (.tup .nil) (.cons (.var 1) .nil)))) .nil) .nil) (.cons (.asg (.nm 4) (.b1 .list (.var 1))) (.cons (.asg (.nm 5) (.lc (.nm 9) (.r1 (.bin .Add (.bin .Sub (.b1 .len (.var 1)) (.var 3)) (.int 1))) .no (.int 0) [9])) (.cons (.asg (.nm 6) (.call 0 (.v (.var 0) (.v (.ix (.var 2) (.neg (.int 1))) .nil)))) (.cons (.for_ (.nm 7) (.rr1 (.b1 .len (.var 5))) (.cons (.asg (.nm 8) (.bin .Mod (.bin .Mult (.ix (.var 4) (.bin .Sub (.bin .Add (.var 7) (.var 3)) (.int 1))) (.var 6)) (.var 0))) (.cons (.ifs (.cmp .NotEq (.var 8) (.int 0)) (.cons (.setix 5 (.var 7) (.var 8)) (.cons (.for_ (.tp [10, 11]) (.en (.var 2)) (.cons (.setix 4 (.bin .Add (.var 7) (.var 10)) (.bin .Mod (.bin .Sub (.ix (.var 4) (.bin .Add (.var 7) (.var 10))) (.bin .Mult (.var 8) (.var 11))) (.var 0))) .nil) [10, 11]) .nil)) .nil) .nil)) [7, 8]) (.cons (.ret (.tup (.cons (.b1 .tuple (.var 5)) (.cons (.call 1 (.v (.var 0) (.v (.sl (.var 4) .no (.so (.bin .Sub (.var 3) (.int 1)))) .nil))) .nil)))) .nil))))))))
/-- power_remainder -/
def f4 : Fn where
  N := ["prime", "form", "number", "by", "result", "square", "left"]
  np := 4
  io := []
  body := (.cons (.asg (.nm 4) (.ix (.call 3 (.v (.var 0) (.v (.tup (.cons (.int 1) .nil)) (.v (.var 3) .nil)))) (.int 1))) (.cons (.asg (.nm 5) (.ix (.call 3 (.v (.var 0) (.v (.var 1) (.v (.var 3) .nil)))) (.int 1))) (.cons (.asg (.nm 6) (.var 2)) (.cons (.whil (.cmp .Gt (.var 6) (.int 0)) (.cons (.ifs (.cmp .Eq (.bin .Mod (.var 6) (.int 2)) (.int 1)) (.cons (.asg (.nm 4) (.ix (.call 3 (.v (.var 0) (.v (.call 2 (.v (.var 0) (.v (.var 4) (.v (.var 5) .nil)))) (.v (.var 3) .nil)))) (.int 1))) .nil) .nil) (.cons (.asg (.nm 6) (.bin .FloorDiv (.var 6) (.int 2))) (.cons (.ifs (.cmp .Gt (.var 6) (.int 0)) (.cons (.asg (.nm 5) (.ix (.call 3 (.v (.var 0) (.v (.call 2 (.v (.var 0) (.v (.var 5) (.v (.var 5) .nil)))) (.v (.var 3) .nil)))) (.int 1))) .nil) .nil) .nil))) []) (.cons (.ret (.var 4)) .nil)))))
/-- _law_bag -/
def f5 : Fn where
  N := ["_law_script", "_law_mixed", "_law_cell"]
  np := 1
  io := []
  body := (.cons (.asg (.nm 1) (.int 4201)) (.cons (.for_ (.nm 2) (.sq (.sl (.var 0) .no (.so (.int 63)))) (.cons (.asg (.nm 1) (.bin .Mod (.b1 .int (.bin .Add (.bin .Add (.bin .Mult (.var 1) (.int 69621)) (.bin .Mult (.bin .Mod (.b1 .int (.var 2)) (.int 999983)) (.int 733))) (.int 17))) (.int 2147483629))) .nil) [2]) (.cons (.ret (.lst (.cons (.b1 .list (.sl (.var 0) .no (.so (.int 63)))) (.cons (.int 0) (.cons (.int 0) (.cons (.var 1) (.cons (.int 0) .nil))))))) .nil)))
/-- _law_draw -/
def f6 : Fn where
  N := ["_law_bag_here", "_law_top", "_law_seed", "_law_cell", "_law_digit"]
  np := 2
  io := [0]
  body := (.cons (.setix 0 (.int 4) (.bin .Add (.ix (.var 0) (.int 4)) (.int 1))) (.cons (.ifs (.and (.cmp .Eq (.ix (.var 0) (.int 2)) (.int 0)) (.cmp .Lt (.ix (.var 0) (.int 1)) (.b1 .len (.ix (.var 0) (.int 0))))) (.cons (.asg (.nm 3) (.b1 .int (.ix (.ix (.var 0) (.int 0)) (.ix (.var 0) (.int 1))))) (.cons (.setix 0 (.int 1) (.bin .Add (.ix (.var 0) (.int 1)) (.int 1))) (.cons (.ifs (.cmp .GtE (.b1 .abs (.var 3)) (.bin .Pow (.int 10) (.int 18))) (.cons (.setix 0 (.int 2) (.b1 .abs (.var 3))) .nil) (.cons (.setix 0 (.int 3) (.bin .Mod (.b1 .int (.bin .Add (.bin .Add (.bin .Mult (.ix (.var 0) (.int 3)) (.int 16381)) (.bin .Mult (.bin .Mod (.b1 .int (.var 3)) (.int 999983)) (.int 1013))) (.int 7))) (.int 2147483587))) .nil)) .nil))) .nil) (.cons (.ifs (.cmp .Gt (.ix (.var 0) (.int 2)) (.int 0)) (.cons (.asg (.nm 4) (.bin .Mod (.b1 .int (.ix (.var 0) (.int 2))) (.var 1))) (.cons (.setix 0 (.int 2) (.bin .FloorDiv (.ix (.var 0) (.int 2)) (.var 1))) (.cons (.ret (.var 4)) .nil))) .nil) (.cons (.asg (.nm 2) (.b1 .int (.ix (.var 0) (.int 3)))) (.cons (.setix 0 (.int 3) (.bin .Mod (.b1 .int (.bin .Add (.bin .Add (.bin .Add (.bin .Pow (.var 2) (.int 3)) (.bin .Mult (.var 2) (.int 31337))) (.bin .Mult (.ix (.var 0) (.int 4)) (.int 104729))) (.int 50021))) (.int 2147483549))) (.cons (.ret (.bin .Mod (.b1 .int (.bin .Add (.bin .FloorDiv (.ix (.var 0) (.int 3)) (.int 67)) (.bin .Mult (.bin .Mod (.b1 .int (.ix (.var 0) (.int 3))) (.int 7919)) (.int 61)))) (.var 1))) .nil))))))
/-- _law_of -/
def f7 : Fn where
  N := ["_law_bag_here", "_law_some"]
  np := 2
  io := [0]
  body := (.cons (.ret (.ix (.var 1) (.call 6 (.r 0 (.v (.b1 .len (.var 1)) .nil))))) .nil)
/-- _law_same -/
def f8 : Fn where
  N := ["_law_found", "_law_due", "_law_a", "_law_b"]
  np := 2
  io := []
  body := (.cons (.ifs (.tr (.isi (.var 1) ["list", "tuple"])) (.cons (.ifs (.or (.cmp .NotEq (.isi (.var 0) ["list"]) (.isi (.var 1) ["list"])) (.cmp .NotEq (.isi (.var 0) ["tuple"]) (.isi (.var 1) ["tuple"]))) (.cons (.ret (.bl false)) .nil) .nil) (.cons (.ret (.and (.cmp .Eq (.b1 .len (.var 0)) (.b1 .len (.var 1))) (.b1 .all (.lc (.tp [2, 3]) (.zp (.var 0) (.var 1)) .no (.call 8 (.v (.var 2) (.v (.var 3) .nil))) [2, 3])))) .nil)) .nil) (.cons (.ifs (.tr (.isi (.var 0) ["list", "tuple"])) (.cons (.ret (.bl false)) .nil) .nil) (.cons (.ifs (.or (.cmp .Is (.var 1) .non) (.cmp .Is (.var 0) .non)) (.cons (.ret (.and (.cmp .Is (.var 1) .non) (.cmp .Is (.var 0) .non))) .nil) .nil) (.cons (.ifs (.or (.tr (.isi (.var 1) ["bool"])) (.tr (.isi (.var 0) ["bool"]))) (.cons (.ret (.and (.isi (.var 1) ["bool"]) (.and (.isi (.var 0) ["bool"]) (.cmp .Eq (.var 0) (.var 1))))) .nil) .nil) (.cons (.ifs (.or (.tr (.isi (.var 1) ["int"])) (.tr (.isi (.var 0) ["int"]))) (.cons (.ret (.and (.isi (.var 1) ["int"]) (.and (.isi (.var 0) ["int"]) (.cmp .Eq (.var 0) (.var 1))))) .nil) .nil) (.cons (.ifs (.or (.tr (.isi (.var 1) ["str"])) (.tr (.isi (.var 0) ["str"]))) (.cons (.ret (.and (.isi (.var 1) ["str"]) (.and (.isi (.var 0) ["str"]) (.cmp .Eq (.var 0) (.var 1))))) .nil) .nil) (.cons (.ret (.cmp .Eq (.var 0) (.var 1))) .nil)))))))
/-- _law_is_num -/
def f9 : Fn where
  N := ["_law_v"]
  np := 1
  io := []
  body := (.cons (.ret (.and (.isi (.var 0) ["int"]) (.not (.isi (.var 0) ["bool"])))) .nil)
/-- _law_primes -/
def f10 : Fn where
  N := ["_law_a", "_law_b"]
  np := 0
  io := []
  body := (.cons (.ret (.lc (.nm 0) (.r2 (.int 2) (.int 98)) (.so (.cmp .Eq (.lc (.nm 1) (.r2 (.int 2) (.var 0)) (.so (.cmp .Eq (.bin .Mult (.bin .FloorDiv (.var 0) (.var 1)) (.var 1)) (.var 0))) (.var 1) [1]) (.lst .nil))) (.var 0) [0])) .nil)
/-- _law_prime -/
def f11 : Fn where
  N := ["_law_bag_here"]
  np := 1
  io := [0]
  body := (.cons (.ifs (.cmp .Eq (.call 6 (.r 0 (.v (.int 6) .nil))) (.int 0)) (.cons (.ret (.call 7 (.r 0 (.v (.call 10 .nil) .nil)))) .nil) .nil) (.cons (.ret (.call 7 (.r 0 (.v (.lst (.cons (.int 2) (.cons (.int 3) (.cons (.int 5) (.cons (.int 7) (.cons (.int 2) (.cons (.int 3) (.cons (.int 5) (.cons (.int 11) (.cons (.int 13) .nil)))))))))) .nil)))) .nil))
/-- _law_trim -/
def f12 : Fn where
  N := ["_law_coefs", "_law_many"]
  np := 1
  io := []
  body := (.cons (.asg (.nm 1) (.b1 .len (.var 0))) (.cons (.whil (.and (.cmp .Gt (.var 1) (.int 0)) (.cmp .Eq (.ix (.var 0) (.bin .Sub (.var 1) (.int 1))) (.int 0))) (.cons (.asg (.nm 1) (.bin .Sub (.var 1) (.int 1))) .nil) []) (.cons (.ret (.b1 .tuple (.sl (.var 0) .no (.so (.var 1))))) .nil)))
/-- _law_mul -/
def f13 : Fn where
  N := ["_law_p", "_law_f", "_law_g", "_law_sums", "_law_i", "_law_j", "_law_a"]
  np := 3
  io := []
  body := (.cons (.ifs (.or (.cmp .Eq (.b1 .len (.var 1)) (.int 0)) (.cmp .Eq (.b1 .len (.var 2)) (.int 0))) (.cons (.ret (.tup .nil)) .nil) .nil) (.cons (.asg (.nm 3) (.bin .Mult (.lst (.cons (.int 0) .nil)) (.bin .Sub (.bin .Add (.b1 .len (.var 1)) (.b1 .len (.var 2))) (.int 1)))) (.cons (.for_ (.nm 4) (.r1 (.b1 .len (.var 1))) (.cons (.for_ (.nm 5) (.r1 (.b1 .len (.var 2))) (.cons (.setix 3 (.bin .Add (.var 4) (.var 5)) (.bin .Add (.ix (.var 3) (.bin .Add (.var 4) (.var 5))) (.bin .Mult (.ix (.var 1) (.var 4)) (.ix (.var 2) (.var 5))))) .nil) [5]) .nil) [4, 5]) (.cons (.ret (.call 12 (.v (.lc (.nm 6) (.sq (.var 3)) .no (.bin .Mod (.b1 .int (.var 6)) (.var 0)) [6]) .nil))) .nil))))
/-- _law_inv -/
def f14 : Fn where
  N := ["_law_p", "_law_a", "_law_b"]
  np := 2
  io := []
  body := (.cons (.ret (.ix (.lc (.nm 2) (.r2 (.int 1) (.var 0)) (.so (.cmp .Eq (.bin .Mod (.b1 .int (.bin .Mult (.var 1) (.var 2))) (.var 0)) (.int 1))) (.var 2) [2]) (.int 0))) .nil)
/-- _law_divide -/
def f15 : Fn where
  N := ["_law_p", "_law_f", "_law_g", "_law_k", "_law_left", "_law_found", "_law_turned", "_law_a", "_law_j"]
  np := 3
  io := []
  body := (.cons (.par [4, 5, 6] (.cons (.b1 .list (.var 1)) (.cons (.bin .Mult (.lst (.cons (.int 0) .nil)) (.b2 .max (.int 0) (.bin .Add (.bin .Sub (.b1 .len (.var 1)) (.b1 .len (.var 2))) (.int 1)))) (.cons (.call 14 (.v (.var 0) (.v (.ix (.var 2) (.neg (.int 1))) .nil))) .nil)))) (.cons (.for_ (.nm 3) (.r3 (.bin .Sub (.b1 .len (.var 1)) (.b1 .len (.var 2))) (.neg (.int 1)) (-1)) (.cons (.asg (.nm 7) (.bin .Mod (.b1 .int (.bin .Mult (.ix (.var 4) (.bin .Sub (.bin .Add (.var 3) (.b1 .len (.var 2))) (.int 1))) (.var 6))) (.var 0))) (.cons (.setix 5 (.var 3) (.var 7)) (.cons (.ifs (.cmp .NotEq (.var 7) (.int 0)) (.cons (.for_ (.nm 8) (.r1 (.b1 .len (.var 2))) (.cons (.setix 4 (.bin .Add (.var 3) (.var 8)) (.bin .Mod (.b1 .int (.bin .Sub (.ix (.var 4) (.bin .Add (.var 3) (.var 8))) (.bin .Mult (.var 7) (.ix (.var 2) (.var 8))))) (.var 0))) .nil) [8]) .nil) .nil) .nil))) [3, 7]) (.cons (.ret (.tup (.cons (.call 12 (.v (.var 5) .nil)) (.cons (.call 12 (.v (.sl (.var 4) .no (.so (.bin .Sub (.b1 .len (.var 2)) (.int 1)))) .nil)) .nil)))) .nil)))
/-- _law_val -/
def f16 : Fn where
  N := ["_law_p", "_law_f", "_law_c", "_law_a", "_law_found", "_law_power_here"]
  np := 3
  io := []
  body := (.cons (.asg (.tp [4, 5]) (.tup (.cons (.int 0) (.cons (.int 1) .nil)))) (.cons (.for_ (.nm 3) (.sq (.var 1)) (.cons (.asg (.nm 4) (.bin .Mod (.b1 .int (.bin .Add (.var 4) (.bin .Mult (.var 3) (.var 5)))) (.var 0))) (.cons (.asg (.nm 5) (.bin .Mod (.b1 .int (.bin .Mult (.var 5) (.var 2))) (.var 0))) .nil)) [3]) (.cons (.ret (.var 4)) .nil)))
/-- _law_is_form -/
def f17 : Fn where
  N := ["_law_p", "_law_v", "_law_a"]
  np := 2
  io := []
  body := (.cons (.ifs (.not (.tr (.isi (.var 1) ["tuple"]))) (.cons (.ret (.bl false)) .nil) .nil) (.cons (.for_ (.nm 2) (.sq (.var 1)) (.cons (.ifs (.or (.not (.tr (.call 9 (.v (.var 2) .nil)))) (.or (.cmp .Lt (.var 2) (.int 0)) (.cmp .GtE (.var 2) (.var 0)))) (.cons (.ret (.bl false)) .nil) .nil) .nil) [2]) (.cons (.ret (.or (.cmp .Eq (.b1 .len (.var 1)) (.int 0)) (.cmp .NotEq (.ix (.var 1) (.neg (.int 1))) (.int 0)))) .nil)))
/-- _law_form -/
def f18 : Fn where
  N := ["_law_bag_here", "_law_p", "_law_deg", "_law_k"]
  np := 3
  io := [0]
  body := (.cons (.ret (.call 12 (.v (.lc (.nm 3) (.r1 (.call 6 (.r 0 (.v (.bin .Add (.var 2) (.int 2)) .nil)))) .no (.call 6 (.r 0 (.v (.var 1) .nil))) [3]) .nil))) .nil)
/-- _law_full_form -/
def f19 : Fn where
  N := ["_law_bag_here", "_law_p", "_law_deg", "_law_k"]
  np := 3
  io := [0]
  body := (.cons (.ret (.b1 .tuple (.bin .Add (.lc (.nm 3) (.r1 (.var 2)) .no (.call 6 (.r 0 (.v (.var 1) .nil))) [3]) (.lst (.cons (.int 1) .nil))))) .nil)
/-- _law_power -/
def f20 : Fn where
  N := ["_law_p", "_law_f", "_law_many", "_law_g", "_law_named"]
  np := 5
  io := []
  body := (.cons (.tryC (.cons (.ifs (.tr (.var 4)) (.cons (.ret (.callK 0 4 [.kw 3, .kw 2, .kw 1, .kw 0] (.cons (.var 3) (.cons (.var 2) (.cons (.var 1) (.cons (.var 0) .nil)))))) .nil) .nil) (.cons (.ret (.call 4 (.v (.var 0) (.v (.var 1) (.v (.var 2) (.v (.var 3) .nil)))))) .nil)) 0 24 none [.s "zero", .s "refused"]) .nil)
/-- _law_value_power -/
def f21 : Fn where
  N := ["_law_p", "_law_a", "_law_many", "_law_found", "_law_k"]
  np := 3
  io := []
  body := (.cons (.asg (.nm 3) (.int 1)) (.cons (.for_ (.nm 4) (.r1 (.int 101)) (.cons (.ifs (.cmp .Eq (.bin .Mod (.b1 .int (.var 2)) (.int 2)) (.int 1)) (.cons (.asg (.nm 3) (.bin .Mod (.b1 .int (.bin .Mult (.var 3) (.var 1))) (.var 0))) .nil) .nil) (.cons (.par [1, 2] (.cons (.bin .Mod (.b1 .int (.bin .Mult (.var 1) (.var 1))) (.var 0)) (.cons (.bin .FloorDiv (.var 2) (.int 2)) .nil))) .nil)) [4]) (.cons (.ret (.var 3)) .nil)))
/-- _law_small_so -/
def f22 : Fn where
  N := ["_law_bag_here", "_law_p", "_law_f", "_law_g", "_law_found", "_law_many"]
  np := 4
  io := [0]
  body := (.cons (.asg (.nm 4) (.ix (.call 15 (.v (.var 1) (.v (.tup (.cons (.int 1) .nil)) (.v (.var 3) .nil)))) (.int 1))) (.cons (.for_ (.nm 5) (.r1 (.bin .Add (.int 2) (.call 6 (.r 0 (.v (.int 7) .nil))))) (.cons (.ifs (.not (.tr (.call 8 (.v (.call 20 (.v (.var 1) (.v (.var 2) (.v (.var 5) (.v (.var 3) (.v (.cmp .Eq (.var 5) (.int 2)) .nil)))))) (.v (.var 4) .nil))))) (.cons (.ret (.bl false)) .nil) .nil) (.cons (.asg (.nm 4) (.ix (.call 15 (.v (.var 1) (.v (.call 13 (.v (.var 1) (.v (.var 4) (.v (.var 2) .nil)))) (.v (.var 3) .nil)))) (.int 1))) .nil)) [5]) (.cons (.ret (.bl true)) .nil)))
/-- law -/
def f23 : Fn where
  N := ["_law_script", "_law_bag_here", "_law_p", "_law_some", "_law_g", "_law_c", "_law_f", "_law_many", "_law_told", "_law_a", "_law_parts", "_law_first", "_law_b", "_law_h"]
  np := 1
  io := []
  body := (.cons (.asg (.nm 1) (.call 5 (.v (.var 0) .nil))) (.cons (.asg (.nm 2) (.call 11 (.r 1 .nil))) (.cons (.asg (.nm 3) (.sl (.lc (.nm 5) (.r1 (.var 2)) (.so (.cmp .Lt (.call 6 (.r 1 (.v (.var 2) .nil))) (.int 2))) (.var 5) [5]) .no (.so (.int 3)))) (.cons (.asg (.nm 4) (.call 19 (.r 1 (.v (.var 2) (.v (.call 6 (.r 1 (.v (.int 3) .nil))) .nil))))) (.cons (.for_ (.nm 5) (.sq (.var 3)) (.cons (.asg (.nm 4) (.call 13 (.v (.var 2) (.v (.var 4) (.v (.tup (.cons (.bin .Mod (.b1 .int (.bin .Sub (.int 0) (.var 5))) (.var 2)) (.cons (.int 1) .nil))) .nil))))) .nil) []) (.cons (.asg (.nm 4) (.call 13 (.v (.var 2) (.v (.var 4) (.v (.tup (.cons (.bin .Add (.int 1) (.call 6 (.r 1 (.v (.bin .Sub (.var 2) (.int 1)) .nil)))) .nil)) .nil))))) (.cons (.asg (.nm 6) (.call 18 (.r 1 (.v (.var 2) (.v (.call 7 (.r 1 (.v (.lst (.cons (.int 1) (.cons (.int 2) (.cons (.int 4) (.cons (.int 7) .nil))))) .nil))) .nil))))) (.cons (.ifs (.or (.not (.tr (.call 22 (.r 1 (.v (.var 2) (.v (.var 6) (.v (.var 4) .nil))))))) (.not (.tr (.call 22 (.r 1 (.v (.var 2) (.v (.tup .nil) (.v (.var 4) .nil)))))))) (.cons (.ret (.bl false)) .nil) .nil) (.cons (.ifs (.not (.tr (.call 8 (.v (.lst (.cons (.call 20 (.v (.var 2) (.v (.var 6) (.v (.int 1) (.v (.tup .nil) (.v (.bl true) .nil)))))) (.cons (.call 20 (.v (.var 2) (.v (.var 6) (.v (.call 6 (.r 1 (.v (.bin .Pow (.int 10) (.int 30)) .nil))) (.v (.tup .nil) (.v (.bl false) .nil)))))) .nil))) (.v (.lst (.cons (.tup (.cons (.str "zero") (.cons (.str "refused") .nil))) (.cons (.tup (.cons (.str "zero") (.cons (.str "refused") .nil))) .nil))) .nil))))) (.cons (.ret (.bl false)) .nil) .nil) (.cons (.ifs (.cmp .Eq (.var 6) (.tup .nil)) (.cons (.ret (.call 8 (.v (.lst (.cons (.call 20 (.v (.var 2) (.v (.var 6) (.v (.bin .Add (.int 1) (.call 6 (.r 1 (.v (.bin .Pow (.int 10) (.int 30)) .nil)))) (.v (.var 4) (.v (.bl false) .nil)))))) (.cons (.call 20 (.v (.var 2) (.v (.var 6) (.v (.bin .Pow (.int 10) (.int 30)) (.v (.var 4) (.v (.bl true) .nil)))))) .nil))) (.v (.lst (.cons (.tup .nil) (.cons (.tup .nil) .nil))) .nil)))) .nil) .nil) (.cons (.asg (.nm 7) (.call 7 (.r 1 (.v (.lst (.cons (.bin .Pow (.int 10) (.int 30)) (.cons (.bin .Add (.int 1) (.call 6 (.r 1 (.v (.bin .Pow (.int 10) (.int 30)) .nil)))) (.cons (.bin .Add (.int 2) (.call 6 (.r 1 (.v (.bin .Pow (.int 10) (.int 6)) .nil)))) (.cons (.bin .Pow (.var 2) (.int 2)) (.cons (.bin .Add (.bin .Pow (.int 10) (.int 29)) (.call 6 (.r 1 (.v (.bin .Pow (.int 10) (.int 20)) .nil)))) .nil)))))) .nil)))) (.cons (.asg (.nm 8) (.call 20 (.v (.var 2) (.v (.var 6) (.v (.var 7) (.v (.var 4) (.v (.bl false) .nil))))))) (.cons (.ifs (.or (.not (.tr (.call 17 (.v (.var 2) (.v (.var 8) .nil))))) (.cmp .GtE (.b1 .len (.var 8)) (.b1 .len (.var 4)))) (.cons (.ret (.bl false)) .nil) .nil) (.cons (.ifs (.cmp .NotEq (.lc (.nm 5) (.sq (.var 3)) (.so (.cmp .NotEq (.call 16 (.v (.var 2) (.v (.var 8) (.v (.var 5) .nil)))) (.call 21 (.v (.var 2) (.v (.call 16 (.v (.var 2) (.v (.var 6) (.v (.var 5) .nil)))) (.v (.var 7) .nil)))))) (.int 1) [5]) (.lst .nil)) (.cons (.ret (.bl false)) .nil) .nil) (.cons (.asg (.nm 9) (.call 7 (.r 1 (.v (.lst (.cons (.call 6 (.r 1 (.v (.bin .Add (.var 7) (.int 1)) .nil))) (.cons (.int 1) (.cons (.bin .FloorDiv (.var 7) (.int 2)) (.cons (.b2 .min (.var 7) (.call 6 (.r 1 (.v (.int 100) .nil)))) .nil))))) .nil)))) (.cons (.asg (.nm 10) (.lst (.cons (.call 20 (.v (.var 2) (.v (.var 6) (.v (.var 9) (.v (.var 4) (.v (.bl true) .nil)))))) (.cons (.call 20 (.v (.var 2) (.v (.var 6) (.v (.bin .Sub (.var 7) (.var 9)) (.v (.var 4) (.v (.bl false) .nil)))))) .nil)))) (.cons (.ifs (.or (.cmp .NotEq (.lc (.nm 13) (.sq (.var 10)) (.so (.not (.tr (.call 17 (.v (.var 2) (.v (.var 13) .nil)))))) (.int 1) [13]) (.lst .nil)) (.cmp .NotEq (.ix (.call 15 (.v (.var 2) (.v (.call 13 (.v (.var 2) (.v (.ix (.var 10) (.int 0)) (.v (.ix (.var 10) (.int 1)) .nil)))) (.v (.var 4) .nil)))) (.int 1)) (.var 8))) (.cons (.ret (.bl false)) .nil) .nil) (.cons (.par [9, 12] (.cons (.bin .Add (.int 1) (.call 6 (.r 1 (.v (.bin .Pow (.int 10) (.int 9)) .nil)))) (.cons (.bin .Add (.int 1) (.call 6 (.r 1 (.v (.bin .Pow (.int 10) (.int 9)) .nil)))) .nil))) (.cons (.asg (.nm 11) (.call 20 (.v (.var 2) (.v (.var 6) (.v (.var 9) (.v (.var 4) (.v (.bl false) .nil))))))) (.cons (.ret (.and (.call 17 (.v (.var 2) (.v (.var 11) .nil))) (.call 8 (.v (.call 20 (.v (.var 2) (.v (.var 11) (.v (.var 12) (.v (.var 4) (.v (.bl false) .nil)))))) (.v (.call 20 (.v (.var 2) (.v (.var 6) (.v (.bin .Mult (.var 9) (.var 12)) (.v (.var 4) (.v (.bl false) .nil)))))) .nil))))) .nil))))))))))))))))))))
def f24 : Fn where
  N := []
  np := 0
  io := []
  body := (.cons (.ret (.call 25 .nil)) .nil)
def f25 : Fn where
  N := []
  np := 0
  io := []
  body := (.cons (.ret .non) .nil)
def fns : List Fn := [f0, f1, f2, f3, f4, f5, f6, f7, f8, f9, f10, f11, f12, f13, f14, f15, f16, f17, f18, f19, f20, f21, f22, f23, f24, f25]
def cls : List ClI := [⟨"ZeroForm", "code", "ZeroForm"⟩]
def lv : Nat := 24
theorem lvOk (n : Nat) : callN fns (n + 2) lv [] = .ok .non [] := rfl
theorem lvTwo : ∀ n, callN fns n lv [] = .ok .non [] → 2 ≤ n
  | 0, h => by cases h
  | 1, h => by
    have e : callN fns 1 lv [] = .bad := rfl
    rw [e] at h
    cases h
  | n + 2, _ => by omega
def i0 : FnI := ⟨"inverse", ["prime", "residue"], []⟩
def i1 : FnI := ⟨"form_of", ["prime", "numbers"], []⟩
def i2 : FnI := ⟨"multiply", ["prime", "one", "other"], []⟩
def i3 : FnI := ⟨"divided", ["prime", "form", "by"], []⟩
def i4 : FnI := ⟨"power_remainder", ["prime", "form", "number", "by"], []⟩
def i5 : FnI := ⟨"_law_bag", ["_law_script"], []⟩
def i6 : FnI := ⟨"_law_draw", ["_law_bag_here", "_law_top"], [0]⟩
def i7 : FnI := ⟨"_law_of", ["_law_bag_here", "_law_some"], [0]⟩
def i8 : FnI := ⟨"_law_same", ["_law_found", "_law_due"], []⟩
def i9 : FnI := ⟨"_law_is_num", ["_law_v"], []⟩
def i10 : FnI := ⟨"_law_primes", [], []⟩
def i11 : FnI := ⟨"_law_prime", ["_law_bag_here"], [0]⟩
def i12 : FnI := ⟨"_law_trim", ["_law_coefs"], []⟩
def i13 : FnI := ⟨"_law_mul", ["_law_p", "_law_f", "_law_g"], []⟩
def i14 : FnI := ⟨"_law_inv", ["_law_p", "_law_a"], []⟩
def i15 : FnI := ⟨"_law_divide", ["_law_p", "_law_f", "_law_g"], []⟩
def i16 : FnI := ⟨"_law_val", ["_law_p", "_law_f", "_law_c"], []⟩
def i17 : FnI := ⟨"_law_is_form", ["_law_p", "_law_v"], []⟩
def i18 : FnI := ⟨"_law_form", ["_law_bag_here", "_law_p", "_law_deg"], [0]⟩
def i19 : FnI := ⟨"_law_full_form", ["_law_bag_here", "_law_p", "_law_deg"], [0]⟩
def i20 : FnI := ⟨"_law_power", ["_law_p", "_law_f", "_law_many", "_law_g", "_law_named"], []⟩
def i21 : FnI := ⟨"_law_value_power", ["_law_p", "_law_a", "_law_many"], []⟩
def i22 : FnI := ⟨"_law_small_so", ["_law_bag_here", "_law_p", "_law_f", "_law_g"], [0]⟩
def i23 : FnI := ⟨"law", ["_law_script"], []⟩
def fis : List FnI := [i0, i1, i2, i3, i4, i5, i6, i7, i8, i9, i10, i11, i12, i13, i14, i15, i16, i17, i18, i19, i20, i21, i22, i23]
def kws : List KwI := [⟨4, ["by", "number", "form", "prime"], [.kw 3, .kw 2, .kw 1, .kw 0]⟩]

end LK
section
set_option Elab.async false
set_option linter.all false
set_option maxRecDepth 100000
set_option maxHeartbeats 4000000
namespace LK
open FT
abbrev zs (ns : List Int) : List T := ns.map T.int
@[simp] theorem isFzs_zs (ns : List Int) : isFzs (ns.map T.int) = true := by
  induction ns with
  | nil => rfl
  | cons n ns ih => rw [List.map_cons]; unfold isFzs; rw [ih]; rfl
@[simp] theorem fzs_zs (ns : List Int) : fzs (ns.map T.int) = ns.map T.int := fzs_of _ (isFzs_zs ns)
@[simp] theorem toDs_zs (ns : List Int) : toDs (ns.map T.int) = some (ns.map .int) := by
  induction ns with
  | nil => rfl
  | cons n ns ih => rw [List.map_cons]; unfold toDs; rw [ih]; rfl
theorem line_big : PySem.sizeLine = 16777216 := PySem.sizeLine_eq
@[simp] theorem eqT_int (i j : Int) : eqT (.int i) (.int j) = some (decide (i = j)) := by
  unfold eqT toD
  simp [PySem.SeqAt.shaped, PySem.PyData.eqv, PySem.PyData.canLay0, PySem.PyData.depth, PySem.PyData.canLay]
  rw [Bool.eq_iff_iff]; simp
structure BagS where
  cs : List Int
  k : Int
  left : Int
  mixed : Int
  count : Int
def BagS.t (b : BagS) : T := .lst true [.lst false (zs b.cs), .int b.k, .int b.left, .int b.mixed, .int b.count]
structure BagS.Ok (b : BagS) : Prop where
  k : 0 ≤ b.k
  left : 0 ≤ b.left
  mixed : 0 ≤ b.mixed ∧ b.mixed < 2147483629
theorem atI_zs {cs : List Int} {k : Int} (h0 : 0 ≤ k) (h1 : k < cs.length) : L2.atI (cs.map T.int) k = some (.int (cs.getD k.toNat 0)) := by
  unfold L2.atI L2.ixN
  rw [if_pos h0, List.length_map, if_pos h1]
  have h : k.toNat < cs.length := by omega
  simp [h]
theorem log2_small {i : Int} (h0 : 0 < i) (h1 : i < 2 ^ 128) : i.natAbs.log2 < 9000 := by
  have h : i.natAbs < 2 ^ 128 := by omega
  have := (Nat.log2_lt (by omega)).mpr h
  omega
theorem draw_spec (n : Nat) (b : BagS) (hb : b.Ok) (top : Int) (h0 : 0 < top) (h1 : top < 2 ^ 128) : ∃ (v : Int) (b' : BagS), callN fns (n + 1) 6 [b.t, .int top] = .ok (.int v) [b'.t] ∧ 0 ≤ v ∧ v < top ∧ b'.Ok := by
  obtain ⟨cs, k, left, mixed, count⟩ := b
  obtain ⟨hk, hl, hm1, hm2⟩ := hb
  dsimp only at hk hl hm1 hm2
  show ∃ (v : Int) (b' : BagS), runFn _ f6 _ = _ ∧ _
  unfold runFn f6
  have tl := log2_small h0 h1
  have l67 : Nat.log2 67 < 9000 := by decide +kernel
  -- the number's own digits
  have digits : ∀ (cs : List Int) (k left mixed count : Int), 0 ≤ k → 0 < left → 0 ≤ mixed ∧ mixed < 2147483629 → BagS.Ok ⟨cs, k, left / top, mixed, count⟩ ∧ 0 ≤ left % top ∧ left % top < top := fun cs k left mixed count a b c =>
    ⟨⟨a, Int.ediv_nonneg (Int.le_of_lt b) (Int.le_of_lt h0), c⟩, Int.emod_nonneg _ (by omega), Int.emod_lt_of_pos _ h0⟩
  have fresh : ∀ (cs : List Int) (k mixed count : Int) (x : Int), 0 ≤ k → BagS.Ok ⟨cs, k, 0, x % 2147483549, count⟩ ∧ 0 ≤ (x % 2147483549 / 67 + x % 2147483549 % 7919 * 61) % top ∧ (x % 2147483549 / 67 + x % 2147483549 % 7919 * 61) % top < top := fun cs k mixed count x a =>
    ⟨⟨a, Int.le_refl 0, by dsimp only; omega⟩, Int.emod_nonneg _ (by omega), Int.emod_lt_of_pos _ h0⟩
  by_cases c1 : left = 0 ∧ k < cs.length
  · obtain ⟨c1, c2⟩ := c1
    subst c1
    have h2 : k.toNat < cs.length := by omega
    by_cases c3 : (1000000000000000000 : Int) ≤ (if cs[k.toNat] < 0 then -cs[k.toNat] else cs[k.toNat])
    · have c4 : (0 : Int) < (if cs[k.toNat] < 0 then -cs[k.toNat] else cs[k.toNat]) := by omega
      obtain ⟨d1, d2, d3⟩ := digits cs (k + 1) (if cs[k.toNat] < 0 then -cs[k.toNat] else cs[k.toNat]) mixed (count + 1) (by omega) c4 ⟨hm1, hm2⟩
      refine ⟨_, _, ?_, d2, d3, d1⟩
      simp [doCallW, argsW, oneL, pureT, pureTs, execSs, execS, evalC, evalE, evalEs, evalAs, evalOe, evalOc, evalIt, opdOf, readV, slot, Opd.get, ofR, ofO, R.bind, op1, op2, bindG, backs, doCall, argsOf, refsOf, nodupN, setAll, isFz, isFzs, fz, fzs, fzI, kill, putBack, keepF, FT.binT, FT.addT, FT.subT, FT.mulT, FT.modT, FT.fdvT, FT.powT, FT.cmpT, FT.ltT, FT.leT, FT.isT, FT.truT, FT.pickT, FT.ixT, FT.b1T, FT.b2T, FT.lenT, FT.isiT, FT.tyT, FT.mulOk, L2.atI, L2.ixN, BagS.t, c2, hk, h2, c3, c4, h0, tl]
    · obtain ⟨d1, d2, d3⟩ := fresh cs (k + 1) mixed (count + 1) (((mixed * 16381 + cs[k.toNat] % 999983 * 1013 + 7) % 2147483587) ^ 3 + ((mixed * 16381 + cs[k.toNat] % 999983 * 1013 + 7) % 2147483587) * 31337 + (count + 1) * 104729 + 50021) (by omega)
      refine ⟨_, _, ?_, d2, d3, d1⟩
      have e1 : ((mixed * 16381 + cs[k.toNat] % 999983 * 1013 + 7) % 2147483587).natAbs < 18446744073709551616 := by omega
      simp [doCallW, argsW, oneL, pureT, pureTs, execSs, execS, evalC, evalE, evalEs, evalAs, evalOe, evalOc, evalIt, opdOf, readV, slot, Opd.get, ofR, ofO, R.bind, op1, op2, bindG, backs, doCall, argsOf, refsOf, nodupN, setAll, isFz, isFzs, fz, fzs, fzI, kill, putBack, keepF, FT.binT, FT.addT, FT.subT, FT.mulT, FT.modT, FT.fdvT, FT.powT, FT.cmpT, FT.ltT, FT.leT, FT.isT, FT.truT, FT.pickT, FT.ixT, FT.b1T, FT.b2T, FT.lenT, FT.isiT, FT.tyT, FT.mulOk, L2.atI, L2.ixN, BagS.t, c2, hk, h2, c3, h0, tl, e1, l67]
  · by_cases c5 : 0 < left
    · obtain ⟨d1, d2, d3⟩ := digits cs k left mixed (count + 1) hk c5 ⟨hm1, hm2⟩
      refine ⟨_, _, ?_, d2, d3, d1⟩
      have c6 : ¬ left = 0 := by omega
      simp [doCallW, argsW, oneL, pureT, pureTs, execSs, execS, evalC, evalE, evalEs, evalAs, evalOe, evalOc, evalIt, opdOf, readV, slot, Opd.get, ofR, ofO, R.bind, op1, op2, bindG, backs, doCall, argsOf, refsOf, nodupN, setAll, isFz, isFzs, fz, fzs, fzI, kill, putBack, keepF, FT.binT, FT.addT, FT.subT, FT.mulT, FT.modT, FT.fdvT, FT.powT, FT.cmpT, FT.ltT, FT.leT, FT.isT, FT.truT, FT.pickT, FT.ixT, FT.b1T, FT.b2T, FT.lenT, FT.isiT, FT.tyT, FT.mulOk, L2.atI, L2.ixN, BagS.t, c5, c6, h0, tl]
    · have c6 : left = 0 := by omega
      subst c6
      have c7 : ¬ k < cs.length := fun z => c1 ⟨rfl, z⟩
      obtain ⟨d1, d2, d3⟩ := fresh cs k mixed (count + 1) (mixed ^ 3 + mixed * 31337 + (count + 1) * 104729 + 50021) hk
      refine ⟨_, _, ?_, d2, d3, d1⟩
      have e1 : mixed.natAbs < 18446744073709551616 := by omega
      simp [doCallW, argsW, oneL, pureT, pureTs, execSs, execS, evalC, evalE, evalEs, evalAs, evalOe, evalOc, evalIt, opdOf, readV, slot, Opd.get, ofR, ofO, R.bind, op1, op2, bindG, backs, doCall, argsOf, refsOf, nodupN, setAll, isFz, isFzs, fz, fzs, fzI, kill, putBack, keepF, FT.binT, FT.addT, FT.subT, FT.mulT, FT.modT, FT.fdvT, FT.powT, FT.cmpT, FT.ltT, FT.leT, FT.isT, FT.truT, FT.pickT, FT.ixT, FT.b1T, FT.b2T, FT.lenT, FT.isiT, FT.tyT, FT.mulOk, L2.atI, L2.ixN, BagS.t, c7, h0, tl, e1, l67]
end LK

end
section
set_option Elab.async false
set_option linter.all false
set_option maxRecDepth 100000
set_option maxHeartbeats 4000000
namespace LK
open FT
/-! loops -/
theorem comp_map {own : List Nat} {e : Env8 → R T} {c : Env8 → R Bool} {g : G} {ρ : Env8} (f : T → T) : ∀ (ts acc : List T), acc.length + ts.length ≤ PySem.sizeLine → (∀ t ∈ ts, ∃ ρ1 ρ2 ρ3, bindG g t ρ = some ρ1 ∧ c ρ1 = .ok true ρ2 ∧ e ρ2 = .ok (f t) ρ3 ∧ kill own ρ3 = ρ) →
    compL (bindG g) c e own ts acc ρ = .ok (acc ++ ts.map f) ρ
  | [], acc, _, _ => by simp [compL]
  | t :: ts, acc, hl, h => by
    obtain ⟨ρ1, ρ2, ρ3, h1, h2, h3, h4⟩ := h t (List.mem_cons_self ..)
    rw [List.length_cons] at hl
    have ih := comp_map f ts (acc ++ [f t]) (by rw [List.length_append, List.length_singleton]; omega) fun u hu => h u (List.mem_cons_of_mem _ hu)
    simp only [compL, h1, h2, R.bind, if_true, h3, h4]
    rw [if_pos (by omega), ih]
    simp
theorem comp_ints {own : List Nat} {e : Env8 → R T} {i : Nat} {ρ : Env8} {ns : List Int} (f : Int → T) (hi : i < ρ.length) (hl : ns.length ≤ PySem.sizeLine) (h : ∀ z ∈ ns, ∃ ρ3, e (ρ.set i (some (.int z))) = .ok (f z) ρ3 ∧ kill own ρ3 = ρ) :
    compL (bindG (.nm i)) (.ok true) e own (ns.map T.int) [] ρ = .ok (ns.map f) ρ := by
  have z := comp_map (own := own) (e := e) (c := .ok true) (g := .nm i) (ρ := ρ) (fun t => match t with | .int z => f z | _ => .non) (ns.map T.int) [] (by simpa using hl) fun t ht => by
    obtain ⟨z, hz, rfl⟩ := List.mem_map.mp ht
    obtain ⟨ρ3, h1, h2⟩ := h z hz
    exact ⟨_, _, ρ3, by simp [bindG, hi], rfl, h1, h2⟩
  rw [z, List.nil_append, List.map_map]
  rfl
/-- trailing zeros away: how many stay of the first m -/
def keepN (ns : List Int) : Nat → Nat
  | 0 => 0
  | m + 1 => if ns.getD m 0 = 0 then keepN ns m else m + 1
theorem keepN_z {ns : List Int} {m : Nat} (h : ns.getD m 0 = 0) : keepN ns (m + 1) = keepN ns m := by
  show (if ns.getD m 0 = 0 then keepN ns m else m + 1) = _
  rw [if_pos h]
theorem keepN_nz {ns : List Int} {m : Nat} (h : ¬ ns.getD m 0 = 0) : keepN ns (m + 1) = m + 1 := by
  show (if ns.getD m 0 = 0 then keepN ns m else m + 1) = _
  rw [if_neg h]
theorem keepN_le (ns : List Int) : ∀ m, keepN ns m ≤ m
  | 0 => Nat.le_refl _
  | m + 1 => by
    unfold keepN
    split
    · exact Nat.le_trans (keepN_le ns m) (Nat.le_succ m)
    · exact Nat.le_refl _
def trimZ (ns : List Int) : List Int := ns.take (keepN ns ns.length)
theorem fuel_big : ∀ k : Nat, k ≤ 16777216 → k < FUEL := fun k h => Nat.lt_of_le_of_lt h (by decide)
theorem cutT_take {α : Type} (xs : List α) (m : Nat) (h : m ≤ xs.length) : cutT xs none (some (m : Int)) = xs.take m := by
  unfold cutT
  rw [HT.sIx_none, HT.sIx_nat]
  simp [Nat.min_eq_left h]
theorem trim_loop (ns : List Int) (o : Bool) (Φ : Nat → List T → CR) : ∀ (m fuel : Nat), m ≤ ns.length → m < fuel →
    whilL (evalC Φ (.and (.cmp .Gt (.var 1) (.int 0)) (.cmp .Eq (.ix (.var 0) (.bin .Sub (.var 1) (.int 1))) (.int 0)))) (execSs Φ (.cons (.asg (.nm 1) (.bin .Sub (.var 1) (.int 1))) .nil)) [] fuel [some (.lst o (ns.map T.int)), some (.int m)] =
      .nx [some (.lst o (ns.map T.int)), some (.int (keepN ns m))]
  | 0, fuel + 1, _, _ => by
    simp [whilL, doCallW, argsW, oneL, pureT, pureTs, execSs, execS, evalC, evalE, evalEs, evalAs, evalOe, evalOc, evalIt, opdOf, readV, slot, Opd.get, ofR, ofO, R.bind, op1, op2, bindG, backs, doCall, argsOf, refsOf, nodupN, setAll, isFz, isFzs, fz, fzs, fzI, kill, putBack, keepF, FT.binT, FT.addT, FT.subT, FT.mulT, FT.modT, FT.fdvT, FT.powT, FT.cmpT, FT.ltT, FT.leT, FT.isT, FT.truT, FT.pickT, FT.ixT, FT.b1T, FT.b2T, FT.lenT, FT.isiT, FT.tyT, FT.mulOk, L2.atI, L2.ixN, keepN]
  | m + 1, fuel + 1, h1, h2 => by
    have ih := trim_loop ns o Φ m fuel (by omega) (by omega)
    have hm : m < ns.length := by omega
    have e1 : ((m : Int) + 1 - 1) = m := by omega
    have e2 : (0 : Int) < (m : Int) + 1 := by omega
    by_cases hz : ns[m] = 0
    · rw [keepN_z (by simp [hm, hz])]
      rw [← ih]
      simp [whilL, doCallW, argsW, oneL, pureT, pureTs, execSs, execS, evalC, evalE, evalEs, evalAs, evalOe, evalOc, evalIt, opdOf, readV, slot, Opd.get, ofR, ofO, R.bind, op1, op2, bindG, backs, doCall, argsOf, refsOf, nodupN, setAll, isFz, isFzs, fz, fzs, fzI, kill, putBack, keepF, FT.binT, FT.addT, FT.subT, FT.mulT, FT.modT, FT.fdvT, FT.powT, FT.cmpT, FT.ltT, FT.leT, FT.isT, FT.truT, FT.pickT, FT.ixT, FT.b1T, FT.b2T, FT.lenT, FT.isiT, FT.tyT, FT.mulOk, L2.atI, L2.ixN, e1, e2, hm, hz]
    · rw [keepN_nz (by simp [hm, hz])]
      simp [whilL, doCallW, argsW, oneL, pureT, pureTs, execSs, execS, evalC, evalE, evalEs, evalAs, evalOe, evalOc, evalIt, opdOf, readV, slot, Opd.get, ofR, ofO, R.bind, op1, op2, bindG, backs, doCall, argsOf, refsOf, nodupN, setAll, isFz, isFzs, fz, fzs, fzI, kill, putBack, keepF, FT.binT, FT.addT, FT.subT, FT.mulT, FT.modT, FT.fdvT, FT.powT, FT.cmpT, FT.ltT, FT.leT, FT.isT, FT.truT, FT.pickT, FT.ixT, FT.b1T, FT.b2T, FT.lenT, FT.isiT, FT.tyT, FT.mulOk, L2.atI, L2.ixN, e1, e2, hm, hz]
@[simp] theorem isFzs_take_zs (ns : List Int) (k : Nat) : isFzs (List.take k (ns.map T.int)) = true := by
  rw [← List.map_take]; exact isFzs_zs _
theorem lc_eval {Φ : Nat → List T → CR} {g : G} {it : It} {c : Oc} {e : E} {own : List Nat} {ρ ρ1 ρ2 : Env8} {ts acc : List T} (h1 : evalIt Φ it ρ = .ok ts ρ1) (h2 : compL (bindG g) (evalOc Φ c) (evalE Φ e) own ts [] (kill own ρ1) = .ok acc ρ2) :
    evalE Φ (.lc g it c e own) ρ = .ok (.lst true (fzs acc)) (putBack own ρ1 ρ2) := by
  simp only [evalE, h1, R.bind, h2, noExc, fzI]
theorem asg_nm {Φ : Nat → List T → CR} {i : Nat} {e : E} {ρ ρ1 : Env8} {t : T} (h : evalE Φ e ρ = .ok t ρ1) (hi : i < ρ1.length) : execS Φ (.asg (.nm i) e) ρ = .nx (ρ1.set i (some t)) := by
  simp only [execS, h, ofR, bindG, hi, if_true]
theorem run_of {Φ : Nat → List T → CR} {fn : Fn} {args bs : List T} {t : T} {ρ : Env8} (ρ0 : Env8) (hl : args.length = fn.np) (h0 : args.map some ++ List.replicate (fn.N.length - args.length) none = ρ0) (h : execSs Φ fn.body ρ0 = .rt t ρ) (hb : backs fn.io ρ = some bs) : runFn Φ fn args = .ok t bs := by
  unfold runFn
  rw [if_pos hl, h0, h]
  dsimp only
  rw [hb]
theorem seq_nx {Φ : Nat → List T → CR} {s : S} {ss : Ss} {ρ : Env8} (ρ1 : Env8) {o : O} (h : execS Φ s ρ = .nx ρ1) (h2 : execSs Φ ss ρ1 = o) : execSs Φ (.cons s ss) ρ = o := by
  simp only [execSs, h]
  exact h2
theorem seq_rt {Φ : Nat → List T → CR} {s : S} {ss : Ss} {ρ ρ1 : Env8} {t : T} (h : execS Φ s ρ = .rt t ρ1) : execSs Φ (.cons s ss) ρ = .rt t ρ1 := by
  simp only [execSs, h]
@[simp] theorem cut_len (ns : List Int) (m : Nat) (h : m ≤ ns.length) : cutT (ns.map T.int) none (some (m : Int)) = (ns.take m).map T.int := by
  rw [cutT_take _ _ (by rw [List.length_map]; exact h), List.map_take]
theorem trim_spec (n : Nat) (o : Bool) (ns : List Int) (h : ns.length ≤ 1000) : callN fns (n + 1) 12 [.lst o (ns.map T.int)] = .ok (.tup ((trimZ ns).map T.int)) [] := by
  show runFn _ f12 _ = _
  refine run_of (ρ := [some (.lst o (ns.map T.int)), some (.int (keepN ns ns.length))]) [some (.lst o (ns.map T.int)), none] rfl rfl (seq_nx [some (.lst o (ns.map T.int)), some (.int ns.length)] (by simp [doCallW, argsW, oneL, pureT, pureTs, execSs, execS, evalC, evalE, evalEs, evalAs, evalOe, evalOc, evalIt, opdOf, readV, slot, Opd.get, ofR, ofO, R.bind, op1, op2, bindG, backs, doCall, argsOf, refsOf, nodupN, setAll, isFz, isFzs, fz, fzs, fzI, kill, putBack, keepF, FT.binT, FT.addT, FT.subT, FT.mulT, FT.modT, FT.fdvT, FT.powT, FT.cmpT, FT.ltT, FT.leT, FT.isT, FT.truT, FT.pickT, FT.ixT, FT.b1T, FT.b2T, FT.lenT, FT.isiT, FT.tyT, FT.mulOk, L2.atI, L2.ixN]) (seq_nx _ (trim_loop ns o (callN fns n) ns.length FUEL (Nat.le_refl _) (fuel_big _ (by omega))) (seq_rt ?_))) rfl
  have hk := keepN_le ns ns.length
  simp [doCallW, argsW, oneL, pureT, pureTs, execSs, execS, evalC, evalE, evalEs, evalAs, evalOe, evalOc, evalIt, opdOf, readV, slot, Opd.get, ofR, ofO, R.bind, op1, op2, bindG, backs, doCall, argsOf, refsOf, nodupN, setAll, isFz, isFzs, fz, fzs, fzI, kill, putBack, keepF, FT.binT, FT.addT, FT.subT, FT.mulT, FT.modT, FT.fdvT, FT.powT, FT.cmpT, FT.ltT, FT.leT, FT.isT, FT.truT, FT.pickT, FT.ixT, FT.b1T, FT.b2T, FT.lenT, FT.isiT, FT.tyT, FT.mulOk, L2.atI, L2.ixN, slT, hk, trimZ]
theorem form_loop (p : T) (nn : Option T) (ns : List Int) (o : Bool) (Φ : Nat → List T → CR) : ∀ (m fuel : Nat), m ≤ ns.length → m < fuel →
    whilL (evalC Φ (.and (.cmp .Gt (.var 3) (.int 0)) (.cmp .Eq (.ix (.var 2) (.bin .Sub (.var 3) (.int 1))) (.int 0)))) (execSs Φ (.cons (.asg (.nm 3) (.bin .Sub (.var 3) (.int 1))) .nil)) [] fuel [some p, nn, some (.lst o (ns.map T.int)), some (.int m), none] =
      .nx [some p, nn, some (.lst o (ns.map T.int)), some (.int (keepN ns m)), none]
  | 0, fuel + 1, _, _ => by
    simp [whilL, doCallW, argsW, oneL, pureT, pureTs, execSs, execS, evalC, evalE, evalEs, evalAs, evalOe, evalOc, evalIt, opdOf, readV, slot, Opd.get, ofR, ofO, R.bind, op1, op2, bindG, backs, doCall, argsOf, refsOf, nodupN, setAll, isFz, isFzs, fz, fzs, fzI, kill, putBack, keepF, FT.binT, FT.addT, FT.subT, FT.mulT, FT.modT, FT.fdvT, FT.powT, FT.cmpT, FT.ltT, FT.leT, FT.isT, FT.truT, FT.pickT, FT.ixT, FT.b1T, FT.b2T, FT.lenT, FT.isiT, FT.tyT, FT.mulOk, L2.atI, L2.ixN, keepN]
  | m + 1, fuel + 1, h1, h2 => by
    have ih := form_loop p nn ns o Φ m fuel (by omega) (by omega)
    have hm : m < ns.length := by omega
    have e1 : ((m : Int) + 1 - 1) = m := by omega
    have e2 : (0 : Int) < (m : Int) + 1 := by omega
    by_cases hz : ns[m] = 0
    · rw [keepN_z (by simp [hm, hz])]
      rw [← ih]
      simp [whilL, doCallW, argsW, oneL, pureT, pureTs, execSs, execS, evalC, evalE, evalEs, evalAs, evalOe, evalOc, evalIt, opdOf, readV, slot, Opd.get, ofR, ofO, R.bind, op1, op2, bindG, backs, doCall, argsOf, refsOf, nodupN, setAll, isFz, isFzs, fz, fzs, fzI, kill, putBack, keepF, FT.binT, FT.addT, FT.subT, FT.mulT, FT.modT, FT.fdvT, FT.powT, FT.cmpT, FT.ltT, FT.leT, FT.isT, FT.truT, FT.pickT, FT.ixT, FT.b1T, FT.b2T, FT.lenT, FT.isiT, FT.tyT, FT.mulOk, L2.atI, L2.ixN, e1, e2, hm, hz]
    · rw [keepN_nz (by simp [hm, hz])]
      simp [whilL, doCallW, argsW, oneL, pureT, pureTs, execSs, execS, evalC, evalE, evalEs, evalAs, evalOe, evalOc, evalIt, opdOf, readV, slot, Opd.get, ofR, ofO, R.bind, op1, op2, bindG, backs, doCall, argsOf, refsOf, nodupN, setAll, isFz, isFzs, fz, fzs, fzI, kill, putBack, keepF, FT.binT, FT.addT, FT.subT, FT.mulT, FT.modT, FT.fdvT, FT.powT, FT.cmpT, FT.ltT, FT.leT, FT.isT, FT.truT, FT.pickT, FT.ixT, FT.b1T, FT.b2T, FT.lenT, FT.isiT, FT.tyT, FT.mulOk, L2.atI, L2.ixN, e1, e2, hm, hz]
/-- the numbers of a list or a tuple -/
def SqT8 (t : T) (ns : List Int) : Prop := t = .tup (ns.map T.int) ∨ t = .lst false (ns.map T.int)
theorem SqT8.items {t : T} {ns : List Int} (h : SqT8 t ns) : isFz t = true ∧ itemsT t = some (ns.map T.int) ∧ fz t = t := by
  rcases h with rfl | rfl <;> simp [isFz, itemsT, fz]
def modL (p : Int) (ns : List Int) : List Int := ns.map (· % p)
theorem form_spec (n : Nat) (p : Int) (hp : 0 < p) (t : T) (ns : List Int) (ht : SqT8 t ns) (h : ns.length ≤ 1000) : callN fns (n + 1) 1 [.int p, t] = .ok (.tup ((trimZ (modL p ns)).map T.int)) [] := by
  show runFn _ f1 _ = _
  obtain ⟨h1, h2, h3⟩ := ht.items
  have hl : (modL p ns).length = ns.length := by unfold modL; rw [List.length_map]
  have hc : compL (bindG (.nm 4)) (.ok true) (evalE (callN fns n) (.bin .Mod (.var 4) (.var 0))) [4] (ns.map T.int) [] [some (.int p), some t, none, none, none] = .ok ((modL p ns).map T.int) [some (.int p), some t, none, none, none] := by
    rw [comp_ints (fun z => .int (z % p)) (by simp) (by rw [line_big]; omega) fun z hz => ⟨[some (.int p), some t, none, none, some (.int z)], by simp [doCallW, argsW, oneL, pureT, pureTs, execSs, execS, evalC, evalE, evalEs, evalAs, evalOe, evalOc, evalIt, opdOf, readV, slot, Opd.get, ofR, ofO, R.bind, op1, op2, bindG, backs, doCall, argsOf, refsOf, nodupN, setAll, isFz, isFzs, fz, fzs, fzI, kill, putBack, keepF, FT.binT, FT.addT, FT.subT, FT.mulT, FT.modT, FT.fdvT, FT.powT, FT.cmpT, FT.ltT, FT.leT, FT.isT, FT.truT, FT.pickT, FT.ixT, FT.b1T, FT.b2T, FT.lenT, FT.isiT, FT.tyT, FT.mulOk, L2.atI, L2.ixN, hp], by simp [kill]⟩]
    simp [modL]
  refine run_of (ρ := [some (.int p), some t, some (.lst true ((modL p ns).map T.int)), some (.int (keepN (modL p ns) (modL p ns).length)), none]) [some (.int p), some t, none, none, none] rfl rfl (seq_nx [some (.int p), some t, some (.lst true ((modL p ns).map T.int)), none, none] ?_
    (seq_nx [some (.int p), some t, some (.lst true ((modL p ns).map T.int)), some (.int (modL p ns).length), none] (by simp [doCallW, argsW, oneL, pureT, pureTs, execSs, execS, evalC, evalE, evalEs, evalAs, evalOe, evalOc, evalIt, opdOf, readV, slot, Opd.get, ofR, ofO, R.bind, op1, op2, bindG, backs, doCall, argsOf, refsOf, nodupN, setAll, isFz, isFzs, fz, fzs, fzI, kill, putBack, keepF, FT.binT, FT.addT, FT.subT, FT.mulT, FT.modT, FT.fdvT, FT.powT, FT.cmpT, FT.ltT, FT.leT, FT.isT, FT.truT, FT.pickT, FT.ixT, FT.b1T, FT.b2T, FT.lenT, FT.isiT, FT.tyT, FT.mulOk, L2.atI, L2.ixN]) (seq_nx _ (form_loop (.int p) (some t) (modL p ns) true (callN fns n) (modL p ns).length FUEL (Nat.le_refl _) (fuel_big _ (by omega))) (seq_rt ?_)))) rfl
  · rw [asg_nm (lc_eval (ρ1 := [some (.int p), some t, none, none, none]) (ts := ns.map T.int) (by simp [evalIt, evalE, readV, slot, R.bind, ofO, h1, h2, h3]) hc) (by simp [putBack])]
    simp [putBack, keepF, slot]
  · have hk := keepN_le (modL p ns) (modL p ns).length
    simp [doCallW, argsW, oneL, pureT, pureTs, execSs, execS, evalC, evalE, evalEs, evalAs, evalOe, evalOc, evalIt, opdOf, readV, slot, Opd.get, ofR, ofO, R.bind, op1, op2, bindG, backs, doCall, argsOf, refsOf, nodupN, setAll, isFz, isFzs, fz, fzs, fzI, kill, putBack, keepF, FT.binT, FT.addT, FT.subT, FT.mulT, FT.modT, FT.fdvT, FT.powT, FT.cmpT, FT.ltT, FT.leT, FT.isT, FT.truT, FT.pickT, FT.ixT, FT.b1T, FT.b2T, FT.lenT, FT.isiT, FT.tyT, FT.mulOk, L2.atI, L2.ixN, slT, hk, trimZ]
end LK

end
section
set_option Elab.async false
set_option linter.all false
set_option maxRecDepth 100000
set_option maxHeartbeats 4000000
namespace LK
open FT
@[simp] theorem isFzs_rev_zs (ns : List Int) : isFzs (ns.map T.int).reverse = true := by
  rw [← List.map_reverse]; exact isFzs_zs _
@[simp] theorem fzs_rev_zs (ns : List Int) : fzs (ns.map T.int).reverse = (ns.map T.int).reverse := by
  rw [← List.map_reverse]; exact fzs_zs _
theorem ret_eval {Φ : Nat → List T → CR} {e : E} {ρ ρ1 : Env8} {t : T} (h : evalE Φ e ρ = .ok t ρ1) : execS Φ (.ret e) ρ = .rt t ρ1 := by
  simp only [execS, h, ofR]
theorem b1_lc {Φ : Nat → List T → CR} {b : B1} {g : G} {it : It} {c : Oc} {e : E} {own : List Nat} {ρ ρ1 : Env8} {t u : T} (h : evalE Φ (.lc g it c e own) ρ = .ok t ρ1) (hu : b1T b t = some u) : evalE Φ (.b1 b (.lc g it c e own)) ρ = .ok u ρ1 := by
  show (((evalE Φ (.lc g it c e own) ρ).bind fun t ρ => R.ok (.vl t) ρ).bind fun x ρ => op1 (b1T b) x ρ) = _
  rw [h]
  simp only [R.bind, op1, Opd.get, hu, ofO]
theorem for_acc {σ : Type} (E : σ → Env8) (f : σ → Int → σ) (P : σ → Prop) {i : Nat} {b : Env8 → O} {ks : List Nat} : ∀ (ns : List Int) (a : σ), P a → (∀ z ∈ ns, ∀ a, P a → P (f a z) ∧ i < (E a).length ∧ ∃ ρ2, b ((E a).set i (some (.int z))) = .nx ρ2 ∧ kill ks ρ2 = E (f a z)) →
    forL (bindG (.nm i)) b ks (ns.map T.int) (E a) = .nx (E (ns.foldl f a)) ∧ P (ns.foldl f a)
  | [], a, hp, _ => ⟨rfl, hp⟩
  | z :: ns, a, hp, h => by
    obtain ⟨h1, h2, ρ2, h3, h4⟩ := h z (List.mem_cons_self ..) a hp
    have ih := for_acc E f P ns (f a z) h1 fun u hu => h u (List.mem_cons_of_mem _ hu)
    refine ⟨?_, ih.2⟩
    rw [List.map_cons]
    simp only [forL, bindG, h2, if_true, h3, h4]
    exact ih.1
theorem seq_for {Φ : Nat → List T → CR} {g : G} {it : It} {b : Ss} {ks : List Nat} {ρ ρ1 : Env8} {ts : List T} {o : O} (h1 : evalIt Φ it ρ = .ok ts ρ1) (h2 : forL (bindG g) (execSs Φ b) ks ts ρ1 = o) : execS Φ (.for_ g it b ks) ρ = o := by
  simp only [execS, h1, ofR]
  exact h2
def hornerL (p c : Int) (ns : List Int) : Int := ns.reverse.foldl (fun t r => (t * c + r) % p) 0
def scaleL (p k : Int) (ns : List Int) : List Int := if k % p = 0 then [] else ns.map fun z => z * k % p
@[simp] theorem fzs_app_zs (a b : List Int) : fzs (a.map T.int ++ b.map T.int) = a.map T.int ++ b.map T.int := by
  rw [← List.map_append]; exact fzs_zs _
@[simp] theorem isFzs_app_zs (a b : List Int) : isFzs (a.map T.int ++ b.map T.int) = true := by
  rw [← List.map_append]; exact isFzs_zs _
/-! zip, pairs -/
theorem comp_pairs {own : List Nat} {e : Env8 → R T} {i j : Nat} {ρ : Env8} (f : Int → Int → T) (hi : i < ρ.length) (hj : j < ρ.length) : ∀ (ps : List (Int × Int)), ps.length ≤ PySem.sizeLine → (∀ z ∈ ps, ∃ ρ3, e ((ρ.set i (some (.int z.1))).set j (some (.int z.2))) = .ok (f z.1 z.2) ρ3 ∧ kill own ρ3 = ρ) →
    compL (bindG (.tp [i, j])) (.ok true) e own (ps.map fun z => .tup [.int z.1, .int z.2]) [] ρ = .ok (ps.map fun z => f z.1 z.2) ρ := fun ps hl h => by
  have z := comp_map (own := own) (e := e) (c := .ok true) (g := .tp [i, j]) (ρ := ρ) (fun t => match t with | .tup [.int x, .int y] => f x y | _ => .non) (ps.map fun z => .tup [.int z.1, .int z.2]) [] (by simpa using hl) fun t ht => by
    obtain ⟨z, hz, rfl⟩ := List.mem_map.mp ht
    obtain ⟨ρ3, h1, h2⟩ := h z hz
    exact ⟨_, _, ρ3, by simp [bindG, hi, hj, setAll], rfl, h1, h2⟩
  rw [z, List.nil_append, List.map_map]
  rfl
theorem zipT_zs : ∀ (a b : List Int), zipT (a.map T.int) (b.map T.int) = (a.zip b).map fun z => .tup [.int z.1, .int z.2]
  | [], _ => by simp [zipT]
  | _ :: _, [] => by simp [zipT]
  | x :: a, y :: b => by simp [zipT, zipT_zs a b]
/-- one longer than the other: the sum, place by place -/
def zipAdd (a b : List Int) : List Int := (a.zip b).map (fun z => z.1 + z.2) ++ a.drop b.length
def addL (p : Int) (a b : List Int) : List Int := if b = [] then a else if a.length < b.length then (if a = [] then b else trimZ (modL p (zipAdd b a))) else trimZ (modL p (zipAdd a b))
theorem map_isEmpty (b : List Int) : (b.map T.int).isEmpty = decide (b = []) := by cases b <;> rfl
theorem slice_from (ns : List Int) (m : Nat) (h : m ≤ ns.length) : cutT (ns.map T.int) (some (m : Int)) none = (ns.drop m).map T.int := by
  unfold cutT
  rw [HT.sIx_none, HT.sIx_nat, Nat.min_eq_left (by rw [List.length_map]; exact h), List.take_of_length_le (by rw [List.length_drop]; exact Nat.le_refl _), List.map_drop]
theorem scaleL_len (p k : Int) (ns : List Int) : (scaleL p k ns).length ≤ ns.length := by
  unfold scaleL
  split
  · simp
  · simp
end LK

end
section
set_option Elab.async false
set_option linter.all false
set_option maxRecDepth 100000
set_option maxHeartbeats 4000000
namespace LK
open FT
def enumZ : Nat → List Int → List (Nat × Int)
  | _, [] => []
  | n, z :: ns => (n, z) :: enumZ (n + 1) ns
theorem enumT_zs : ∀ (ns : List Int) (n : Nat), enumT n (ns.map T.int) = (enumZ n ns).map fun z => .tup [.int (z.1 : Nat), .int z.2]
  | [], n => rfl
  | z :: ns, n => by
    show T.tup [.int n, .int z] :: enumT (n + 1) (ns.map T.int) = _
    rw [enumT_zs ns (n + 1)]; rfl
theorem enumZ_mem : ∀ {ns : List Int} {n : Nat} {z : Nat × Int}, z ∈ enumZ n ns → z.1 < n + ns.length ∧ z.2 ∈ ns
  | [], _, _, h => by cases h
  | y :: ns, n, z, h => by
    rcases List.mem_cons.mp h with e | h
    · subst e; exact ⟨by simp <;> omega, List.mem_cons_self ..⟩
    · obtain ⟨h1, h2⟩ := enumZ_mem h
      exact ⟨by simp <;> omega, List.mem_cons_of_mem _ h2⟩
theorem for_accP {σ : Type} (E : σ → Env8) (f : σ → (Nat × Int) → σ) (P : σ → Prop) {i j : Nat} {b : Env8 → O} {ks : List Nat} : ∀ (ns : List (Nat × Int)) (a : σ), P a → (∀ z ∈ ns, ∀ a, P a → P (f a z) ∧ i < (E a).length ∧ j < (E a).length ∧ ∃ ρ2, b (((E a).set i (some (.int (z.1 : Nat)))).set j (some (.int z.2))) = .nx ρ2 ∧ kill ks ρ2 = E (f a z)) →
    forL (bindG (.tp [i, j])) b ks (ns.map fun z => .tup [.int (z.1 : Nat), .int z.2]) (E a) = .nx (E (ns.foldl f a)) ∧ P (ns.foldl f a)
  | [], a, hp, _ => ⟨rfl, hp⟩
  | z :: ns, a, hp, h => by
    obtain ⟨h1, h2, h2', ρ2, h3, h4⟩ := h z (List.mem_cons_self ..) a hp
    have ih := for_accP E f P ns (f a z) h1 fun u hu => h u (List.mem_cons_of_mem _ hu)
    refine ⟨?_, ih.2⟩
    rw [List.map_cons]
    have e : bindG (.tp [i, j]) (.tup [.int (z.1 : Nat), .int z.2]) (E a) = some (((E a).set i (some (.int (z.1 : Nat)))).set j (some (.int z.2))) := by
      simp [bindG, h2, h2', setAll]
    simp only [forL, e, h3, h4]
    exact ih.1
def addAt (s : List Int) (k : Nat) (x : Int) : List Int := s.set k (s.getD k 0 + x)
theorem addAt_len (s : List Int) (k : Nat) (x : Int) : (addAt s k x).length = s.length := by unfold addAt; rw [List.length_set]
def Small (ns : List Int) : Prop := ∀ z ∈ ns, 0 ≤ z ∧ z < 2 ^ 32
/-- sums[a + k] = sums[a + k] + l * r -/
theorem setix_sum {Φ : Nat → List T → CR} {ρ : Env8} {s : List Int} {i : Nat} {ek ev : E} {k : Nat} {x : Int} (hs : slot ρ i = some (.lst true (s.map T.int))) (hk : k < s.length) (h1 : evalE Φ ev ρ = .ok (.int x) ρ) (h2 : evalE Φ ek ρ = .ok (.int (k : Nat)) ρ) :
    execS Φ (.setix i ek ev) ρ = .nx (ρ.set i (some (.lst true ((s.set k x).map T.int)))) := by
  have e1 : L2.ixN (s.map T.int).length (k : Int) = some k := by
    unfold L2.ixN
    rw [if_pos (by omega), List.length_map, if_pos (by omega)]
    simp
  have e2 : (s.map T.int)[k]? = some (.int s[k]) := by simp [hk]
  simp only [execS, h1, R.bind, ofR, hs, h2, fz, e1, e2, isFz, if_true, List.map_set]
def innerF (a : Nat) (l : Int) (s : List Int) (z : Nat × Int) : List Int := addAt s (a + z.1) (l * z.2)
def outerF (g : List Int) (s : List Int) (z : Nat × Int) : List Int := if z.2 ≠ 0 then (enumZ 0 g).foldl (innerF z.1 z.2) s else s
def convA (f g : List Int) : List Int := (enumZ 0 f).foldl (outerF g) (List.replicate (f.length + g.length - 1) 0)
abbrev inB : Ss := (.cons (.setix 3 (.bin .Add (.var 4) (.var 7)) (.bin .Add (.ix (.var 3) (.bin .Add (.var 4) (.var 7))) (.bin .Mult (.var 5) (.var 8)))) .nil)
theorem inner_loop (Φ : Nat → List T → CR) (p : Int) (f g s : List Int) (a : Nat) (l : Int) (hl : 0 ≤ l ∧ l < 2 ^ 32) (hs : a + g.length ≤ s.length) :
    forL (bindG (.tp [7, 8])) (execSs Φ inB) [7, 8] (enumT 0 (g.map T.int))
      [some (.int p), some (.tup (f.map T.int)), some (.tup (g.map T.int)), some (.lst true (s.map T.int)), some (.int (a : Nat)), some (.int l), none, none, none] =
    .nx [some (.int p), some (.tup (f.map T.int)), some (.tup (g.map T.int)), some (.lst true (((enumZ 0 g).foldl (innerF a l) s).map T.int)), some (.int (a : Nat)), some (.int l), none, none, none] ∧ ((enumZ 0 g).foldl (innerF a l) s).length = s.length := by
  rw [enumT_zs]
  exact for_accP (fun s => [some (.int p), some (.tup (f.map T.int)), some (.tup (g.map T.int)), some (.lst true (s.map T.int)), some (.int (a : Nat)), some (.int l), none, none, none]) (innerF a l) (fun s' => s'.length = s.length) (i := 7) (j := 8) (b := execSs Φ inB) (ks := [7, 8]) (enumZ 0 g) s rfl fun z hz s' h' => by
    obtain ⟨m1, m2⟩ := enumZ_mem hz
    have hk : a + z.1 < s'.length := by omega
    refine ⟨by unfold innerF; rw [addAt_len]; exact h', by simp, by simp, [some (.int p), some (.tup (f.map T.int)), some (.tup (g.map T.int)), some (.lst true ((innerF a l s' z).map T.int)), some (.int (a : Nat)), some (.int l), none, some (.int (z.1 : Nat)), some (.int z.2)], ?_, by simp [kill]⟩
    have ea : ((a : Int) + (z.1 : Int)) = ((a + z.1 : Nat) : Int) := by omega
    have ha : ((a : Int) + (z.1 : Int)).toNat = a + z.1 := by omega
    have e1 : (-18446744073709551616 : Int) < l := by omega
    have e2 : l < (18446744073709551616 : Int) := by omega
    have q := setix_sum (Φ := Φ) (ρ := [some (.int p), some (.tup (f.map T.int)), some (.tup (g.map T.int)), some (.lst true (s'.map T.int)), some (.int (a : Nat)), some (.int l), none, some (.int (z.1 : Nat)), some (.int z.2)]) (i := 3) (ek := .bin .Add (.var 4) (.var 7)) (ev := .bin .Add (.ix (.var 3) (.bin .Add (.var 4) (.var 7))) (.bin .Mult (.var 5) (.var 8))) (s := s') (k := a + z.1) (x := s'.getD (a + z.1) 0 + l * z.2) (by simp [slot]) hk
      (by simp only [evalE, opdOf, slot, List.getElem?_cons_succ, List.getElem?_cons_zero, R.bind, op2, Opd.get, FT.binT, FT.addT, FT.mulT, ofO, ixT, ea, atI_zs (show (0 : Int) ≤ ((a + z.1 : Nat) : Int) by omega) (show ((a + z.1 : Nat) : Int) < s'.length by omega)]
          simp [pickT, isFz, mulOk, e1, e2, ofO, op2, Opd.get, R.bind, FT.addT, ha]) (by simp only [evalE, opdOf, slot, List.getElem?_cons_succ, List.getElem?_cons_zero, R.bind, op2, Opd.get, FT.binT, FT.addT, ofO, ea])
    refine seq_nx _ q ?_
    simp only [execSs, List.set_cons_succ, List.set_cons_zero, innerF, addAt]
abbrev outB : Ss := (.cons (.ifs (.cmp .NotEq (.var 5) (.int 0)) (.cons (.for_ (.tp [7, 8]) (.en (.var 2)) inB [7, 8]) .nil) .nil) .nil)
theorem seq_if {Φ : Nat → List T → CR} {c : C} {a b : Ss} {ρ ρ1 : Env8} {k : Bool} {o : O} (h : evalC Φ c ρ = .ok k ρ1) (h2 : (if k then execSs Φ a ρ1 else execSs Φ b ρ1) = o) : execS Φ (.ifs c a b) ρ = o := by
  simp only [execS, h, ofR]
  exact h2
theorem outer_loop (Φ : Nat → List T → CR) (p : Int) (f g s : List Int) (sf : Small f) (hs : s.length + 1 = f.length + g.length) :
    forL (bindG (.tp [4, 5])) (execSs Φ outB) [4, 5] (enumT 0 (f.map T.int)) [some (.int p), some (.tup (f.map T.int)), some (.tup (g.map T.int)), some (.lst true (s.map T.int)), none, none, none, none, none] =
    .nx [some (.int p), some (.tup (f.map T.int)), some (.tup (g.map T.int)), some (.lst true (((enumZ 0 f).foldl (outerF g) s).map T.int)), none, none, none, none, none] ∧ ((enumZ 0 f).foldl (outerF g) s).length = s.length := by
  rw [enumT_zs]
  exact for_accP (fun s => [some (.int p), some (.tup (f.map T.int)), some (.tup (g.map T.int)), some (.lst true (s.map T.int)), none, none, none, none, none]) (outerF g) (fun s' => s'.length = s.length) (i := 4) (j := 5) (b := execSs Φ outB) (ks := [4, 5]) (enumZ 0 f) s rfl fun z hz s' h' => by
    obtain ⟨m1, m2⟩ := enumZ_mem hz
    have hl := sf _ m2
    obtain ⟨q1, q2⟩ := inner_loop Φ p f g s' z.1 z.2 hl (by omega)
    by_cases h0 : z.2 = 0
    · refine ⟨by unfold outerF; simp [h0, h'], by simp, by simp, [some (.int p), some (.tup (f.map T.int)), some (.tup (g.map T.int)), some (.lst true ((outerF g s' z).map T.int)), some (.int (z.1 : Nat)), some (.int z.2), none, none, none], ?_, by simp [kill]⟩
      refine seq_nx _ (seq_if (k := false) (ρ1 := [some (.int p), some (.tup (f.map T.int)), some (.tup (g.map T.int)), some (.lst true (s'.map T.int)), some (.int (z.1 : Nat)), some (.int z.2), none, none, none]) (by simp [doCallW, argsW, oneL, pureT, pureTs, execSs, execS, evalC, evalE, evalEs, evalAs, evalOe, evalOc, evalIt, opdOf, readV, slot, Opd.get, ofR, ofO, R.bind, op1, op2, bindG, backs, doCall, argsOf, refsOf, nodupN, setAll, isFz, isFzs, fz, fzs, fzI, kill, putBack, keepF, FT.binT, FT.addT, FT.subT, FT.mulT, FT.modT, FT.fdvT, FT.powT, FT.cmpT, FT.ltT, FT.leT, FT.isT, FT.truT, FT.pickT, FT.ixT, FT.b1T, FT.b2T, FT.lenT, FT.isiT, FT.tyT, FT.mulOk, L2.atI, L2.ixN, h0]) rfl) ?_
      simp [execSs, outerF, h0]
    · refine ⟨by unfold outerF; rw [if_pos h0]; exact q2.trans h', by simp, by simp, [some (.int p), some (.tup (f.map T.int)), some (.tup (g.map T.int)), some (.lst true ((outerF g s' z).map T.int)), some (.int (z.1 : Nat)), some (.int z.2), none, none, none], ?_, by simp [kill]⟩
      have e : outerF g s' z = (enumZ 0 g).foldl (innerF z.1 z.2) s' := by unfold outerF; rw [if_pos h0]
      rw [e]
      refine seq_nx _ (seq_if (k := true) (ρ1 := [some (.int p), some (.tup (f.map T.int)), some (.tup (g.map T.int)), some (.lst true (s'.map T.int)), some (.int (z.1 : Nat)), some (.int z.2), none, none, none]) (by simp [doCallW, argsW, oneL, pureT, pureTs, execSs, execS, evalC, evalE, evalEs, evalAs, evalOe, evalOc, evalIt, opdOf, readV, slot, Opd.get, ofR, ofO, R.bind, op1, op2, bindG, backs, doCall, argsOf, refsOf, nodupN, setAll, isFz, isFzs, fz, fzs, fzI, kill, putBack, keepF, FT.binT, FT.addT, FT.subT, FT.mulT, FT.modT, FT.fdvT, FT.powT, FT.cmpT, FT.ltT, FT.leT, FT.isT, FT.truT, FT.pickT, FT.ixT, FT.b1T, FT.b2T, FT.lenT, FT.isiT, FT.tyT, FT.mulOk, L2.atI, L2.ixN, h0]) (seq_nx _ (seq_for (ts := enumT 0 (g.map T.int)) (by simp [doCallW, argsW, oneL, pureT, pureTs, execSs, execS, evalC, evalE, evalEs, evalAs, evalOe, evalOc, evalIt, opdOf, readV, slot, Opd.get, ofR, ofO, R.bind, op1, op2, bindG, backs, doCall, argsOf, refsOf, nodupN, setAll, isFz, isFzs, fz, fzs, fzI, kill, putBack, keepF, FT.binT, FT.addT, FT.subT, FT.mulT, FT.modT, FT.fdvT, FT.powT, FT.cmpT, FT.ltT, FT.leT, FT.isT, FT.truT, FT.pickT, FT.ixT, FT.b1T, FT.b2T, FT.lenT, FT.isiT, FT.tyT, FT.mulOk, L2.atI, L2.ixN, seqT]) q1) rfl)) rfl
theorem rngL_map (n : Nat) : rngL 0 n = (List.range n).map fun k => T.int (k : Nat) := by
  unfold rngL
  simp
theorem zeros_comp {Φ : Nat → List T → CR} {ρ : Env8} {i : Nat} (n : Nat) (hi : i < ρ.length) (hl : n ≤ PySem.sizeLine) (h : ∀ t, kill [i] (ρ.set i (some t)) = ρ) : compL (bindG (.nm i)) (.ok true) (evalE Φ (.int 0)) [i] (rngL 0 n) [] ρ = .ok ((List.replicate n (0 : Int)).map T.int) ρ := by
  have z := comp_map (own := [i]) (e := evalE Φ (.int 0)) (c := .ok true) (g := .nm i) (ρ := ρ) (fun _ => T.int 0) (rngL 0 n) [] (by rw [rngL_length]; simpa using hl) fun t ht => ⟨ρ.set i (some t), ρ.set i (some t), ρ.set i (some t), by simp [bindG, hi], rfl, rfl, h t⟩
  rw [z, List.nil_append, rngL_map, List.map_map, List.map_replicate]
  congr 1
  apply List.ext_getElem
  · simp
  · intro k h1 h2; simp
theorem mult_spec (n : Nat) (p : Int) (hp : 0 < p) (f g : List Int) (hf : f.length ≤ 300) (hg : g.length ≤ 300) (sf : Small f) : callN fns (n + 2) 2 [.int p, .tup (f.map T.int), .tup (g.map T.int)] = .ok (.tup ((if f = [] ∨ g = [] then [] else trimZ (modL p (convA f g))).map T.int)) [] := by
  show runFn _ f2 _ = _
  by_cases h0 : f = [] ∨ g = []
  · rw [if_pos h0]
    refine run_of (ρ := [some (.int p), some (.tup (f.map T.int)), some (.tup (g.map T.int)), none, none, none, none, none, none]) [some (.int p), some (.tup (f.map T.int)), some (.tup (g.map T.int)), none, none, none, none, none, none] rfl rfl (seq_rt ?_) rfl
    rcases h0 with h0 | h0
    · subst h0; simp [doCallW, argsW, oneL, pureT, pureTs, execSs, execS, evalC, evalE, evalEs, evalAs, evalOe, evalOc, evalIt, opdOf, readV, slot, Opd.get, ofR, ofO, R.bind, op1, op2, bindG, backs, doCall, argsOf, refsOf, nodupN, setAll, isFz, isFzs, fz, fzs, fzI, kill, putBack, keepF, FT.binT, FT.addT, FT.subT, FT.mulT, FT.modT, FT.fdvT, FT.powT, FT.cmpT, FT.ltT, FT.leT, FT.isT, FT.truT, FT.pickT, FT.ixT, FT.b1T, FT.b2T, FT.lenT, FT.isiT, FT.tyT, FT.mulOk, L2.atI, L2.ixN]
    · by_cases h1 : f = []
      · subst h0 h1; simp [doCallW, argsW, oneL, pureT, pureTs, execSs, execS, evalC, evalE, evalEs, evalAs, evalOe, evalOc, evalIt, opdOf, readV, slot, Opd.get, ofR, ofO, R.bind, op1, op2, bindG, backs, doCall, argsOf, refsOf, nodupN, setAll, isFz, isFzs, fz, fzs, fzI, kill, putBack, keepF, FT.binT, FT.addT, FT.subT, FT.mulT, FT.modT, FT.fdvT, FT.powT, FT.cmpT, FT.ltT, FT.leT, FT.isT, FT.truT, FT.pickT, FT.ixT, FT.b1T, FT.b2T, FT.lenT, FT.isiT, FT.tyT, FT.mulOk, L2.atI, L2.ixN]
      · subst h0; simp [doCallW, argsW, oneL, pureT, pureTs, execSs, execS, evalC, evalE, evalEs, evalAs, evalOe, evalOc, evalIt, opdOf, readV, slot, Opd.get, ofR, ofO, R.bind, op1, op2, bindG, backs, doCall, argsOf, refsOf, nodupN, setAll, isFz, isFzs, fz, fzs, fzI, kill, putBack, keepF, FT.binT, FT.addT, FT.subT, FT.mulT, FT.modT, FT.fdvT, FT.powT, FT.cmpT, FT.ltT, FT.leT, FT.isT, FT.truT, FT.pickT, FT.ixT, FT.b1T, FT.b2T, FT.lenT, FT.isiT, FT.tyT, FT.mulOk, L2.atI, L2.ixN, h1]
  · rw [if_neg h0]
    have h1 : f ≠ [] := fun e => h0 (.inl e)
    have h2 : g ≠ [] := fun e => h0 (.inr e)
    have l1 : 0 < f.length := List.length_pos_iff.mpr h1
    have l2 : 0 < g.length := List.length_pos_iff.mpr h2
    obtain ⟨o1, o2⟩ := outer_loop (callN fns (n + 1)) p f g (List.replicate (f.length + g.length - 1) 0) sf (by rw [List.length_replicate]; omega)
    have hc := zeros_comp (Φ := callN fns (n + 1)) (ρ := [some (.int p), some (.tup (f.map T.int)), some (.tup (g.map T.int)), none, none, none, none, none, none]) (i := 6) (f.length + g.length - 1) (by simp) (by rw [line_big]; omega) (fun t => by simp [kill])
    have en : ((f.length : Int) + g.length - 1).toNat = f.length + g.length - 1 := by omega
    have e3 : -4611686018427387904 ≤ ((f.length : Int) + g.length - 1) := by omega
    have e4 : ((f.length : Int) + g.length - 1) < 4611686018427387904 := by omega
    have hl := lc_eval (it := .r1 (.bin .Sub (.bin .Add (.b1 .len (.var 1)) (.b1 .len (.var 2))) (.int 1))) (c := .no) (ρ := [some (.int p), some (.tup (f.map T.int)), some (.tup (g.map T.int)), none, none, none, none, none, none]) (ρ1 := [some (.int p), some (.tup (f.map T.int)), some (.tup (g.map T.int)), none, none, none, none, none, none]) (ts := rngL 0 (f.length + g.length - 1)) (by simp [doCallW, argsW, oneL, pureT, pureTs, execSs, execS, evalC, evalE, evalEs, evalAs, evalOe, evalOc, evalIt, opdOf, readV, slot, Opd.get, ofR, ofO, R.bind, op1, op2, bindG, backs, doCall, argsOf, refsOf, nodupN, setAll, isFz, isFzs, fz, fzs, fzI, kill, putBack, keepF, FT.binT, FT.addT, FT.subT, FT.mulT, FT.modT, FT.fdvT, FT.powT, FT.cmpT, FT.ltT, FT.leT, FT.isT, FT.truT, FT.pickT, FT.ixT, FT.b1T, FT.b2T, FT.lenT, FT.isiT, FT.tyT, FT.mulOk, L2.atI, L2.ixN, rngOk, en, e3, e4]) hc
    rw [fzs_zs] at hl
    simp only [putBack, keepF, slot, List.getElem?_cons_succ, List.getElem?_cons_zero, List.set_cons_succ, List.set_cons_zero] at hl
    have hm := form_spec n p hp (.lst false ((convA f g).map T.int)) (convA f g) (.inr rfl) (by unfold convA; rw [o2, List.length_replicate]; omega)
    refine run_of (ρ := [some (.int p), some (.tup (f.map T.int)), some (.tup (g.map T.int)), some (.lst false ((convA f g).map T.int)), none, none, none, none, none]) [some (.int p), some (.tup (f.map T.int)), some (.tup (g.map T.int)), none, none, none, none, none, none] rfl rfl
      (seq_nx [some (.int p), some (.tup (f.map T.int)), some (.tup (g.map T.int)), none, none, none, none, none, none] (by simp [doCallW, argsW, oneL, pureT, pureTs, execSs, execS, evalC, evalE, evalEs, evalAs, evalOe, evalOc, evalIt, opdOf, readV, slot, Opd.get, ofR, ofO, R.bind, op1, op2, bindG, backs, doCall, argsOf, refsOf, nodupN, setAll, isFz, isFzs, fz, fzs, fzI, kill, putBack, keepF, FT.binT, FT.addT, FT.subT, FT.mulT, FT.modT, FT.fdvT, FT.powT, FT.cmpT, FT.ltT, FT.leT, FT.isT, FT.truT, FT.pickT, FT.ixT, FT.b1T, FT.b2T, FT.lenT, FT.isiT, FT.tyT, FT.mulOk, L2.atI, L2.ixN, h1, h2]) (seq_nx _ (asg_nm hl (by simp)) (seq_nx _ (seq_for (ts := enumT 0 (f.map T.int)) (by simp [doCallW, argsW, oneL, pureT, pureTs, execSs, execS, evalC, evalE, evalEs, evalAs, evalOe, evalOc, evalIt, opdOf, readV, slot, Opd.get, ofR, ofO, R.bind, op1, op2, bindG, backs, doCall, argsOf, refsOf, nodupN, setAll, isFz, isFzs, fz, fzs, fzI, kill, putBack, keepF, FT.binT, FT.addT, FT.subT, FT.mulT, FT.modT, FT.fdvT, FT.powT, FT.cmpT, FT.ltT, FT.leT, FT.isT, FT.truT, FT.pickT, FT.ixT, FT.b1T, FT.b2T, FT.lenT, FT.isiT, FT.tyT, FT.mulOk, L2.atI, L2.ixN, seqT]) o1) (seq_rt ?_)))) rfl
    have ec : (enumZ 0 f).foldl (outerF g) (List.replicate (f.length + g.length - 1) 0) = convA f g := rfl
    rw [ec]
    simp [doCallW, argsW, oneL, pureT, pureTs, execSs, execS, evalC, evalE, evalEs, evalAs, evalOe, evalOc, evalIt, opdOf, readV, slot, Opd.get, ofR, ofO, R.bind, op1, op2, bindG, backs, doCall, argsOf, refsOf, nodupN, setAll, isFz, isFzs, fz, fzs, fzI, kill, putBack, keepF, FT.binT, FT.addT, FT.subT, FT.mulT, FT.modT, FT.fdvT, FT.powT, FT.cmpT, FT.ltT, FT.leT, FT.isT, FT.truT, FT.pickT, FT.ixT, FT.b1T, FT.b2T, FT.lenT, FT.isiT, FT.tyT, FT.mulOk, L2.atI, L2.ixN, hm]
end LK

end
section
set_option Elab.async false
set_option linter.all false
set_option maxRecDepth 100000
set_option maxHeartbeats 4000000
namespace LK
open FT
theorem cut63 (ns : List Int) (h : ns.length ≤ 63) : cutT (ns.map T.int) none (some 63) = ns.map T.int := by
  unfold cutT
  rw [HT.sIx_none]
  have e : HT.sIx (ns.map T.int).length (ns.map T.int).length (some ((63 : Nat) : Int)) = ns.length := by
    rw [HT.sIx_nat, List.length_map]; omega
  rw [show ((63 : Nat) : Int) = 63 from rfl] at e
  rw [e, List.drop_zero, Nat.sub_zero, List.take_of_length_le (by rw [List.length_map]; exact Nat.le_refl _)]
theorem bag_spec (n : Nat) (ns : List Int) (h : ns.length ≤ 63) : ∃ b : BagS, callN fns (n + 1) 5 [.slst (ns.map T.int)] = .ok b.t [] ∧ b.Ok := by
  have hf := for_acc (fun a : Int => [some (.slst (ns.map T.int)), some (.int a), none]) (fun a z => (a * 69621 + z % 999983 * 733 + 17) % 2147483629) (fun a => 0 ≤ a ∧ a < 2147483629) (i := 2) (b := execSs (callN fns n) (.cons (.asg (.nm 1) (.bin .Mod (.b1 .int (.bin .Add (.bin .Add (.bin .Mult (.var 1) (.int 69621)) (.bin .Mult (.bin .Mod (.b1 .int (.var 2)) (.int 999983)) (.int 733))) (.int 17))) (.int 2147483629))) .nil)) (ks := [2]) ns 4201 (by omega) fun z hz a ha => by
    refine ⟨by omega, by simp, [some (.slst (ns.map T.int)), some (.int ((a * 69621 + z % 999983 * 733 + 17) % 2147483629)), some (.int z)], ?_, by simp [kill]⟩
    simp [doCallW, argsW, oneL, pureT, pureTs, execSs, execS, evalC, evalE, evalEs, evalAs, evalOe, evalOc, evalIt, opdOf, readV, slot, Opd.get, ofR, ofO, R.bind, op1, op2, bindG, backs, doCall, argsOf, refsOf, nodupN, setAll, isFz, isFzs, fz, fzs, fzI, kill, putBack, keepF, FT.binT, FT.addT, FT.subT, FT.mulT, FT.modT, FT.fdvT, FT.powT, FT.cmpT, FT.ltT, FT.leT, FT.isT, FT.truT, FT.pickT, FT.ixT, FT.b1T, FT.b2T, FT.lenT, FT.isiT, FT.tyT, FT.mulOk, L2.atI, L2.ixN]
  obtain ⟨h1, h2⟩ := hf
  refine ⟨⟨ns, 0, 0, ns.foldl (fun a z => (a * 69621 + z % 999983 * 733 + 17) % 2147483629) 4201, 0⟩, ?_, ⟨Int.le_refl 0, Int.le_refl 0, h2⟩⟩
  show runFn _ f5 _ = _
  have c := cut63 ns h
  refine run_of (ρ := [some (.slst (ns.map T.int)), some (.int (ns.foldl (fun a z => (a * 69621 + z % 999983 * 733 + 17) % 2147483629) 4201)), none]) [some (.slst (ns.map T.int)), none, none] rfl rfl (seq_nx [some (.slst (ns.map T.int)), some (.int 4201), none] (by simp [doCallW, argsW, oneL, pureT, pureTs, execSs, execS, evalC, evalE, evalEs, evalAs, evalOe, evalOc, evalIt, opdOf, readV, slot, Opd.get, ofR, ofO, R.bind, op1, op2, bindG, backs, doCall, argsOf, refsOf, nodupN, setAll, isFz, isFzs, fz, fzs, fzI, kill, putBack, keepF, FT.binT, FT.addT, FT.subT, FT.mulT, FT.modT, FT.fdvT, FT.powT, FT.cmpT, FT.ltT, FT.leT, FT.isT, FT.truT, FT.pickT, FT.ixT, FT.b1T, FT.b2T, FT.lenT, FT.isiT, FT.tyT, FT.mulOk, L2.atI, L2.ixN]) (seq_nx _ (seq_for (ts := ns.map T.int) (by simp [doCallW, argsW, oneL, pureT, pureTs, execSs, execS, evalC, evalE, evalEs, evalAs, evalOe, evalOc, evalIt, opdOf, readV, slot, Opd.get, ofR, ofO, R.bind, op1, op2, bindG, backs, doCall, argsOf, refsOf, nodupN, setAll, isFz, isFzs, fz, fzs, fzI, kill, putBack, keepF, FT.binT, FT.addT, FT.subT, FT.mulT, FT.modT, FT.fdvT, FT.powT, FT.cmpT, FT.ltT, FT.leT, FT.isT, FT.truT, FT.pickT, FT.ixT, FT.b1T, FT.b2T, FT.lenT, FT.isiT, FT.tyT, FT.mulOk, L2.atI, L2.ixN, slT, c, itemsT]) h1) (seq_rt ?_))) rfl
  have l1 : 5 ≤ PySem.sizeLine := by rw [line_big]; omega
  simp [doCallW, argsW, oneL, pureT, pureTs, execSs, execS, evalC, evalE, evalEs, evalAs, evalOe, evalOc, evalIt, opdOf, readV, slot, Opd.get, ofR, ofO, R.bind, op1, op2, bindG, backs, doCall, argsOf, refsOf, nodupN, setAll, isFz, isFzs, fz, fzs, fzI, kill, putBack, keepF, FT.binT, FT.addT, FT.subT, FT.mulT, FT.modT, FT.fdvT, FT.powT, FT.cmpT, FT.ltT, FT.leT, FT.isT, FT.truT, FT.pickT, FT.ixT, FT.b1T, FT.b2T, FT.lenT, FT.isiT, FT.tyT, FT.mulOk, L2.atI, L2.ixN, slT, c, l1, BagS.t]
theorem of_spec (n : Nat) (b : BagS) (hb : b.Ok) (o : Bool) (xs : List T) (hz : isFzs xs = true) (h0 : xs ≠ []) (hl : xs.length ≤ 1000) : ∃ (t : T) (b' : BagS), callN fns (n + 2) 7 [b.t, .lst o xs] = .ok t [b'.t] ∧ t ∈ xs ∧ b'.Ok := by
  have l0 : 0 < xs.length := List.length_pos_iff.mpr h0
  obtain ⟨v, b', e, h1, h2, h3⟩ := draw_spec n b hb xs.length (by omega) (by omega)
  have hv : v.toNat < xs.length := by omega
  refine ⟨xs[v.toNat], b', ?_, List.getElem_mem hv, h3⟩
  have hm : isFz xs[v.toNat] = true := by
    rw [isFzs_all] at hz
    exact List.all_eq_true.mp hz _ (List.getElem_mem hv)
  show runFn _ f7 _ = _
  refine run_of (ρ := [some b'.t, some (.lst o xs)]) [some b.t, some (.lst o xs)] rfl rfl (seq_rt ?_) rfl
  have e1 : L2.atI xs v = some xs[v.toNat] := by
    unfold L2.atI L2.ixN
    rw [if_pos h1, if_pos h2]
    simp [hv]
  simp [doCallW, argsW, oneL, pureT, pureTs, execSs, execS, evalC, evalE, evalEs, evalAs, evalOe, evalOc, evalIt, opdOf, readV, slot, Opd.get, ofR, ofO, R.bind, op1, op2, bindG, backs, doCall, argsOf, refsOf, nodupN, setAll, isFz, isFzs, fz, fzs, fzI, kill, putBack, keepF, FT.b1T, FT.lenT, e, FT.ixT, FT.pickT, e1, hm]
/-! _law_same -/
@[simp] theorem eqT_bl (a b : Bool) : eqT (.bl a) (.bl b) = some (decide (a = b)) := by
  cases a <;> cases b <;> rfl
theorem same_int (n : Nat) (a : Int) : callN fns (n + 1) 8 [.int a, .int a] = .ok (.bl true) [] := by
  show runFn (callN fns n) f8 _ = _
  unfold runFn f8
  simp [doCallW, argsW, oneL, pureT, pureTs, execSs, execS, evalC, evalE, evalEs, evalAs, evalOe, evalOc, evalIt, opdOf, readV, slot, Opd.get, ofR, ofO, R.bind, op1, op2, bindG, backs, doCall, argsOf, refsOf, nodupN, setAll, isFz, isFzs, fz, fzs, fzI, kill, putBack, keepF, FT.binT, FT.addT, FT.subT, FT.mulT, FT.modT, FT.fdvT, FT.powT, FT.cmpT, FT.ltT, FT.leT, FT.isT, FT.truT, FT.pickT, FT.ixT, FT.b1T, FT.b2T, FT.lenT, FT.isiT, FT.tyT, FT.mulOk, L2.atI, L2.ixN]
theorem same_non (n : Nat) : callN fns (n + 1) 8 [.non, .non] = .ok (.bl true) [] := by
  show runFn (callN fns n) f8 _ = _
  unfold runFn f8
  simp [doCallW, argsW, oneL, pureT, pureTs, execSs, execS, evalC, evalE, evalEs, evalAs, evalOe, evalOc, evalIt, opdOf, readV, slot, Opd.get, ofR, ofO, R.bind, op1, op2, bindG, backs, doCall, argsOf, refsOf, nodupN, setAll, isFz, isFzs, fz, fzs, fzI, kill, putBack, keepF, FT.binT, FT.addT, FT.subT, FT.mulT, FT.modT, FT.fdvT, FT.powT, FT.cmpT, FT.ltT, FT.leT, FT.isT, FT.truT, FT.pickT, FT.ixT, FT.b1T, FT.b2T, FT.lenT, FT.isiT, FT.tyT, FT.mulOk, L2.atI, L2.ixN]
theorem and_tt {Φ : Nat → List T → CR} {a b : E} {ρ ρ1 : Env8} (h : evalE Φ a ρ = .ok (.bl true) ρ1) : evalE Φ (.and a b) ρ = evalE Φ b ρ1 := by
  simp only [evalE, h, R.bind]
theorem zipT_self : ∀ xs : List T, zipT xs xs = xs.map fun t => .tup [t, t]
  | [] => rfl
  | x :: xs => by
    show T.tup [x, x] :: zipT xs xs = _
    rw [zipT_self xs]; rfl
theorem bsT_true : ∀ xs : List T, bsT (xs.map fun _ => T.bl true) = some (xs.map fun _ => true)
  | [] => rfl
  | x :: xs => by
    show (bsT (xs.map fun _ => T.bl true)).map (true :: ·) = _
    rw [bsT_true xs]; rfl
theorem all_true : ∀ xs : List T, (xs.map fun _ => true).all id = true
  | [] => rfl
  | x :: xs => by
    rw [List.map_cons, List.all_cons, all_true xs]; rfl
theorem fzs_bl : ∀ xs : List T, fzs (xs.map fun _ => T.bl true) = xs.map fun _ => T.bl true
  | [] => rfl
  | x :: xs => by rw [List.map_cons]; unfold fzs; rw [fzs_bl xs]; rfl
theorem same_comp (Φ : Nat → List T → CR) (d : T) (xs : List T) (hz : isFzs xs = true) (hl : xs.length ≤ 1000) (h : ∀ t ∈ xs, Φ 8 [t, t] = .ok (.bl true) []) (hd : isFz d = true) (hs : seqT d = some xs) (hzp : zipOk d d = some (zipT xs xs)) :
    evalE Φ (.lc (.tp [2, 3]) (.zp (.var 0) (.var 1)) .no (.call 8 (.v (.var 2) (.v (.var 3) .nil))) [2, 3]) [some d, some d, none, none] = .ok (.lst true (xs.map fun _ => T.bl true)) [some d, some d, none, none] := by
  have hc : compL (bindG (.tp [2, 3])) (.ok true) (evalE Φ (.call 8 (.v (.var 2) (.v (.var 3) .nil)))) [2, 3] (zipT xs xs) [] [some d, some d, none, none] = .ok (xs.map fun _ => T.bl true) [some d, some d, none, none] := by
    rw [zipT_self, comp_map (fun _ => .bl true) _ [] (by rw [line_big]; simp; omega) fun t ht => ?_]
    · simp
    · obtain ⟨u, hu, rfl⟩ := List.mem_map.mp ht
      have hf : isFz u = true := by
        rw [isFzs_all] at hz
        exact List.all_eq_true.mp hz _ hu
      have hfz : fz u = u := fz_of u hf
      refine ⟨[some d, some d, some u, some u], [some d, some d, some u, some u], [some d, some d, some u, some u], by simp [bindG, setAll], rfl, ?_, by simp [kill]⟩
      simp [doCallW, argsW, oneL, pureT, pureTs, execSs, execS, evalC, evalE, evalEs, evalAs, evalOe, evalOc, evalIt, opdOf, readV, slot, Opd.get, ofR, ofO, R.bind, op1, op2, bindG, backs, doCall, argsOf, refsOf, nodupN, setAll, isFz, isFzs, fz, fzs, fzI, kill, putBack, keepF, hf, hfz, h u hu]
  have hfd : fz d = d := fz_of d hd
  have hl := lc_eval (it := .zp (.var 0) (.var 1)) (c := .no) (ρ := [some d, some d, none, none]) (ρ1 := [some d, some d, none, none]) (ts := zipT xs xs) (by simp [doCallW, argsW, oneL, pureT, pureTs, execSs, execS, evalC, evalE, evalEs, evalAs, evalOe, evalOc, evalIt, opdOf, readV, slot, Opd.get, ofR, ofO, R.bind, op1, op2, bindG, backs, doCall, argsOf, refsOf, nodupN, setAll, isFz, isFzs, fz, fzs, fzI, kill, putBack, keepF, hd, hfd, hzp]) hc
  rw [fzs_bl] at hl
  simpa [putBack, keepF, slot] using hl
theorem same_tup (n : Nat) (xs : List T) (hz : isFzs xs = true) (hl : xs.length ≤ 1000) (h : ∀ t ∈ xs, callN fns n 8 [t, t] = .ok (.bl true) []) : callN fns (n + 1) 8 [.tup xs, .tup xs] = .ok (.bl true) [] := by
  have hc := same_comp (callN fns n) (.tup xs) xs hz hl h (by unfold isFz; exact hz) (by simp [seqT, hz]) (by simp [zipOk, hz])
  have hb := b1_lc (b := .all) (u := .bl true) hc (by simp only [b1T, bsT_true, Option.map_some, all_true])
  show runFn (callN fns n) f8 _ = _
  refine run_of (ρ := [some (.tup xs), some (.tup xs), none, none]) [some (.tup xs), some (.tup xs), none, none] rfl rfl (seq_rt (seq_if (k := true) (ρ1 := [some (.tup xs), some (.tup xs), none, none]) (by simp [doCallW, argsW, oneL, pureT, pureTs, execSs, execS, evalC, evalE, evalEs, evalAs, evalOe, evalOc, evalIt, opdOf, readV, slot, Opd.get, ofR, ofO, R.bind, op1, op2, bindG, backs, doCall, argsOf, refsOf, nodupN, setAll, isFz, isFzs, fz, fzs, fzI, kill, putBack, keepF, FT.binT, FT.addT, FT.subT, FT.mulT, FT.modT, FT.fdvT, FT.powT, FT.cmpT, FT.ltT, FT.leT, FT.isT, FT.truT, FT.pickT, FT.ixT, FT.b1T, FT.b2T, FT.lenT, FT.isiT, FT.tyT, FT.mulOk, L2.atI, L2.ixN]) ?_)) rfl
  rw [if_pos rfl]
  refine seq_nx [some (.tup xs), some (.tup xs), none, none] (by simp [doCallW, argsW, oneL, pureT, pureTs, execSs, execS, evalC, evalE, evalEs, evalAs, evalOe, evalOc, evalIt, opdOf, readV, slot, Opd.get, ofR, ofO, R.bind, op1, op2, bindG, backs, doCall, argsOf, refsOf, nodupN, setAll, isFz, isFzs, fz, fzs, fzI, kill, putBack, keepF, FT.binT, FT.addT, FT.subT, FT.mulT, FT.modT, FT.fdvT, FT.powT, FT.cmpT, FT.ltT, FT.leT, FT.isT, FT.truT, FT.pickT, FT.ixT, FT.b1T, FT.b2T, FT.lenT, FT.isiT, FT.tyT, FT.mulOk, L2.atI, L2.ixN]) (seq_rt (ret_eval ?_))
  have e1 : evalE (callN fns n) (.cmp .Eq (.b1 .len (.var 0)) (.b1 .len (.var 1))) [some (.tup xs), some (.tup xs), none, none] = .ok (.bl true) [some (.tup xs), some (.tup xs), none, none] := by simp [doCallW, argsW, oneL, pureT, pureTs, execSs, execS, evalC, evalE, evalEs, evalAs, evalOe, evalOc, evalIt, opdOf, readV, slot, Opd.get, ofR, ofO, R.bind, op1, op2, bindG, backs, doCall, argsOf, refsOf, nodupN, setAll, isFz, isFzs, fz, fzs, fzI, kill, putBack, keepF, FT.binT, FT.addT, FT.subT, FT.mulT, FT.modT, FT.fdvT, FT.powT, FT.cmpT, FT.ltT, FT.leT, FT.isT, FT.truT, FT.pickT, FT.ixT, FT.b1T, FT.b2T, FT.lenT, FT.isiT, FT.tyT, FT.mulOk, L2.atI, L2.ixN]
  rw [and_tt e1]
  exact hb
theorem same_lst (n : Nat) (xs : List T) (hz : isFzs xs = true) (hl : xs.length ≤ 1000) (h : ∀ t ∈ xs, callN fns n 8 [t, t] = .ok (.bl true) []) : callN fns (n + 1) 8 [.lst false xs, .lst false xs] = .ok (.bl true) [] := by
  have hc := same_comp (callN fns n) (.lst false xs) xs hz hl h (by unfold isFz; simpa using hz) (by simp [seqT, hz]) (by simp [zipOk, hz])
  have hb := b1_lc (b := .all) (u := .bl true) hc (by simp only [b1T, bsT_true, Option.map_some, all_true])
  show runFn (callN fns n) f8 _ = _
  refine run_of (ρ := [some (.lst false xs), some (.lst false xs), none, none]) [some (.lst false xs), some (.lst false xs), none, none] rfl rfl (seq_rt (seq_if (k := true) (ρ1 := [some (.lst false xs), some (.lst false xs), none, none]) (by simp [doCallW, argsW, oneL, pureT, pureTs, execSs, execS, evalC, evalE, evalEs, evalAs, evalOe, evalOc, evalIt, opdOf, readV, slot, Opd.get, ofR, ofO, R.bind, op1, op2, bindG, backs, doCall, argsOf, refsOf, nodupN, setAll, isFz, isFzs, fz, fzs, fzI, kill, putBack, keepF, FT.binT, FT.addT, FT.subT, FT.mulT, FT.modT, FT.fdvT, FT.powT, FT.cmpT, FT.ltT, FT.leT, FT.isT, FT.truT, FT.pickT, FT.ixT, FT.b1T, FT.b2T, FT.lenT, FT.isiT, FT.tyT, FT.mulOk, L2.atI, L2.ixN]) ?_)) rfl
  rw [if_pos rfl]
  refine seq_nx [some (.lst false xs), some (.lst false xs), none, none] (by simp [doCallW, argsW, oneL, pureT, pureTs, execSs, execS, evalC, evalE, evalEs, evalAs, evalOe, evalOc, evalIt, opdOf, readV, slot, Opd.get, ofR, ofO, R.bind, op1, op2, bindG, backs, doCall, argsOf, refsOf, nodupN, setAll, isFz, isFzs, fz, fzs, fzI, kill, putBack, keepF, FT.binT, FT.addT, FT.subT, FT.mulT, FT.modT, FT.fdvT, FT.powT, FT.cmpT, FT.ltT, FT.leT, FT.isT, FT.truT, FT.pickT, FT.ixT, FT.b1T, FT.b2T, FT.lenT, FT.isiT, FT.tyT, FT.mulOk, L2.atI, L2.ixN]) (seq_rt (ret_eval ?_))
  have e1 : evalE (callN fns n) (.cmp .Eq (.b1 .len (.var 0)) (.b1 .len (.var 1))) [some (.lst false xs), some (.lst false xs), none, none] = .ok (.bl true) [some (.lst false xs), some (.lst false xs), none, none] := by simp [doCallW, argsW, oneL, pureT, pureTs, execSs, execS, evalC, evalE, evalEs, evalAs, evalOe, evalOc, evalIt, opdOf, readV, slot, Opd.get, ofR, ofO, R.bind, op1, op2, bindG, backs, doCall, argsOf, refsOf, nodupN, setAll, isFz, isFzs, fz, fzs, fzI, kill, putBack, keepF, FT.binT, FT.addT, FT.subT, FT.mulT, FT.modT, FT.fdvT, FT.powT, FT.cmpT, FT.ltT, FT.leT, FT.isT, FT.truT, FT.pickT, FT.ixT, FT.b1T, FT.b2T, FT.lenT, FT.isiT, FT.tyT, FT.mulOk, L2.atI, L2.ixN]
  rw [and_tt e1]
  exact hb
theorem same_ints (n : Nat) (ns : List Int) (h : ns.length ≤ 1000) : callN fns (n + 2) 8 [.tup (ns.map T.int), .tup (ns.map T.int)] = .ok (.bl true) [] :=
  same_tup (n + 1) _ (isFzs_zs ns) (by simpa using h) fun t ht => by
    obtain ⟨z, _, rfl⟩ := List.mem_map.mp ht
    exact same_int n z
end LK

end
section
set_option Elab.async false
set_option linter.all false
set_option maxRecDepth 100000
set_option maxHeartbeats 4000000
namespace LK
open FT
def primesL : List Int := [2, 3, 5, 7, 11, 13, 17, 19, 23, 29, 31, 37, 41, 43, 47, 53, 59, 61, 67, 71, 73, 79, 83, 89, 97]
theorem primes_spec (n : Nat) : callN fns (n + 1) 10 [] = .ok (.lst true (primesL.map T.int)) [] := by
  show runFn (callN fns n) f10 [] = _
  kernel_rfl
def invGo : Nat → Int → Int → Int → Int → Option Int
  | 0, _, _, _, _ => none
  | f + 1, high, low, old, new => if 0 ≤ high ∧ high < 2 ^ 32 ∧ low < 2 ^ 32 then (if low > 1 then invGo f low (high - high / low * low) new (old - high / low * new) else some new) else none
abbrev invB : Ss := (.cons (.asg (.nm 6) (.bin .FloorDiv (.var 2) (.var 3))) (.cons (.par [2, 3] (.cons (.var 3) (.cons (.bin .Sub (.var 2) (.bin .Mult (.var 6) (.var 3))) .nil))) (.cons (.par [4, 5] (.cons (.var 5) (.cons (.bin .Sub (.var 4) (.bin .Mult (.var 6) (.var 5))) .nil))) .nil)))
theorem inv_loop (Φ : Nat → List T → CR) (p r : Int) : ∀ (f fuel : Nat) (high low old new v : Int), f ≤ fuel → invGo f high low old new = some v →
    ∃ h2 l2 o2, whilL (evalC Φ (.cmp .Gt (.var 3) (.int 1))) (execSs Φ invB) [6] fuel [some (.int p), some (.int r), some (.int high), some (.int low), some (.int old), some (.int new), none] = .nx [some (.int p), some (.int r), some (.int h2), some (.int l2), some (.int o2), some (.int v), none]
  | 0, _, _, _, _, _, _, _, h => by cases h
  | f + 1, 0, _, _, _, _, _, hl, _ => by omega
  | f + 1, fuel + 1, high, low, old, new, v, hl, h => by
    unfold invGo at h
    split at h
    · rename_i g
      obtain ⟨g1, g2, g3⟩ := g
      split at h
      · rename_i g4
        obtain ⟨h2, l2, o2, ih⟩ := inv_loop Φ p r f fuel _ _ _ _ v (by omega) h
        refine ⟨h2, l2, o2, ?_⟩
        rw [← ih]
        have g5 : (0 : Int) < low := by omega
        have l9 := log2_small g5 (by omega)
        have q1 : 0 ≤ high / low := Int.ediv_nonneg g1 (by omega)
        have q2 : high / low ≤ high := Int.ediv_le_self _ g1
        have e1 : (-18446744073709551616 : Int) < high / low := by omega
        have e2 : high / low < (18446744073709551616 : Int) := by omega
        have b1 : execSs Φ invB [some (.int p), some (.int r), some (.int high), some (.int low), some (.int old), some (.int new), none] = .nx [some (.int p), some (.int r), some (.int low), some (.int (high - high / low * low)), some (.int new), some (.int (old - high / low * new)), some (.int (high / low))] := by
          simp [doCallW, argsW, oneL, pureT, pureTs, execSs, execS, evalC, evalE, evalEs, evalAs, evalOe, evalOc, evalIt, opdOf, readV, slot, Opd.get, ofR, ofO, R.bind, op1, op2, bindG, backs, doCall, argsOf, refsOf, nodupN, setAll, isFz, isFzs, fz, fzs, fzI, kill, putBack, keepF, FT.binT, FT.addT, FT.subT, FT.mulT, FT.modT, FT.fdvT, FT.powT, FT.cmpT, FT.ltT, FT.leT, FT.isT, FT.truT, FT.pickT, FT.ixT, FT.b1T, FT.b2T, FT.lenT, FT.isiT, FT.tyT, FT.mulOk, L2.atI, L2.ixN, g5, l9, e1, e2]
        have c1 : evalC Φ (.cmp .Gt (.var 3) (.int 1)) [some (.int p), some (.int r), some (.int high), some (.int low), some (.int old), some (.int new), none] = .ok true [some (.int p), some (.int r), some (.int high), some (.int low), some (.int old), some (.int new), none] := by
          have g6 : (1 : Int) < low := g4
          simp [doCallW, argsW, oneL, pureT, pureTs, execSs, execS, evalC, evalE, evalEs, evalAs, evalOe, evalOc, evalIt, opdOf, readV, slot, Opd.get, ofR, ofO, R.bind, op1, op2, bindG, backs, doCall, argsOf, refsOf, nodupN, setAll, isFz, isFzs, fz, fzs, fzI, kill, putBack, keepF, FT.binT, FT.addT, FT.subT, FT.mulT, FT.modT, FT.fdvT, FT.powT, FT.cmpT, FT.ltT, FT.leT, FT.isT, FT.truT, FT.pickT, FT.ixT, FT.b1T, FT.b2T, FT.lenT, FT.isiT, FT.tyT, FT.mulOk, L2.atI, L2.ixN, g6]
        simp only [whilL, c1, b1]
        simp [kill]
      · rename_i g4
        cases h
        refine ⟨high, low, old, ?_⟩
        have g6 : ¬ (1 : Int) < low := g4
        have c1 : evalC Φ (.cmp .Gt (.var 3) (.int 1)) [some (.int p), some (.int r), some (.int high), some (.int low), some (.int old), some (.int new), none] = .ok false [some (.int p), some (.int r), some (.int high), some (.int low), some (.int old), some (.int new), none] := by
          simp [doCallW, argsW, oneL, pureT, pureTs, execSs, execS, evalC, evalE, evalEs, evalAs, evalOe, evalOc, evalIt, opdOf, readV, slot, Opd.get, ofR, ofO, R.bind, op1, op2, bindG, backs, doCall, argsOf, refsOf, nodupN, setAll, isFz, isFzs, fz, fzs, fzI, kill, putBack, keepF, FT.binT, FT.addT, FT.subT, FT.mulT, FT.modT, FT.fdvT, FT.powT, FT.cmpT, FT.ltT, FT.leT, FT.isT, FT.truT, FT.pickT, FT.ixT, FT.b1T, FT.b2T, FT.lenT, FT.isiT, FT.tyT, FT.mulOk, L2.atI, L2.ixN, g6]
        simp only [whilL, c1]
    · cases h
theorem inv_spec (n : Nat) (p r v : Int) (hp : 0 < p) (h : invGo 40 p r 0 1 = some v) : callN fns (n + 1) 0 [.int p, .int r] = .ok (.int (v % p)) [] := by
  show runFn (callN fns n) f0 _ = _
  obtain ⟨h2, l2, o2, e⟩ := inv_loop (callN fns n) p r 40 FUEL p r 0 1 v (by decide) h
  refine run_of (ρ := [some (.int p), some (.int r), some (.int h2), some (.int l2), some (.int o2), some (.int v), none]) [some (.int p), some (.int r), none, none, none, none, none] rfl rfl
    (seq_nx [some (.int p), some (.int r), some (.int p), none, none, none, none] (by simp [doCallW, argsW, oneL, pureT, pureTs, execSs, execS, evalC, evalE, evalEs, evalAs, evalOe, evalOc, evalIt, opdOf, readV, slot, Opd.get, ofR, ofO, R.bind, op1, op2, bindG, backs, doCall, argsOf, refsOf, nodupN, setAll, isFz, isFzs, fz, fzs, fzI, kill, putBack, keepF, FT.binT, FT.addT, FT.subT, FT.mulT, FT.modT, FT.fdvT, FT.powT, FT.cmpT, FT.ltT, FT.leT, FT.isT, FT.truT, FT.pickT, FT.ixT, FT.b1T, FT.b2T, FT.lenT, FT.isiT, FT.tyT, FT.mulOk, L2.atI, L2.ixN]) (seq_nx [some (.int p), some (.int r), some (.int p), some (.int r), none, none, none] (by simp [doCallW, argsW, oneL, pureT, pureTs, execSs, execS, evalC, evalE, evalEs, evalAs, evalOe, evalOc, evalIt, opdOf, readV, slot, Opd.get, ofR, ofO, R.bind, op1, op2, bindG, backs, doCall, argsOf, refsOf, nodupN, setAll, isFz, isFzs, fz, fzs, fzI, kill, putBack, keepF, FT.binT, FT.addT, FT.subT, FT.mulT, FT.modT, FT.fdvT, FT.powT, FT.cmpT, FT.ltT, FT.leT, FT.isT, FT.truT, FT.pickT, FT.ixT, FT.b1T, FT.b2T, FT.lenT, FT.isiT, FT.tyT, FT.mulOk, L2.atI, L2.ixN])
    (seq_nx [some (.int p), some (.int r), some (.int p), some (.int r), some (.int 0), none, none] (by simp [doCallW, argsW, oneL, pureT, pureTs, execSs, execS, evalC, evalE, evalEs, evalAs, evalOe, evalOc, evalIt, opdOf, readV, slot, Opd.get, ofR, ofO, R.bind, op1, op2, bindG, backs, doCall, argsOf, refsOf, nodupN, setAll, isFz, isFzs, fz, fzs, fzI, kill, putBack, keepF, FT.binT, FT.addT, FT.subT, FT.mulT, FT.modT, FT.fdvT, FT.powT, FT.cmpT, FT.ltT, FT.leT, FT.isT, FT.truT, FT.pickT, FT.ixT, FT.b1T, FT.b2T, FT.lenT, FT.isiT, FT.tyT, FT.mulOk, L2.atI, L2.ixN]) (seq_nx [some (.int p), some (.int r), some (.int p), some (.int r), some (.int 0), some (.int 1), none] (by simp [doCallW, argsW, oneL, pureT, pureTs, execSs, execS, evalC, evalE, evalEs, evalAs, evalOe, evalOc, evalIt, opdOf, readV, slot, Opd.get, ofR, ofO, R.bind, op1, op2, bindG, backs, doCall, argsOf, refsOf, nodupN, setAll, isFz, isFzs, fz, fzs, fzI, kill, putBack, keepF, FT.binT, FT.addT, FT.subT, FT.mulT, FT.modT, FT.fdvT, FT.powT, FT.cmpT, FT.ltT, FT.leT, FT.isT, FT.truT, FT.pickT, FT.ixT, FT.b1T, FT.b2T, FT.lenT, FT.isiT, FT.tyT, FT.mulOk, L2.atI, L2.ixN]) (seq_nx _ e (seq_rt ?_)))))) rfl
  simp [doCallW, argsW, oneL, pureT, pureTs, execSs, execS, evalC, evalE, evalEs, evalAs, evalOe, evalOc, evalIt, opdOf, readV, slot, Opd.get, ofR, ofO, R.bind, op1, op2, bindG, backs, doCall, argsOf, refsOf, nodupN, setAll, isFz, isFzs, fz, fzs, fzI, kill, putBack, keepF, FT.binT, FT.addT, FT.subT, FT.mulT, FT.modT, FT.fdvT, FT.powT, FT.cmpT, FT.ltT, FT.leT, FT.isT, FT.truT, FT.pickT, FT.ixT, FT.b1T, FT.b2T, FT.lenT, FT.isiT, FT.tyT, FT.mulOk, L2.atI, L2.ixN, hp]
/-! what is known of the primes -/
def prOk (p : Nat) : Bool := (List.range p).all fun r => r == 0 || ((match invGo 40 p r 0 1 with | some v => decide (((r : Int) * (v % p)) % p = 1) | none => false) && (List.range p).all fun z => z == 0 || decide (z * r % p ≠ 0))
theorem pr_tab : ([2, 3, 5, 7, 11, 13, 17, 19, 23, 29, 31, 37, 41, 43, 47, 53, 59, 61, 67, 71, 73, 79, 83, 89, 97].all prOk) = true := by decide +kernel
theorem pr_nat {p : Int} (h : p ∈ primesL) : ∃ q : Nat, p = (q : Int) ∧ prOk q = true ∧ 2 ≤ q ∧ q ≤ 97 := by
  have e : primesL = ([2, 3, 5, 7, 11, 13, 17, 19, 23, 29, 31, 37, 41, 43, 47, 53, 59, 61, 67, 71, 73, 79, 83, 89, 97] : List Nat).map fun (q : Nat) => (q : Int) := rfl
  rw [e] at h
  obtain ⟨q, hq, rfl⟩ := List.mem_map.mp h
  refine ⟨q, rfl, List.all_eq_true.mp pr_tab q hq, ?_⟩
  have : ([2, 3, 5, 7, 11, 13, 17, 19, 23, 29, 31, 37, 41, 43, 47, 53, 59, 61, 67, 71, 73, 79, 83, 89, 97] : List Nat).all (fun q => decide (2 ≤ q) && decide (q ≤ 97)) = true := by decide
  have z := List.all_eq_true.mp this q hq
  simpa using z
theorem pr_inv {p r : Int} (h : p ∈ primesL) (h0 : 0 < r) (h1 : r < p) : ∃ v, invGo 40 p r 0 1 = some v ∧ (r * (v % p)) % p = 1 := by
  obtain ⟨q, rfl, hq, _⟩ := pr_nat h
  have hr : r = ((r.toNat : Nat) : Int) := by omega
  have z := List.all_eq_true.mp hq r.toNat (List.mem_range.mpr (by omega))
  have hne : (r.toNat == 0) = false := by
    rw [beq_eq_false_iff_ne]; omega
  rw [hne, Bool.false_or, Bool.and_eq_true, ← hr] at z
  have z1 := z.1
  split at z1
  · rename_i v e; exact ⟨v, e, of_decide_eq_true z1⟩
  · cases z1
theorem pr_dom {p r z : Int} (h : p ∈ primesL) (h0 : 0 < r) (h1 : r < p) (h2 : 0 < z) (h3 : z < p) : z * r % p ≠ 0 := by
  obtain ⟨q, rfl, hq, _⟩ := pr_nat h
  have t := List.all_eq_true.mp hq r.toNat (List.mem_range.mpr (by omega))
  have hne : (r.toNat == 0) = false := by
    rw [beq_eq_false_iff_ne]; omega
  rw [hne, Bool.false_or, Bool.and_eq_true] at t
  have t2 := List.all_eq_true.mp t.2 z.toNat (List.mem_range.mpr (by omega))
  have hne2 : (z.toNat == 0) = false := by
    rw [beq_eq_false_iff_ne]; omega
  rw [hne2, Bool.false_or] at t2
  have t3 := of_decide_eq_true t2
  intro e
  have hz : z = ((z.toNat : Nat) : Int) := by omega
  have hr : r = ((r.toNat : Nat) : Int) := by omega
  rw [hz, hr] at e
  exact t3 (by exact_mod_cast e)
end LK

end
section
set_option Elab.async false
set_option linter.all false
set_option maxRecDepth 100000
set_option maxHeartbeats 4000000
namespace LK
open FT
theorem rep_flat (k : Nat) : (List.replicate k [T.int 0]).flatten = (List.replicate k (0 : Int)).map T.int := by
  induction k with
  | zero => rfl
  | succ k ih => rw [List.replicate_succ, List.flatten_cons, ih, List.replicate_succ, List.map_cons]; rfl
theorem atI_last {f : List Int} (h : f ≠ []) : L2.atI (f.map T.int) (-1) = some (.int (f.getLast h)) := by
  have l : 0 < f.length := List.length_pos_iff.mpr h
  unfold L2.atI L2.ixN
  rw [if_neg (by omega), List.length_map, if_pos (by omega)]
  have e : (-1 + (f.length : Int)).toNat = f.length - 1 := by omega
  rw [e]
  simp [List.getLast_eq_getElem, l]
def valF (p c : Int) (s : Int × Int) (a : Int) : Int × Int := ((s.1 + a * s.2) % p, (s.2 * c) % p)
def valL (p c : Int) (f : List Int) : Int := (f.foldl (valF p c) (0, 1)).1
theorem val_spec (n : Nat) (p c : Int) (hp : 2 ≤ p ∧ p < 2 ^ 32) (f : List Int) : callN fns (n + 1) 16 [.int p, .tup (f.map T.int), .int c] = .ok (.int (valL p c f)) [] := by
  show runFn (callN fns n) f16 _ = _
  have hp0 : 0 < p := by omega
  have hf := for_acc (fun s : Int × Int => [some (.int p), some (.tup (f.map T.int)), some (.int c), none, some (.int s.1), some (.int s.2)]) (valF p c) (fun s => 0 ≤ s.2 ∧ s.2 < p) (i := 3)
    (b := execSs (callN fns n) (.cons (.asg (.nm 4) (.bin .Mod (.b1 .int (.bin .Add (.var 4) (.bin .Mult (.var 3) (.var 5)))) (.var 0))) (.cons (.asg (.nm 5) (.bin .Mod (.b1 .int (.bin .Mult (.var 5) (.var 2))) (.var 0))) .nil))) (ks := [3]) f (0, 1) (by dsimp only; omega) fun z hz s hs => by
    refine ⟨⟨Int.emod_nonneg _ (by omega), Int.emod_lt_of_pos _ hp0⟩, by simp, [some (.int p), some (.tup (f.map T.int)), some (.int c), some (.int z), some (.int ((s.1 + z * s.2) % p)), some (.int ((s.2 * c) % p))], ?_, by simp [kill, valF]⟩
    have e1 : (-18446744073709551616 : Int) < s.2 := by omega
    have e2 : s.2 < (18446744073709551616 : Int) := by omega
    simp [doCallW, argsW, oneL, pureT, pureTs, execSs, execS, evalC, evalE, evalEs, evalAs, evalOe, evalOc, evalIt, opdOf, readV, slot, Opd.get, ofR, ofO, R.bind, op1, op2, bindG, backs, doCall, argsOf, refsOf, nodupN, setAll, isFz, isFzs, fz, fzs, fzI, kill, putBack, keepF, FT.binT, FT.addT, FT.subT, FT.mulT, FT.modT, FT.fdvT, FT.powT, FT.cmpT, FT.ltT, FT.leT, FT.isT, FT.truT, FT.pickT, FT.ixT, FT.b1T, FT.b2T, FT.lenT, FT.isiT, FT.tyT, FT.mulOk, L2.atI, L2.ixN, hp0, e1, e2]
  refine run_of (ρ := [some (.int p), some (.tup (f.map T.int)), some (.int c), none, some (.int (valL p c f)), some (.int (f.foldl (valF p c) (0, 1)).2)]) [some (.int p), some (.tup (f.map T.int)), some (.int c), none, none, none] rfl rfl
    (seq_nx [some (.int p), some (.tup (f.map T.int)), some (.int c), none, some (.int 0), some (.int 1)] ?_ (seq_nx _ (seq_for (ts := f.map T.int) (by simp [doCallW, argsW, oneL, pureT, pureTs, execSs, execS, evalC, evalE, evalEs, evalAs, evalOe, evalOc, evalIt, opdOf, readV, slot, Opd.get, ofR, ofO, R.bind, op1, op2, bindG, backs, doCall, argsOf, refsOf, nodupN, setAll, isFz, isFzs, fz, fzs, fzI, kill, putBack, keepF, FT.binT, FT.addT, FT.subT, FT.mulT, FT.modT, FT.fdvT, FT.powT, FT.cmpT, FT.ltT, FT.leT, FT.isT, FT.truT, FT.pickT, FT.ixT, FT.b1T, FT.b2T, FT.lenT, FT.isiT, FT.tyT, FT.mulOk, L2.atI, L2.ixN, itemsT]) hf.1) (seq_rt ?_))) rfl
  · have l2 : 2 ≤ PySem.sizeLine := by rw [line_big]; omega
    simp [doCallW, argsW, oneL, pureT, pureTs, execSs, execS, evalC, evalE, evalEs, evalAs, evalOe, evalOc, evalIt, opdOf, readV, slot, Opd.get, ofR, ofO, R.bind, op1, op2, bindG, backs, doCall, argsOf, refsOf, nodupN, setAll, isFz, isFzs, fz, fzs, fzI, kill, putBack, keepF, FT.binT, FT.addT, FT.subT, FT.mulT, FT.modT, FT.fdvT, FT.powT, FT.cmpT, FT.ltT, FT.leT, FT.isT, FT.truT, FT.pickT, FT.ixT, FT.b1T, FT.b2T, FT.lenT, FT.isiT, FT.tyT, FT.mulOk, L2.atI, L2.ixN, l2]
  · simp [doCallW, argsW, oneL, pureT, pureTs, execSs, execS, evalC, evalE, evalEs, evalAs, evalOe, evalOc, evalIt, opdOf, readV, slot, Opd.get, ofR, ofO, R.bind, op1, op2, bindG, backs, doCall, argsOf, refsOf, nodupN, setAll, isFz, isFzs, fz, fzs, fzI, kill, putBack, keepF, FT.binT, FT.addT, FT.subT, FT.mulT, FT.modT, FT.fdvT, FT.powT, FT.cmpT, FT.ltT, FT.leT, FT.isT, FT.truT, FT.pickT, FT.ixT, FT.b1T, FT.b2T, FT.lenT, FT.isiT, FT.tyT, FT.mulOk, L2.atI, L2.ixN, valL]
theorem call1 {Φ : Nat → List T → CR} {f : Nat} {e : E} {ρ ρ1 : Env8} {t u : T} (h : evalE Φ e ρ = .ok t ρ1) (h2 : Φ f [fz t] = .ok u []) : evalE Φ (.call f (.v e .nil)) ρ = .ok u ρ1 := by
  simp only [evalE, evalAs, h, R.bind, doCall, argsOf, Option.map_some, refsOf, nodupN, if_true, h2, setAll]
theorem range_ints (m : Nat) : rngL 0 m = ((List.range m).map fun k : Nat => (k : Int)).map T.int := by
  rw [rngL_map, List.map_map]
  rfl
def sumL (p : Int) (f g : List Int) : List Int := (List.range (max f.length g.length)).map fun k => (f.getD k 0 + g.getD k 0) % p
def difL (p : Int) (f g : List Int) : List Int := (List.range (max f.length g.length)).map fun k => (f.getD k 0 - g.getD k 0) % p
end LK

end
section
set_option Elab.async false
set_option linter.all false
set_option maxRecDepth 100000
set_option maxHeartbeats 4000000
namespace LK
open FT
theorem rngOk_nat {m : Nat} (h : m ≤ 1000) : rngOk (m : Int) = true := by
  unfold rngOk
  rw [decide_eq_true (by omega), decide_eq_true (by omega)]
  rfl
theorem r1_nat {Φ : Nat → List T → CR} {a : E} {ρ ρ1 : Env8} {m : Nat} (h : m ≤ 1000) (e : evalE Φ a ρ = .ok (.int (m : Nat)) ρ1) : evalIt Φ (.r1 a) ρ = .ok (rngL 0 m) ρ1 := by
  simp only [evalIt, e, R.bind, rngOk_nat h, if_true, Int.toNat_natCast]
theorem comp_nats {own : List Nat} {e : Env8 → R T} {i : Nat} {ρ : Env8} {m : Nat} (f : Nat → T) (hi : i < ρ.length) (hl : m ≤ PySem.sizeLine) (h : ∀ k : Nat, k < m → ∃ ρ3, e (ρ.set i (some (.int (k : Nat)))) = .ok (f k) ρ3 ∧ kill own ρ3 = ρ) :
    compL (bindG (.nm i)) (.ok true) e own (rngL 0 m) [] ρ = .ok ((List.range m).map f) ρ := by
  have z := comp_map (own := own) (e := e) (c := .ok true) (g := .nm i) (ρ := ρ) (fun t => match t with | .int z => f z.toNat | _ => .non) (rngL 0 m) [] (by rw [rngL_length]; simpa using hl) fun t ht => by
    rw [rngL_map] at ht
    obtain ⟨k, hk, rfl⟩ := List.mem_map.mp ht
    obtain ⟨ρ3, h1, h2⟩ := h k (List.mem_range.mp hk)
    refine ⟨ρ.set i (some (.int (k : Nat))), ρ.set i (some (.int (k : Nat))), ρ3, by simp [bindG, hi], rfl, ?_, h2⟩
    rw [h1]
    simp
  rw [z, List.nil_append, rngL_map, List.map_map]
  congr 1
abbrev elt_plus : E := (.bin .Mod (.b1 .int (.bin .Add (.ite (.cmp .Lt (.var 4) (.b1 .len (.var 1))) (.ix (.var 1) (.var 4)) (.int 0)) (.ite (.cmp .Lt (.var 4) (.b1 .len (.var 2))) (.ix (.var 2) (.var 4)) (.int 0)))) (.var 0))
theorem plus_elt (Φ : Nat → List T → CR) (p : Int) (hp : 0 < p) (f g : List Int) (m k : Nat) : evalE Φ elt_plus [some (.int p), some (.tup (f.map T.int)), some (.tup (g.map T.int)), some (.int (m : Nat)), some (.int (k : Nat))] = .ok (.int ((f.getD k 0 + g.getD k 0) % p)) [some (.int p), some (.tup (f.map T.int)), some (.tup (g.map T.int)), some (.int (m : Nat)), some (.int (k : Nat))] := by
  by_cases h1 : k < f.length
  · by_cases h2 : k < g.length
    · simp [doCallW, argsW, oneL, pureT, pureTs, execSs, execS, evalC, evalE, evalEs, evalAs, evalOe, evalOc, evalIt, opdOf, readV, slot, Opd.get, ofR, ofO, R.bind, op1, op2, bindG, backs, doCall, argsOf, refsOf, nodupN, setAll, isFz, isFzs, fz, fzs, fzI, kill, putBack, keepF, FT.binT, FT.addT, FT.subT, FT.mulT, FT.modT, FT.fdvT, FT.powT, FT.cmpT, FT.ltT, FT.leT, FT.isT, FT.truT, FT.pickT, FT.ixT, FT.b1T, FT.b2T, FT.lenT, FT.isiT, FT.tyT, FT.mulOk, L2.atI, L2.ixN, hp, h1, h2]
    · simp [doCallW, argsW, oneL, pureT, pureTs, execSs, execS, evalC, evalE, evalEs, evalAs, evalOe, evalOc, evalIt, opdOf, readV, slot, Opd.get, ofR, ofO, R.bind, op1, op2, bindG, backs, doCall, argsOf, refsOf, nodupN, setAll, isFz, isFzs, fz, fzs, fzI, kill, putBack, keepF, FT.binT, FT.addT, FT.subT, FT.mulT, FT.modT, FT.fdvT, FT.powT, FT.cmpT, FT.ltT, FT.leT, FT.isT, FT.truT, FT.pickT, FT.ixT, FT.b1T, FT.b2T, FT.lenT, FT.isiT, FT.tyT, FT.mulOk, L2.atI, L2.ixN, hp, h1, h2]
  · by_cases h2 : k < g.length
    · simp [doCallW, argsW, oneL, pureT, pureTs, execSs, execS, evalC, evalE, evalEs, evalAs, evalOe, evalOc, evalIt, opdOf, readV, slot, Opd.get, ofR, ofO, R.bind, op1, op2, bindG, backs, doCall, argsOf, refsOf, nodupN, setAll, isFz, isFzs, fz, fzs, fzI, kill, putBack, keepF, FT.binT, FT.addT, FT.subT, FT.mulT, FT.modT, FT.fdvT, FT.powT, FT.cmpT, FT.ltT, FT.leT, FT.isT, FT.truT, FT.pickT, FT.ixT, FT.b1T, FT.b2T, FT.lenT, FT.isiT, FT.tyT, FT.mulOk, L2.atI, L2.ixN, hp, h1, h2]
    · simp [doCallW, argsW, oneL, pureT, pureTs, execSs, execS, evalC, evalE, evalEs, evalAs, evalOe, evalOc, evalIt, opdOf, readV, slot, Opd.get, ofR, ofO, R.bind, op1, op2, bindG, backs, doCall, argsOf, refsOf, nodupN, setAll, isFz, isFzs, fz, fzs, fzI, kill, putBack, keepF, FT.binT, FT.addT, FT.subT, FT.mulT, FT.modT, FT.fdvT, FT.powT, FT.cmpT, FT.ltT, FT.leT, FT.isT, FT.truT, FT.pickT, FT.ixT, FT.b1T, FT.b2T, FT.lenT, FT.isiT, FT.tyT, FT.mulOk, L2.atI, L2.ixN, hp, h1, h2]
theorem plus_lc (Φ : Nat → List T → CR) (p : Int) (hp : 0 < p) (f g : List Int) (m : Nat) (hm : m ≤ 1000) : evalE Φ (.lc (.nm 4) (.r1 (.var 3)) .no elt_plus [4]) [some (.int p), some (.tup (f.map T.int)), some (.tup (g.map T.int)), some (.int (m : Nat)), none] = .ok (.lst true (((List.range m).map fun k => (f.getD k 0 + g.getD k 0) % p).map T.int)) [some (.int p), some (.tup (f.map T.int)), some (.tup (g.map T.int)), some (.int (m : Nat)), none] := by
  have lb := line_big
  have hc := comp_nats (own := [4]) (i := 4) (e := evalE Φ elt_plus) (ρ := [some (.int p), some (.tup (f.map T.int)), some (.tup (g.map T.int)), some (.int (m : Nat)), none]) (m := m) (fun k => .int ((f.getD k 0 + g.getD k 0) % p)) (by simp) (by rw [lb]; omega) fun k hk => ⟨_, plus_elt Φ p hp f g m k, by simp [kill]⟩
  have e1 : -4611686018427387904 ≤ (m : Int) := by omega
  have e2 : (m : Int) < 4611686018427387904 := by omega
  have hi : evalIt Φ (.r1 (.var 3)) [some (.int p), some (.tup (f.map T.int)), some (.tup (g.map T.int)), some (.int (m : Nat)), none] = .ok (rngL 0 m) [some (.int p), some (.tup (f.map T.int)), some (.tup (g.map T.int)), some (.int (m : Nat)), none] := r1_nat hm rfl
  have hk : kill [4] [some (.int p), some (.tup (f.map T.int)), some (.tup (g.map T.int)), some (.int (m : Nat)), none] = [some (.int p), some (.tup (f.map T.int)), some (.tup (g.map T.int)), some (.int (m : Nat)), none] := by simp [kill]
  have hl := lc_eval (Φ := Φ) (g := .nm 4) (it := .r1 (.var 3)) (c := .no) (e := elt_plus) (own := [4]) (ρ := [some (.int p), some (.tup (f.map T.int)), some (.tup (g.map T.int)), some (.int (m : Nat)), none]) (ρ1 := [some (.int p), some (.tup (f.map T.int)), some (.tup (g.map T.int)), some (.int (m : Nat)), none]) (ρ2 := [some (.int p), some (.tup (f.map T.int)), some (.tup (g.map T.int)), some (.int (m : Nat)), none]) (ts := rngL 0 m) (acc := (List.range m).map fun k => .int ((f.getD k 0 + g.getD k 0) % p)) hi (by rw [hk]; exact hc)
  have et : ((List.range m).map fun k => T.int ((f.getD k 0 + g.getD k 0) % p)) = ((List.range m).map fun k => (f.getD k 0 + g.getD k 0) % p).map T.int := by
    rw [List.map_map]
    rfl
  rw [et, fzs_zs] at hl
  have hb : putBack [4] [some (.int p), some (.tup (f.map T.int)), some (.tup (g.map T.int)), some (.int (m : Nat)), none] [some (.int p), some (.tup (f.map T.int)), some (.tup (g.map T.int)), some (.int (m : Nat)), none] = [some (.int p), some (.tup (f.map T.int)), some (.tup (g.map T.int)), some (.int (m : Nat)), none] := by simp [putBack, keepF, slot]
  rw [hb] at hl
  exact hl
abbrev elt_minus : E := (.bin .Mod (.b1 .int (.bin .Sub (.ite (.cmp .Lt (.var 4) (.b1 .len (.var 1))) (.ix (.var 1) (.var 4)) (.int 0)) (.ite (.cmp .Lt (.var 4) (.b1 .len (.var 2))) (.ix (.var 2) (.var 4)) (.int 0)))) (.var 0))
theorem minus_elt (Φ : Nat → List T → CR) (p : Int) (hp : 0 < p) (f g : List Int) (m k : Nat) : evalE Φ elt_minus [some (.int p), some (.tup (f.map T.int)), some (.tup (g.map T.int)), some (.int (m : Nat)), some (.int (k : Nat))] = .ok (.int ((f.getD k 0 - g.getD k 0) % p)) [some (.int p), some (.tup (f.map T.int)), some (.tup (g.map T.int)), some (.int (m : Nat)), some (.int (k : Nat))] := by
  by_cases h1 : k < f.length
  · by_cases h2 : k < g.length
    · simp [doCallW, argsW, oneL, pureT, pureTs, execSs, execS, evalC, evalE, evalEs, evalAs, evalOe, evalOc, evalIt, opdOf, readV, slot, Opd.get, ofR, ofO, R.bind, op1, op2, bindG, backs, doCall, argsOf, refsOf, nodupN, setAll, isFz, isFzs, fz, fzs, fzI, kill, putBack, keepF, FT.binT, FT.addT, FT.subT, FT.mulT, FT.modT, FT.fdvT, FT.powT, FT.cmpT, FT.ltT, FT.leT, FT.isT, FT.truT, FT.pickT, FT.ixT, FT.b1T, FT.b2T, FT.lenT, FT.isiT, FT.tyT, FT.mulOk, L2.atI, L2.ixN, hp, h1, h2]
    · simp [doCallW, argsW, oneL, pureT, pureTs, execSs, execS, evalC, evalE, evalEs, evalAs, evalOe, evalOc, evalIt, opdOf, readV, slot, Opd.get, ofR, ofO, R.bind, op1, op2, bindG, backs, doCall, argsOf, refsOf, nodupN, setAll, isFz, isFzs, fz, fzs, fzI, kill, putBack, keepF, FT.binT, FT.addT, FT.subT, FT.mulT, FT.modT, FT.fdvT, FT.powT, FT.cmpT, FT.ltT, FT.leT, FT.isT, FT.truT, FT.pickT, FT.ixT, FT.b1T, FT.b2T, FT.lenT, FT.isiT, FT.tyT, FT.mulOk, L2.atI, L2.ixN, hp, h1, h2]
  · by_cases h2 : k < g.length
    · simp [doCallW, argsW, oneL, pureT, pureTs, execSs, execS, evalC, evalE, evalEs, evalAs, evalOe, evalOc, evalIt, opdOf, readV, slot, Opd.get, ofR, ofO, R.bind, op1, op2, bindG, backs, doCall, argsOf, refsOf, nodupN, setAll, isFz, isFzs, fz, fzs, fzI, kill, putBack, keepF, FT.binT, FT.addT, FT.subT, FT.mulT, FT.modT, FT.fdvT, FT.powT, FT.cmpT, FT.ltT, FT.leT, FT.isT, FT.truT, FT.pickT, FT.ixT, FT.b1T, FT.b2T, FT.lenT, FT.isiT, FT.tyT, FT.mulOk, L2.atI, L2.ixN, hp, h1, h2]
    · simp [doCallW, argsW, oneL, pureT, pureTs, execSs, execS, evalC, evalE, evalEs, evalAs, evalOe, evalOc, evalIt, opdOf, readV, slot, Opd.get, ofR, ofO, R.bind, op1, op2, bindG, backs, doCall, argsOf, refsOf, nodupN, setAll, isFz, isFzs, fz, fzs, fzI, kill, putBack, keepF, FT.binT, FT.addT, FT.subT, FT.mulT, FT.modT, FT.fdvT, FT.powT, FT.cmpT, FT.ltT, FT.leT, FT.isT, FT.truT, FT.pickT, FT.ixT, FT.b1T, FT.b2T, FT.lenT, FT.isiT, FT.tyT, FT.mulOk, L2.atI, L2.ixN, hp, h1, h2]
theorem minus_lc (Φ : Nat → List T → CR) (p : Int) (hp : 0 < p) (f g : List Int) (m : Nat) (hm : m ≤ 1000) : evalE Φ (.lc (.nm 4) (.r1 (.var 3)) .no elt_minus [4]) [some (.int p), some (.tup (f.map T.int)), some (.tup (g.map T.int)), some (.int (m : Nat)), none] = .ok (.lst true (((List.range m).map fun k => (f.getD k 0 - g.getD k 0) % p).map T.int)) [some (.int p), some (.tup (f.map T.int)), some (.tup (g.map T.int)), some (.int (m : Nat)), none] := by
  have lb := line_big
  have hc := comp_nats (own := [4]) (i := 4) (e := evalE Φ elt_minus) (ρ := [some (.int p), some (.tup (f.map T.int)), some (.tup (g.map T.int)), some (.int (m : Nat)), none]) (m := m) (fun k => .int ((f.getD k 0 - g.getD k 0) % p)) (by simp) (by rw [lb]; omega) fun k hk => ⟨_, minus_elt Φ p hp f g m k, by simp [kill]⟩
  have e1 : -4611686018427387904 ≤ (m : Int) := by omega
  have e2 : (m : Int) < 4611686018427387904 := by omega
  have hi : evalIt Φ (.r1 (.var 3)) [some (.int p), some (.tup (f.map T.int)), some (.tup (g.map T.int)), some (.int (m : Nat)), none] = .ok (rngL 0 m) [some (.int p), some (.tup (f.map T.int)), some (.tup (g.map T.int)), some (.int (m : Nat)), none] := r1_nat hm rfl
  have hk : kill [4] [some (.int p), some (.tup (f.map T.int)), some (.tup (g.map T.int)), some (.int (m : Nat)), none] = [some (.int p), some (.tup (f.map T.int)), some (.tup (g.map T.int)), some (.int (m : Nat)), none] := by simp [kill]
  have hl := lc_eval (Φ := Φ) (g := .nm 4) (it := .r1 (.var 3)) (c := .no) (e := elt_minus) (own := [4]) (ρ := [some (.int p), some (.tup (f.map T.int)), some (.tup (g.map T.int)), some (.int (m : Nat)), none]) (ρ1 := [some (.int p), some (.tup (f.map T.int)), some (.tup (g.map T.int)), some (.int (m : Nat)), none]) (ρ2 := [some (.int p), some (.tup (f.map T.int)), some (.tup (g.map T.int)), some (.int (m : Nat)), none]) (ts := rngL 0 m) (acc := (List.range m).map fun k => .int ((f.getD k 0 - g.getD k 0) % p)) hi (by rw [hk]; exact hc)
  have et : ((List.range m).map fun k => T.int ((f.getD k 0 - g.getD k 0) % p)) = ((List.range m).map fun k => (f.getD k 0 - g.getD k 0) % p).map T.int := by
    rw [List.map_map]
    rfl
  rw [et, fzs_zs] at hl
  have hb : putBack [4] [some (.int p), some (.tup (f.map T.int)), some (.tup (g.map T.int)), some (.int (m : Nat)), none] [some (.int p), some (.tup (f.map T.int)), some (.tup (g.map T.int)), some (.int (m : Nat)), none] = [some (.int p), some (.tup (f.map T.int)), some (.tup (g.map T.int)), some (.int (m : Nat)), none] := by simp [putBack, keepF, slot]
  rw [hb] at hl
  exact hl
end LK

end
section
set_option Elab.async false
set_option linter.all false
set_option maxRecDepth 100000
set_option maxHeartbeats 4000000
namespace LK
open FT
theorem num_spec (n : Nat) (z : Int) : callN fns (n + 1) 9 [.int z] = .ok (.bl true) [] := by
  show runFn (callN fns n) f9 _ = _
  unfold runFn f9
  simp [doCallW, argsW, oneL, pureT, pureTs, execSs, execS, evalC, evalE, evalEs, evalAs, evalOe, evalOc, evalIt, opdOf, readV, slot, Opd.get, ofR, ofO, R.bind, op1, op2, bindG, backs, doCall, argsOf, refsOf, nodupN, setAll, isFz, isFzs, fz, fzs, fzI, kill, putBack, keepF, FT.binT, FT.addT, FT.subT, FT.mulT, FT.modT, FT.fdvT, FT.powT, FT.cmpT, FT.ltT, FT.leT, FT.isT, FT.truT, FT.pickT, FT.ixT, FT.b1T, FT.b2T, FT.lenT, FT.isiT, FT.tyT, FT.mulOk, L2.atI, L2.ixN]
/-! _law_mul -/
def rowB (f g : List Int) (i : Nat) (s : List Int) (j : Nat) : List Int := addAt s (i + j) (f.getD i 0 * g.getD j 0)
def allB (f g : List Int) (s : List Int) (i : Nat) : List Int := (List.range g.length).foldl (rowB f g i) s
def convB (f g : List Int) : List Int := (List.range f.length).foldl (allB f g) (List.replicate (f.length + g.length - 1) 0)
theorem for_accN {σ : Type} (E : σ → Env8) (f : σ → Nat → σ) (P : σ → Prop) {i : Nat} {b : Env8 → O} {ks : List Nat} : ∀ (ns : List Nat) (a : σ), P a → (∀ z ∈ ns, ∀ a, P a → P (f a z) ∧ i < (E a).length ∧ ∃ ρ2, b ((E a).set i (some (.int (z : Nat)))) = .nx ρ2 ∧ kill ks ρ2 = E (f a z)) →
    forL (bindG (.nm i)) b ks (ns.map fun k => T.int (k : Nat)) (E a) = .nx (E (ns.foldl f a)) ∧ P (ns.foldl f a)
  | [], a, hp, _ => ⟨rfl, hp⟩
  | z :: ns, a, hp, h => by
    obtain ⟨h1, h2, ρ2, h3, h4⟩ := h z (List.mem_cons_self ..) a hp
    have ih := for_accN E f P ns (f a z) h1 fun u hu => h u (List.mem_cons_of_mem _ hu)
    refine ⟨?_, ih.2⟩
    rw [List.map_cons]
    simp only [forL, bindG, h2, if_true, h3, h4]
    exact ih.1
abbrev mulIn : Ss := (.cons (.setix 3 (.bin .Add (.var 4) (.var 5)) (.bin .Add (.ix (.var 3) (.bin .Add (.var 4) (.var 5))) (.bin .Mult (.ix (.var 1) (.var 4)) (.ix (.var 2) (.var 5))))) .nil)
abbrev mulOut : Ss := (.cons (.for_ (.nm 5) (.r1 (.b1 .len (.var 2))) mulIn [5]) .nil)
abbrev mE (p : Int) (f g s : List Int) (i j : Option T) : Env8 := [some (.int p), some (.tup (f.map T.int)), some (.tup (g.map T.int)), some (.lst true (s.map T.int)), i, j, none]
theorem ix_nat {Φ : Nat → List T → CR} {ρ : Env8} {a b : Nat} {ns : List Int} {k : Nat} (h1 : slot ρ a = some (.tup (ns.map T.int))) (h2 : slot ρ b = some (.int (k : Nat))) (hk : k < ns.length) : evalE Φ (.ix (.var a) (.var b)) ρ = .ok (.int (ns.getD k 0)) ρ := by
  have e := atI_zs (cs := ns) (k := (k : Int)) (by omega) (by omega)
  rw [Int.toNat_natCast] at e
  simp only [evalE, opdOf, h1, h2, R.bind, op2, Opd.get, FT.ixT, e, FT.pickT, isFz, if_true, ofO]
theorem mul_in (Φ : Nat → List T → CR) (p : Int) (f g s : List Int) (i : Nat) (hi : i < f.length) (sf : Small f) (hs : s.length + 1 = f.length + g.length) :
    forL (bindG (.nm 5)) (execSs Φ mulIn) [5] (rngL 0 g.length) (mE p f g s (some (.int (i : Nat))) none) = .nx (mE p f g (allB f g s i) (some (.int (i : Nat))) none) ∧ (allB f g s i).length = s.length := by
  rw [rngL_map]
  exact for_accN (fun s => mE p f g s (some (.int (i : Nat))) none) (rowB f g i) (fun s' => s'.length = s.length) (i := 5) (b := execSs Φ mulIn) (ks := [5]) (List.range g.length) s rfl fun j hj s' h' => by
    have hj' := List.mem_range.mp hj
    have hk : i + j < s'.length := by omega
    have ea : ((i : Int) + (j : Int)) = ((i + j : Nat) : Int) := by omega
    have hfi : f.getD i 0 ∈ f := by
      rw [List.getD_eq_getElem?_getD, List.getElem?_eq_getElem hi]
      exact List.getElem_mem hi
    have hl := sf _ hfi
    have e1 : (-18446744073709551616 : Int) < f.getD i 0 := by omega
    have e2 : f.getD i 0 < (18446744073709551616 : Int) := by omega
    have mo : mulOk (f.getD i 0) (g.getD j 0) = true := by
      unfold mulOk
      rw [decide_eq_true (show -(2 ^ 64) < f.getD i 0 by omega), decide_eq_true (show f.getD i 0 < 2 ^ 64 by omega)]
      rfl
    have x1 := ix_nat (Φ := Φ) (ρ := mE p f g s' (some (.int (i : Nat))) (some (.int (j : Nat)))) (a := 1) (b := 4) rfl rfl hi
    have x2 := ix_nat (Φ := Φ) (ρ := mE p f g s' (some (.int (i : Nat))) (some (.int (j : Nat)))) (a := 2) (b := 5) rfl rfl hj'
    have sum : evalE Φ (.bin .Add (.var 4) (.var 5)) (mE p f g s' (some (.int (i : Nat))) (some (.int (j : Nat)))) = .ok (.int ((i + j : Nat) : Int)) (mE p f g s' (some (.int (i : Nat))) (some (.int (j : Nat)))) := by
      simp only [evalE, opdOf, slot, List.getElem?_cons_succ, List.getElem?_cons_zero, R.bind, op2, Opd.get, FT.binT, FT.addT, ofO, ea]
    have x3 : evalE Φ (.ix (.var 3) (.bin .Add (.var 4) (.var 5))) (mE p f g s' (some (.int (i : Nat))) (some (.int (j : Nat)))) = .ok (.int (s'.getD (i + j) 0)) (mE p f g s' (some (.int (i : Nat))) (some (.int (j : Nat)))) := by
      have e := atI_zs (cs := s') (k := ((i + j : Nat) : Int)) (by omega) (by omega)
      rw [Int.toNat_natCast] at e
      show ((opdOf (.var 3) (evalE Φ (.var 3)) (mE p f g s' (some (.int (i : Nat))) (some (.int (j : Nat))))).bind fun x ρ => (((evalE Φ (.bin .Add (.var 4) (.var 5)) ρ).bind fun t ρ => R.ok (.vl t) ρ).bind fun y ρ => op2 ixT x y ρ)) = _
      simp only [opdOf, slot, List.getElem?_cons_succ, List.getElem?_cons_zero, R.bind, sum, op2, Opd.get, FT.ixT, e, FT.pickT, isFz, if_true, ofO]
    have prod : evalE Φ (.bin .Mult (.ix (.var 1) (.var 4)) (.ix (.var 2) (.var 5))) (mE p f g s' (some (.int (i : Nat))) (some (.int (j : Nat)))) = .ok (.int (f.getD i 0 * g.getD j 0)) (mE p f g s' (some (.int (i : Nat))) (some (.int (j : Nat)))) := by
      show ((((evalE Φ (.ix (.var 1) (.var 4)) _).bind fun t ρ => R.ok (.vl t) ρ)).bind fun x ρ => (((evalE Φ (.ix (.var 2) (.var 5)) ρ).bind fun t ρ => R.ok (.vl t) ρ).bind fun y ρ => op2 (FT.binT .Mult) x y ρ)) = _
      simp only [x1, x2, R.bind, op2, Opd.get, FT.binT, FT.mulT, mo, if_true, ofO]
    have val : evalE Φ (.bin .Add (.ix (.var 3) (.bin .Add (.var 4) (.var 5))) (.bin .Mult (.ix (.var 1) (.var 4)) (.ix (.var 2) (.var 5)))) (mE p f g s' (some (.int (i : Nat))) (some (.int (j : Nat)))) = .ok (.int (s'.getD (i + j) 0 + f.getD i 0 * g.getD j 0)) (mE p f g s' (some (.int (i : Nat))) (some (.int (j : Nat)))) := by
      show ((((evalE Φ (.ix (.var 3) (.bin .Add (.var 4) (.var 5))) _).bind fun t ρ => R.ok (.vl t) ρ)).bind fun x ρ => (((evalE Φ (.bin .Mult (.ix (.var 1) (.var 4)) (.ix (.var 2) (.var 5))) ρ).bind fun t ρ => R.ok (.vl t) ρ).bind fun y ρ => op2 (FT.binT .Add) x y ρ)) = _
      simp only [x3, prod, R.bind, op2, Opd.get, FT.binT, FT.addT, ofO]
    refine ⟨by unfold rowB; rw [addAt_len]; exact h', by simp, mE p f g (rowB f g i s' j) (some (.int (i : Nat))) (some (.int (j : Nat))), ?_, by simp [kill]⟩
    exact seq_nx _ (setix_sum (Φ := Φ) (ρ := mE p f g s' (some (.int (i : Nat))) (some (.int (j : Nat)))) (i := 3) (s := s') (k := i + j) rfl hk val sum) rfl
end LK

end
section
set_option Elab.async false
set_option linter.all false
set_option maxRecDepth 100000
set_option maxHeartbeats 4000000
namespace LK
open FT
theorem mul_out (Φ : Nat → List T → CR) (p : Int) (f g s : List Int) (sf : Small f) (hg : g.length ≤ 1000) (hs : s.length + 1 = f.length + g.length) :
    forL (bindG (.nm 4)) (execSs Φ mulOut) [4, 5] (rngL 0 f.length) (mE p f g s none none) = .nx (mE p f g ((List.range f.length).foldl (allB f g) s) none none) ∧ ((List.range f.length).foldl (allB f g) s).length = s.length := by
  rw [rngL_map]
  exact for_accN (fun s => mE p f g s none none) (allB f g) (fun s' => s'.length = s.length) (i := 4) (b := execSs Φ mulOut) (ks := [4, 5]) (List.range f.length) s rfl fun i hi s' h' => by
    have hi' := List.mem_range.mp hi
    obtain ⟨q1, q2⟩ := mul_in Φ p f g s' i hi' sf (by omega)
    have el : evalE Φ (.b1 .len (.var 2)) (mE p f g s' (some (.int (i : Nat))) none) = .ok (.int (g.length : Nat)) (mE p f g s' (some (.int (i : Nat))) none) := by
      simp [doCallW, argsW, oneL, pureT, pureTs, execSs, execS, evalC, evalE, evalEs, evalAs, evalOe, evalOc, evalIt, opdOf, readV, slot, Opd.get, ofR, ofO, R.bind, op1, op2, bindG, backs, doCall, argsOf, refsOf, nodupN, setAll, isFz, isFzs, fz, fzs, fzI, kill, putBack, keepF, FT.b1T, FT.lenT]
    exact ⟨q2.trans h', by simp, mE p f g (allB f g s' i) (some (.int (i : Nat))) none, seq_nx _ (seq_for (r1_nat hg el) q1) rfl, by simp [kill]⟩
theorem mul_spec (n : Nat) (p : Int) (hp : 0 < p) (f g : List Int) (hf : f.length ≤ 400) (hg : g.length ≤ 400) (sf : Small f) : callN fns (n + 2) 13 [.int p, .tup (f.map T.int), .tup (g.map T.int)] = .ok (.tup ((if f = [] ∨ g = [] then [] else trimZ (modL p (convB f g))).map T.int)) [] := by
  show runFn (callN fns (n + 1)) f13 _ = _
  by_cases h0 : f = [] ∨ g = []
  · rw [if_pos h0]
    refine run_of (ρ := [some (.int p), some (.tup (f.map T.int)), some (.tup (g.map T.int)), none, none, none, none]) [some (.int p), some (.tup (f.map T.int)), some (.tup (g.map T.int)), none, none, none, none] rfl rfl (seq_rt ?_) rfl
    rcases h0 with h0 | h0
    · subst h0; simp [doCallW, argsW, oneL, pureT, pureTs, execSs, execS, evalC, evalE, evalEs, evalAs, evalOe, evalOc, evalIt, opdOf, readV, slot, Opd.get, ofR, ofO, R.bind, op1, op2, bindG, backs, doCall, argsOf, refsOf, nodupN, setAll, isFz, isFzs, fz, fzs, fzI, kill, putBack, keepF, FT.binT, FT.addT, FT.subT, FT.mulT, FT.modT, FT.fdvT, FT.powT, FT.cmpT, FT.ltT, FT.leT, FT.isT, FT.truT, FT.pickT, FT.ixT, FT.b1T, FT.b2T, FT.lenT, FT.isiT, FT.tyT, FT.mulOk, L2.atI, L2.ixN]
    · by_cases h1 : f = []
      · subst h0 h1; simp [doCallW, argsW, oneL, pureT, pureTs, execSs, execS, evalC, evalE, evalEs, evalAs, evalOe, evalOc, evalIt, opdOf, readV, slot, Opd.get, ofR, ofO, R.bind, op1, op2, bindG, backs, doCall, argsOf, refsOf, nodupN, setAll, isFz, isFzs, fz, fzs, fzI, kill, putBack, keepF, FT.binT, FT.addT, FT.subT, FT.mulT, FT.modT, FT.fdvT, FT.powT, FT.cmpT, FT.ltT, FT.leT, FT.isT, FT.truT, FT.pickT, FT.ixT, FT.b1T, FT.b2T, FT.lenT, FT.isiT, FT.tyT, FT.mulOk, L2.atI, L2.ixN]
      · subst h0; simp [doCallW, argsW, oneL, pureT, pureTs, execSs, execS, evalC, evalE, evalEs, evalAs, evalOe, evalOc, evalIt, opdOf, readV, slot, Opd.get, ofR, ofO, R.bind, op1, op2, bindG, backs, doCall, argsOf, refsOf, nodupN, setAll, isFz, isFzs, fz, fzs, fzI, kill, putBack, keepF, FT.binT, FT.addT, FT.subT, FT.mulT, FT.modT, FT.fdvT, FT.powT, FT.cmpT, FT.ltT, FT.leT, FT.isT, FT.truT, FT.pickT, FT.ixT, FT.b1T, FT.b2T, FT.lenT, FT.isiT, FT.tyT, FT.mulOk, L2.atI, L2.ixN, h1]
  · rw [if_neg h0]
    have h1 : f ≠ [] := fun e => h0 (.inl e)
    have h2 : g ≠ [] := fun e => h0 (.inr e)
    have l1 : 0 < f.length := List.length_pos_iff.mpr h1
    have l2 : 0 < g.length := List.length_pos_iff.mpr h2
    obtain ⟨o1, o2⟩ := mul_out (callN fns (n + 1)) p f g (List.replicate (f.length + g.length - 1) 0) sf (by omega) (by rw [List.length_replicate]; omega)
    have ec : (List.range f.length).foldl (allB f g) (List.replicate (f.length + g.length - 1) 0) = convB f g := rfl
    rw [ec] at o1 o2
    rw [List.length_replicate] at o2
    have en : ((f.length : Int) + g.length - 1).toNat = f.length + g.length - 1 := by omega
    have e3 : -9223372036854775808 ≤ ((f.length : Int) + g.length - 1) := by omega
    have e4 : ((f.length : Int) + g.length - 1) < 9223372036854775808 := by omega
    have e5 : f.length + g.length - 1 ≤ PySem.sizeLine := by rw [line_big]; omega
    have e6 : 1 ≤ PySem.sizeLine := by rw [line_big]; omega
    have e7 := rep_flat (f.length + g.length - 1)
    have ei : execS (callN fns (n + 1)) (.asg (.nm 3) (.bin .Mult (.lst (.cons (.int 0) .nil)) (.bin .Sub (.bin .Add (.b1 .len (.var 1)) (.b1 .len (.var 2))) (.int 1)))) [some (.int p), some (.tup (f.map T.int)), some (.tup (g.map T.int)), none, none, none, none] = .nx (mE p f g (List.replicate (f.length + g.length - 1) 0) none none) := by
      simp only [List.map_replicate] at e7
      simp [doCallW, argsW, oneL, pureT, pureTs, execSs, execS, evalC, evalE, evalEs, evalAs, evalOe, evalOc, evalIt, opdOf, readV, slot, Opd.get, ofR, ofO, R.bind, op1, op2, bindG, backs, doCall, argsOf, refsOf, nodupN, setAll, isFz, isFzs, fz, fzs, fzI, kill, putBack, keepF, FT.binT, FT.addT, FT.subT, FT.mulT, FT.modT, FT.fdvT, FT.powT, FT.cmpT, FT.ltT, FT.leT, FT.isT, FT.truT, FT.pickT, FT.ixT, FT.b1T, FT.b2T, FT.lenT, FT.isiT, FT.tyT, FT.mulOk, L2.atI, L2.ixN, en, e3, e4, e5, e6, e7]
    have el : evalE (callN fns (n + 1)) (.b1 .len (.var 1)) (mE p f g (List.replicate (f.length + g.length - 1) 0) none none) = .ok (.int (f.length : Nat)) (mE p f g (List.replicate (f.length + g.length - 1) 0) none none) := by
      simp [doCallW, argsW, oneL, pureT, pureTs, execSs, execS, evalC, evalE, evalEs, evalAs, evalOe, evalOc, evalIt, opdOf, readV, slot, Opd.get, ofR, ofO, R.bind, op1, op2, bindG, backs, doCall, argsOf, refsOf, nodupN, setAll, isFz, isFzs, fz, fzs, fzI, kill, putBack, keepF, FT.b1T, FT.lenT]
    have hc := comp_ints (own := [6]) (i := 6) (e := evalE (callN fns (n + 1)) (.bin .Mod (.b1 .int (.var 6)) (.var 0))) (ρ := [some (.int p), some (.tup (f.map T.int)), some (.tup (g.map T.int)), some (.lst false ((convB f g).map T.int)), none, none, none]) (ns := convB f g) (fun z => .int (z % p)) (by simp) (by rw [line_big]; omega) fun z hz => ⟨[some (.int p), some (.tup (f.map T.int)), some (.tup (g.map T.int)), some (.lst false ((convB f g).map T.int)), none, none, some (.int z)], by simp [doCallW, argsW, oneL, pureT, pureTs, execSs, execS, evalC, evalE, evalEs, evalAs, evalOe, evalOc, evalIt, opdOf, readV, slot, Opd.get, ofR, ofO, R.bind, op1, op2, bindG, backs, doCall, argsOf, refsOf, nodupN, setAll, isFz, isFzs, fz, fzs, fzI, kill, putBack, keepF, FT.binT, FT.addT, FT.subT, FT.mulT, FT.modT, FT.fdvT, FT.powT, FT.cmpT, FT.ltT, FT.leT, FT.isT, FT.truT, FT.pickT, FT.ixT, FT.b1T, FT.b2T, FT.lenT, FT.isiT, FT.tyT, FT.mulOk, L2.atI, L2.ixN, hp], by simp [kill]⟩
    have et : (convB f g).map (fun z => T.int (z % p)) = (modL p (convB f g)).map T.int := by
      unfold modL
      rw [List.map_map]
      rfl
    rw [et] at hc
    have hl := lc_eval (Φ := callN fns (n + 1)) (g := .nm 6) (it := .sq (.var 3)) (c := .no) (e := .bin .Mod (.b1 .int (.var 6)) (.var 0)) (own := [6]) (ρ := mE p f g (convB f g) none none) (ρ1 := [some (.int p), some (.tup (f.map T.int)), some (.tup (g.map T.int)), some (.lst false ((convB f g).map T.int)), none, none, none]) (ρ2 := [some (.int p), some (.tup (f.map T.int)), some (.tup (g.map T.int)), some (.lst false ((convB f g).map T.int)), none, none, none]) (ts := (convB f g).map T.int) (acc := (modL p (convB f g)).map T.int) (by simp [doCallW, argsW, oneL, pureT, pureTs, execSs, execS, evalC, evalE, evalEs, evalAs, evalOe, evalOc, evalIt, opdOf, readV, slot, Opd.get, ofR, ofO, R.bind, op1, op2, bindG, backs, doCall, argsOf, refsOf, nodupN, setAll, isFz, isFzs, fz, fzs, fzI, kill, putBack, keepF, itemsT]) hc
    rw [fzs_zs] at hl
    have hb : putBack [6] [some (.int p), some (.tup (f.map T.int)), some (.tup (g.map T.int)), some (.lst false ((convB f g).map T.int)), none, none, none] [some (.int p), some (.tup (f.map T.int)), some (.tup (g.map T.int)), some (.lst false ((convB f g).map T.int)), none, none, none] = [some (.int p), some (.tup (f.map T.int)), some (.tup (g.map T.int)), some (.lst false ((convB f g).map T.int)), none, none, none] := by simp [putBack, keepF, slot]
    rw [hb] at hl
    have ht := trim_spec n false (modL p (convB f g)) (by unfold modL; rw [List.length_map]; omega)
    refine run_of (ρ := [some (.int p), some (.tup (f.map T.int)), some (.tup (g.map T.int)), some (.lst false ((convB f g).map T.int)), none, none, none]) [some (.int p), some (.tup (f.map T.int)), some (.tup (g.map T.int)), none, none, none, none] rfl rfl
      (seq_nx [some (.int p), some (.tup (f.map T.int)), some (.tup (g.map T.int)), none, none, none, none] (by simp [doCallW, argsW, oneL, pureT, pureTs, execSs, execS, evalC, evalE, evalEs, evalAs, evalOe, evalOc, evalIt, opdOf, readV, slot, Opd.get, ofR, ofO, R.bind, op1, op2, bindG, backs, doCall, argsOf, refsOf, nodupN, setAll, isFz, isFzs, fz, fzs, fzI, kill, putBack, keepF, FT.binT, FT.addT, FT.subT, FT.mulT, FT.modT, FT.fdvT, FT.powT, FT.cmpT, FT.ltT, FT.leT, FT.isT, FT.truT, FT.pickT, FT.ixT, FT.b1T, FT.b2T, FT.lenT, FT.isiT, FT.tyT, FT.mulOk, L2.atI, L2.ixN, h1, h2]) (seq_nx _ ei (seq_nx _ (seq_for (r1_nat (by omega) el) o1) (seq_rt (ret_eval (call1 hl ?_)))))) rfl
    rw [show fz (T.lst true ((modL p (convB f g)).map T.int)) = T.lst false ((modL p (convB f g)).map T.int) by unfold fz; rw [fzs_zs]]
    exact ht
end LK

end
section
set_option Elab.async false
set_option linter.all false
set_option maxRecDepth 100000
set_option maxHeartbeats 4000000
namespace LK
open FT
def Red (p : Int) (f : List Int) : Prop := ∀ z ∈ f, 0 ≤ z ∧ z < p
structure Form (p : Int) (f : List Int) : Prop where
  red : Red p f
  last : ∀ h : f ≠ [], f.getLast h ≠ 0
theorem trimZ_red {p : Int} {f : List Int} (h : Red p f) : Red p (trimZ f) := fun z hz => h z (List.mem_of_mem_take hz)
theorem trimZ_len (f : List Int) : (trimZ f).length ≤ f.length := by
  unfold trimZ
  rw [List.length_take]
  exact Nat.min_le_right _ _
theorem keepN_last (ns : List Int) : ∀ m, keepN ns m ≠ 0 → ns.getD (keepN ns m - 1) 0 ≠ 0
  | 0, h => absurd rfl h
  | m + 1, h => by
    by_cases hz : ns.getD m 0 = 0
    · rw [keepN_z hz] at h ⊢
      exact keepN_last ns m h
    · rw [keepN_nz hz]
      exact hz
theorem trimZ_last (f : List Int) (h : trimZ f ≠ []) : (trimZ f).getLast h ≠ 0 := by
  have hk := keepN_le f f.length
  have l : (trimZ f).length = keepN f f.length := by
    unfold trimZ
    rw [List.length_take]; omega
  have l0 : 0 < (trimZ f).length := List.length_pos_iff.mpr h
  have q := keepN_last f f.length (by omega)
  rw [List.getLast_eq_getElem]
  have hlt : keepN f f.length - 1 < f.length := by omega
  have e : (trimZ f)[(trimZ f).length - 1] = f[keepN f f.length - 1] := by
    unfold trimZ
    simp [List.getElem_take, Nat.min_eq_left hk]
  rw [e]
  rw [List.getD_eq_getElem?_getD, List.getElem?_eq_getElem hlt] at q
  exact q
theorem trimZ_form {p : Int} {f : List Int} (h : Red p f) : Form p (trimZ f) := ⟨trimZ_red h, trimZ_last f⟩
theorem prime_spec (n : Nat) (b : BagS) (hb : b.Ok) : ∃ (p : Int) (b' : BagS), callN fns (n + 3) 11 [b.t] = .ok (.int p) [b'.t] ∧ p ∈ primesL ∧ b'.Ok := by
  obtain ⟨v, b1, e1, v0, v1, hb1⟩ := draw_spec (n + 1) b hb 6 (by omega) (by omega)
  by_cases hv : v = 0
  · subst hv
    obtain ⟨t, b2, e2, ht, hb2⟩ := of_spec n b1 hb1 false (primesL.map T.int) (isFzs_zs _) (by decide) (by decide)
    obtain ⟨p, hp, rfl⟩ := List.mem_map.mp ht
    refine ⟨p, b2, ?_, hp, hb2⟩
    have e3 := primes_spec (n + 1)
    show runFn (callN fns (n + 2)) f11 _ = _
    refine run_of (ρ := [some b2.t]) [some b.t] rfl rfl (seq_rt (seq_if (k := true) (ρ1 := [some b1.t]) (by simp [doCallW, argsW, oneL, pureT, pureTs, execSs, execS, evalC, evalE, evalEs, evalAs, evalOe, evalOc, evalIt, opdOf, readV, slot, Opd.get, ofR, ofO, R.bind, op1, op2, bindG, backs, doCall, argsOf, refsOf, nodupN, setAll, isFz, isFzs, fz, fzs, fzI, kill, putBack, keepF, FT.binT, FT.addT, FT.subT, FT.mulT, FT.modT, FT.fdvT, FT.powT, FT.cmpT, FT.ltT, FT.leT, FT.isT, FT.truT, FT.pickT, FT.ixT, FT.b1T, FT.b2T, FT.lenT, FT.isiT, FT.tyT, FT.mulOk, L2.atI, L2.ixN, e1]) (by
      rw [if_pos rfl]
      exact seq_rt (by simp [doCallW, argsW, oneL, pureT, pureTs, execSs, execS, evalC, evalE, evalEs, evalAs, evalOe, evalOc, evalIt, opdOf, readV, slot, Opd.get, ofR, ofO, R.bind, op1, op2, bindG, backs, doCall, argsOf, refsOf, nodupN, setAll, isFz, isFzs, fz, fzs, fzI, kill, putBack, keepF, e3, e2])))) rfl
  · have l9 : ([2, 3, 5, 7, 2, 3, 5, 11, 13] : List Int).all (fun q => primesL.contains q) = true := by decide
    obtain ⟨t, b2, e2, ht, hb2⟩ := of_spec n b1 hb1 false (([2, 3, 5, 7, 2, 3, 5, 11, 13] : List Int).map T.int) (isFzs_zs _) (by decide) (by decide)
    obtain ⟨p, hp, rfl⟩ := List.mem_map.mp ht
    refine ⟨p, b2, ?_, by simpa using List.all_eq_true.mp l9 p hp, hb2⟩
    show runFn (callN fns (n + 2)) f11 _ = _
    have l10 : 9 ≤ PySem.sizeLine := by rw [line_big]; omega
    refine run_of (ρ := [some b2.t]) [some b.t] rfl rfl (seq_nx [some b1.t] (seq_if (k := false) (ρ1 := [some b1.t]) (by simp [doCallW, argsW, oneL, pureT, pureTs, execSs, execS, evalC, evalE, evalEs, evalAs, evalOe, evalOc, evalIt, opdOf, readV, slot, Opd.get, ofR, ofO, R.bind, op1, op2, bindG, backs, doCall, argsOf, refsOf, nodupN, setAll, isFz, isFzs, fz, fzs, fzI, kill, putBack, keepF, FT.binT, FT.addT, FT.subT, FT.mulT, FT.modT, FT.fdvT, FT.powT, FT.cmpT, FT.ltT, FT.leT, FT.isT, FT.truT, FT.pickT, FT.ixT, FT.b1T, FT.b2T, FT.lenT, FT.isiT, FT.tyT, FT.mulOk, L2.atI, L2.ixN, e1, hv]) rfl) (seq_rt ?_)) rfl
    simp only [List.map_cons, List.map_nil] at e2
    simp [doCallW, argsW, oneL, pureT, pureTs, execSs, execS, evalC, evalE, evalEs, evalAs, evalOe, evalOc, evalIt, opdOf, readV, slot, Opd.get, ofR, ofO, R.bind, op1, op2, bindG, backs, doCall, argsOf, refsOf, nodupN, setAll, isFz, isFzs, fz, fzs, fzI, kill, putBack, keepF, e2, l10]
/-- draws, one behind another -/
theorem comp_draw (n : Nat) (p : Int) (x : Option T) (h0 : 0 < p) (h1 : p < 2 ^ 128) : ∀ (ts acc : List T) (b : BagS), b.Ok → acc.length + ts.length ≤ PySem.sizeLine → ∃ (ns : List Int) (b' : BagS), compL (bindG (.nm 3)) (.ok true) (evalE (callN fns (n + 1)) (.call 6 (.r 0 (.v (.var 1) .nil)))) [3] ts acc [some b.t, some (.int p), x, none] = .ok (acc ++ ns.map T.int) [some b'.t, some (.int p), x, none] ∧ b'.Ok ∧ Red p ns ∧ ns.length = ts.length
  | [], acc, b, hb, _ => ⟨[], b, by simp [compL], hb, (fun z hz => nomatch hz), rfl⟩
  | t :: ts, acc, b, hb, hl => by
    rw [List.length_cons] at hl
    obtain ⟨v, b1, e1, v0, v1, hb1⟩ := draw_spec n b hb p h0 h1
    obtain ⟨ns, b2, e2, hb2, hr, hn⟩ := comp_draw n p x h0 h1 ts (acc ++ [.int v]) b1 hb1 (by rw [List.length_append, List.length_singleton]; omega)
    refine ⟨v :: ns, b2, ?_, hb2, fun z hz => ?_, by rw [List.length_cons, hn, List.length_cons]⟩
    · have ee : evalE (callN fns (n + 1)) (.call 6 (.r 0 (.v (.var 1) .nil))) [some b.t, some (.int p), x, some t] = .ok (.int v) [some b1.t, some (.int p), x, some t] := by
        simp [doCallW, argsW, oneL, pureT, pureTs, execSs, execS, evalC, evalE, evalEs, evalAs, evalOe, evalOc, evalIt, opdOf, readV, slot, Opd.get, ofR, ofO, R.bind, op1, op2, bindG, backs, doCall, argsOf, refsOf, nodupN, setAll, isFz, isFzs, fz, fzs, fzI, kill, putBack, keepF, e1]
      have eg : bindG (.nm 3) t [some b.t, some (.int p), x, none] = some [some b.t, some (.int p), x, some t] := by simp [bindG]
      simp only [compL, eg, R.bind, if_true, ee]
      rw [if_pos (by omega)]
      have ek : kill [3] [some b1.t, some (.int p), x, some t] = [some b1.t, some (.int p), x, none] := by simp [kill]
      rw [ek, e2]
      simp
    · rcases List.mem_cons.mp hz with e | hz
      · rw [e]; exact ⟨v0, v1⟩
      · exact hr z hz
theorem form23_spec (n : Nat) (b : BagS) (hb : b.Ok) (p : Int) (h0 : 0 < p) (h1 : p < 2 ^ 32) (d : Int) (hd : 0 ≤ d ∧ d ≤ 100) : ∃ (f : List Int) (b' : BagS), callN fns (n + 2) 18 [b.t, .int p, .int d] = .ok (.tup (f.map T.int)) [b'.t] ∧ b'.Ok ∧ Form p f ∧ f.length ≤ 101 := by
  obtain ⟨v, b1, e1, v0, v1, hb1⟩ := draw_spec n b hb (d + 2) (by omega) (by omega)
  have hv : v = ((v.toNat : Nat) : Int) := by omega
  obtain ⟨ns, b2, e2, hb2, hr, hn⟩ := comp_draw n p (some (.int d)) h0 (by omega) (rngL 0 v.toNat) [] b1 hb1 (by rw [rngL_length, line_big]; simp; omega)
  rw [List.nil_append] at e2
  rw [rngL_length] at hn
  have hl := lc_eval (Φ := callN fns (n + 1)) (g := .nm 3) (it := .r1 (.call 6 (.r 0 (.v (.bin .Add (.var 2) (.int 2)) .nil)))) (c := .no) (e := .call 6 (.r 0 (.v (.var 1) .nil))) (own := [3]) (ρ := [some b.t, some (.int p), some (.int d), none]) (ρ1 := [some b1.t, some (.int p), some (.int d), none]) (ρ2 := [some b2.t, some (.int p), some (.int d), none]) (ts := rngL 0 v.toNat) (acc := ns.map T.int)
    (r1_nat (by omega) (by rw [← hv]; simp [doCallW, argsW, oneL, pureT, pureTs, execSs, execS, evalC, evalE, evalEs, evalAs, evalOe, evalOc, evalIt, opdOf, readV, slot, Opd.get, ofR, ofO, R.bind, op1, op2, bindG, backs, doCall, argsOf, refsOf, nodupN, setAll, isFz, isFzs, fz, fzs, fzI, kill, putBack, keepF, FT.binT, FT.addT, FT.subT, FT.mulT, FT.modT, FT.fdvT, FT.powT, FT.cmpT, FT.ltT, FT.leT, FT.isT, FT.truT, FT.pickT, FT.ixT, FT.b1T, FT.b2T, FT.lenT, FT.isiT, FT.tyT, FT.mulOk, L2.atI, L2.ixN, e1])) e2
  rw [fzs_zs] at hl
  have hb3 : putBack [3] [some b1.t, some (.int p), some (.int d), none] [some b2.t, some (.int p), some (.int d), none] = [some b2.t, some (.int p), some (.int d), none] := by simp [putBack, keepF, slot]
  rw [hb3] at hl
  have ht := trim_spec n false ns (by omega)
  refine ⟨trimZ ns, b2, ?_, hb2, trimZ_form hr, by have := trimZ_len ns; omega⟩
  show runFn (callN fns (n + 1)) f18 _ = _
  refine run_of (ρ := [some b2.t, some (.int p), some (.int d), none]) [some b.t, some (.int p), some (.int d), none] rfl rfl (seq_rt (ret_eval (call1 hl ?_))) rfl
  rw [show fz (T.lst true (ns.map T.int)) = T.lst false (ns.map T.int) by unfold fz; rw [fzs_zs]]
  exact ht
end LK

end
section
set_option Elab.async false
set_option linter.all false
set_option maxRecDepth 100000
set_option maxHeartbeats 4000000
namespace LK
open FT
/-! is a form -/
theorem isform_spec (n : Nat) (p : Int) (f : List Int) (h : Form p f) (hl : f.length ≤ 1000) : callN fns (n + 2) 17 [.int p, .tup (f.map T.int)] = .ok (.bl true) [] := by
  show runFn (callN fns (n + 1)) f17 _ = _
  have loop : ∀ ns : List Int, Red p ns → forL (bindG (.nm 2)) (execSs (callN fns (n + 1)) (.cons (.ifs (.or (.not (.tr (.call 9 (.v (.var 2) .nil)))) (.or (.cmp .Lt (.var 2) (.int 0)) (.cmp .GtE (.var 2) (.var 0)))) (.cons (.ret (.bl false)) .nil) .nil) .nil)) [2] (ns.map T.int) [some (.int p), some (.tup (f.map T.int)), none] = .nx [some (.int p), some (.tup (f.map T.int)), none] := by
    intro ns hr
    have z := for_acc (fun _ : Unit => [some (.int p), some (.tup (f.map T.int)), none]) (fun a _ => a) (fun _ => True) (i := 2) (b := execSs (callN fns (n + 1)) (.cons (.ifs (.or (.not (.tr (.call 9 (.v (.var 2) .nil)))) (.or (.cmp .Lt (.var 2) (.int 0)) (.cmp .GtE (.var 2) (.var 0)))) (.cons (.ret (.bl false)) .nil) .nil) .nil)) (ks := [2]) ns () trivial fun z hz a _ => by
      obtain ⟨z0, z1⟩ := hr z hz
      have e1 := num_spec n z
      have e2 : ¬ z < 0 := by omega
      have e3 : ¬ p ≤ z := by omega
      refine ⟨trivial, by simp, [some (.int p), some (.tup (f.map T.int)), some (.int z)], ?_, by simp [kill]⟩
      simp [doCallW, argsW, oneL, pureT, pureTs, execSs, execS, evalC, evalE, evalEs, evalAs, evalOe, evalOc, evalIt, opdOf, readV, slot, Opd.get, ofR, ofO, R.bind, op1, op2, bindG, backs, doCall, argsOf, refsOf, nodupN, setAll, isFz, isFzs, fz, fzs, fzI, kill, putBack, keepF, FT.binT, FT.addT, FT.subT, FT.mulT, FT.modT, FT.fdvT, FT.powT, FT.cmpT, FT.ltT, FT.leT, FT.isT, FT.truT, FT.pickT, FT.ixT, FT.b1T, FT.b2T, FT.lenT, FT.isiT, FT.tyT, FT.mulOk, L2.atI, L2.ixN, e1, e2, e3]
    exact z.1
  refine run_of (ρ := [some (.int p), some (.tup (f.map T.int)), none]) [some (.int p), some (.tup (f.map T.int)), none] rfl rfl (seq_nx [some (.int p), some (.tup (f.map T.int)), none] (by simp [doCallW, argsW, oneL, pureT, pureTs, execSs, execS, evalC, evalE, evalEs, evalAs, evalOe, evalOc, evalIt, opdOf, readV, slot, Opd.get, ofR, ofO, R.bind, op1, op2, bindG, backs, doCall, argsOf, refsOf, nodupN, setAll, isFz, isFzs, fz, fzs, fzI, kill, putBack, keepF, FT.binT, FT.addT, FT.subT, FT.mulT, FT.modT, FT.fdvT, FT.powT, FT.cmpT, FT.ltT, FT.leT, FT.isT, FT.truT, FT.pickT, FT.ixT, FT.b1T, FT.b2T, FT.lenT, FT.isiT, FT.tyT, FT.mulOk, L2.atI, L2.ixN]) (seq_nx _ (seq_for (ts := f.map T.int) (by simp [doCallW, argsW, oneL, pureT, pureTs, execSs, execS, evalC, evalE, evalEs, evalAs, evalOe, evalOc, evalIt, opdOf, readV, slot, Opd.get, ofR, ofO, R.bind, op1, op2, bindG, backs, doCall, argsOf, refsOf, nodupN, setAll, isFz, isFzs, fz, fzs, fzI, kill, putBack, keepF, itemsT]) (loop f h.red)) (seq_rt ?_))) rfl
  by_cases h0 : f = []
  · subst h0
    simp [doCallW, argsW, oneL, pureT, pureTs, execSs, execS, evalC, evalE, evalEs, evalAs, evalOe, evalOc, evalIt, opdOf, readV, slot, Opd.get, ofR, ofO, R.bind, op1, op2, bindG, backs, doCall, argsOf, refsOf, nodupN, setAll, isFz, isFzs, fz, fzs, fzI, kill, putBack, keepF, FT.binT, FT.addT, FT.subT, FT.mulT, FT.modT, FT.fdvT, FT.powT, FT.cmpT, FT.ltT, FT.leT, FT.isT, FT.truT, FT.pickT, FT.ixT, FT.b1T, FT.b2T, FT.lenT, FT.isiT, FT.tyT, FT.mulOk, L2.atI, L2.ixN]
  · have e1 := atI_last h0
    have e2 := h.last h0
    have e3 : f.length ≠ 0 := fun e => h0 (List.length_eq_zero_iff.mp e)
    simp [doCallW, argsW, oneL, pureT, pureTs, execSs, execS, evalC, evalE, evalEs, evalAs, evalOe, evalOc, evalIt, opdOf, readV, slot, Opd.get, ofR, ofO, R.bind, op1, op2, bindG, backs, doCall, argsOf, refsOf, nodupN, setAll, isFz, isFzs, fz, fzs, fzI, kill, putBack, keepF, FT.b1T, FT.lenT, FT.cmpT, FT.ixT, FT.pickT, e1, e2, h0]
end LK

end
section
set_option Elab.async false
set_option linter.all false
set_option maxRecDepth 100000
set_option maxHeartbeats 4000000
namespace LK
open FT
def negL (p : Int) (f : List Int) : List Int := f.map fun z => (0 - z) % p
theorem negL_form {p : Int} (hp : 0 < p) {f : List Int} (h : Form p f) : Form p (negL p f) := by
  refine ⟨fun z hz => ?_, fun hne => ?_⟩
  · obtain ⟨y, hy, rfl⟩ := List.mem_map.mp hz
    exact ⟨Int.emod_nonneg _ (by omega), Int.emod_lt_of_pos _ hp⟩
  · have hf : f ≠ [] := fun e => hne (by rw [e]; rfl)
    have l := h.last hf
    have r := h.red _ (List.getLast_mem hf)
    have e : (negL p f).getLast hne = (0 - f.getLast hf) % p := List.getLast_map (f := fun z => (0 - z) % p) (l := f) hne
    have e2 : (0 - f.getLast hf) % p = p - f.getLast hf := by
      have q : p - f.getLast hf = (0 - f.getLast hf) + p * 1 := by omega
      rw [← Int.add_mul_emod_self_left (0 - f.getLast hf) p 1, ← q]
      exact Int.emod_eq_of_lt (by omega) (by omega)
    rw [e, e2]
    omega
end LK

end
section
set_option Elab.async false
set_option linter.all false
set_option maxRecDepth 100000
set_option maxHeartbeats 4000000
namespace LK
open FT
theorem trimZ_id {p : Int} {f : List Int} (h : Form p f) : trimZ f = f := by
  unfold trimZ
  cases hl : f.length with
  | zero =>
    have : f = [] := List.length_eq_zero_iff.mp hl
    rw [this]; rfl
  | succ m =>
    have hne : f ≠ [] := fun e => by rw [e] at hl; cases hl
    have q := h.last hne
    rw [List.getLast_eq_getElem] at q
    have hm : m < f.length := by omega
    have e : f.getD m 0 ≠ 0 := by
      rw [List.getD_eq_getElem?_getD, List.getElem?_eq_getElem hm]
      have e2 : f.length - 1 = m := by omega
      simpa [e2] using q
    rw [keepN_nz e, ← hl, List.take_length]
theorem sum_zip (p : Int) (a b : List Int) (h : b.length ≤ a.length) : modL p (zipAdd a b) = sumL p a b := by
  unfold modL zipAdd sumL
  apply List.ext_getElem
  · simp; omega
  · intro k h1 h2
    have hk : k < a.length := by simp at h2; omega
    by_cases hb : k < b.length
    · have c : k < min a.length b.length := by omega
      simp [List.getElem_append, hk, hb, c]
    · have c : ¬ k < min a.length b.length := by omega
      have e : b.length + (k - min a.length b.length) = k := by omega
      have hb2 : b.length ≤ k := by omega
      simp [List.getElem_append, hk, c, e, List.getElem?_eq_none hb2]
end LK

end
section
set_option Elab.async false
set_option linter.all false
set_option maxRecDepth 100000
set_option maxHeartbeats 4000000
namespace LK
open FT
theorem sum_comm (p : Int) (a b : List Int) : sumL p a b = sumL p b a := by
  unfold sumL
  rw [Nat.max_comm]
  apply List.map_congr_left
  intro k _
  rw [Int.add_comm]
theorem modL_id {p : Int} {f : List Int} (h : Red p f) : modL p f = f := by
  unfold modL
  have : f.map (· % p) = f.map id := List.map_congr_left fun z hz => Int.emod_eq_of_lt (h z hz).1 (h z hz).2
  rw [this, List.map_id]
theorem zipAdd_nil (a : List Int) : zipAdd a [] = a := by unfold zipAdd; simp
theorem sum_nil {p : Int} {a : List Int} (h : Red p a) : sumL p a [] = a := by
  rw [← sum_zip p a [] (Nat.zero_le _), zipAdd_nil, modL_id h]
theorem addL_eq {p : Int} {a b : List Int} (ha : Form p a) (hb : Form p b) : addL p a b = trimZ (sumL p a b) := by
  unfold addL
  by_cases h1 : b = []
  · subst h1
    rw [if_pos rfl, sum_nil ha.red, trimZ_id ha]
  · rw [if_neg h1]
    by_cases h2 : a.length < b.length
    · rw [if_pos h2]
      by_cases h3 : a = []
      · subst h3
        rw [if_pos rfl, sum_comm, sum_nil hb.red, trimZ_id hb]
      · rw [if_neg h3, sum_zip p b a (by omega), sum_comm]
    · rw [if_neg h2, sum_zip p a b (by omega)]
end LK

end
section
set_option Elab.async false
set_option linter.all false
set_option maxRecDepth 100000
set_option maxHeartbeats 4000000
namespace LK
open FT
theorem scale_neg {p : Int} (hp : 2 ≤ p) (g : List Int) : scaleL p (-1) g = negL p g := by
  unfold scaleL negL
  have h : ¬ (-1 : Int) % p = 0 := by
    have e : (-1 : Int) % p = p - 1 := by
      have q : p - 1 = (-1) + p * 1 := by omega
      rw [← Int.add_mul_emod_self_left (-1) p 1, ← q]
      exact Int.emod_eq_of_lt (by omega) (by omega)
    omega
  rw [if_neg h]
  apply List.map_congr_left
  intro z _
  rw [show z * -1 = 0 - z by omega]
theorem sum_neg (p : Int) (f g : List Int) : sumL p f (negL p g) = difL p f g := by
  have hl : (negL p g).length = g.length := by unfold negL; rw [List.length_map]
  unfold sumL difL
  rw [hl]
  apply List.map_congr_left
  intro k _
  have e : (negL p g).getD k 0 = (0 - g.getD k 0) % p := by
    unfold negL
    by_cases hk : k < g.length
    · simp [hk]
    · have h2 : g.length ≤ k := by omega
      simp [List.getElem?_eq_none h2]
  rw [e, Int.add_emod_emod]
  rw [show f.getD k 0 + (0 - g.getD k 0) = f.getD k 0 - g.getD k 0 by omega]
theorem subL_eq {p : Int} (hp : 2 ≤ p) {f g : List Int} (hf : Form p f) (hg : Form p g) : addL p f (scaleL p (-1) g) = trimZ (difL p f g) := by
  rw [scale_neg hp, addL_eq hf (negL_form (by omega) hg), sum_neg]
end LK

end
section
set_option Elab.async false
set_option linter.all false
set_option maxRecDepth 100000
set_option maxHeartbeats 4000000
namespace LK
open FT
/-! the product of forms: its coefficients -/
theorem addAt_get (s : List Int) (k : Nat) (x : Int) (j : Nat) (hk : k < s.length) : (addAt s k x).getD j 0 = s.getD j 0 + if j = k then x else 0 := by
  unfold addAt
  by_cases h : j = k
  · subst h
    simp [hk]
  · have h' : k ≠ j := fun e => h e.symm
    simp [List.getElem?_set_ne h', h]
/-- F 0 + .. + F (n - 1) -/
def sumF : Nat → (Nat → Int) → Int
  | 0, _ => 0
  | n + 1, F => sumF n F + F n
theorem sumF_congr {n : Nat} {F G : Nat → Int} (h : ∀ i, i < n → F i = G i) : sumF n F = sumF n G := by
  induction n with
  | zero => rfl
  | succ n ih => show sumF n F + F n = sumF n G + G n; rw [ih fun i hi => h i (by omega), h n (by omega)]
theorem rowB_get (f g : List Int) (i : Nat) (k : Nat) : ∀ (m : Nat) (s : List Int), i + m ≤ s.length → ((List.range m).foldl (rowB f g i) s).getD k 0 = s.getD k 0 + sumF m (fun j => if k = i + j then f.getD i 0 * g.getD j 0 else 0) ∧ ((List.range m).foldl (rowB f g i) s).length = s.length
  | 0, s, _ => by simp [sumF]
  | m + 1, s, h => by
    obtain ⟨h1, h2⟩ := rowB_get f g i k m s (by omega)
    rw [List.range_succ, List.foldl_append]
    show (rowB f g i _ m).getD k 0 = _ ∧ (rowB f g i _ m).length = _
    unfold rowB
    refine ⟨?_, by rw [addAt_len]; exact h2⟩
    rw [addAt_get _ _ _ _ (by rw [show ((List.range m).foldl (fun s j => addAt s (i + j) (f.getD i 0 * g.getD j 0)) s).length = s.length from h2]; omega)]
    rw [show ((List.range m).foldl (fun s j => addAt s (i + j) (f.getD i 0 * g.getD j 0)) s).getD k 0 = _ from h1]
    show _ = s.getD k 0 + (sumF m _ + if k = i + m then f.getD i 0 * g.getD m 0 else 0)
    rw [Int.add_assoc]
end LK

end
section
set_option Elab.async false
set_option linter.all false
set_option maxRecDepth 100000
set_option maxHeartbeats 4000000
namespace LK
open FT
def cell (f g : List Int) (k i : Nat) : Int := sumF g.length fun j => if k = i + j then f.getD i 0 * g.getD j 0 else 0
theorem allB_get (f g : List Int) (k : Nat) : ∀ (m : Nat) (s : List Int), m + g.length ≤ s.length + 1 → ((List.range m).foldl (allB f g) s).getD k 0 = s.getD k 0 + sumF m (cell f g k) ∧ ((List.range m).foldl (allB f g) s).length = s.length
  | 0, s, _ => by simp [sumF]
  | m + 1, s, h => by
    obtain ⟨h1, h2⟩ := allB_get f g k m s (by omega)
    rw [List.range_succ, List.foldl_append]
    show (allB f g _ m).getD k 0 = _ ∧ (allB f g _ m).length = _
    unfold allB
    obtain ⟨r1, r2⟩ := rowB_get f g m k g.length ((List.range m).foldl (allB f g) s) (by rw [h2]; omega)
    refine ⟨?_, r2.trans h2⟩
    show ((List.range g.length).foldl (rowB f g m) ((List.range m).foldl (allB f g) s)).getD k 0 = _
    rw [r1, h1]
    show _ = s.getD k 0 + (sumF m (cell f g k) + cell f g k m)
    rw [Int.add_assoc]
    rfl
theorem convB_get (f g : List Int) (hf : f ≠ []) (k : Nat) : (convB f g).getD k 0 = sumF f.length (cell f g k) ∧ (convB f g).length = f.length + g.length - 1 := by
  have l : 0 < f.length := List.length_pos_iff.mpr hf
  obtain ⟨h1, h2⟩ := allB_get f g k f.length (List.replicate (f.length + g.length - 1) 0) (by rw [List.length_replicate]; omega)
  refine ⟨?_, by unfold convB; rw [h2, List.length_replicate]⟩
  unfold convB
  rw [h1]
  have e : (List.replicate (f.length + g.length - 1) (0 : Int)).getD k 0 = 0 := by
    rw [List.getD_eq_getElem?_getD, List.getElem?_replicate]
    split <;> rfl
  rw [e, Int.zero_add]
end LK

end
section
set_option Elab.async false
set_option linter.all false
set_option maxRecDepth 100000
set_option maxHeartbeats 4000000
namespace LK
open FT
/-! sums of sums -/
theorem sumF_zero (n : Nat) : sumF n (fun _ => 0) = 0 := by
  induction n with
  | zero => rfl
  | succ n ih => show sumF n _ + 0 = 0; rw [ih]; rfl
theorem sumF_add (n : Nat) (F G : Nat → Int) : sumF n (fun i => F i + G i) = sumF n F + sumF n G := by
  induction n with
  | zero => rfl
  | succ n ih =>
    show sumF n _ + (F n + G n) = (sumF n F + F n) + (sumF n G + G n)
    rw [ih]; omega
theorem sumF_swap (n m : Nat) (F : Nat → Nat → Int) : sumF n (fun i => sumF m (F i)) = sumF m (fun j => sumF n fun i => F i j) := by
  induction n with
  | zero => show 0 = sumF m fun _ => 0; rw [sumF_zero]
  | succ n ih =>
    show sumF n (fun i => sumF m (F i)) + sumF m (F n) = sumF m fun j => (sumF n (fun i => F i j) + F n j)
    rw [ih, sumF_add]
theorem sumF_mul (n : Nat) (c : Int) (F : Nat → Int) : sumF n (fun i => c * F i) = c * sumF n F := by
  induction n with
  | zero => show (0 : Int) = c * 0; rw [Int.mul_zero]
  | succ n ih =>
    show sumF n (fun i => c * F i) + c * F n = c * (sumF n F + F n)
    rw [ih, Int.mul_add]
theorem conv_comm (f g : List Int) (hf : f ≠ []) (hg : g ≠ []) : convB f g = convB g f := by
  apply List.ext_getElem
  · rw [(convB_get f g hf 0).2, (convB_get g f hg 0).2]; omega
  · intro k h1 h2
    have a := (convB_get f g hf k).1
    have b := (convB_get g f hg k).1
    rw [List.getD_eq_getElem?_getD, List.getElem?_eq_getElem h1] at a
    rw [List.getD_eq_getElem?_getD, List.getElem?_eq_getElem h2] at b
    have e : sumF f.length (cell f g k) = sumF g.length (cell g f k) := by
      show sumF f.length (fun i => sumF g.length fun j => if k = i + j then f.getD i 0 * g.getD j 0 else 0) = sumF g.length (fun i => sumF f.length fun j => if k = i + j then g.getD i 0 * f.getD j 0 else 0)
      rw [sumF_swap]
      refine sumF_congr fun i _ => sumF_congr fun j _ => ?_
      rw [Nat.add_comm i j, Int.mul_comm]
    rw [e] at a
    exact a.trans b.symm
end LK

end
section
set_option Elab.async false
set_option linter.all false
set_option maxRecDepth 100000
set_option maxHeartbeats 4000000
namespace LK
open FT
theorem addAt_zero (s : List Int) (k : Nat) : addAt s k 0 = s := by
  unfold addAt
  by_cases h : k < s.length
  · rw [Int.add_zero]
    apply set_self
    simp [h]
  · rw [List.set_eq_of_length_le (Nat.le_of_not_lt h)]
theorem enumZ_range : ∀ (g : List Int) (n : Nat), enumZ n g = (List.range g.length).map fun j => (n + j, g.getD j 0)
  | [], n => rfl
  | z :: g, n => by
    show (n, z) :: enumZ (n + 1) g = _
    rw [enumZ_range g (n + 1), List.length_cons, List.range_succ_eq_map, List.map_cons, List.map_map]
    congr 1
    apply List.map_congr_left
    intro j _
    show (n + 1 + j, g.getD j 0) = (n + (j + 1), (z :: g).getD (j + 1) 0)
    rw [show n + 1 + j = n + (j + 1) by omega]
    rfl
theorem allB_zero (f g : List Int) (i : Nat) (h : f.getD i 0 = 0) : ∀ s, allB f g s i = s := by
  intro s
  unfold allB
  have : ∀ (ks : List Nat) (s : List Int), ks.foldl (rowB f g i) s = s := by
    intro ks
    induction ks with
    | nil => intro s; rfl
    | cons k ks ih =>
      intro s
      rw [List.foldl_cons]
      have e : rowB f g i s k = s := by unfold rowB; rw [h, Int.zero_mul, addAt_zero]
      rw [e, ih]
  exact this _ s
theorem conv_AB (f g : List Int) : convA f g = convB f g := by
  unfold convA convB
  generalize List.replicate (f.length + g.length - 1) (0 : Int) = s
  rw [enumZ_range f 0, List.foldl_map]
  congr 1
  funext s i
  show outerF g s (0 + i, f.getD i 0) = allB f g s i
  unfold outerF
  dsimp only
  split
  · unfold allB
    rw [enumZ_range g 0, List.foldl_map]
    congr 1
    funext s j
    show addAt s (0 + i + (0 + j)) (f.getD i 0 * g.getD j 0) = addAt s (i + j) (f.getD i 0 * g.getD j 0)
    rw [Nat.zero_add, Nat.zero_add]
  · rename_i h
    rw [allB_zero f g i (by simpa using h)]
end LK

end
section
set_option Elab.async false
set_option linter.all false
set_option maxRecDepth 100000
set_option maxHeartbeats 4000000
namespace LK
open FT
/-! values -/
def evP (c : Int) : List Int → Int
  | [] => 0
  | z :: f => z + c * evP c f
theorem val_go (p c : Int) : ∀ (f : List Int) (a w : Int), a % p = a → (f.foldl (valF p c) (a, w)).1 = (a + w * evP c f) % p
  | [], a, w, h => by
    show a = (a + w * 0) % p
    rw [Int.mul_zero, Int.add_zero, h]
  | z :: f, a, w, h => by
    show (f.foldl (valF p c) ((a + z * w) % p, (w * c) % p)).1 = (a + w * (z + c * evP c f)) % p
    rw [val_go p c f _ _ (Int.emod_emod_of_dvd _ (Int.dvd_refl p))]
    have e1 : (w * c % p * evP c f) % p = (w * c * evP c f) % p := by rw [Int.mul_emod, Int.emod_emod_of_dvd _ (Int.dvd_refl p), ← Int.mul_emod]
    rw [Int.add_emod, Int.emod_emod_of_dvd _ (Int.dvd_refl p), e1, ← Int.add_emod]
    congr 1
    rw [Int.mul_add, Int.mul_comm z w, Int.mul_assoc, Int.add_assoc]
theorem val_ev (p c : Int) (f : List Int) : valL p c f = evP c f % p := by
  unfold valL
  rw [val_go p c f 0 1 (Int.zero_emod p), Int.one_mul, Int.zero_add]
theorem horner_ev (p c : Int) (f : List Int) : hornerL p c f = evP c f % p := by
  unfold hornerL
  rw [List.foldl_reverse]
  induction f with
  | nil => show (0 : Int) = 0 % p; rw [Int.zero_emod]
  | cons z f ih =>
    show (f.foldr (fun r t => (t * c + r) % p) 0 * c + z) % p = (z + c * evP c f) % p
    rw [ih]
    have e1 : (evP c f % p * c) % p = (c * evP c f) % p := by rw [Int.mul_emod, Int.emod_emod_of_dvd _ (Int.dvd_refl p), ← Int.mul_emod, Int.mul_comm]
    rw [Int.add_emod, e1, ← Int.add_emod, Int.add_comm]
theorem sumF_shift (n : Nat) (F : Nat → Int) : sumF (n + 1) F = F 0 + sumF n (fun i => F (i + 1)) := by
  induction n with
  | zero => show 0 + F 0 = F 0 + 0; omega
  | succ n ih =>
    show sumF (n + 1) F + F (n + 1) = F 0 + (sumF n (fun i => F (i + 1)) + F (n + 1))
    rw [ih]; omega
theorem ev_sum (c : Int) : ∀ (f : List Int) (n : Nat), f.length ≤ n → evP c f = sumF n (fun k => f.getD k 0 * c ^ k)
  | [], n, _ => by
    have : sumF n (fun k => ([] : List Int).getD k 0 * c ^ k) = sumF n (fun _ => 0) := sumF_congr fun i _ => by simp
    rw [this, sumF_zero]; rfl
  | z :: f, 0, h => by simp at h
  | z :: f, n + 1, h => by
    rw [sumF_shift]
    show z + c * evP c f = _
    rw [ev_sum c f n (by simpa using h), ← sumF_mul]
    have e : z = (z :: f).getD 0 0 * c ^ 0 := by simp
    rw [← e]
    congr 1
    refine sumF_congr fun i _ => ?_
    show c * (f.getD i 0 * c ^ i) = (z :: f).getD (i + 1) 0 * c ^ (i + 1)
    rw [Int.pow_succ]
    show c * (f.getD i 0 * c ^ i) = f.getD i 0 * (c ^ i * c)
    rw [Int.mul_comm c, Int.mul_assoc]
theorem sumF_one (n m : Nat) (x : Nat → Int) (h : m < n) : sumF n (fun k => if k = m then x k else 0) = x m := by
  induction n with
  | zero => omega
  | succ n ih =>
    show sumF n (fun k => if k = m then x k else 0) + (if n = m then x n else 0) = x m
    by_cases e : n = m
    · subst e
      have : sumF n (fun k => if k = n then x k else 0) = sumF n (fun _ => 0) := sumF_congr fun i hi => by rw [if_neg (by omega)]
      rw [this, sumF_zero, if_pos rfl, Int.zero_add]
    · rw [ih (by omega), if_neg e, Int.add_zero]
theorem ev_conv (c : Int) (f g : List Int) (hf : f ≠ []) : evP c (convB f g) = evP c f * evP c g := by
  have l := (convB_get f g hf 0).2
  have lf : 0 < f.length := List.length_pos_iff.mpr hf
  rw [ev_sum c (convB f g) (f.length + g.length - 1) (by omega)]
  have e1 : sumF (f.length + g.length - 1) (fun k => (convB f g).getD k 0 * c ^ k) = sumF (f.length + g.length - 1) (fun k => sumF f.length fun i => sumF g.length fun j => if k = i + j then f.getD i 0 * g.getD j 0 * c ^ k else 0) := by
    refine sumF_congr fun k _ => ?_
    rw [(convB_get f g hf k).1, Int.mul_comm, ← sumF_mul]
    refine sumF_congr fun i _ => ?_
    unfold cell
    rw [← sumF_mul]
    refine sumF_congr fun j _ => ?_
    split
    · rw [Int.mul_comm]
    · rw [Int.mul_zero]
  rw [e1, sumF_swap]
  have e2 : sumF f.length (fun i => sumF (f.length + g.length - 1) fun k => sumF g.length fun j => if k = i + j then f.getD i 0 * g.getD j 0 * c ^ k else 0) = sumF f.length (fun i => evP c g * (f.getD i 0 * c ^ i)) := by
    refine sumF_congr fun i hi => ?_
    rw [sumF_swap, ev_sum c g g.length (Nat.le_refl _), Int.mul_comm, ← sumF_mul]
    refine sumF_congr fun j hj => ?_
    rw [sumF_one _ (i + j) (fun k => f.getD i 0 * g.getD j 0 * c ^ k) (by omega)]
    show f.getD i 0 * g.getD j 0 * c ^ (i + j) = f.getD i 0 * c ^ i * (g.getD j 0 * c ^ j)
    rw [Int.pow_add]
    simp only [Int.mul_assoc, Int.mul_left_comm, Int.mul_comm]
  rw [e2, sumF_mul, ← ev_sum c f f.length (Nat.le_refl _), Int.mul_comm]
end LK

end
section
set_option Elab.async false
set_option linter.all false
set_option maxRecDepth 100000
set_option maxHeartbeats 4000000
namespace LK
open FT
/-! a trimmed list is told by its numbers -/
theorem keepN_zero (f : List Int) : ∀ m k, keepN f m ≤ k → k < m → f.getD k 0 = 0
  | 0, k, _, h => by omega
  | m + 1, k, h1, h2 => by
    by_cases e : f.getD m 0 = 0
    · rw [keepN_z e] at h1
      by_cases q : k = m
      · rw [q]; exact e
      · exact keepN_zero f m k h1 (by omega)
    · rw [keepN_nz e] at h1
      omega
theorem getD_take (f : List Int) (m k : Nat) : (f.take m).getD k 0 = if k < m then f.getD k 0 else 0 := by
  rw [List.getD_eq_getElem?_getD, List.getElem?_take, List.getD_eq_getElem?_getD]
  split <;> rfl
theorem getD_out {f : List Int} {k : Nat} (h : f.length ≤ k) : f.getD k 0 = 0 := by
  rw [List.getD_eq_getElem?_getD, List.getElem?_eq_none h]; rfl
theorem trim_getD (f : List Int) (k : Nat) : (trimZ f).getD k 0 = f.getD k 0 := by
  unfold trimZ
  rw [getD_take]
  split
  · rfl
  · rename_i h
    by_cases q : k < f.length
    · exact (keepN_zero f f.length k (by omega) q).symm
    · exact (getD_out (by omega)).symm
theorem getD_map (F : Int → Int) (h0 : F 0 = 0) (f : List Int) (k : Nat) : (f.map F).getD k 0 = F (f.getD k 0) := by
  rw [List.getD_eq_getElem?_getD, List.getElem?_map, List.getD_eq_getElem?_getD]
  cases f[k]? with
  | none => exact h0.symm
  | some z => rfl
theorem mod_getD (p : Int) (f : List Int) (k : Nat) : (modL p f).getD k 0 = f.getD k 0 % p := getD_map (· % p) (Int.zero_emod p) f k
theorem ext_get {a b : List Int} (ha : ∀ h : a ≠ [], a.getLast h ≠ 0) (hb : ∀ h : b ≠ [], b.getLast h ≠ 0) (h : ∀ k, a.getD k 0 = b.getD k 0) : a = b := by
  have key : ∀ {a b : List Int}, (∀ h : b ≠ [], b.getLast h ≠ 0) → (∀ k, a.getD k 0 = b.getD k 0) → ¬ a.length < b.length := by
    intro a b hb h l
    have hne : b ≠ [] := fun e => by rw [e] at l; simp at l
    have q := hb hne
    rw [List.getLast_eq_getElem] at q
    have e := h (b.length - 1)
    rw [getD_out (by omega), List.getD_eq_getElem?_getD, List.getElem?_eq_getElem (by omega)] at e
    exact q e.symm
  have l : a.length = b.length := by
    have := key hb h
    have := key ha (fun k => (h k).symm)
    omega
  refine List.ext_getElem l fun k h1 h2 => ?_
  have e := h k
  rw [List.getD_eq_getElem?_getD, List.getD_eq_getElem?_getD, List.getElem?_eq_getElem h1, List.getElem?_eq_getElem h2] at e
  exact e
theorem trim_ext {a b : List Int} (h : ∀ k, a.getD k 0 = b.getD k 0) : trimZ a = trimZ b :=
  ext_get (trimZ_last a) (trimZ_last b) fun k => by rw [trim_getD, trim_getD, h k]
theorem form_ext {p : Int} {a b : List Int} (hb : Form p b) (h : ∀ k, a.getD k 0 = b.getD k 0) : trimZ a = b := by
  rw [trim_ext h, trimZ_id hb]
theorem getD_range (n : Nat) (F : Nat → Int) (h : ∀ k, n ≤ k → F k = 0) (k : Nat) : ((List.range n).map F).getD k 0 = F k := by
  rw [List.getD_eq_getElem?_getD, List.getElem?_map]
  by_cases q : k < n
  · rw [List.getElem?_range q]; rfl
  · rw [List.getElem?_eq_none (by simp; omega)]
    exact (h k (by omega)).symm
theorem sum_getD (p : Int) (f g : List Int) (k : Nat) : (sumL p f g).getD k 0 = (f.getD k 0 + g.getD k 0) % p :=
  getD_range _ (fun k => (f.getD k 0 + g.getD k 0) % p) (fun k h => by
    rw [getD_out (by omega), getD_out (by omega)]; exact Int.zero_emod p) k
theorem dif_getD (p : Int) (f g : List Int) (k : Nat) : (difL p f g).getD k 0 = (f.getD k 0 - g.getD k 0) % p :=
  getD_range _ (fun k => (f.getD k 0 - g.getD k 0) % p) (fun k h => by
    rw [getD_out (by omega), getD_out (by omega)]; exact Int.zero_emod p) k
theorem mod_add (p a b : Int) : (a % p + b) % p = (a + b) % p := by
  rw [Int.add_emod, Int.emod_emod_of_dvd _ (Int.dvd_refl p), ← Int.add_emod]
theorem add_mod (p a b : Int) : (a + b % p) % p = (a + b) % p := by rw [Int.add_comm, mod_add, Int.add_comm]
theorem mod_mul (p a b : Int) : (a % p * b) % p = (a * b) % p := by
  rw [Int.mul_emod, Int.emod_emod_of_dvd _ (Int.dvd_refl p), ← Int.mul_emod]
theorem mul_mod (p a b : Int) : (a * (b % p)) % p = (a * b) % p := by rw [Int.mul_comm, mod_mul, Int.mul_comm]
theorem mod_sub (p a b : Int) : (a % p - b) % p = (a - b) % p := by
  rw [Int.sub_eq_add_neg, mod_add, ← Int.sub_eq_add_neg]
theorem sub_mod (p a b : Int) : (a - b % p) % p = (a - b) % p := by
  rw [Int.sub_emod, Int.emod_emod_of_dvd _ (Int.dvd_refl p), ← Int.sub_emod]
theorem mod_mod (p a : Int) : a % p % p = a % p := Int.emod_emod_of_dvd _ (Int.dvd_refl p)
theorem ev_ext (p c : Int) : ∀ (a b : List Int), (∀ k, a.getD k 0 % p = b.getD k 0 % p) → evP c a % p = evP c b % p
  | [], [], _ => rfl
  | [], z :: b, h => by
    have e := h 0
    have q := ev_ext p c [] b (fun k => h (k + 1))
    show 0 % p = (z + c * evP c b) % p
    have e0 : (0 : Int) % p = z % p := e
    have q0 : (0 : Int) % p = evP c b % p := q
    rw [← mod_add, ← e0, mod_add, Int.zero_add, ← mul_mod, ← q0, mul_mod, Int.mul_zero]
  | z :: a, [], h => by
    have e := h 0
    have q := ev_ext p c a [] (fun k => h (k + 1))
    show (z + c * evP c a) % p = 0 % p
    have e0 : z % p = (0 : Int) % p := e
    have q0 : evP c a % p = (0 : Int) % p := q
    rw [← mod_add, e0, mod_add, Int.zero_add, ← mul_mod, q0, mul_mod, Int.mul_zero]
  | z :: a, y :: b, h => by
    have e : z % p = y % p := h 0
    have q := ev_ext p c a b (fun k => h (k + 1))
    show (z + c * evP c a) % p = (y + c * evP c b) % p
    rw [← mod_add, e, mod_add, ← add_mod, ← mul_mod, q, mul_mod, add_mod]
theorem evP_add (c : Int) (f g : List Int) (n : Nat) (F : Nat → Int) (hn : f.length ≤ n ∧ g.length ≤ n) (hF : ∀ k, F k = f.getD k 0 + g.getD k 0) : evP c ((List.range n).map F) = evP c f + evP c g := by
  rw [ev_sum c f n hn.1, ev_sum c g n hn.2, ev_sum c _ n (by simp), ← sumF_add]
  refine sumF_congr fun k hk => ?_
  rw [getD_range n F (fun k h => by rw [hF, getD_out (by omega), getD_out (by omega)]; rfl), hF, Int.add_mul]
theorem evP_sub (c : Int) (f g : List Int) (n : Nat) (F : Nat → Int) (hn : f.length ≤ n ∧ g.length ≤ n) (hF : ∀ k, F k = f.getD k 0 - g.getD k 0) : evP c ((List.range n).map F) = evP c f - evP c g := by
  have h : evP c f = evP c ((List.range n).map F) + evP c g := by
    rw [ev_sum c f n hn.1, ev_sum c g n hn.2, ev_sum c _ n (by simp), ← sumF_add]
    refine sumF_congr fun k hk => ?_
    rw [getD_range n F (fun k h => by rw [hF, getD_out (by omega), getD_out (by omega)]; rfl), hF, ← Int.add_mul, Int.sub_add_cancel]
  omega
theorem val_sum (p c : Int) (f g : List Int) : valL p c (trimZ (sumL p f g)) = (valL p c f + valL p c g) % p := by
  rw [val_ev, val_ev, val_ev, mod_add, add_mod, ← evP_add c f g (max f.length g.length) (fun k => f.getD k 0 + g.getD k 0) ⟨Nat.le_max_left _ _, Nat.le_max_right _ _⟩ (fun _ => rfl)]
  refine ev_ext p c _ _ fun k => ?_
  rw [trim_getD, sum_getD, mod_mod, getD_range _ (fun k => f.getD k 0 + g.getD k 0)]
  intro k h
  rw [getD_out (by omega), getD_out (by omega)]; rfl
theorem val_dif (p c : Int) (f g : List Int) : valL p c (trimZ (difL p f g)) = (valL p c f - valL p c g) % p := by
  rw [val_ev, val_ev, val_ev, mod_sub, sub_mod, ← evP_sub c f g (max f.length g.length) (fun k => f.getD k 0 - g.getD k 0) ⟨Nat.le_max_left _ _, Nat.le_max_right _ _⟩ (fun _ => rfl)]
  refine ev_ext p c _ _ fun k => ?_
  rw [trim_getD, dif_getD, mod_mod, getD_range _ (fun k => f.getD k 0 - g.getD k 0)]
  intro k h
  rw [getD_out (by omega), getD_out (by omega)]; rfl
/-- the product -/
def mulL (p : Int) (f g : List Int) : List Int := if f = [] ∨ g = [] then [] else trimZ (modL p (convB f g))
theorem val_mul (p c : Int) (f g : List Int) : valL p c (mulL p f g) = (valL p c f * valL p c g) % p := by
  unfold mulL
  by_cases h : f = [] ∨ g = []
  · rw [if_pos h]
    rcases h with h | h
    · subst h
      have e : valL p c [] = 0 := rfl
      rw [e, Int.zero_mul, Int.zero_emod]
    · subst h
      have e : valL p c [] = 0 := rfl
      rw [e, Int.mul_zero, Int.zero_emod]
  · rw [if_neg h, val_ev, val_ev, val_ev, mod_mul, mul_mod, ← ev_conv c f g (fun e => h (.inl e))]
    refine ev_ext p c _ _ fun k => ?_
    rw [trim_getD, mod_getD, mod_mod]
theorem mulL_comm (p : Int) (f g : List Int) : mulL p f g = mulL p g f := by
  unfold mulL
  by_cases h : f = [] ∨ g = []
  · rw [if_pos h, if_pos (Or.symm h)]
  · rw [if_neg h, if_neg (fun e => h (Or.symm e)), conv_comm f g (fun e => h (.inl e)) (fun e => h (.inr e))]
theorem mod_red {p : Int} (hp : 0 < p) (f : List Int) : Red p (modL p f) := fun z hz => by
  obtain ⟨y, _, rfl⟩ := List.mem_map.mp hz
  exact ⟨Int.emod_nonneg _ (by omega), Int.emod_lt_of_pos _ hp⟩
theorem sum_red {p : Int} (hp : 0 < p) (f g : List Int) : Red p (sumL p f g) := fun z hz => by
  obtain ⟨y, _, rfl⟩ := List.mem_map.mp hz
  exact ⟨Int.emod_nonneg _ (by omega), Int.emod_lt_of_pos _ hp⟩
theorem dif_red {p : Int} (hp : 0 < p) (f g : List Int) : Red p (difL p f g) := fun z hz => by
  obtain ⟨y, _, rfl⟩ := List.mem_map.mp hz
  exact ⟨Int.emod_nonneg _ (by omega), Int.emod_lt_of_pos _ hp⟩
theorem nil_form (p : Int) : Form p [] := ⟨fun z hz => (by cases hz), fun h => absurd rfl h⟩
theorem mulL_form {p : Int} (hp : 0 < p) (f g : List Int) : Form p (mulL p f g) := by
  unfold mulL
  split
  · exact nil_form p
  · exact trimZ_form (mod_red hp _)
theorem mulL_len (p : Int) (f g : List Int) : (mulL p f g).length ≤ f.length + g.length := by
  unfold mulL
  split
  · simp
  · rename_i h
    refine Nat.le_trans (trimZ_len _) ?_
    have := (convB_get f g (fun e => h (.inl e)) 0).2
    unfold modL
    rw [List.length_map]
    omega
/-- the named difference -/
theorem dif_turn (p : Int) (f g : List Int) : trimZ (difL p g f) = trimZ (difL p [] (trimZ (difL p f g))) := by
  refine trim_ext fun k => ?_
  rw [dif_getD, dif_getD, trim_getD, dif_getD, getD_out (f := []) (by simp), sub_mod]
  congr 1
  omega
theorem dif_self (p : Int) (f : List Int) : trimZ (difL p f f) = [] := by
  refine form_ext (nil_form p) fun k => ?_
  rw [dif_getD, Int.sub_self, Int.zero_emod]
  rfl
end LK

end
section
set_option Elab.async false
set_option linter.all false
set_option maxRecDepth 100000
set_option maxHeartbeats 4000000
namespace LK
open FT
/-! lists of numbers compared -/
theorem lay_zs : ∀ ns : List Int, PySem.PyData.canLayAll0 (ns.map PySem.PyData.int) = true
  | [] => rfl
  | _ :: r => by simp [PySem.PyData.canLayAll0, PySem.PyData.canLay0, lay_zs r]
theorem deep_zs : ∀ ns : List Int, PySem.PyData.depthAll (ns.map PySem.PyData.int) = 0
  | [] => rfl
  | _ :: r => by simp [PySem.PyData.depthAll, PySem.PyData.depth, deep_zs r]
theorem eqv_zs : ∀ ns ms : List Int, PySem.PyData.eqvAll (ns.map PySem.PyData.int) (ms.map PySem.PyData.int) = decide (ns = ms)
  | [], [] => by simp [PySem.PyData.eqvAll]
  | [], _ :: _ => by simp [PySem.PyData.eqvAll]
  | _ :: _, [] => by simp [PySem.PyData.eqvAll]
  | a :: r, b :: t => by
    simp only [List.map_cons, PySem.PyData.eqvAll, PySem.PyData.eqv, eqv_zs r t]
    by_cases h : a = b <;> by_cases h' : r = t <;> simp [h, h']
theorem shape_zs (ns : List Int) : PySem.SeqAt.shaped (.list (ns.map PySem.PyData.int)) = true := by
  simp [PySem.SeqAt.shaped, PySem.PyData.canLay0, PySem.PyData.depth, lay_zs, deep_zs]
theorem eqT_zs (o o' : Bool) (ns ms : List Int) : eqT (.lst o (ns.map T.int)) (.lst o' (ms.map T.int)) = some (decide (ns = ms)) := by
  have e1 : toD (.lst o (ns.map T.int)) = some (.list (ns.map PySem.PyData.int)) := by simp [toD, toDs_zs]
  have e2 : toD (.lst o' (ms.map T.int)) = some (.list (ms.map PySem.PyData.int)) := by simp [toD, toDs_zs]
  have e3 : PySem.PyData.eqv (.list (ns.map PySem.PyData.int)) (.list (ms.map PySem.PyData.int)) = decide (ns = ms) := by
    simp only [PySem.PyData.eqv]; exact eqv_zs ns ms
  unfold eqT
  rw [e1, e2]
  dsimp only
  rw [shape_zs, shape_zs, e3]
  rfl
abbrev vE (p : Int) (f g : List Int) (ts : List T) (x4 x5 x6 x7 : Option T) : Env8 := [some (.int p), some (.tup (f.map T.int)), some (.tup (g.map T.int)), some (.lst false ts), x4, x5, x6, x7, none]
theorem vals_lc (Φ : Nat → List T → CR) (k : Nat) (F : List Int → Int) (p : Int) (f g : List Int) (hs : List (List Int)) (hz : isFzs (hs.map fun h => T.tup (h.map T.int)) = true) (hl : hs.length ≤ 1000) (c : Int) (x5 x6 x7 : Option T)
    (hF : ∀ h, Φ k [.int p, .tup (h.map T.int), .int c] = .ok (.int (F h)) []) :
    evalE Φ (.lc (.nm 8) (.sq (.var 3)) .no (.call k (.v (.var 0) (.v (.var 8) (.v (.var 4) .nil)))) [8]) (vE p f g (hs.map fun h => T.tup (h.map T.int)) (some (.int c)) x5 x6 x7) = .ok (.lst true ((hs.map F).map T.int)) (vE p f g (hs.map fun h => T.tup (h.map T.int)) (some (.int c)) x5 x6 x7) := by
  have hc : ∀ (us : List (List Int)) (acc : List T), acc.length + us.length ≤ 2000 → compL (bindG (.nm 8)) (.ok true) (evalE Φ (.call k (.v (.var 0) (.v (.var 8) (.v (.var 4) .nil))))) [8] (us.map fun h => T.tup (h.map T.int)) acc (vE p f g (hs.map fun h => T.tup (h.map T.int)) (some (.int c)) x5 x6 x7) = .ok (acc ++ (us.map F).map T.int) (vE p f g (hs.map fun h => T.tup (h.map T.int)) (some (.int c)) x5 x6 x7) := by
    intro us
    induction us with
    | nil => intro acc _; simp [compL]
    | cons h us ih =>
      intro acc hb
      rw [List.length_cons] at hb
      have lb := line_big
      have e : evalE Φ (.call k (.v (.var 0) (.v (.var 8) (.v (.var 4) .nil)))) ((vE p f g (hs.map fun h => T.tup (h.map T.int)) (some (.int c)) x5 x6 x7).set 8 (some (.tup (h.map T.int)))) = .ok (.int (F h)) ((vE p f g (hs.map fun h => T.tup (h.map T.int)) (some (.int c)) x5 x6 x7).set 8 (some (.tup (h.map T.int)))) := by
        have := hF h
        simp [doCallW, argsW, oneL, pureT, pureTs, execSs, execS, evalC, evalE, evalEs, evalAs, evalOe, evalOc, evalIt, opdOf, readV, slot, Opd.get, ofR, ofO, R.bind, op1, op2, bindG, backs, doCall, argsOf, refsOf, nodupN, setAll, isFz, isFzs, fz, fzs, fzI, kill, putBack, keepF, this]
      have l : acc.length < PySem.sizeLine := by rw [lb]; omega
      have ih2 := ih (acc ++ [.int (F h)]) (by rw [List.length_append, List.length_singleton]; omega)
      have hb8 : bindG (.nm 8) (.tup (h.map T.int)) (vE p f g (hs.map fun h => T.tup (h.map T.int)) (some (.int c)) x5 x6 x7) = some ((vE p f g (hs.map fun h => T.tup (h.map T.int)) (some (.int c)) x5 x6 x7).set 8 (some (.tup (h.map T.int)))) := by simp [bindG]
      have hk8 : kill [8] ((vE p f g (hs.map fun h => T.tup (h.map T.int)) (some (.int c)) x5 x6 x7).set 8 (some (.tup (h.map T.int)))) = vE p f g (hs.map fun h => T.tup (h.map T.int)) (some (.int c)) x5 x6 x7 := by simp [kill]
      rw [List.map_cons]
      simp only [compL, hb8, R.bind, if_true, e, l, hk8]
      rw [ih2]
      simp
  have hk : kill [8] (vE p f g (hs.map fun h => T.tup (h.map T.int)) (some (.int c)) x5 x6 x7) = vE p f g (hs.map fun h => T.tup (h.map T.int)) (some (.int c)) x5 x6 x7 := by simp [kill]
  have hi : evalIt Φ (.sq (.var 3)) (vE p f g (hs.map fun h => T.tup (h.map T.int)) (some (.int c)) x5 x6 x7) = .ok (hs.map fun h => T.tup (h.map T.int)) (vE p f g (hs.map fun h => T.tup (h.map T.int)) (some (.int c)) x5 x6 x7) := by
    generalize hs.map (fun h => T.tup (h.map T.int)) = ts at hz
    have hf := fzs_of _ hz
    simp [doCallW, argsW, oneL, pureT, pureTs, execSs, execS, evalC, evalE, evalEs, evalAs, evalOe, evalOc, evalIt, opdOf, readV, slot, Opd.get, ofR, ofO, R.bind, op1, op2, bindG, backs, doCall, argsOf, refsOf, nodupN, setAll, isFz, isFzs, fz, fzs, fzI, kill, putBack, keepF, itemsT, hz, hf]
  have hl := lc_eval (Φ := Φ) (g := .nm 8) (it := .sq (.var 3)) (c := .no) (e := .call k (.v (.var 0) (.v (.var 8) (.v (.var 4) .nil)))) (own := [8]) hi (by rw [hk]; exact hc hs [] (by rw [List.length_nil]; omega))
  have hb : putBack [8] (vE p f g (hs.map fun h => T.tup (h.map T.int)) (some (.int c)) x5 x6 x7) (vE p f g (hs.map fun h => T.tup (h.map T.int)) (some (.int c)) x5 x6 x7) = vE p f g (hs.map fun h => T.tup (h.map T.int)) (some (.int c)) x5 x6 x7 := by simp [putBack, keepF, slot]
  rw [hb, List.nil_append, fzs_zs] at hl
  exact hl
end LK

end
section
set_option Elab.async false
set_option linter.all false
set_option maxRecDepth 100000
set_option maxHeartbeats 4000000
namespace LK
open FT
theorem pr_big {p : Int} (h : p ∈ primesL) : 2 ≤ p ∧ p ≤ 97 := by
  obtain ⟨q, e, _, h2, h3⟩ := pr_nat h
  omega
theorem last_range {p : Int} {f : List Int} (hf : Form p f) (hne : f ≠ []) : 0 < f.getLast hne ∧ f.getLast hne < p := by
  have r := hf.red _ (List.getLast_mem hne)
  have l := hf.last hne
  omega
theorem scaleL_form {p : Int} (hp : p ∈ primesL) (a : Int) {f : List Int} (hf : Form p f) : Form p (scaleL p a f) := by
  have hb := pr_big hp
  unfold scaleL
  by_cases h : a % p = 0
  · rw [if_pos h]; exact nil_form p
  · rw [if_neg h]
    refine ⟨fun z hz => ?_, fun hne => ?_⟩
    · obtain ⟨y, _, rfl⟩ := List.mem_map.mp hz
      exact ⟨Int.emod_nonneg _ (by omega), Int.emod_lt_of_pos _ (by omega)⟩
    · have hf0 : f ≠ [] := fun e => hne (by rw [e]; rfl)
      have e : (f.map fun z => z * a % p).getLast hne = f.getLast hf0 * a % p := List.getLast_map (f := fun z => z * a % p) (l := f) hne
      rw [e, ← mul_mod]
      have r := last_range hf hf0
      have r0 := Int.emod_nonneg a (by omega : p ≠ 0)
      have r1 := Int.emod_lt_of_pos a (by omega : 0 < p)
      exact pr_dom hp (by omega) r1 r.1 r.2
theorem scale_getD (p a : Int) (f : List Int) (k : Nat) : (scaleL p a f).getD k 0 = f.getD k 0 * a % p := by
  unfold scaleL
  by_cases h : a % p = 0
  · rw [if_pos h, ← mul_mod, h, Int.mul_zero, Int.zero_emod]
    exact getD_out (by simp)
  · rw [if_neg h]
    exact getD_map (fun z => z * a % p) (by rw [Int.zero_mul, Int.zero_emod]) f k
theorem scale_due {p : Int} (hp : p ∈ primesL) (a : Int) {f : List Int} (hf : Form p f) : trimZ (f.map fun b => a * b % p) = scaleL p a f := by
  refine form_ext (scaleL_form hp a hf) fun k => ?_
  rw [scale_getD, getD_map (fun b => a * b % p) (by rw [Int.mul_zero, Int.zero_emod]), Int.mul_comm]
/-! monic forms -/
structure Mon (p : Int) (f h : List Int) : Prop where
  form : Form p h
  len : h.length = f.length
  last : ∀ hne : h ≠ [], h.getLast hne = 1
theorem mon_of {p v : Int} (hp : p ∈ primesL) {f : List Int} (hf : Form p f) (hne : f ≠ []) (hv : (f.getLast hne * (v % p)) % p = 1) : Mon p f (scaleL p (v % p) f) := by
  have hb := pr_big hp
  have h0 : ¬ v % p % p = 0 := fun e => by
    rw [← mul_mod, e, Int.mul_zero, Int.zero_emod] at hv
    cases hv
  refine ⟨scaleL_form hp _ hf, ?_, fun hn => ?_⟩
  · unfold scaleL; rw [if_neg h0, List.length_map]
  · have e : scaleL p (v % p) f = f.map fun z => z * (v % p) % p := by unfold scaleL; rw [if_neg h0]
    have e2 : (scaleL p (v % p) f).getLast hn = (f.map fun z => z * (v % p) % p).getLast (by rw [← e]; exact hn) := by congr 1
    rw [e2, List.getLast_map (f := fun z => z * (v % p) % p) (l := f)]
    exact hv
theorem scale_one {p : Int} (hp : 2 ≤ p) {h : List Int} (hh : Red p h) : scaleL p (1 % p) h = h := by
  have e1 : (1 : Int) % p = 1 := Int.emod_eq_of_lt (by omega) (by omega)
  rw [e1]
  unfold scaleL
  rw [e1, if_neg (by omega)]
  conv => rhs; rw [← List.map_id h]
  refine List.map_congr_left fun z hz => ?_
  rw [Int.mul_one]
  exact Int.emod_eq_of_lt (hh z hz).1 (hh z hz).2
theorem inv_one {p : Int} (hp : 2 ≤ p ∧ p ≤ 97) : invGo 40 p 1 0 1 = some 1 := by
  show (if 0 ≤ p ∧ p < 2 ^ 32 ∧ (1 : Int) < 2 ^ 32 then (if (1 : Int) > 1 then _ else some 1) else none) = some (1 : Int)
  rw [if_pos ⟨by omega, by omega, by omega⟩, if_neg (by omega)]
theorem cell_one (h : List Int) (l : Int) (k : Nat) : sumF h.length (cell h [l] k) = h.getD k 0 * l := by
  have e : sumF h.length (cell h [l] k) = sumF h.length (fun i => if i = k then h.getD k 0 * l else 0) := by
    refine sumF_congr fun i _ => ?_
    show 0 + (if k = i + 0 then h.getD i 0 * l else 0) = _
    rw [Int.zero_add]
    by_cases q : k = i
    · subst q; rw [if_pos (by omega), if_pos rfl]
    · rw [if_neg (by omega), if_neg (fun e => q e.symm)]
  rw [e]
  by_cases q : k < h.length
  · exact sumF_one h.length k (fun _ => h.getD k 0 * l) q
  · have : sumF h.length (fun i => if i = k then h.getD k 0 * l else 0) = sumF h.length (fun _ => 0) := sumF_congr fun i hi => by rw [if_neg (by omega)]
    rw [this, sumF_zero, getD_out (by omega), Int.zero_mul]
theorem mon_back {p v : Int} (hp : p ∈ primesL) {f : List Int} (hf : Form p f) (hne : f ≠ []) (hv : (f.getLast hne * (v % p)) % p = 1) : mulL p (scaleL p (v % p) f) [f.getLast hne] = f := by
  have hm := mon_of hp hf hne hv
  have hn : scaleL p (v % p) f ≠ [] := fun e => by
    have := hm.len
    rw [e] at this
    exact hne (List.length_eq_zero_iff.mp this.symm)
  unfold mulL
  rw [if_neg (by rintro (e | e) <;> simp_all)]
  refine form_ext hf fun k => ?_
  rw [mod_getD, (convB_get _ _ hn k).1, cell_one, scale_getD, mod_mul, Int.mul_assoc, Int.mul_comm (v % p), ← mul_mod, hv, Int.mul_one]
  by_cases q : k < f.length
  · have m : f.getD k 0 ∈ f := by
      rw [List.getD_eq_getElem?_getD, List.getElem?_eq_getElem q]
      exact List.getElem_mem q
    exact Int.emod_eq_of_lt (hf.red _ m).1 (hf.red _ m).2
  · rw [getD_out (by omega), Int.zero_emod]
theorem mul_self_zero {p : Int} (hp : p ∈ primesL) {m : List Int} (hm : Form p m) : addL p m (scaleL p (-1) m) = [] := by
  have hb := pr_big hp
  rw [subL_eq hb.1 hm hm, dif_self]
end LK

end
section
set_option Elab.async false
set_option linter.all false
set_option maxRecDepth 100000
set_option maxHeartbeats 4000000
namespace LK
open FT
/-! ways to reckon, for any things -/
theorem if_no {Φ : Nat → List T → CR} {c : C} {a : Ss} {ρ ρ1 : Env8} (h : evalC Φ c ρ = .ok false ρ1) : execS Φ (.ifs c a .nil) ρ = .nx ρ1 := seq_if h rfl
theorem not_call {Φ : Nat → List T → CR} {f : Nat} {as : As} {ρ ρ1 : Env8} (h : evalE Φ (.call f as) ρ = .ok (.bl true) ρ1) : evalC Φ (.not (.tr (.call f as))) ρ = .ok false ρ1 := by
  simp only [evalC, opdOf, h, R.bind, Opd.get, FT.truT, ofO, Bool.not_true]
theorem call2 {Φ : Nat → List T → CR} {f : Nat} {e1 e2 : E} {ρ ρ1 ρ2 : Env8} {t1 t2 u : T} (h1 : evalE Φ e1 ρ = .ok t1 ρ1) (h2 : evalE Φ e2 ρ1 = .ok t2 ρ2) (h : Φ f [fz t1, fz t2] = .ok u []) : evalE Φ (.call f (.v e1 (.v e2 .nil))) ρ = .ok u ρ2 := by
  simp [doCallW, argsW, oneL, pureT, pureTs, execSs, execS, evalC, evalE, evalEs, evalAs, evalOe, evalOc, evalIt, opdOf, readV, slot, Opd.get, ofR, ofO, R.bind, op1, op2, bindG, backs, doCall, argsOf, refsOf, nodupN, setAll, isFz, isFzs, fz, fzs, fzI, kill, putBack, keepF, h1, h2, h]
theorem opd_nv {a : E} {m : Env8 → R T} {ρ ρ1 : Env8} {t : T} (nv : ∀ i, a ≠ .var i) (h : m ρ = .ok t ρ1) : opdOf a m ρ = .ok (.vl t) ρ1 := by
  unfold opdOf
  split
  · exact absurd rfl (nv _)
  · dsimp only; rw [h]; rfl
theorem opd_var {i : Nat} {m : Env8 → R T} {ρ : Env8} {t : T} (h : slot ρ i = some t) : opdOf (.var i) m ρ = .ok (.sl i) ρ := by
  unfold opdOf
  simp [h]
theorem bin_ok {Φ : Nat → List T → CR} {op : PySem.Operator} {a b : E} {ρ ρ1 ρ2 : Env8} {x y : Opd} {t u v : T} (h1 : opdOf a (evalE Φ a) ρ = .ok x ρ1) (h2 : opdOf b (evalE Φ b) ρ1 = .ok y ρ2) (hx : x.get ρ2 = some t) (hy : y.get ρ2 = some u) (h : FT.binT op t u = some v) : evalE Φ (.bin op a b) ρ = .ok v ρ2 := by
  simp only [evalE, h1, h2, R.bind, op2, hx, hy, h, ofO]
theorem ccmp_ok {Φ : Nat → List T → CR} {op : PySem.CmpOp} {a b : E} {ρ ρ1 ρ2 : Env8} {x y : Opd} {t u : T} {v : Bool} (h1 : opdOf a (evalE Φ a) ρ = .ok x ρ1) (h2 : opdOf b (evalE Φ b) ρ1 = .ok y ρ2) (hx : x.get ρ2 = some t) (hy : y.get ρ2 = some u) (h : FT.cmpT op t u = some v) : evalC Φ (.cmp op a b) ρ = .ok v ρ2 := by
  simp only [evalC, h1, h2, R.bind, op2, hx, hy, h, ofO]
theorem b1_ok {Φ : Nat → List T → CR} {b : B1} {a : E} {ρ ρ1 : Env8} {t u : T} (nv : ∀ i, a ≠ .var i) (h : evalE Φ a ρ = .ok t ρ1) (hu : b1T b t = some u) : evalE Φ (.b1 b a) ρ = .ok u ρ1 := by
  simp only [evalE, opd_nv nv h, R.bind, op1, Opd.get, hu, ofO]
theorem ite_t {Φ : Nat → List T → CR} {c : C} {a b : E} {ρ ρ1 ρ2 : Env8} {t : T} (h : evalC Φ c ρ = .ok true ρ1) (h2 : evalE Φ a ρ1 = .ok t ρ2) : evalE Φ (.ite c a b) ρ = .ok t ρ2 := by
  simp only [evalE, h, R.bind, if_true, h2]
theorem ite_f {Φ : Nat → List T → CR} {c : C} {a b : E} {ρ ρ1 ρ2 : Env8} {t : T} (h : evalC Φ c ρ = .ok false ρ1) (h2 : evalE Φ b ρ1 = .ok t ρ2) : evalE Φ (.ite c a b) ρ = .ok t ρ2 := by
  simp only [evalE, h, R.bind, Bool.false_eq_true, if_false, h2]
theorem cand_t {Φ : Nat → List T → CR} {a b : C} {ρ ρ1 : Env8} {r : R Bool} (h : evalC Φ a ρ = .ok true ρ1) (h2 : evalC Φ b ρ1 = r) : evalC Φ (.and a b) ρ = r := by
  simp only [evalC, h, R.bind, if_true, h2]
theorem cand_f {Φ : Nat → List T → CR} {a b : C} {ρ ρ1 : Env8} (h : evalC Φ a ρ = .ok false ρ1) : evalC Φ (.and a b) ρ = .ok false ρ1 := by
  simp only [evalC, h, R.bind, Bool.false_eq_true, if_false]
theorem cor_t {Φ : Nat → List T → CR} {a b : C} {ρ ρ1 : Env8} (h : evalC Φ a ρ = .ok true ρ1) : evalC Φ (.or a b) ρ = .ok true ρ1 := by
  simp only [evalC, h, R.bind, if_true]
theorem cor_f {Φ : Nat → List T → CR} {a b : C} {ρ ρ1 : Env8} {r : R Bool} (h : evalC Φ a ρ = .ok false ρ1) (h2 : evalC Φ b ρ1 = r) : evalC Φ (.or a b) ρ = r := by
  simp only [evalC, h, R.bind, Bool.false_eq_true, if_false, h2]
theorem comp_gen {α : Type} {g : G} {own : List Nat} {c : Env8 → R Bool} {e : Env8 → R T} {ρ : Env8} (inj : α → T) (P : α → Bool) (F : α → T) : ∀ (us : List α) (acc : List T), acc.length + us.length ≤ 2000 →
    (∀ u ∈ us, ∃ ρ1 ρ2, bindG g (inj u) ρ = some ρ1 ∧ c ρ1 = .ok (P u) ρ2 ∧ (P u = false → kill own ρ2 = ρ) ∧ (P u = true → ∃ ρ3, e ρ2 = .ok (F u) ρ3 ∧ kill own ρ3 = ρ)) →
    compL (bindG g) c e own (us.map inj) acc ρ = .ok (acc ++ (us.filter P).map F) ρ
  | [], acc, _, _ => by simp [compL]
  | u :: us, acc, hb, h => by
    rw [List.length_cons] at hb
    obtain ⟨ρ1, ρ2, e1, e2, e3, e4⟩ := h u (List.mem_cons_self ..)
    have l : acc.length < PySem.sizeLine := by rw [line_big]; omega
    have rest := fun acc' hb' => comp_gen (own := own) inj P F us acc' hb' fun z hz => h z (List.mem_cons_of_mem _ hz)
    rw [List.map_cons]
    cases hp : P u with
    | false =>
      have e5 := e3 hp
      have ih := rest acc (by omega)
      rw [List.filter_cons_of_neg (by rw [hp]; exact Bool.false_ne_true)]
      simp only [compL, e1, e2, R.bind, hp, Bool.false_eq_true, if_false, e5]
      exact ih
    | true =>
      obtain ⟨ρ3, e5, e6⟩ := e4 hp
      have ih := rest (acc ++ [F u]) (by rw [List.length_append, List.length_singleton]; omega)
      rw [List.filter_cons_of_pos hp]
      simp only [compL, e1, e2, R.bind, hp, if_true, e5, l, e6]
      rw [ih]
      simp
theorem lc_gen {α : Type} {Φ : Nat → List T → CR} {g : G} {it : It} {c : Oc} {e : E} {own : List Nat} {ρ ρ1 : Env8} (inj : α → T) (P : α → Bool) (F : α → T) (us : List α) (hi : evalIt Φ it ρ = .ok (us.map inj) ρ1) (hk : kill own ρ1 = ρ1) (hb : putBack own ρ1 ρ1 = ρ1) (hl : us.length ≤ 1000) (hz : isFzs ((us.filter P).map F) = true)
    (h : ∀ u ∈ us, ∃ ρa ρb, bindG g (inj u) ρ1 = some ρa ∧ evalOc Φ c ρa = .ok (P u) ρb ∧ (P u = false → kill own ρb = ρ1) ∧ (P u = true → ∃ ρ3, evalE Φ e ρb = .ok (F u) ρ3 ∧ kill own ρ3 = ρ1)) :
    evalE Φ (.lc g it c e own) ρ = .ok (.lst true ((us.filter P).map F)) ρ1 := by
  have q := lc_eval (Φ := Φ) (g := g) (it := it) (c := c) (e := e) (own := own) hi (by rw [hk]; exact comp_gen inj P F us [] (by rw [List.length_nil]; omega) h)
  rw [hb, List.nil_append, fzs_of _ hz] at q
  exact q
theorem filt_true {α : Type} (us : List α) : us.filter (fun _ => true) = us := by
  induction us with
  | nil => rfl
  | cons u us ih => rw [List.filter_cons_of_pos rfl, ih]
theorem lc_all {α : Type} {Φ : Nat → List T → CR} {g : G} {it : It} {e : E} {own : List Nat} {ρ ρ1 : Env8} (inj : α → T) (F : α → T) (us : List α) (hi : evalIt Φ it ρ = .ok (us.map inj) ρ1) (hk : kill own ρ1 = ρ1) (hb : putBack own ρ1 ρ1 = ρ1) (hl : us.length ≤ 1000) (hz : isFzs (us.map F) = true)
    (h : ∀ u ∈ us, ∃ ρa ρ3, bindG g (inj u) ρ1 = some ρa ∧ evalE Φ e ρa = .ok (F u) ρ3 ∧ kill own ρ3 = ρ1) :
    evalE Φ (.lc g it .no e own) ρ = .ok (.lst true (us.map F)) ρ1 := by
  have q := lc_gen (Φ := Φ) (c := .no) (e := e) inj (fun _ => true) F us hi hk hb hl (by rw [filt_true]; exact hz) fun u hu => by
    obtain ⟨ρa, ρ3, h1, h2, h3⟩ := h u hu
    exact ⟨ρa, ρa, h1, rfl, (fun z => nomatch z), fun _ => ⟨ρ3, h2, h3⟩⟩
  rw [filt_true] at q
  exact q
theorem comp_drawn {α : Type} {own : List Nat} {e : Env8 → R T} {g : G} (inj : α → T) (E : BagS → Option T → Env8) (P : α → Prop) (hb : ∀ b t, bindG g t (E b none) = some (E b (some t)))
    (h : ∀ b t, b.Ok → ∃ (z : α) (b' : BagS), e (E b (some t)) = .ok (inj z) (E b' (some t)) ∧ b'.Ok ∧ P z) (hk : ∀ b t, kill own (E b (some t)) = E b none) : ∀ (ts acc : List T) (b : BagS), b.Ok → acc.length + ts.length ≤ 2000 →
    ∃ (ns : List α) (b' : BagS), compL (bindG g) (.ok true) e own ts acc (E b none) = .ok (acc ++ ns.map inj) (E b' none) ∧ b'.Ok ∧ (∀ z ∈ ns, P z) ∧ ns.length = ts.length
  | [], acc, b, ho, _ => ⟨[], b, by simp [compL], ho, (fun z hz => nomatch hz), rfl⟩
  | t :: ts, acc, b, ho, hl => by
    rw [List.length_cons] at hl
    obtain ⟨z, b1, e1, ho1, hz⟩ := h b t ho
    have l : acc.length < PySem.sizeLine := by rw [line_big]; omega
    obtain ⟨ns, b2, e2, ho2, hr, hn⟩ := comp_drawn inj E P hb h hk ts (acc ++ [inj z]) b1 ho1 (by rw [List.length_append, List.length_singleton]; omega)
    refine ⟨z :: ns, b2, ?_, ho2, fun y hy => ?_, by rw [List.length_cons, hn, List.length_cons]⟩
    · simp only [compL, hb, R.bind, if_true, e1, hk, l]
      rw [e2]
      simp
    · rcases List.mem_cons.mp hy with q | hy
      · rw [q]; exact hz
      · exact hr y hy
theorem lc_drawn {α : Type} {Φ : Nat → List T → CR} {g : G} {it : It} {e : E} {own : List Nat} {ρ : Env8} (inj : α → T) (E : BagS → Option T → Env8) (P : α → Prop) (ts : List T) (b : BagS) (ho : b.Ok) (hl : ts.length ≤ 1000) (hi : evalIt Φ it ρ = .ok ts (E b none)) (hb : ∀ b t, bindG g t (E b none) = some (E b (some t)))
    (h : ∀ b t, b.Ok → ∃ (z : α) (b' : BagS), evalE Φ e (E b (some t)) = .ok (inj z) (E b' (some t)) ∧ b'.Ok ∧ P z) (hk : ∀ b t, kill own (E b (some t)) = E b none) (hk0 : ∀ b, kill own (E b none) = E b none) (hp : ∀ b b', putBack own (E b none) (E b' none) = E b' none) (hz : ∀ z, isFz (inj z) = true) :
    ∃ (ns : List α) (b' : BagS), evalE Φ (.lc g it .no e own) ρ = .ok (.lst true (ns.map inj)) (E b' none) ∧ b'.Ok ∧ (∀ z ∈ ns, P z) ∧ ns.length = ts.length := by
  obtain ⟨ns, b', e1, e2, e3, e4⟩ := comp_drawn (own := own) (e := evalE Φ e) inj E P hb h hk ts [] b ho (by rw [List.length_nil]; omega)
  have q := lc_eval (Φ := Φ) (g := g) (it := it) (c := .no) (e := e) (own := own) hi (by rw [hk0]; exact e1)
  have z : isFzs (ns.map inj) = true := by
    clear e1 e3 e4 q
    induction ns with
    | nil => rfl
    | cons n ns ih => simp [isFzs, hz, ih]
  rw [hp, List.nil_append, fzs_of _ z] at q
  exact ⟨ns, b', q, e2, e3, e4⟩
theorem for_gen {α σ : Type} {g : G} {b : Env8 → O} {ks : List Nat} (inj : α → T) (E : σ → Env8) (f : σ → α → σ) (P : σ → Prop) : ∀ (us : List α) (a : σ), P a → (∀ u ∈ us, ∀ a, P a → P (f a u) ∧ ∃ ρ1 ρ2, bindG g (inj u) (E a) = some ρ1 ∧ b ρ1 = .nx ρ2 ∧ kill ks ρ2 = E (f a u)) →
    forL (bindG g) b ks (us.map inj) (E a) = .nx (E (us.foldl f a)) ∧ P (us.foldl f a)
  | [], a, hp, _ => ⟨rfl, hp⟩
  | u :: us, a, hp, h => by
    obtain ⟨h1, ρ1, ρ2, h2, h3, h4⟩ := h u (List.mem_cons_self ..) a hp
    have ih := for_gen inj E f P us (f a u) h1 fun z hz => h z (List.mem_cons_of_mem _ hz)
    refine ⟨?_, ih.2⟩
    rw [List.map_cons]
    simp only [forL, h2, h3, h4]
    exact ih.1
/-! forms and rows as trees -/
abbrev fT (f : List Int) : T := .tup (f.map T.int)
abbrev rT (v : List (List Int)) : T := .tup (v.map fT)
theorem isFz_fT (f : List Int) : isFz (fT f) = true := by simp [isFz]
@[simp] theorem isFzs_fT : ∀ v : List (List Int), isFzs (v.map fT) = true
  | [] => rfl
  | f :: v => by rw [List.map_cons]; simp only [isFzs, isFz_fT, isFzs_fT v, Bool.and_self]
@[simp] theorem fzs_fT (v : List (List Int)) : fzs (v.map fT) = v.map fT := fzs_of _ (isFzs_fT v)
theorem zipT_map {α β : Type} (F : α → T) (G : β → T) : ∀ (xs : List α) (ys : List β), zipT (xs.map F) (ys.map G) = (xs.zip ys).map fun z => .tup [F z.1, G z.2]
  | [], _ => by simp [zipT]
  | _ :: _, [] => by simp [zipT]
  | x :: xs, y :: ys => by
    show T.tup [F x, G y] :: zipT (xs.map F) (ys.map G) = _
    rw [zipT_map F G xs ys]
    rfl
theorem enumT_map {α : Type} (d : α) (F : α → T) : ∀ (xs : List α) (n : Nat), enumT n (xs.map F) = (List.range xs.length).map fun j => .tup [.int ((n + j : Nat) : Int), F (xs.getD j d)]
  | [], n => rfl
  | x :: xs, n => by
    show T.tup [.int (n : Nat), F x] :: enumT (n + 1) (xs.map F) = _
    rw [enumT_map d F xs (n + 1), List.length_cons, List.range_succ_eq_map, List.map_cons, List.map_map]
    congr 1
    apply List.map_congr_left
    intro j _
    show T.tup [.int ((n + 1 + j : Nat) : Int), F (xs.getD j d)] = T.tup [.int ((n + (j + 1) : Nat) : Int), F ((x :: xs).getD (j + 1) d)]
    rw [show n + 1 + j = n + (j + 1) by omega]
    rfl
theorem atI_map {α : Type} (d : α) (F : α → T) (xs : List α) (j : Nat) (h : j < xs.length) : L2.atI (xs.map F) (j : Int) = some (F (xs.getD j d)) := by
  have h' : (xs.map F)[j]? = some (F (xs.getD j d)) := by
    rw [List.getElem?_map, List.getD_eq_getElem?_getD, List.getElem?_eq_getElem h]; rfl
  simp only [L2.atI, L2.ixN, List.length_map]
  have h0 : ¬ (j : Int) < 0 := by omega
  have h1 : (j : Int) < (xs.length : Int) := by omega
  simp [h0, h1, h, h']
end LK

end
section
set_option Elab.async false
set_option linter.all false
set_option maxRecDepth 100000
set_option maxHeartbeats 4000000
namespace LK
open FT
/-! rows: what is told of them -/
def RowOk (p : Int) (n : Nat) (v : List (List Int)) : Prop := ∀ f ∈ v, Form p f ∧ f.length ≤ n
def sumR (p : Int) (f g : List Int) : List Int := trimZ (sumL p f g)
def difR (p : Int) (f g : List Int) : List Int := trimZ (difL p f g)
theorem dif_len (p : Int) (f g : List Int) : (difL p f g).length = max f.length g.length := by unfold difL; simp
theorem sum_len (p : Int) (f g : List Int) : (sumL p f g).length = max f.length g.length := by unfold sumL; simp
theorem sumR_len (p : Int) (f g : List Int) : (sumR p f g).length ≤ max f.length g.length := Nat.le_trans (trimZ_len _) (by rw [sum_len]; exact Nat.le_refl _)
theorem difR_len (p : Int) (f g : List Int) : (difR p f g).length ≤ max f.length g.length := Nat.le_trans (trimZ_len _) (by rw [dif_len]; exact Nat.le_refl _)
theorem sumR_form {p : Int} (hp : 0 < p) (f g : List Int) : Form p (sumR p f g) := trimZ_form (sum_red hp f g)
theorem difR_form {p : Int} (hp : 0 < p) (f g : List Int) : Form p (difR p f g) := trimZ_form (dif_red hp f g)
theorem red_small {p : Int} (hp : p ≤ 97) {f : List Int} (h : Red p f) : Small f := fun z hz => by
  have := h z hz
  omega
section
variable {p : Int} (hp : p ∈ primesL) {f g : List Int} (hf : Form p f) (hg : Form p g) (lf : f.length ≤ 300) (lg : g.length ≤ 300)
include hp hf hg lf lg
theorem mult_form (n : Nat) : callN fns (n + 2) 2 [.int p, fT f, fT g] = .ok (fT (mulL p f g)) [] := by
  have pb := pr_big hp
  have hM : mulL p f g = if f = [] ∨ g = [] then [] else trimZ (modL p (convA f g)) := by unfold mulL; rw [conv_AB]
  rw [hM]
  exact mult_spec n p (by omega) f g (by omega) (by omega) (red_small pb.2 hf.red)
theorem mul_form (n : Nat) : callN fns (n + 2) 13 [.int p, fT f, fT g] = .ok (fT (mulL p f g)) [] := mul_spec n p (by have := pr_big hp; omega) f g (by omega) (by omega) (red_small (pr_big hp).2 hf.red)
end
theorem map_fT {α : Type} (G : α → List Int) (us : List α) : us.map (fun u => fT (G u)) = (us.map G).map fT := by rw [List.map_map]; rfl
theorem tup_forms {α : Type} {Φ : Nat → List T → CR} {g : G} {it : It} {e : E} {own : List Nat} {ρ ρ1 : Env8} (inj : α → T) (G : α → List Int) (us : List α) (hi : evalIt Φ it ρ = .ok (us.map inj) ρ1) (hk : kill own ρ1 = ρ1) (hb : putBack own ρ1 ρ1 = ρ1) (hl : us.length ≤ 1000)
    (h : ∀ u ∈ us, ∃ ρa ρ3, bindG g (inj u) ρ1 = some ρa ∧ evalE Φ e ρa = .ok (fT (G u)) ρ3 ∧ kill own ρ3 = ρ1) :
    evalE Φ (.b1 .tuple (.lc g it .no e own)) ρ = .ok (rT (us.map G)) ρ1 := by
  have q := lc_all (Φ := Φ) (e := e) inj (fun u => fT (G u)) us hi hk hb hl (by rw [map_fT]; exact isFzs_fT _) h
  rw [map_fT] at q
  exact b1_ok (fun _ z => by cases z) q (by simp only [FT.b1T, isFzs_fT, if_true])
theorem zip_rows {Φ : Nat → List T → CR} {a b : E} {ρ ρ1 ρ2 : Env8} {v w : List (List Int)} (h1 : evalE Φ a ρ = .ok (rT v) ρ1) (h2 : evalE Φ b ρ1 = .ok (rT w) ρ2) : evalIt Φ (.zp a b) ρ = .ok ((v.zip w).map fun z => .tup [fT z.1, fT z.2]) ρ2 := by
  have e1 : fz (rT v) = rT v := by simp only [fz, fzs_fT]
  have e2 : fz (rT w) = rT w := by simp only [fz, fzs_fT]
  simp only [evalIt, h1, h2, R.bind, e1, e2, zipOk, isFzs_fT, Bool.and_self, if_true, ofO, zipT_map]
theorem var_ok {Φ : Nat → List T → CR} {i : Nat} {ρ : Env8} {t : T} (h : slot ρ i = some t) (hz : isFz t = true) : evalE Φ (.var i) ρ = .ok t ρ := by
  simp only [evalE, readV, h, hz, if_true]
theorem isFz_rT (v : List (List Int)) : isFz (rT v) = true := by simp only [isFz, isFzs_fT]
def addR (p : Int) (v w : List (List Int)) : List (List Int) := (v.zip w).map fun z => sumR p z.1 z.2
def subR (p : Int) (v w : List (List Int)) : List (List Int) := (v.zip w).map fun z => difR p z.1 z.2
def timesR (p : Int) (v : List (List Int)) (f : List Int) : List (List Int) := v.map fun g => mulL p g f
theorem zip_mem {v w : List (List Int)} {z : List Int × List Int} (h : z ∈ v.zip w) : z.1 ∈ v ∧ z.2 ∈ w := List.of_mem_zip (a := z.1) (b := z.2) h
theorem zip_le {α β : Type} (v : List α) (w : List β) : (v.zip w).length ≤ v.length := by rw [List.length_zip]; omega
def zeroR (m : Nat) : List (List Int) := List.replicate m []
def unitR (m : Nat) (k : Int) : List (List Int) := (List.range m).map fun i : Nat => if (i : Int) = k then [1] else []
section
variable {p : Int} (hp : p ∈ primesL) {v w : List (List Int)} {nv nw : Nat} (hv : RowOk p nv v) (hw : RowOk p nw w) (bv : nv ≤ 300) (bw : nw ≤ 300) (lv : v.length ≤ 1000)
include hp hv hw bv bw lv
theorem rows_zip (K : Nat) (k : Nat) (G : List Int → List Int → List Int) (n : Nat) (hG : ∀ f g, Form p f → Form p g → f.length ≤ 300 → g.length ≤ 300 → callN fns n k [.int p, fT f, fT g] = .ok (fT (G f g)) [])
    (ρ : List (Option T)) (hρ : ρ = [some (.int p), some (rT v), some (rT w), none, none]) :
    evalE (callN fns n) (.b1 .tuple (.lc (.tp [3, 4]) (.zp (.var 1) (.var 2)) .no (.call k (.v (.var 0) (.v (.var 3) (.v (.var 4) .nil)))) [3, 4])) ρ = .ok (rT ((v.zip w).map fun z => G z.1 z.2)) ρ := by
  subst hρ
  refine tup_forms (fun z : List Int × List Int => .tup [fT z.1, fT z.2]) (fun z => G z.1 z.2) (v.zip w) (zip_rows (var_ok rfl (isFz_rT v)) (var_ok rfl (isFz_rT w))) (by simp [kill]) (by simp [putBack, keepF, slot]) (Nat.le_trans (zip_le v w) lv) fun z hz => ?_
  have m := zip_mem hz
  have c := hG z.1 z.2 (hv _ m.1).1 (hw _ m.2).1 (Nat.le_trans (hv _ m.1).2 bv) (Nat.le_trans (hw _ m.2).2 bw)
  exact ⟨[some (.int p), some (rT v), some (rT w), some (fT z.1), some (fT z.2)], [some (.int p), some (rT v), some (rT w), some (fT z.1), some (fT z.2)], by simp [bindG, setAll], by simp [doCallW, argsW, oneL, pureT, pureTs, execSs, execS, evalC, evalE, evalEs, evalAs, evalOe, evalOc, evalIt, opdOf, readV, slot, Opd.get, ofR, ofO, R.bind, op1, op2, bindG, backs, doCall, argsOf, refsOf, nodupN, setAll, isFz, isFzs, fz, fzs, fzI, kill, putBack, keepF, c], by simp [kill]⟩
end
theorem sq_row {Φ : Nat → List T → CR} {a : E} {ρ ρ1 : Env8} {v : List (List Int)} (h1 : evalE Φ a ρ = .ok (rT v) ρ1) : evalIt Φ (.sq a) ρ = .ok (v.map fT) ρ1 := by
  have e1 : fz (rT v) = rT v := by simp only [fz, fzs_fT]
  simp only [evalIt, h1, R.bind, e1, itemsT, isFzs_fT, if_true, ofO]
section
variable {p : Int} (hp : p ∈ primesL) {v : List (List Int)} {f : List Int} {nv : Nat} (hv : RowOk p nv v) (bv : nv ≤ 300) (hf : Form p f) (lf : f.length ≤ 300) (lv : v.length ≤ 1000)
include hp hv bv hf lf lv
theorem row_times_of (k : Nat) (n : Nat) (hG : ∀ f g, Form p f → Form p g → f.length ≤ 300 → g.length ≤ 300 → callN fns n k [.int p, fT f, fT g] = .ok (fT (mulL p f g)) []) :
    evalE (callN fns n) (.b1 .tuple (.lc (.nm 3) (.sq (.var 1)) .no (.call k (.v (.var 0) (.v (.var 3) (.v (.var 2) .nil)))) [3])) [some (.int p), some (rT v), some (fT f), none] = .ok (rT (timesR p v f)) [some (.int p), some (rT v), some (fT f), none] := by
  refine tup_forms fT (fun g => mulL p g f) v (sq_row (var_ok rfl (isFz_rT v))) (by simp [kill]) (by simp [putBack, keepF, slot]) lv fun g hg => ?_
  have c := hG g f (hv _ hg).1 hf (Nat.le_trans (hv _ hg).2 bv) lf
  exact ⟨[some (.int p), some (rT v), some (fT f), some (fT g)], [some (.int p), some (rT v), some (fT f), some (fT g)], by simp [bindG], by simp [doCallW, argsW, oneL, pureT, pureTs, execSs, execS, evalC, evalE, evalEs, evalAs, evalOe, evalOc, evalIt, opdOf, readV, slot, Opd.get, ofR, ofO, R.bind, op1, op2, bindG, backs, doCall, argsOf, refsOf, nodupN, setAll, isFz, isFzs, fz, fzs, fzI, kill, putBack, keepF, c], by simp [kill]⟩
end
theorem rng_row {Φ : Nat → List T → CR} {a : E} {ρ ρ1 : Env8} {m : Nat} (h : m ≤ 1000) (e : evalE Φ a ρ = .ok (.int (m : Nat)) ρ1) : evalIt Φ (.r1 a) ρ = .ok ((List.range m).map fun k => T.int (k : Nat)) ρ1 := by
  rw [r1_nat h e, rngL_map]
theorem unit_of (n m : Nat) (hm : m ≤ 1000) (k : Int) : evalE (callN fns n) (.b1 .tuple (.lc (.nm 2) (.r1 (.var 0)) .no (.ite (.cmp .Eq (.var 2) (.var 1)) (.tup (.cons (.int 1) .nil)) (.tup .nil)) [2])) [some (.int (m : Nat)), some (.int k), none] = .ok (rT (unitR m k)) [some (.int (m : Nat)), some (.int k), none] := by
  refine tup_forms (fun k : Nat => T.int (k : Nat)) (fun i : Nat => if (i : Int) = k then [1] else []) (List.range m) (rng_row hm (var_ok rfl rfl)) (by simp [kill]) (by simp [putBack, keepF, slot]) (by rw [List.length_range]; exact hm) fun i _ => ?_
  refine ⟨[some (.int (m : Nat)), some (.int k), some (.int (i : Nat))], [some (.int (m : Nat)), some (.int k), some (.int (i : Nat))], by simp [bindG], ?_, by simp [kill]⟩
  have l1 : 1 ≤ PySem.sizeLine := by rw [line_big]; omega
  by_cases q : (i : Int) = k
  · simp [doCallW, argsW, oneL, pureT, pureTs, execSs, execS, evalC, evalE, evalEs, evalAs, evalOe, evalOc, evalIt, opdOf, readV, slot, Opd.get, ofR, ofO, R.bind, op1, op2, bindG, backs, doCall, argsOf, refsOf, nodupN, setAll, isFz, isFzs, fz, fzs, fzI, kill, putBack, keepF, FT.binT, FT.addT, FT.subT, FT.mulT, FT.modT, FT.fdvT, FT.powT, FT.cmpT, FT.ltT, FT.leT, FT.isT, FT.truT, FT.pickT, FT.ixT, FT.b1T, FT.b2T, FT.lenT, FT.isiT, FT.tyT, FT.mulOk, L2.atI, L2.ixN, q, l1]
  · simp [doCallW, argsW, oneL, pureT, pureTs, execSs, execS, evalC, evalE, evalEs, evalAs, evalOe, evalOc, evalIt, opdOf, readV, slot, Opd.get, ofR, ofO, R.bind, op1, op2, bindG, backs, doCall, argsOf, refsOf, nodupN, setAll, isFz, isFzs, fz, fzs, fzI, kill, putBack, keepF, FT.binT, FT.addT, FT.subT, FT.mulT, FT.modT, FT.fdvT, FT.powT, FT.cmpT, FT.ltT, FT.leT, FT.isT, FT.truT, FT.pickT, FT.ixT, FT.b1T, FT.b2T, FT.lenT, FT.isiT, FT.tyT, FT.mulOk, L2.atI, L2.ixN, q]
theorem rep_tup (k : Nat) : (List.replicate k [T.tup []]).flatten = (zeroR k).map fT := by
  unfold zeroR
  induction k with
  | zero => rfl
  | succ k ih => rw [List.replicate_succ, List.flatten_cons, ih, List.replicate_succ, List.map_cons]; rfl
end LK

end
section
set_option Elab.async false
set_option linter.all false
set_option maxRecDepth 100000
set_option maxHeartbeats 4000000
namespace LK
open FT
/-! degrees of products -/
theorem one_form {p : Int} (hp : 2 ≤ p) : Form p [1] := ⟨fun z hz => by rw [List.mem_singleton.mp hz]; omega, fun h => by show (1 : Int) ≠ 0; omega⟩
theorem getD_last {f : List Int} (h : f ≠ []) : f.getD (f.length - 1) 0 = f.getLast h := by
  have l : 0 < f.length := List.length_pos_iff.mpr h
  rw [List.getLast_eq_getElem, List.getD_eq_getElem?_getD, List.getElem?_eq_getElem (by omega)]
  rfl
theorem cell_top {f g : List Int} (hf : f ≠ []) (hg : g ≠ []) : sumF f.length (cell f g (f.length + g.length - 2)) = f.getLast hf * g.getLast hg := by
  have l1 : 0 < f.length := List.length_pos_iff.mpr hf
  have l2 : 0 < g.length := List.length_pos_iff.mpr hg
  have e : sumF f.length (cell f g (f.length + g.length - 2)) = sumF f.length (fun i => if i = f.length - 1 then f.getLast hf * g.getLast hg else 0) := by
    refine sumF_congr fun i hi => ?_
    unfold cell
    by_cases q : i = f.length - 1
    · rw [if_pos q]
      have e2 : sumF g.length (fun j => if f.length + g.length - 2 = i + j then f.getD i 0 * g.getD j 0 else 0) = sumF g.length (fun j => if j = g.length - 1 then f.getD i 0 * g.getD j 0 else 0) := by
        refine sumF_congr fun j hj => ?_
        by_cases r : j = g.length - 1
        · rw [if_pos (by omega), if_pos r]
        · rw [if_neg (by omega), if_neg r]
      rw [e2, sumF_one g.length (g.length - 1) (fun j => f.getD i 0 * g.getD j 0) (by omega), q, getD_last hf, getD_last hg]
    · rw [if_neg q]
      have e2 : sumF g.length (fun j => if f.length + g.length - 2 = i + j then f.getD i 0 * g.getD j 0 else 0) = sumF g.length (fun _ => 0) := by
        refine sumF_congr fun j hj => ?_
        rw [if_neg (by omega)]
      rw [e2, sumF_zero]
  rw [e]
  exact sumF_one f.length (f.length - 1) (fun _ => f.getLast hf * g.getLast hg) (by omega)
theorem mulL_full {p : Int} (hp : p ∈ primesL) {f g : List Int} (hf : Form p f) (hg : Form p g) (nf : f ≠ []) (ng : g ≠ []) : (mulL p f g).length = f.length + g.length - 1 := by
  have l1 : 0 < f.length := List.length_pos_iff.mpr nf
  have l2 : 0 < g.length := List.length_pos_iff.mpr ng
  have lc := (convB_get f g nf 0).2
  have r1 := last_range hf nf
  have r2 := last_range hg ng
  have top : (modL p (convB f g)).getD (f.length + g.length - 2) 0 ≠ 0 := by
    rw [mod_getD, (convB_get f g nf _).1, cell_top nf ng]
    exact pr_dom hp r2.1 r2.2 r1.1 r1.2
  unfold mulL
  rw [if_neg (by rintro (e | e); exact nf e; exact ng e)]
  have lm : (modL p (convB f g)).length = f.length + g.length - 1 := by unfold modL; rw [List.length_map, lc]
  unfold trimZ
  have en : (modL p (convB f g)).length = (f.length + g.length - 2) + 1 := by omega
  rw [en, keepN_nz top, ← en, List.take_length, lm]
theorem mulL_nil_left (p : Int) (g : List Int) : mulL p [] g = [] := by unfold mulL; rw [if_pos (.inl rfl)]
theorem mulL_nil_right (p : Int) (f : List Int) : mulL p f [] = [] := by unfold mulL; rw [if_pos (.inr rfl)]
theorem mulL_one {p : Int} {f : List Int} (hf : Form p f) : mulL p f [1] = f := by
  by_cases nf : f = []
  · rw [nf, mulL_nil_left]
  · unfold mulL
    rw [if_neg (by rintro (e | e); exact nf e; cases e)]
    refine form_ext hf fun k => ?_
    rw [mod_getD, (convB_get _ _ nf k).1, cell_one, Int.mul_one]
    by_cases q : k < f.length
    · have m : f.getD k 0 ∈ f := by
        rw [List.getD_eq_getElem?_getD, List.getElem?_eq_getElem q]
        exact List.getElem_mem q
      exact Int.emod_eq_of_lt (hf.red _ m).1 (hf.red _ m).2
    · rw [getD_out (by omega), Int.zero_emod]
theorem sumR_nil {p : Int} {f : List Int} (hf : Form p f) : sumR p f [] = f := by
  unfold sumR
  rw [sum_nil hf.red, trimZ_id hf]
theorem nil_sumR {p : Int} {f : List Int} (hf : Form p f) : sumR p [] f = f := by
  unfold sumR
  rw [sum_comm, sum_nil hf.red, trimZ_id hf]
end LK

end
section
set_option Elab.async false
set_option linter.all false
set_option maxRecDepth 100000
set_option maxHeartbeats 4000000
namespace LK
open FT
/-! series: rows of numbers without an end, with the product of sums along diagonals -/
def cv (f g : Nat → Int) (k : Nat) : Int := sumF (k + 1) fun i => f i * g (k - i)
theorem sumF_rev (n : Nat) (F : Nat → Int) : sumF (n + 1) F = sumF (n + 1) (fun i => F (n - i)) := by
  induction n generalizing F with
  | zero => rfl
  | succ n ih =>
    have e := sumF_shift (n + 1) (fun i => F (n + 1 - i))
    rw [e]
    show sumF (n + 1) F + F (n + 1) = F (n + 1 - 0) + sumF (n + 1) (fun i => F (n + 1 - (i + 1)))
    have e2 : sumF (n + 1) (fun i => F (n + 1 - (i + 1))) = sumF (n + 1) (fun i => F (n - i)) := sumF_congr fun i _ => by
      rw [show n + 1 - (i + 1) = n - i by omega]
    rw [e2, ← ih, Nat.sub_zero]
    omega
theorem cv_comm (f g : Nat → Int) (k : Nat) : cv f g k = cv g f k := by
  unfold cv
  rw [sumF_rev]
  refine sumF_congr fun i hi => ?_
  rw [show k - (k - i) = i by omega, Int.mul_comm]
theorem cv_add_left (f g h : Nat → Int) (k : Nat) : cv (fun i => f i + g i) h k = cv f h k + cv g h k := by
  unfold cv
  rw [← sumF_add]
  refine sumF_congr fun i _ => ?_
  rw [Int.add_mul]
theorem sumF_neg (n : Nat) (F : Nat → Int) : sumF n (fun i => - F i) = - sumF n F := by
  have := sumF_mul n (-1) F
  have e : sumF n (fun i => - F i) = sumF n (fun i => -1 * F i) := sumF_congr fun i _ => by omega
  rw [e, this]
  omega
theorem cv_sub_left (f g h : Nat → Int) (k : Nat) : cv (fun i => f i - g i) h k = cv f h k - cv g h k := by
  have e : (fun i => f i - g i) = (fun i => f i + (fun i => - g i) i) := by funext i; show f i - g i = f i + - g i; omega
  rw [e, cv_add_left]
  have e2 : cv (fun i => - g i) h k = - cv g h k := by
    unfold cv
    rw [← sumF_neg]
    refine sumF_congr fun i _ => ?_
    rw [Int.neg_mul]
  rw [e2]
  omega
theorem cv_smul (c : Int) (f g : Nat → Int) (k : Nat) : cv (fun i => c * f i) g k = c * cv f g k := by
  unfold cv
  rw [← sumF_mul]
  refine sumF_congr fun i _ => ?_
  rw [Int.mul_assoc]
theorem tri_swap (n : Nat) (F : Nat → Nat → Int) : sumF n (fun i => sumF (i + 1) (fun j => F i j)) = sumF n (fun j => sumF (n - j) (fun m => F (j + m) j)) := by
  induction n with
  | zero => rfl
  | succ n ih =>
    show sumF n (fun i => sumF (i + 1) (fun j => F i j)) + sumF (n + 1) (fun j => F n j) = sumF n (fun j => sumF (n + 1 - j) (fun m => F (j + m) j)) + sumF (n + 1 - n) (fun m => F (n + m) n)
    have e : sumF n (fun j => sumF (n + 1 - j) (fun m => F (j + m) j)) = sumF n (fun j => sumF (n - j) (fun m => F (j + m) j) + F n j) := sumF_congr fun j hj => by
      rw [show n + 1 - j = (n - j) + 1 by omega]
      show sumF (n - j) (fun m => F (j + m) j) + F (j + (n - j)) j = _
      rw [show j + (n - j) = n by omega]
    rw [e, sumF_add, ← ih]
    have e2 : sumF (n + 1 - n) (fun m => F (n + m) n) = F n n := by
      rw [show n + 1 - n = 1 by omega]
      show 0 + F (n + 0) n = F n n
      rw [Int.zero_add, Nat.add_zero]
    rw [e2]
    show _ + (sumF n (fun j => F n j) + F n n) = _
    rw [Int.add_assoc]
theorem cv_assoc (f g h : Nat → Int) (k : Nat) : cv (cv f g) h k = cv f (cv g h) k := by
  show sumF (k + 1) (fun i => cv f g i * h (k - i)) = sumF (k + 1) (fun j => f j * cv g h (k - j))
  have e1 : sumF (k + 1) (fun i => cv f g i * h (k - i)) = sumF (k + 1) (fun i => sumF (i + 1) (fun j => f j * g (i - j) * h (k - i))) := sumF_congr fun i _ => by
    unfold cv
    rw [Int.mul_comm, ← sumF_mul]
    refine sumF_congr fun j _ => ?_
    rw [Int.mul_comm]
  rw [e1, tri_swap]
  refine sumF_congr fun j hj => ?_
  unfold cv
  rw [← sumF_mul, show k + 1 - j = (k - j) + 1 by omega]
  refine sumF_congr fun m hm => ?_
  rw [show j + m - j = m by omega, show k - (j + m) = k - j - m by omega, Int.mul_assoc]
def one1 : Nat → Int := fun k => if k = 0 then 1 else 0
theorem cv_one (f : Nat → Int) (k : Nat) : cv one1 f k = f k := by
  unfold cv one1
  rw [sumF_shift]
  have e : sumF k (fun i => (if i + 1 = 0 then (1 : Int) else 0) * f (k - (i + 1))) = sumF k (fun _ => 0) := sumF_congr fun i _ => by
    rw [if_neg (by omega), Int.zero_mul]
  rw [e, sumF_zero, if_pos rfl, Nat.sub_zero]
  omega
/-- alike but for multiples of p -/
def Eqp (p : Int) (f g : Nat → Int) : Prop := ∀ k, f k % p = g k % p
theorem Eqp.refl {p : Int} (f : Nat → Int) : Eqp p f f := fun _ => rfl
theorem Eqp.symm {p : Int} {f g : Nat → Int} (h : Eqp p f g) : Eqp p g f := fun k => (h k).symm
theorem Eqp.trans {p : Int} {f g h : Nat → Int} (a : Eqp p f g) (b : Eqp p g h) : Eqp p f h := fun k => (a k).trans (b k)
theorem Eqp.of {p : Int} {f g : Nat → Int} (h : ∀ k, f k = g k) : Eqp p f g := fun k => by rw [h k]
theorem Eqp.add {p : Int} {f f' g g' : Nat → Int} (a : Eqp p f f') (b : Eqp p g g') : Eqp p (fun k => f k + g k) (fun k => f' k + g' k) := fun k => by
  show (f k + g k) % p = (f' k + g' k) % p
  rw [Int.add_emod, a k, b k, ← Int.add_emod]
theorem Eqp.sub {p : Int} {f f' g g' : Nat → Int} (a : Eqp p f f') (b : Eqp p g g') : Eqp p (fun k => f k - g k) (fun k => f' k - g' k) := fun k => by
  show (f k - g k) % p = (f' k - g' k) % p
  rw [Int.sub_emod, a k, b k, ← Int.sub_emod]
theorem sumF_mod (p : Int) (n : Nat) (F G : Nat → Int) (h : ∀ i, i < n → F i % p = G i % p) : sumF n F % p = sumF n G % p := by
  induction n with
  | zero => rfl
  | succ n ih =>
    show (sumF n F + F n) % p = (sumF n G + G n) % p
    rw [Int.add_emod, ih fun i hi => h i (by omega), h n (by omega), ← Int.add_emod]
theorem Eqp.mul {p : Int} {f f' g g' : Nat → Int} (a : Eqp p f f') (b : Eqp p g g') : Eqp p (cv f g) (cv f' g') := fun k => by
  refine sumF_mod p _ _ _ fun i _ => ?_
  rw [Int.mul_emod, a i, b (k - i), ← Int.mul_emod]
/-- a list's numbers, 0 behind them -/
def cL (f : List Int) : Nat → Int := fun k => f.getD k 0
theorem sumF_pad {n m : Nat} {F : Nat → Int} (h : n ≤ m) (hF : ∀ i, n ≤ i → F i = 0) : sumF m F = sumF n F := by
  induction m with
  | zero => rw [show n = 0 by omega]
  | succ m ih =>
    by_cases q : n = m + 1
    · rw [q]
    · show sumF m F + F m = _
      rw [ih (by omega), hF m (by omega)]
      omega
theorem cell_cv (f g : List Int) (k i : Nat) : cell f g k i = if i ≤ k then f.getD i 0 * g.getD (k - i) 0 else 0 := by
  unfold cell
  by_cases q : i ≤ k
  · rw [if_pos q]
    have e : sumF g.length (fun j => if k = i + j then f.getD i 0 * g.getD j 0 else 0) = sumF g.length (fun j => if j = k - i then f.getD i 0 * g.getD j 0 else 0) := sumF_congr fun j _ => by
      by_cases r : k = i + j
      · rw [if_pos r, if_pos (by omega)]
      · rw [if_neg r, if_neg (by omega)]
    rw [e]
    by_cases r : k - i < g.length
    · exact sumF_one g.length (k - i) (fun j => f.getD i 0 * g.getD j 0) r
    · have e2 : sumF g.length (fun j => if j = k - i then f.getD i 0 * g.getD j 0 else 0) = sumF g.length (fun _ => 0) := sumF_congr fun j hj => by rw [if_neg (by omega)]
      rw [e2, sumF_zero, getD_out (f := g) (by omega), Int.mul_zero]
  · rw [if_neg q]
    have e2 : sumF g.length (fun j => if k = i + j then f.getD i 0 * g.getD j 0 else 0) = sumF g.length (fun _ => 0) := sumF_congr fun j hj => by rw [if_neg (by omega)]
    rw [e2, sumF_zero]
theorem conv_cv (f g : List Int) (hf : f ≠ []) (k : Nat) : (convB f g).getD k 0 = cv (cL f) (cL g) k := by
  rw [(convB_get f g hf k).1]
  have e : sumF f.length (cell f g k) = sumF f.length (fun i => if i ≤ k then f.getD i 0 * g.getD (k - i) 0 else 0) := sumF_congr fun i _ => cell_cv f g k i
  have e1 : sumF (max f.length (k + 1)) (fun i => if i ≤ k then f.getD i 0 * g.getD (k - i) 0 else 0) = sumF f.length (fun i => if i ≤ k then f.getD i 0 * g.getD (k - i) 0 else 0) := sumF_pad (by omega) fun i hi => by
    rw [getD_out hi, Int.zero_mul, ite_self]
  have e2 : sumF (max f.length (k + 1)) (fun i => if i ≤ k then f.getD i 0 * g.getD (k - i) 0 else 0) = sumF (k + 1) (fun i => if i ≤ k then f.getD i 0 * g.getD (k - i) 0 else 0) := sumF_pad (by omega) fun i hi => by rw [if_neg (by omega)]
  rw [e, ← e1, e2]
  unfold cv cL
  refine sumF_congr fun i hi => ?_
  rw [if_pos (by omega)]
end LK

end
section
set_option Elab.async false
set_option linter.all false
set_option maxRecDepth 100000
set_option maxHeartbeats 4000000
namespace LK
open FT
/-! forms are a ring -/
theorem cL_nil (k : Nat) : cL [] k = 0 := by unfold cL; simp
theorem cv_zero_left {f : Nat → Int} (hf : ∀ k, f k = 0) (g : Nat → Int) (k : Nat) : cv f g k = 0 := by
  unfold cv
  have e : sumF (k + 1) (fun i => f i * g (k - i)) = sumF (k + 1) (fun _ => 0) := sumF_congr fun i _ => by rw [hf, Int.zero_mul]
  rw [e, sumF_zero]
theorem mul_eqp (p : Int) (f g : List Int) : Eqp p (cL (mulL p f g)) (cv (cL f) (cL g)) := fun k => by
  unfold mulL
  by_cases hf : f = []
  · rw [if_pos (.inl hf), hf, cv_zero_left cL_nil, cL_nil]
  · by_cases hg : g = []
    · rw [if_pos (.inr hg), hg, cv_comm, cv_zero_left cL_nil, cL_nil]
    · rw [if_neg (by rintro (e | e); exact hf e; exact hg e)]
      show (trimZ (modL p (convB f g))).getD k 0 % p = _
      rw [trim_getD, mod_getD, mod_mod, conv_cv f g hf]
theorem sum_eqp (p : Int) (f g : List Int) : Eqp p (cL (sumR p f g)) (fun k => cL f k + cL g k) := fun k => by
  show (trimZ (sumL p f g)).getD k 0 % p = _
  rw [trim_getD, sum_getD, mod_mod]
  rfl
theorem dif_eqp (p : Int) (f g : List Int) : Eqp p (cL (difR p f g)) (fun k => cL f k - cL g k) := fun k => by
  show (trimZ (difL p f g)).getD k 0 % p = _
  rw [trim_getD, dif_getD, mod_mod]
  rfl
theorem scale_eqp (p a : Int) (f : List Int) : Eqp p (cL (scaleL p a f)) (fun k => a * cL f k) := fun k => by
  show (scaleL p a f).getD k 0 % p = (a * f.getD k 0) % p
  rw [scale_getD, mod_mod, Int.mul_comm]
theorem red_get {p : Int} {f : List Int} (h : Red p f) (k : Nat) : cL f k % p = cL f k := by
  unfold cL
  by_cases q : k < f.length
  · have m : f.getD k 0 ∈ f := by
      rw [List.getD_eq_getElem?_getD, List.getElem?_eq_getElem q]
      exact List.getElem_mem q
    exact Int.emod_eq_of_lt (h _ m).1 (h _ m).2
  · rw [getD_out (by omega), Int.zero_emod]
theorem form_eqp {p : Int} {a b : List Int} (ha : Form p a) (hb : Form p b) (h : Eqp p (cL a) (cL b)) : a = b :=
  ext_get ha.last hb.last fun k => by
    have e := h k
    rw [red_get ha.red, red_get hb.red] at e
    exact e
section
variable {p : Int} (hp : 0 < p)
include hp
theorem mulL_assoc (f g h : List Int) : mulL p (mulL p f g) h = mulL p f (mulL p g h) :=
  form_eqp (mulL_form hp _ _) (mulL_form hp _ _) (((mul_eqp p _ h).trans (Eqp.mul (mul_eqp p f g) (Eqp.refl _))).trans ((Eqp.of fun k => cv_assoc _ _ _ k).trans (((mul_eqp p f _).trans (Eqp.mul (Eqp.refl _) (mul_eqp p g h))).symm)))
theorem mulL_add_left (f g h : List Int) : mulL p (sumR p f g) h = sumR p (mulL p f h) (mulL p g h) :=
  form_eqp (mulL_form hp _ _) (sumR_form hp _ _) (((mul_eqp p _ h).trans (Eqp.mul (sum_eqp p f g) (Eqp.refl _))).trans ((Eqp.of fun k => cv_add_left _ _ _ k).trans (((sum_eqp p _ _).trans (Eqp.add (mul_eqp p f h) (mul_eqp p g h))).symm)))
theorem mulL_sub_left (f g h : List Int) : mulL p (difR p f g) h = difR p (mulL p f h) (mulL p g h) :=
  form_eqp (mulL_form hp _ _) (difR_form hp _ _) (((mul_eqp p _ h).trans (Eqp.mul (dif_eqp p f g) (Eqp.refl _))).trans ((Eqp.of fun k => cv_sub_left _ _ _ k).trans (((dif_eqp p _ _).trans (Eqp.sub (mul_eqp p f h) (mul_eqp p g h))).symm)))
theorem mulL_add_right (f g h : List Int) : mulL p h (sumR p f g) = sumR p (mulL p h f) (mulL p h g) := by
  rw [mulL_comm, mulL_add_left hp, mulL_comm p f h, mulL_comm p g h]
theorem mulL_sub_right (f g h : List Int) : mulL p h (difR p f g) = difR p (mulL p h f) (mulL p h g) := by
  rw [mulL_comm, mulL_sub_left hp, mulL_comm p f h, mulL_comm p g h]
theorem sumR_comm (f g : List Int) : sumR p f g = sumR p g f :=
  form_eqp (sumR_form hp _ _) (sumR_form hp _ _) ((sum_eqp p f g).trans ((Eqp.of fun k => Int.add_comm _ _).trans (sum_eqp p g f).symm))
theorem sumR_assoc (f g h : List Int) : sumR p (sumR p f g) h = sumR p f (sumR p g h) :=
  form_eqp (sumR_form hp _ _) (sumR_form hp _ _) (((sum_eqp p _ h).trans (Eqp.add (sum_eqp p f g) (Eqp.refl _))).trans ((Eqp.of fun k => Int.add_assoc _ _ _).trans ((sum_eqp p f _).trans (Eqp.add (Eqp.refl _) (sum_eqp p g h))).symm))
theorem dif_sum {f : List Int} (g : List Int) (hf : Form p f) : sumR p (difR p f g) g = f :=
  form_eqp (sumR_form hp _ _) hf (((sum_eqp p _ g).trans (Eqp.add (dif_eqp p f g) (Eqp.refl _))).trans (Eqp.of fun k => by omega))
theorem sum_dif {f : List Int} (g : List Int) (hf : Form p f) : difR p (sumR p f g) g = f :=
  form_eqp (difR_form hp _ _) hf (((dif_eqp p _ g).trans (Eqp.sub (sum_eqp p f g) (Eqp.refl _))).trans (Eqp.of fun k => by omega))
theorem dif_zero {f g : List Int} (hf : Form p f) (hg : Form p g) (h : difR p f g = []) : f = g := by
  have e := dif_sum hp g hf
  rw [h, nil_sumR hg] at e
  exact e.symm
/-- sums turned over: a + b = c + d gives a - c = d - b -/
theorem sum_turn {a b c d : List Int} (h : sumR p a b = sumR p c d) : difR p a c = difR p d b := by
  refine form_eqp (difR_form hp _ _) (difR_form hp _ _) fun k => ?_
  have e : (cL a k + cL b k) % p = (cL c k + cL d k) % p := by
    rw [← sum_eqp p a b k, ← sum_eqp p c d k, h]
  rw [dif_eqp p a c k, dif_eqp p d b k]
  have e2 : (cL a k - cL c k) = (cL a k + cL b k) - (cL b k + cL c k) := by omega
  have e3 : (cL d k - cL b k) = (cL c k + cL d k) - (cL b k + cL c k) := by omega
  show (cL a k - cL c k) % p = (cL d k - cL b k) % p
  rw [e2, e3, Int.sub_emod, e, ← Int.sub_emod]
end
/-! division -/
theorem div_unique {p : Int} (hp : p ∈ primesL) {g q r q' r' : List Int} (hg : Form p g) (ng : g ≠ []) (hq : Form p q) (hr : Form p r) (hq' : Form p q') (hr' : Form p r') (lr : r.length < g.length) (lr' : r'.length < g.length) (h : sumR p (mulL p q g) r = sumR p (mulL p q' g) r') : q = q' ∧ r = r' := by
  have pb := pr_big hp
  have p0 : 0 < p := by omega
  have t := sum_turn p0 h
  rw [← mulL_sub_left p0] at t
  have e : difR p q q' = [] := by
    cases hd : difR p q q' with
    | nil => rfl
    | cons z zs =>
      exfalso
      have nd : difR p q q' ≠ [] := fun z => by rw [hd] at z; cases z
      have full := mulL_full hp (difR_form p0 q q') hg nd ng
      have ll := difR_len p r' r
      have l0 : 0 < (difR p q q').length := List.length_pos_iff.mpr nd
      rw [t] at full
      omega
  have eq := dif_zero p0 hq hq' e
  refine ⟨eq, ?_⟩
  rw [e, mulL_nil_left] at t
  exact (dif_zero p0 hr' hr t.symm).symm
end LK

end
section
set_option Elab.async false
set_option linter.all false
set_option maxRecDepth 100000
set_option maxHeartbeats 4000000
namespace LK
open FT
/-! division, as it is reckoned -/
def subF (p : Int) (a : Nat) (fig : Int) (L : List Int) (z : Nat × Int) : List Int := L.set (a + z.1) ((L.getD (a + z.1) 0 - fig * z.2) % p)
def subAt (p : Int) (a : Nat) (fig : Int) (g L : List Int) : List Int := (enumZ 0 g).foldl (subF p a fig) L
def figD (p back : Int) (g : List Int) (L : List Int) (a : Nat) : Int := L.getD (a + g.length - 1) 0 * back % p
def stepD (p back : Int) (g : List Int) (s : List Int × List Int) (a : Nat) : List Int × List Int :=
  if figD p back g s.1 a = 0 then s else (subAt p a (figD p back g s.1 a) g s.1, s.2.set a (figD p back g s.1 a))
def runD (p back : Int) (g : List Int) (s : List Int × List Int) (n : Nat) : List Int × List Int := (List.range n).reverse.foldl (stepD p back g) s
theorem runD_succ (p back : Int) (g : List Int) (s : List Int × List Int) (n : Nat) : runD p back g s (n + 1) = runD p back g (stepD p back g s n) n := by
  unfold runD
  rw [List.range_succ, List.reverse_append]
  rfl
theorem getD_set (L : List Int) (k j : Nat) (x : Int) (h : k < L.length) : (L.set k x).getD j 0 = if j = k then x else L.getD j 0 := by
  rw [List.getD_eq_getElem?_getD, List.getElem?_set]
  by_cases e : k = j
  · subst e; rw [if_pos rfl, if_pos h, if_pos rfl]; rfl
  · rw [if_neg e, if_neg (fun z => e z.symm), List.getD_eq_getElem?_getD]
theorem subF_get (p : Int) (a : Nat) (fig : Int) : ∀ (g : List Int) (m : Nat) (L : List Int), a + m + g.length ≤ L.length → (∀ k, ((enumZ m g).foldl (subF p a fig) L).getD k 0 = if a + m ≤ k ∧ k < a + m + g.length then (L.getD k 0 - fig * g.getD (k - (a + m)) 0) % p else L.getD k 0) ∧ ((enumZ m g).foldl (subF p a fig) L).length = L.length
  | [], m, L, _ => ⟨fun k => by rw [if_neg (by simp)]; rfl, rfl⟩
  | z :: g, m, L, h => by
    rw [List.length_cons] at h
    have ih := subF_get p a fig g (m + 1) (subF p a fig L (m, z)) (by unfold subF; rw [List.length_set]; omega)
    show (∀ k, ((enumZ (m + 1) g).foldl (subF p a fig) (subF p a fig L (m, z))).getD k 0 = _) ∧ _
    refine ⟨fun k => ?_, ih.2.trans (by unfold subF; rw [List.length_set])⟩
    rw [ih.1 k]
    have e : ∀ k, (subF p a fig L (m, z)).getD k 0 = if k = a + m then (L.getD (a + m) 0 - fig * z) % p else L.getD k 0 := fun k => getD_set L (a + m) k _ (by omega)
    by_cases c1 : a + (m + 1) ≤ k ∧ k < a + (m + 1) + g.length
    · rw [if_pos c1, if_pos (by rw [List.length_cons]; omega), e, if_neg (by omega)]
      have e3 : k - (a + m) = (k - (a + (m + 1))) + 1 := by omega
      rw [e3]
      rfl
    · rw [if_neg c1, e]
      by_cases c2 : k = a + m
      · rw [if_pos c2, if_pos (by rw [List.length_cons]; omega), c2, show a + m - (a + m) = 0 by omega]
        rfl
      · rw [if_neg c2, if_neg (by rw [List.length_cons]; omega)]
theorem subAt_get (p : Int) (a : Nat) (fig : Int) (g L : List Int) (h : a + g.length ≤ L.length) (k : Nat) : (subAt p a fig g L).getD k 0 = if a ≤ k ∧ k < a + g.length then (L.getD k 0 - fig * g.getD (k - a) 0) % p else L.getD k 0 := by
  have q := (subF_get p a fig g 0 L (by omega)).1 k
  simp only [Nat.add_zero] at q
  exact q
theorem subAt_len (p : Int) (a : Nat) (fig : Int) (g L : List Int) (h : a + g.length ≤ L.length) : (subAt p a fig g L).length = L.length := (subF_get p a fig g 0 L (by omega)).2
theorem red_of_get {p : Int} {L : List Int} (h : ∀ k, k < L.length → 0 ≤ L.getD k 0 ∧ L.getD k 0 < p) : Red p L := fun z hz => by
  obtain ⟨k, hk, rfl⟩ := List.getElem_of_mem hz
  have := h k hk
  rw [List.getD_eq_getElem?_getD, List.getElem?_eq_getElem hk] at this
  exact this
theorem get_red {p : Int} (hp : 0 < p) {L : List Int} (h : Red p L) (k : Nat) : 0 ≤ L.getD k 0 ∧ L.getD k 0 < p := by
  by_cases q : k < L.length
  · have m : L.getD k 0 ∈ L := by
      rw [List.getD_eq_getElem?_getD, List.getElem?_eq_getElem q]
      exact List.getElem_mem q
    exact h _ m
  · rw [getD_out (by omega)]; omega
theorem subAt_red {p : Int} (hp : 0 < p) {a : Nat} {fig : Int} {g L : List Int} (h : a + g.length ≤ L.length) (hL : Red p L) : Red p (subAt p a fig g L) := red_of_get fun k _ => by
  rw [subAt_get p a fig g L h k]
  split
  · exact ⟨Int.emod_nonneg _ (by omega), Int.emod_lt_of_pos _ hp⟩
  · exact get_red hp hL k
theorem set_red {p : Int} (hp : 0 < p) {Q : List Int} (h : Red p Q) {k : Nat} {x : Int} (hx : 0 ≤ x ∧ x < p) : Red p (Q.set k x) := fun z hz => by
  rcases List.mem_or_eq_of_mem_set hz with q | q
  · exact h z q
  · rw [q]; exact hx
theorem cv_delta (a : Nat) (x : Int) (g : Nat → Int) (k : Nat) : cv (fun i => if i = a then x else 0) g k = if a ≤ k then x * g (k - a) else 0 := by
  unfold cv
  have e : sumF (k + 1) (fun i => (if i = a then x else 0) * g (k - i)) = sumF (k + 1) (fun i => if i = a then x * g (k - a) else 0) := sumF_congr fun i _ => by
    by_cases q : i = a
    · rw [if_pos q, if_pos q, q]
    · rw [if_neg q, if_neg q, Int.zero_mul]
  rw [e]
  by_cases q : a ≤ k
  · rw [if_pos q]
    exact sumF_one (k + 1) a (fun _ => x * g (k - a)) (by omega)
  · rw [if_neg q]
    have e2 : sumF (k + 1) (fun i => if i = a then x * g (k - a) else 0) = sumF (k + 1) (fun _ => 0) := sumF_congr fun i hi => by rw [if_neg (by omega)]
    rw [e2, sumF_zero]
/-- what stands behind the figures from m upward -/
structure DivI (p : Int) (f g : List Int) (n m : Nat) (s : List Int × List Int) : Prop where
  lL : s.1.length = f.length
  lQ : s.2.length = n
  rL : Red p s.1
  rQ : Red p s.2
  zL : ∀ k, m + g.length - 1 ≤ k → s.1.getD k 0 = 0
  zQ : ∀ k, k < m → s.2.getD k 0 = 0
  eq : Eqp p (fun k => cL s.1 k + cv (cL s.2) (cL g) k) (cL f)
theorem stepD_ok {p back : Int} (hp : 2 ≤ p) {f g : List Int} (ng : g ≠ []) (hb : (g.getLast ng * back) % p = 1) {n m : Nat} (hn : n + g.length = f.length + 1) (hm : m < n) {s : List Int × List Int} (I : DivI p f g n (m + 1) s) : DivI p f g n m (stepD p back g s m) := by
  have lg : 0 < g.length := List.length_pos_iff.mpr ng
  have p0 : 0 < p := by omega
  have lf : m + g.length ≤ s.1.length := by rw [I.lL]; omega
  have et : g.getD (g.length - 1) 0 = g.getLast ng := getD_last ng
  have figR : 0 ≤ figD p back g s.1 m ∧ figD p back g s.1 m < p := ⟨Int.emod_nonneg _ (by omega), Int.emod_lt_of_pos _ p0⟩
  have top : (s.1.getD (m + g.length - 1) 0 - figD p back g s.1 m * g.getLast ng) % p = 0 := by
    unfold figD
    generalize s.1.getD (m + g.length - 1) 0 = x
    rw [← sub_mod, mod_mul, Int.mul_assoc, Int.mul_comm back, ← mul_mod, hb, Int.mul_one, sub_mod, Int.sub_self, Int.zero_emod]
  unfold stepD
  by_cases q : figD p back g s.1 m = 0
  · rw [if_pos q]
    refine ⟨I.lL, I.lQ, I.rL, I.rQ, fun k hk => ?_, fun k hk => I.zQ k (by omega), I.eq⟩
    by_cases e : k = m + g.length - 1
    · rw [e]
      rw [q, Int.zero_mul, Int.sub_zero] at top
      have r := get_red p0 I.rL (m + g.length - 1)
      rw [Int.emod_eq_of_lt r.1 r.2] at top
      exact top
    · exact I.zL k (by omega)
  · rw [if_neg q]
    refine ⟨(subAt_len p m _ g s.1 lf).trans I.lL, (by rw [List.length_set]; exact I.lQ), subAt_red p0 lf I.rL, set_red p0 I.rQ figR, fun k hk => ?_, fun k hk => ?_, fun k => ?_⟩
    · show (subAt p m _ g s.1).getD k 0 = 0
      rw [subAt_get p m _ g s.1 lf]
      by_cases e : k = m + g.length - 1
      · rw [if_pos (by omega), e, show m + g.length - 1 - m = g.length - 1 by omega, et]
        exact top
      · rw [if_neg (by omega)]
        exact I.zL k (by omega)
    · show (s.2.set m _).getD k 0 = 0
      rw [getD_set _ _ _ _ (by rw [I.lQ]; exact hm), if_neg (by omega)]
      exact I.zQ k (by omega)
    · rw [← I.eq k]
      generalize hfig : figD p back g s.1 m = fig at *
      have eQ : ∀ i, cL (s.2.set m fig) i = cL s.2 i + (if i = m then fig else 0) := fun i => by
        unfold cL
        rw [getD_set _ _ _ _ (by rw [I.lQ]; exact hm)]
        by_cases e : i = m
        · rw [if_pos e, if_pos e, e, I.zQ m (by omega)]; omega
        · rw [if_neg e, if_neg e]; omega
      have eC : cv (cL (s.2.set m fig)) (cL g) k = cv (cL s.2) (cL g) k + (if m ≤ k then fig * cL g (k - m) else 0) := by
        rw [← cv_delta, ← cv_add_left]
        unfold cv
        exact sumF_congr fun i _ => by rw [eQ i]
      show (cL (subAt p m fig g s.1) k + cv (cL (s.2.set m fig)) (cL g) k) % p = (cL s.1 k + cv (cL s.2) (cL g) k) % p
      rw [eC]
      have eL : cL (subAt p m fig g s.1) k = if m ≤ k ∧ k < m + g.length then (cL s.1 k - fig * g.getD (k - m) 0) % p else cL s.1 k := subAt_get p m fig g s.1 lf k
      rw [eL]
      by_cases c : m ≤ k ∧ k < m + g.length
      · rw [if_pos c, if_pos c.1, mod_add]
        congr 1
        show cL s.1 k - fig * g.getD (k - m) 0 + (cv (cL s.2) (cL g) k + fig * g.getD (k - m) 0) = _
        omega
      · rw [if_neg c]
        by_cases c2 : m ≤ k
        · rw [if_pos c2]
          have z : cL g (k - m) = 0 := getD_out (by omega)
          rw [z, Int.mul_zero, Int.add_zero]
        · rw [if_neg c2, Int.add_zero]
theorem runD_ok {p back : Int} (hp : 2 ≤ p) {f g : List Int} (ng : g ≠ []) (hb : (g.getLast ng * back) % p = 1) {n : Nat} (hn : n + g.length = f.length + 1) : ∀ (m : Nat) (s : List Int × List Int), m ≤ n → DivI p f g n m s → DivI p f g n 0 (runD p back g s m)
  | 0, s, _, I => I
  | m + 1, s, h, I => by
    rw [runD_succ]
    exact runD_ok hp ng hb hn m _ (by omega) (stepD_ok hp ng hb hn (by omega) I)
theorem runD_keep {p back : Int} {g : List Int} : ∀ (m : Nat) (s : List Int × List Int) (j : Nat), m ≤ j → m ≤ s.2.length → (runD p back g s m).2.getD j 0 = s.2.getD j 0
  | 0, s, j, _, _ => rfl
  | m + 1, s, j, h, hl => by
    rw [runD_succ, runD_keep m _ j (by omega) (by
      unfold stepD
      split
      · omega
      · rw [List.length_set]; omega)]
    unfold stepD
    split
    · rfl
    · show (s.2.set m _).getD j 0 = _
      rw [getD_set _ _ _ _ (by omega), if_neg (by omega)]
end LK

end
section
set_option Elab.async false
set_option linter.all false
set_option maxRecDepth 100000
set_option maxHeartbeats 1000000
namespace LK
open FT
theorem start_ok {p : Int} (hp : 2 ≤ p) {f g : List Int} (hf : Form p f) (ng : g ≠ []) {n : Nat} (hn : n + g.length = f.length + 1) : DivI p f g n n (f, List.replicate n 0) := by
  have lg : 0 < g.length := List.length_pos_iff.mpr ng
  have z : ∀ k, (List.replicate n (0 : Int)).getD k 0 = 0 := fun k => by
    rw [List.getD_eq_getElem?_getD]
    cases e : (List.replicate n (0 : Int))[k]? with
    | none => rfl
    | some x => rw [(List.mem_replicate.mp (List.mem_of_getElem? e)).2]; rfl
  refine ⟨rfl, List.length_replicate, hf.red, fun x hx => ?_, fun k hk => getD_out (show f.length ≤ k by omega), fun k _ => z k, fun k => ?_⟩
  · rw [(List.mem_replicate.mp hx).2]; omega
  · show (cL f k + cv (cL (List.replicate n 0)) (cL g) k) % p = cL f k % p
    rw [cv_zero_left (f := cL (List.replicate n 0)) z, Int.add_zero]
/-- quotient and rest -/
def quoD (p back : Int) (f g : List Int) : List Int := (runD p back g (f, List.replicate (f.length + 1 - g.length) 0) (f.length + 1 - g.length)).2
def leftD (p back : Int) (f g : List Int) : List Int := (runD p back g (f, List.replicate (f.length + 1 - g.length) 0) (f.length + 1 - g.length)).1
def resD (p back : Int) (f g : List Int) : List Int := trimZ (modL p ((leftD p back f g).take (g.length - 1)))
structure DivOk (p : Int) (f g q r : List Int) : Prop where
  fq : Form p q
  fr : Form p r
  lt : r.length < g.length
  eq : sumR p (mulL p q g) r = f
theorem div_facts {p back : Int} (hp : p ∈ primesL) {f g : List Int} (hf : Form p f) (hg : Form p g) (ng : g ≠ []) (hb : (g.getLast ng * back) % p = 1) (hl : g.length ≤ f.length) : DivOk p f g (quoD p back f g) (resD p back f g) ∧ (quoD p back f g).length = f.length + 1 - g.length ∧ (leftD p back f g).length = f.length := by
  have pb := pr_big hp
  have p0 : 0 < p := by omega
  have lg : 0 < g.length := List.length_pos_iff.mpr ng
  have nf : f ≠ [] := fun e => by
    have z : f.length = 0 := by rw [e]; rfl
    omega
  obtain ⟨n, hn⟩ : ∃ n, n = f.length + 1 - g.length := ⟨_, rfl⟩
  have hn2 : n + g.length = f.length + 1 := by omega
  have I := runD_ok pb.1 ng hb hn2 n _ (Nat.le_refl _) (start_ok pb.1 hf ng hn2)
  have hq : quoD p back f g = (runD p back g (f, List.replicate n 0) n).2 := by unfold quoD; rw [hn]
  have hL : leftD p back f g = (runD p back g (f, List.replicate n 0) n).1 := by unfold leftD; rw [hn]
  have top : (quoD p back f g).getD (n - 1) 0 ≠ 0 := by
    obtain ⟨m, em⟩ : ∃ m, n = m + 1 := ⟨n - 1, by omega⟩
    have keep := runD_keep (p := p) (back := back) (g := g) m (stepD p back g (f, List.replicate n 0) m) m (Nat.le_refl _) (by
      unfold stepD
      split
      · show m ≤ (List.replicate n (0 : Int)).length; rw [List.length_replicate]; omega
      · show m ≤ ((List.replicate n (0 : Int)).set m _).length; rw [List.length_set, List.length_replicate]; omega)
    rw [hq]
    have e0 : runD p back g (f, List.replicate n 0) n = runD p back g (stepD p back g (f, List.replicate n 0) m) m := by
      rw [← runD_succ, ← em]
    rw [e0, show n - 1 = m by omega, keep]
    have fig : figD p back g f m ≠ 0 := by
      unfold figD
      have e1 : f.getD (m + g.length - 1) 0 = f.getLast nf := by
        rw [show m + g.length - 1 = f.length - 1 by omega]
        exact getD_last nf
      rw [e1]
      have lr := last_range hf nf
      have br : 0 < back % p ∧ back % p < p := by
        have b0 := Int.emod_nonneg back (by omega : p ≠ 0)
        have b1 := Int.emod_lt_of_pos back p0
        refine ⟨?_, b1⟩
        by_cases z : back % p = 0
        · rw [← mul_mod, z, Int.mul_zero, Int.zero_emod] at hb
          cases hb
        · omega
      rw [← mul_mod]
      exact pr_dom hp br.1 br.2 lr.1 lr.2
    unfold stepD
    rw [if_neg fig]
    show ((List.replicate n (0 : Int)).set m _).getD m 0 ≠ 0
    rw [getD_set _ _ _ _ (by rw [List.length_replicate]; omega), if_pos rfl]
    exact fig
  have lq : (quoD p back f g).length = n := by rw [hq]; exact I.lQ
  have fq : Form p (quoD p back f g) := by
    refine ⟨by rw [hq]; exact I.rQ, fun hne => ?_⟩
    rw [← getD_last hne, lq]
    exact top
  have fr : Form p (resD p back f g) := trimZ_form (mod_red p0 _)
  have lt : (resD p back f g).length < g.length := by
    refine Nat.lt_of_le_of_lt (trimZ_len _) ?_
    unfold modL
    rw [List.length_map, List.length_take]
    omega
  have er : Eqp p (cL (resD p back f g)) (cL (leftD p back f g)) := fun k => by
    show (trimZ (modL p ((leftD p back f g).take (g.length - 1)))).getD k 0 % p = _
    rw [trim_getD, mod_getD, mod_mod, getD_take]
    by_cases c : k < g.length - 1
    · rw [if_pos c]; rfl
    · rw [if_neg c]
      have z : cL (leftD p back f g) k = 0 := by
        rw [hL]
        exact I.zL k (by omega)
      rw [z]
  refine ⟨⟨fq, fr, lt, ?_⟩, by rw [lq, hn], by rw [hL]; exact I.lL⟩
  refine form_eqp (sumR_form p0 _ _) hf (((sum_eqp p _ _).trans (Eqp.add (mul_eqp p _ g) er)).trans fun k => ?_)
  rw [← I.eq k, hq, hL]
  show (cv _ _ k + cL _ k) % p = (cL _ k + cv _ _ k) % p
  rw [Int.add_comm]
/-- a form that is shorter is its own rest -/
theorem div_short {p : Int} {f g : List Int} (hp : 0 < p) (hf : Form p f) (hl : f.length < g.length) : DivOk p f g [] f := ⟨nil_form p, hf, hl, by rw [mulL_nil_left, nil_sumR hf]⟩
theorem DivOk.uniq {p : Int} (hp : p ∈ primesL) {f g q r q' r' : List Int} (hg : Form p g) (ng : g ≠ []) (a : DivOk p f g q r) (b : DivOk p f g q' r') : q = q' ∧ r = r' :=
  div_unique hp hg ng a.fq a.fr b.fq b.fr a.lt b.lt (a.eq.trans b.eq.symm)
/-- what is a product is divided whole -/
theorem DivOk.exact {p : Int} (hp : p ∈ primesL) {f g t q r : List Int} (hg : Form p g) (ng : g ≠ []) (ht : Form p t) (e : f = mulL p t g) (a : DivOk p f g q r) : q = t ∧ r = [] := by
  have p0 : 0 < p := by have := pr_big hp; omega
  have lg : 0 < g.length := List.length_pos_iff.mpr ng
  exact a.uniq hp hg ng ⟨ht, nil_form p, lg, by rw [sumR_nil (mulL_form p0 _ _), e]⟩
end LK

end
section
set_option Elab.async false
set_option linter.all false
set_option maxRecDepth 100000
set_option maxHeartbeats 1000000
namespace LK
open FT
theorem b1_var {Φ : Nat → List T → CR} {b : B1} {i : Nat} {ρ : Env8} {t u : T} (h : slot ρ i = some t) (hu : b1T b t = some u) : evalE Φ (.b1 b (.var i)) ρ = .ok u ρ := by
  simp only [evalE, opd_var h, R.bind, op1, Opd.get, h, hu, ofO]
theorem setix_gen {Φ : Nat → List T → CR} {ρ ρ1 ρ2 : Env8} {s : List Int} {i : Nat} {ek ev : E} {k : Nat} {x : Int} (h0 : ∃ t, slot ρ1 i = some t) (hs : slot ρ2 i = some (.lst true (s.map T.int))) (hk : k < s.length) (h1 : evalE Φ ev ρ = .ok (.int x) ρ1) (h2 : evalE Φ ek ρ1 = .ok (.int (k : Nat)) ρ2) :
    execS Φ (.setix i ek ev) ρ = .nx (ρ2.set i (some (.lst true ((s.set k x).map T.int)))) := by
  obtain ⟨t, h0⟩ := h0
  have e1 : L2.ixN (s.map T.int).length (k : Int) = some k := by
    simp only [L2.ixN, List.length_map]
    have a : ¬ (k : Int) < 0 := by omega
    have b : (k : Int) < (s.length : Int) := by omega
    simp [a, b, hk]
  have e2 : (s.map T.int)[k]? = some (.int (s.getD k 0)) := by
    rw [List.getElem?_map, List.getD_eq_getElem?_getD, List.getElem?_eq_getElem hk]; rfl
  simp only [execS, h1, R.bind, fz, ofR, h0, h2, hs, e1, e2, isFz, if_true, List.map_set]
abbrev dv_0t_0 : S := (.raise0 0 24 "code" "ZeroForm")
abbrev dv_0t : Ss := (.cons dv_0t_0 .nil)
abbrev dv_0e : Ss := .nil
abbrev dv_0c : C := (.not (.tr (.var 2)))
abbrev dv_0 : S := (.ifs dv_0c dv_0t dv_0e)
abbrev dv_1 : S := (.asg (.nm 3) (.b1 .len (.var 2)))
abbrev dv_2t_0 : S := (.ret (.tup (.cons (.tup .nil) (.cons (.var 1) .nil))))
abbrev dv_2t : Ss := (.cons dv_2t_0 .nil)
abbrev dv_2e : Ss := .nil
abbrev dv_2c : C := (.cmp .Lt (.b1 .len (.var 1)) (.var 3))
abbrev dv_2 : S := (.ifs dv_2c dv_2t dv_2e)
abbrev dv_3 : S := (.asg (.nm 4) (.b1 .list (.var 1)))
abbrev dv_4 : S := (.asg (.nm 5) (.lc (.nm 9) (.r1 (.bin .Add (.bin .Sub (.b1 .len (.var 1)) (.var 3)) (.int 1))) .no (.int 0) [9]))
abbrev dv_5 : S := (.asg (.nm 6) (.call 0 (.v (.var 0) (.v (.ix (.var 2) (.neg (.int 1))) .nil))))
abbrev dv_6b_0 : S := (.asg (.nm 8) (.bin .Mod (.bin .Mult (.ix (.var 4) (.bin .Sub (.bin .Add (.var 7) (.var 3)) (.int 1))) (.var 6)) (.var 0)))
abbrev dv_6b_1t_0 : S := (.setix 5 (.var 7) (.var 8))
abbrev dv_6b_1t_1b_0 : S := (.setix 4 (.bin .Add (.var 7) (.var 10)) (.bin .Mod (.bin .Sub (.ix (.var 4) (.bin .Add (.var 7) (.var 10))) (.bin .Mult (.var 8) (.var 11))) (.var 0)))
abbrev dv_6b_1t_1b : Ss := (.cons dv_6b_1t_1b_0 .nil)
abbrev dv_6b_1t_1 : S := (.for_ (.tp [10, 11]) (.en (.var 2)) dv_6b_1t_1b [10, 11])
abbrev dv_6b_1t : Ss := (.cons dv_6b_1t_0 (.cons dv_6b_1t_1 .nil))
abbrev dv_6b_1e : Ss := .nil
abbrev dv_6b_1c : C := (.cmp .NotEq (.var 8) (.int 0))
abbrev dv_6b_1 : S := (.ifs dv_6b_1c dv_6b_1t dv_6b_1e)
abbrev dv_6b : Ss := (.cons dv_6b_0 (.cons dv_6b_1 .nil))
abbrev dv_6 : S := (.for_ (.nm 7) (.rr1 (.b1 .len (.var 5))) dv_6b [7, 8])
abbrev dv_7 : S := (.ret (.tup (.cons (.b1 .tuple (.var 5)) (.cons (.call 1 (.v (.var 0) (.v (.sl (.var 4) .no (.so (.bin .Sub (.var 3) (.int 1)))) .nil))) .nil))))
abbrev dv : Ss := (.cons dv_0 (.cons dv_1 (.cons dv_2 (.cons dv_3 (.cons dv_4 (.cons dv_5 (.cons dv_6 (.cons dv_7 .nil))))))))
theorem rngD_rev (n : Nat) : rngD (0 + (((((n : Nat) : Int) - 0).toNat : Nat) : Int) - 1) ((((n : Nat) : Int) - 0).toNat) = (List.range n).reverse.map fun a => T.int (a : Nat) := by
  have e : (((n : Nat) : Int) - 0).toNat = n := by omega
  rw [e]
  unfold rngD
  apply List.ext_getElem
  · simp
  · intro k h1 h2
    have hk : k < n := by simpa using h1
    simp only [List.getElem_map, List.getElem_range, List.getElem_reverse, List.length_range, T.int.injEq]
    omega
theorem rr1_nat {Φ : Nat → List T → CR} {a : E} {ρ ρ1 : Env8} {n : Nat} (h : n ≤ 1000) (e : evalE Φ a ρ = .ok (.int (n : Nat)) ρ1) : evalIt Φ (.rr1 a) ρ = .ok ((List.range n).reverse.map fun a => T.int (a : Nat)) ρ1 := by
  simp only [evalIt, e, R.bind, rngOk_nat h, if_true]
  rw [rngD_rev]
abbrev qE (p : Int) (f g : List Int) (back : Int) (L Q : List Int) (x7 x8 x10 x11 : Option T) : Env8 := [some (.int p), some (fT f), some (fT g), some (.int (g.length : Nat)), some (.lst true (L.map T.int)), some (.lst true (Q.map T.int)), some (.int back), x7, x8, none, x10, x11]
theorem ix_lst {L : List Int} {k : Nat} (h : k < L.length) (x : Int) (e : x = (k : Nat)) (o : Bool) : FT.ixT (.lst o (L.map T.int)) (.int x) = some (.int (L.getD k 0)) := by
  subst e
  have q := atI_zs (cs := L) (k := (k : Nat)) (by omega) (by omega)
  rw [Int.toNat_natCast] at q
  simp only [FT.ixT, q, FT.pickT, isFz, if_true]
section
variable {Φ : Nat → List T → CR} {p : Int} (hp : 2 ≤ p ∧ p ≤ 97) (f g : List Int) (back : Int)
include hp
theorem dv_in (L Q : List Int) (a : Nat) (fig : Int) (hfig : 0 ≤ fig ∧ fig < p) (h : a + g.length ≤ L.length) :
    forL (bindG (.tp [10, 11])) (execSs Φ dv_6b_1t_1b) [10, 11] ((enumZ 0 g).map fun z => .tup [.int (z.1 : Nat), .int z.2]) (qE p f g back L Q (some (.int (a : Nat))) (some (.int fig)) none none) = .nx (qE p f g back (subAt p a fig g L) Q (some (.int (a : Nat))) (some (.int fig)) none none) := by
  have z := for_gen (g := .tp [10, 11]) (ks := [10, 11]) (b := execSs Φ dv_6b_1t_1b) (fun z : Nat × Int => .tup [.int (z.1 : Nat), .int z.2]) (fun M => qE p f g back M Q (some (.int (a : Nat))) (some (.int fig)) none none) (subF p a fig) (fun M => M.length = L.length) (enumZ 0 g) L rfl fun z hz M hM => by
    have zm := enumZ_mem hz
    have hk : a + z.1 < M.length := by omega
    have ix := ix_lst hk ((a : Int) + (z.1 : Nat)) (by omega) true
    have mo : mulOk fig z.2 = true := by
      unfold mulOk
      rw [decide_eq_true (by omega : -(2 ^ 64) < fig), decide_eq_true (by omega : fig < 2 ^ 64)]
      rfl
    have v1 : evalE Φ (.bin .Mod (.bin .Sub (.ix (.var 4) (.bin .Add (.var 7) (.var 10))) (.bin .Mult (.var 8) (.var 11))) (.var 0)) (qE p f g back M Q (some (.int (a : Nat))) (some (.int fig)) (some (.int (z.1 : Nat))) (some (.int z.2))) = .ok (.int ((M.getD (a + z.1) 0 - fig * z.2) % p)) (qE p f g back M Q (some (.int (a : Nat))) (some (.int fig)) (some (.int (z.1 : Nat))) (some (.int z.2))) := by
      have p0 : 0 < p := by omega
      generalize M.getD (a + z.1) 0 = y at *
      simp [doCallW, argsW, oneL, pureT, pureTs, execSs, execS, evalC, evalE, evalEs, evalAs, evalOe, evalOc, evalIt, opdOf, readV, slot, Opd.get, ofR, ofO, R.bind, op1, op2, bindG, backs, doCall, argsOf, refsOf, nodupN, setAll, isFz, isFzs, fz, fzs, fzI, kill, putBack, keepF, FT.binT, FT.addT, FT.subT, FT.mulT, FT.modT, ix, mo, p0]
    have v2 : evalE Φ (.bin .Add (.var 7) (.var 10)) (qE p f g back M Q (some (.int (a : Nat))) (some (.int fig)) (some (.int (z.1 : Nat))) (some (.int z.2))) = .ok (.int ((a + z.1 : Nat) : Int)) (qE p f g back M Q (some (.int (a : Nat))) (some (.int fig)) (some (.int (z.1 : Nat))) (some (.int z.2))) := by
      rw [Int.natCast_add]
      simp [doCallW, argsW, oneL, pureT, pureTs, execSs, execS, evalC, evalE, evalEs, evalAs, evalOe, evalOc, evalIt, opdOf, readV, slot, Opd.get, ofR, ofO, R.bind, op1, op2, bindG, backs, doCall, argsOf, refsOf, nodupN, setAll, isFz, isFzs, fz, fzs, fzI, kill, putBack, keepF, FT.binT, FT.addT]
    have st := setix_gen (i := 4) (s := M) (k := a + z.1) ⟨_, rfl⟩ rfl hk v1 v2
    exact ⟨by unfold subF; rw [List.length_set]; exact hM, qE p f g back M Q (some (.int (a : Nat))) (some (.int fig)) (some (.int (z.1 : Nat))) (some (.int z.2)), _, by simp [bindG, setAll], seq_nx _ st rfl, by simp [kill, subF]⟩
  exact z.1
theorem dv_turn (L Q : List Int) (a : Nat) (h : a + g.length ≤ L.length) (hg : 0 < g.length) (ha : a < Q.length) (hL : Red p L) (hb : 0 ≤ back ∧ back < p) : ∃ x8, 
    execSs Φ dv_6b (qE p f g back L Q (some (.int (a : Nat))) none none none) = .nx (qE p f g back (stepD p back g (L, Q) a).1 (stepD p back g (L, Q) a).2 (some (.int (a : Nat))) x8 none none) := by
  have p0 : 0 < p := by omega
  have ix := ix_lst (L := L) (k := a + g.length - 1) (by omega) ((a : Int) + (g.length : Nat) - 1) (by omega) true
  have lr := get_red p0 hL (a + g.length - 1)
  have fr : 0 ≤ figD p back g L a ∧ figD p back g L a < p := ⟨Int.emod_nonneg _ (by omega), Int.emod_lt_of_pos _ p0⟩
  have s0 : execS Φ dv_6b_0 (qE p f g back L Q (some (.int (a : Nat))) none none none) = .nx (qE p f g back L Q (some (.int (a : Nat))) (some (.int (figD p back g L a))) none none) := by
    unfold figD
    generalize L.getD (a + g.length - 1) 0 = y at *
    have mo : mulOk y back = true := by
      unfold mulOk
      rw [decide_eq_true (by omega : -(2 ^ 64) < y), decide_eq_true (by omega : y < 2 ^ 64)]
      rfl
    simp [doCallW, argsW, oneL, pureT, pureTs, execSs, execS, evalC, evalE, evalEs, evalAs, evalOe, evalOc, evalIt, opdOf, readV, slot, Opd.get, ofR, ofO, R.bind, op1, op2, bindG, backs, doCall, argsOf, refsOf, nodupN, setAll, isFz, isFzs, fz, fzs, fzI, kill, putBack, keepF, FT.binT, FT.addT, FT.subT, FT.mulT, FT.modT, ix, mo, p0]
  refine ⟨some (.int (figD p back g L a)), ?_⟩
  generalize hfig : figD p back g L a = fig at *
  have es : stepD p back g (L, Q) a = if fig = 0 then (L, Q) else (subAt p a fig g L, Q.set a fig) := by
    unfold stepD
    rw [hfig]
  rw [es]
  have c : evalC Φ dv_6b_1c (qE p f g back L Q (some (.int (a : Nat))) (some (.int fig)) none none) = .ok (decide (fig ≠ 0)) (qE p f g back L Q (some (.int (a : Nat))) (some (.int fig)) none none) := by
    simp [doCallW, argsW, oneL, pureT, pureTs, execSs, execS, evalC, evalE, evalEs, evalAs, evalOe, evalOc, evalIt, opdOf, readV, slot, Opd.get, ofR, ofO, R.bind, op1, op2, bindG, backs, doCall, argsOf, refsOf, nodupN, setAll, isFz, isFzs, fz, fzs, fzI, kill, putBack, keepF, FT.cmpT]
  by_cases q : fig = 0
  · rw [if_pos q]
    rw [decide_eq_false (fun z => z q)] at c
    exact seq_nx _ s0 (seq_nx _ (if_no c) rfl)
  · rw [if_neg q]
    rw [decide_eq_true q] at c
    have v1 : evalE Φ (.var 8) (qE p f g back L Q (some (.int (a : Nat))) (some (.int fig)) none none) = .ok (.int fig) (qE p f g back L Q (some (.int (a : Nat))) (some (.int fig)) none none) := var_ok rfl rfl
    have v2 : evalE Φ (.var 7) (qE p f g back L Q (some (.int (a : Nat))) (some (.int fig)) none none) = .ok (.int (a : Nat)) (qE p f g back L Q (some (.int (a : Nat))) (some (.int fig)) none none) := var_ok rfl rfl
    have st := setix_gen (i := 5) (s := Q) (k := a) ⟨_, rfl⟩ rfl ha v1 v2
    have hi : evalIt Φ (.en (.var 2)) (qE p f g back L (Q.set a fig) (some (.int (a : Nat))) (some (.int fig)) none none) = .ok ((enumZ 0 g).map fun z => .tup [.int (z.1 : Nat), .int z.2]) (qE p f g back L (Q.set a fig) (some (.int (a : Nat))) (some (.int fig)) none none) := by
      rw [← enumT_zs]
      simp [doCallW, argsW, oneL, pureT, pureTs, execSs, execS, evalC, evalE, evalEs, evalAs, evalOe, evalOc, evalIt, opdOf, readV, slot, Opd.get, ofR, ofO, R.bind, op1, op2, bindG, backs, doCall, argsOf, refsOf, nodupN, setAll, isFz, isFzs, fz, fzs, fzI, kill, putBack, keepF, seqT]
    refine seq_nx _ s0 (seq_nx _ (seq_if c ?_) rfl)
    rw [if_pos rfl]
    exact seq_nx _ st (seq_nx _ (seq_for hi (dv_in hp f g back L (Q.set a fig) a fig fr h)) rfl)
theorem dv_out (hg : 0 < g.length) (hb : 0 ≤ back ∧ back < p) : ∀ (n : Nat) (L Q : List Int), n + g.length ≤ L.length + 1 → n ≤ Q.length → Red p L →
    forL (bindG (.nm 7)) (execSs Φ dv_6b) [7, 8] ((List.range n).reverse.map fun a => T.int (a : Nat)) (qE p f g back L Q none none none none) = .nx (qE p f g back (runD p back g (L, Q) n).1 (runD p back g (L, Q) n).2 none none none none)
  | 0, L, Q, _, _, _ => rfl
  | n + 1, L, Q, h, hQ, hL => by
    obtain ⟨x8, e⟩ := dv_turn (Φ := Φ) hp f g back L Q n (by omega) hg (by omega) hL hb
    have p0 : 0 < p := by omega
    have lf : n + g.length ≤ L.length := by omega
    have hl : (stepD p back g (L, Q) n).1.length = L.length ∧ (stepD p back g (L, Q) n).2.length = Q.length ∧ Red p (stepD p back g (L, Q) n).1 := by
      unfold stepD
      split
      · exact ⟨rfl, rfl, hL⟩
      · exact ⟨subAt_len p n _ g L lf, by rw [List.length_set], subAt_red p0 lf hL⟩
    have ih := dv_out hg hb n (stepD p back g (L, Q) n).1 (stepD p back g (L, Q) n).2 (by omega) (by omega) hl.2.2
    rw [List.range_succ, List.reverse_append, List.map_append]
    show forL (bindG (.nm 7)) (execSs Φ dv_6b) [7, 8] (T.int (n : Nat) :: (List.range n).reverse.map fun a => T.int (a : Nat)) _ = _
    have eb : bindG (.nm 7) (.int (n : Nat)) (qE p f g back L Q none none none none) = some (qE p f g back L Q (some (.int (n : Nat))) none none none) := by simp [bindG]
    have ek : kill [7, 8] (qE p f g back (stepD p back g (L, Q) n).1 (stepD p back g (L, Q) n).2 (some (.int (n : Nat))) x8 none none) = qE p f g back (stepD p back g (L, Q) n).1 (stepD p back g (L, Q) n).2 none none none none := by simp [kill]
    simp only [forL, eb, e, ek]
    rw [runD_succ]
    exact ih
end
end LK

end
section
set_option Elab.async false
set_option linter.all false
set_option maxRecDepth 100000
set_option maxHeartbeats 1000000
namespace LK
open FT
theorem zeros_lc {Φ : Nat → List T → CR} {a : E} {ρ : Env8} {i : Nat} (n : Nat) (hn : n ≤ 1000) (e : evalE Φ a ρ = .ok (.int (n : Nat)) ρ) (hi : i < ρ.length) (hk : kill [i] ρ = ρ) (hb : putBack [i] ρ ρ = ρ) (hk2 : ∀ t, kill [i] (ρ.set i (some t)) = ρ) :
    evalE Φ (.lc (.nm i) (.r1 a) .no (.int 0) [i]) ρ = .ok (.lst true ((List.replicate n (0 : Int)).map T.int)) ρ := by
  have q := lc_all (Φ := Φ) (g := .nm i) (own := [i]) (e := .int 0) (fun k : Nat => T.int (k : Nat)) (fun _ => .int 0) (List.range n) (rng_row hn e) hk hb (by rw [List.length_range]; exact hn) (by
    have : (List.range n).map (fun _ : Nat => T.int 0) = (List.replicate n (0 : Int)).map T.int := by rw [List.map_const', List.length_range, List.map_replicate]
    rw [this]; exact isFzs_zs _) fun k _ => ⟨ρ.set i (some (.int (k : Nat))), ρ.set i (some (.int (k : Nat))), by simp [bindG, hi], rfl, hk2 _⟩
  have em : (List.range n).map (fun _ : Nat => T.int 0) = (List.replicate n (0 : Int)).map T.int := by rw [List.map_const', List.length_range, List.map_replicate]
  rw [em] at q
  exact q
theorem ix_at {Φ : Nat → List T → CR} {i : Nat} {e : E} {ρ : Env8} {t k u : T} (h : slot ρ i = some t) (he : evalE Φ e ρ = .ok k ρ) (hn : ∀ j, e ≠ .var j) (hu : ixT t k = some u) : evalE Φ (.ix (.var i) e) ρ = .ok u ρ := by
  simp only [evalE, opd_var h, opd_nv hn he, R.bind, op2, Opd.get, h, hu, ofO]
theorem es_cons {Φ : Nat → List T → CR} {e : E} {es : Es} {ρ ρ1 ρ2 : Env8} {t : T} {ts : List T} (h : evalE Φ e ρ = .ok t ρ1) (h2 : evalEs Φ es ρ1 = .ok ts ρ2) : evalEs Φ (.cons e es) ρ = .ok (t :: ts) ρ2 := by
  simp only [evalEs, h, h2, R.bind]
theorem es_nil {Φ : Nat → List T → CR} {ρ : Env8} : evalEs Φ .nil ρ = .ok [] ρ := rfl
theorem div_long {Φ : Nat → List T → CR} {p : Int} (hp : 2 ≤ p ∧ p ≤ 97) (f g : List Int) (ng : g ≠ []) (hl : g.length ≤ f.length) (lf : f.length ≤ 900) (rf : Red p f) (back : Int) (hb : 0 ≤ back ∧ back < p) (h0 : Φ 0 [.int p, .int (g.getLast ng)] = .ok (.int back) []) (h1 : ∀ ns : List Int, ns.length ≤ 1000 → Φ 1 [.int p, .lst false (ns.map T.int)] = .ok (fT (trimZ (modL p ns))) []) (ll : (leftD p back f g).length = f.length) :
    execSs Φ dv [some (.int p), some (fT f), some (fT g), none, none, none, none, none, none, none, none, none] = .rt (.tup [fT (quoD p back f g), fT (resD p back f g)]) (qE p f g back (leftD p back f g) (quoD p back f g) none none none none) := by
  have lg : 0 < g.length := List.length_pos_iff.mpr ng
  have l2 : 2 ≤ PySem.sizeLine := by rw [line_big]; omega
  have c0 : evalC Φ dv_0c [some (.int p), some (fT f), some (fT g), none, none, none, none, none, none, none, none, none] = .ok false [some (.int p), some (fT f), some (fT g), none, none, none, none, none, none, none, none, none] := by
    simp [doCallW, argsW, oneL, pureT, pureTs, execSs, execS, evalC, evalE, evalEs, evalAs, evalOe, evalOc, evalIt, opdOf, readV, slot, Opd.get, ofR, ofO, R.bind, op1, op2, bindG, backs, doCall, argsOf, refsOf, nodupN, setAll, isFz, isFzs, fz, fzs, fzI, kill, putBack, keepF, FT.truT, ng]
  have s1 : execS Φ dv_1 [some (.int p), some (fT f), some (fT g), none, none, none, none, none, none, none, none, none] = .nx [some (.int p), some (fT f), some (fT g), some (.int (g.length : Nat)), none, none, none, none, none, none, none, none] := by
    simp [doCallW, argsW, oneL, pureT, pureTs, execSs, execS, evalC, evalE, evalEs, evalAs, evalOe, evalOc, evalIt, opdOf, readV, slot, Opd.get, ofR, ofO, R.bind, op1, op2, bindG, backs, doCall, argsOf, refsOf, nodupN, setAll, isFz, isFzs, fz, fzs, fzI, kill, putBack, keepF, FT.b1T, FT.lenT]
  have c2 : evalC Φ dv_2c [some (.int p), some (fT f), some (fT g), some (.int (g.length : Nat)), none, none, none, none, none, none, none, none] = .ok false [some (.int p), some (fT f), some (fT g), some (.int (g.length : Nat)), none, none, none, none, none, none, none, none] := by
    have nl : ¬ f.length < g.length := by omega
    simp [doCallW, argsW, oneL, pureT, pureTs, execSs, execS, evalC, evalE, evalEs, evalAs, evalOe, evalOc, evalIt, opdOf, readV, slot, Opd.get, ofR, ofO, R.bind, op1, op2, bindG, backs, doCall, argsOf, refsOf, nodupN, setAll, isFz, isFzs, fz, fzs, fzI, kill, putBack, keepF, FT.b1T, FT.lenT, FT.cmpT, FT.ltT, nl]
  have s3 : execS Φ dv_3 [some (.int p), some (fT f), some (fT g), some (.int (g.length : Nat)), none, none, none, none, none, none, none, none] = .nx [some (.int p), some (fT f), some (fT g), some (.int (g.length : Nat)), some (.lst true (f.map T.int)), none, none, none, none, none, none, none] := by
    simp [doCallW, argsW, oneL, pureT, pureTs, execSs, execS, evalC, evalE, evalEs, evalAs, evalOe, evalOc, evalIt, opdOf, readV, slot, Opd.get, ofR, ofO, R.bind, op1, op2, bindG, backs, doCall, argsOf, refsOf, nodupN, setAll, isFz, isFzs, fz, fzs, fzI, kill, putBack, keepF, FT.b1T]
  obtain ⟨n, hn⟩ : ∃ n, n = f.length + 1 - g.length := ⟨_, rfl⟩
  have en : evalE Φ (.bin .Add (.bin .Sub (.b1 .len (.var 1)) (.var 3)) (.int 1)) [some (.int p), some (fT f), some (fT g), some (.int (g.length : Nat)), some (.lst true (f.map T.int)), none, none, none, none, none, none, none] = .ok (.int (n : Nat)) [some (.int p), some (fT f), some (fT g), some (.int (g.length : Nat)), some (.lst true (f.map T.int)), none, none, none, none, none, none, none] := by
    have e : ((n : Nat) : Int) = (f.length : Int) - (g.length : Nat) + 1 := by omega
    rw [e]
    simp [doCallW, argsW, oneL, pureT, pureTs, execSs, execS, evalC, evalE, evalEs, evalAs, evalOe, evalOc, evalIt, opdOf, readV, slot, Opd.get, ofR, ofO, R.bind, op1, op2, bindG, backs, doCall, argsOf, refsOf, nodupN, setAll, isFz, isFzs, fz, fzs, fzI, kill, putBack, keepF, FT.b1T, FT.lenT, FT.binT, FT.subT, FT.addT]
  have s4 := asg_nm (i := 5) (zeros_lc (Φ := Φ) (i := 9) n (by omega) en (by simp) (by simp [kill]) (by simp [putBack, keepF, slot]) (fun t => by simp [kill])) (by simp)
  have al := atI_last ng
  have i1 : FT.ixT (fT g) (.int (-1)) = some (.int (g.getLast ng)) := by simp only [FT.ixT, al, FT.pickT, isFz, if_true]
  have s5 : execS Φ dv_5 [some (.int p), some (fT f), some (fT g), some (.int (g.length : Nat)), some (.lst true (f.map T.int)), some (.lst true ((List.replicate n (0 : Int)).map T.int)), none, none, none, none, none, none] = .nx (qE p f g back f (List.replicate n 0) none none none none) := by
    have e : evalE Φ (.ix (.var 2) (.neg (.int 1))) [some (.int p), some (fT f), some (fT g), some (.int (g.length : Nat)), some (.lst true (f.map T.int)), some (.lst true ((List.replicate n (0 : Int)).map T.int)), none, none, none, none, none, none] = .ok (.int (g.getLast ng)) [some (.int p), some (fT f), some (fT g), some (.int (g.length : Nat)), some (.lst true (f.map T.int)), some (.lst true ((List.replicate n (0 : Int)).map T.int)), none, none, none, none, none, none] := by
      generalize g.getLast ng = y at *
      exact ix_at (t := fT g) rfl (by simp [doCallW, argsW, oneL, pureT, pureTs, execSs, execS, evalC, evalE, evalEs, evalAs, evalOe, evalOc, evalIt, opdOf, readV, slot, Opd.get, ofR, ofO, R.bind, op1, op2, bindG, backs, doCall, argsOf, refsOf, nodupN, setAll, isFz, isFzs, fz, fzs, fzI, kill, putBack, keepF]) (fun _ h => by cases h) i1
    exact (asg_nm (call2 (var_ok rfl rfl) e h0) (by simp)).trans (by simp)
  have e6 : evalE Φ (.b1 .len (.var 5)) (qE p f g back f (List.replicate n 0) none none none none) = .ok (.int (n : Nat)) (qE p f g back f (List.replicate n 0) none none none none) := b1_var rfl (by simp [FT.b1T, FT.lenT])
  have lp := dv_out (Φ := Φ) hp f g back lg hb n f (List.replicate n 0) (by omega) (by rw [List.length_replicate]; exact Nat.le_refl _) rf
  have hQ : (runD p back g (f, List.replicate n 0) n).2 = quoD p back f g := by unfold quoD; rw [hn]
  have hL : (runD p back g (f, List.replicate n 0) n).1 = leftD p back f g := by unfold leftD; rw [hn]
  rw [hQ, hL] at lp
  refine seq_nx _ (if_no c0) (seq_nx _ s1 (seq_nx _ (if_no c2) (seq_nx _ s3 (seq_nx _ s4 (seq_nx _ s5 (seq_nx _ (seq_for (rr1_nat (by omega) e6) lp) (seq_rt (ret_eval ?_))))))))
  generalize quoD p back f g = Q at *
  unfold resD
  generalize leftD p back f g = L at *
  have t1 : evalE Φ (.b1 .tuple (.var 5)) (qE p f g back L Q none none none none) = .ok (fT Q) (qE p f g back L Q none none none none) := b1_var rfl (by simp only [FT.b1T, isFzs_zs, if_true])
  have hsl : FT.slT (.lst true (L.map T.int)) none (some ((g.length : Int) - 1)) = some (.lst true ((L.take (g.length - 1)).map T.int)) := by
    have e : ((g.length : Int) - 1) = ((g.length - 1 : Nat) : Int) := by omega
    rw [e]
    simp only [FT.slT, isFzs_zs, if_true]
    rw [cut_len L (g.length - 1) (by omega)]
  have t2 : evalE Φ (.sl (.var 4) .no (.so (.bin .Sub (.var 3) (.int 1)))) (qE p f g back L Q none none none none) = .ok (.lst true ((L.take (g.length - 1)).map T.int)) (qE p f g back L Q none none none none) := by
    generalize L.take (g.length - 1) = M at *
    simp [doCallW, argsW, oneL, pureT, pureTs, execSs, execS, evalC, evalE, evalEs, evalAs, evalOe, evalOc, evalIt, opdOf, readV, slot, Opd.get, ofR, ofO, R.bind, op1, op2, bindG, backs, doCall, argsOf, refsOf, nodupN, setAll, isFz, isFzs, fz, fzs, fzI, kill, putBack, keepF, FT.binT, FT.subT, hsl]
  have fl := h1 (L.take (g.length - 1)) (by rw [List.length_take]; omega)
  have t3 := call2 (Φ := Φ) (f := 1) (e1 := .var 0) (t1 := .int p) (var_ok rfl rfl) t2 (by simp only [fz, fzs_zs]; exact fl)
  have l2' : 2 ≤ PySem.sizeLine := l2
  have t4 := es_cons t1 (es_cons t3 es_nil)
  simp only [evalE, t4, R.bind]
  simp [fzs, fz, l2']
theorem form_lst (n : Nat) (p : Int) (hp : 0 < p) (ns : List Int) (h : ns.length ≤ 1000) : callN fns (n + 1) 1 [.int p, .lst false (ns.map T.int)] = .ok (fT (trimZ (modL p ns))) [] := form_spec n p hp _ ns (.inr rfl) h
/-- what is told of a division -/
theorem div_spec (n : Nat) {p : Int} (hp : p ∈ primesL) {f g : List Int} (hf : Form p f) (hg : Form p g) (ng : g ≠ []) (lf : f.length ≤ 900) (lg : g.length ≤ 900) : ∃ q r : List Int, callN fns (n + 2) 3 [.int p, fT f, fT g] = .ok (.tup [fT q, fT r]) [] ∧ DivOk p f g q r ∧ q.length ≤ f.length := by
  have pb := pr_big hp
  have p0 : 0 < p := by omega
  have l0 : 0 < g.length := List.length_pos_iff.mpr ng
  by_cases hl : f.length < g.length
  · refine ⟨[], f, ?_, div_short p0 hf hl, by simp⟩
    show runFn (callN fns (n + 1)) f3 [.int p, fT f, fT g] = _
    generalize callN fns (n + 1) = Φ at *
    have l2 : 2 ≤ PySem.sizeLine := by rw [line_big]; omega
    have c0 : evalC Φ dv_0c [some (.int p), some (fT f), some (fT g), none, none, none, none, none, none, none, none, none] = .ok false [some (.int p), some (fT f), some (fT g), none, none, none, none, none, none, none, none, none] := by
      simp [doCallW, argsW, oneL, pureT, pureTs, execSs, execS, evalC, evalE, evalEs, evalAs, evalOe, evalOc, evalIt, opdOf, readV, slot, Opd.get, ofR, ofO, R.bind, op1, op2, bindG, backs, doCall, argsOf, refsOf, nodupN, setAll, isFz, isFzs, fz, fzs, fzI, kill, putBack, keepF, FT.truT, ng]
    have s1 : execS Φ dv_1 [some (.int p), some (fT f), some (fT g), none, none, none, none, none, none, none, none, none] = .nx [some (.int p), some (fT f), some (fT g), some (.int (g.length : Nat)), none, none, none, none, none, none, none, none] := by
      simp [doCallW, argsW, oneL, pureT, pureTs, execSs, execS, evalC, evalE, evalEs, evalAs, evalOe, evalOc, evalIt, opdOf, readV, slot, Opd.get, ofR, ofO, R.bind, op1, op2, bindG, backs, doCall, argsOf, refsOf, nodupN, setAll, isFz, isFzs, fz, fzs, fzI, kill, putBack, keepF, FT.b1T, FT.lenT]
    have c2 : evalC Φ dv_2c [some (.int p), some (fT f), some (fT g), some (.int (g.length : Nat)), none, none, none, none, none, none, none, none] = .ok true [some (.int p), some (fT f), some (fT g), some (.int (g.length : Nat)), none, none, none, none, none, none, none, none] := by
      simp [doCallW, argsW, oneL, pureT, pureTs, execSs, execS, evalC, evalE, evalEs, evalAs, evalOe, evalOc, evalIt, opdOf, readV, slot, Opd.get, ofR, ofO, R.bind, op1, op2, bindG, backs, doCall, argsOf, refsOf, nodupN, setAll, isFz, isFzs, fz, fzs, fzI, kill, putBack, keepF, FT.b1T, FT.lenT, FT.cmpT, FT.ltT, hl]
    refine run_of (ρ := [some (.int p), some (fT f), some (fT g), some (.int (g.length : Nat)), none, none, none, none, none, none, none, none]) [some (.int p), some (fT f), some (fT g), none, none, none, none, none, none, none, none, none] rfl rfl (seq_nx _ (if_no c0) (seq_nx _ s1 (seq_rt (seq_if c2 ?_)))) rfl
    rw [if_pos rfl]
    refine seq_rt ?_
    simp [doCallW, argsW, oneL, pureT, pureTs, execSs, execS, evalC, evalE, evalEs, evalAs, evalOe, evalOc, evalIt, opdOf, readV, slot, Opd.get, ofR, ofO, R.bind, op1, op2, bindG, backs, doCall, argsOf, refsOf, nodupN, setAll, isFz, isFzs, fz, fzs, fzI, kill, putBack, keepF, l2]
  · have lr := last_range hg ng
    obtain ⟨v, hv, hv1⟩ := pr_inv hp lr.1 lr.2
    have br : 0 ≤ v % p ∧ v % p < p := ⟨Int.emod_nonneg _ (by omega), Int.emod_lt_of_pos _ p0⟩
    have d := div_facts hp hf hg ng hv1 (by omega)
    refine ⟨_, _, ?_, d.1, by rw [d.2.1]; omega⟩
    have h0 := inv_spec n p (g.getLast ng) v p0 hv
    have h1 := form_lst n p p0
    show runFn (callN fns (n + 1)) f3 [.int p, fT f, fT g] = _
    generalize callN fns (n + 1) = Φ at *
    exact run_of _ rfl rfl (div_long pb f g ng (by omega) lf hf.red (v % p) br h0 h1 d.2.2) rfl
end LK

end
section
set_option Elab.async false
set_option linter.all false
set_option maxRecDepth 100000
set_option maxHeartbeats 1000000
namespace LK
open FT
structure RingD (α : Type) where
  z : α
  o : α
  ad : α → α → α
  mu : α → α → α
  ng : α → α
  sb : α → α → α
  ad_z : ∀ a, ad a z = a
  ad_c : ∀ a b, ad a b = ad b a
  ad_a : ∀ a b c, ad (ad a b) c = ad a (ad b c)
  mu_a : ∀ a b c, mu (mu a b) c = mu a (mu b c)
  mu_c : ∀ a b, mu a b = mu b a
  mu_o : ∀ a, mu a o = a
  mu_z : ∀ a, mu z a = z
  dist : ∀ a b c, mu (ad a b) c = ad (mu a c) (mu b c)
  ng_ad : ∀ a, ad (ng a) a = z
  sb_ng : ∀ a b, sb a b = ad a (ng b)
namespace RingD
variable {α : Type} (D : RingD α)
def nat : Nat → α
  | 0 => D.z
  | 1 => D.o
  | n + 2 => D.ad (nat (n + 1)) D.o
theorem nat_succ (n : Nat) : D.nat (n + 1) = D.ad (D.nat n) D.o := by
  cases n with
  | zero => show D.o = D.ad D.z D.o; rw [D.ad_c, D.ad_z]
  | succ n => rfl
def pw (a : α) : Nat → α
  | 0 => D.o
  | n + 1 => D.mu (pw a n) a
def int : Int → α
  | .ofNat n => D.nat n
  | .negSucc n => D.ng (D.nat (n + 1))
theorem ng_uniq {a b : α} (h : D.ad b a = D.z) : b = D.ng a := by
  have e : D.ad (D.ad b a) (D.ng a) = D.ng a := by rw [h, D.ad_c, D.ad_z]
  rw [D.ad_a, D.ad_c a, D.ng_ad, D.ad_z] at e
  exact e
theorem ng_z : D.ng D.z = D.z := (D.ng_uniq (by rw [D.ad_z])).symm
theorem ng_ng (a : α) : D.ng (D.ng a) = a := (D.ng_uniq (by rw [D.ad_c, D.ng_ad])).symm
theorem mu_ng (a b : α) : D.mu (D.ng a) b = D.ng (D.mu a b) := D.ng_uniq (by rw [← D.dist, D.ng_ad, D.mu_z])
theorem int_neg (i : Int) : D.int (-i) = D.ng (D.int i) := by
  cases i with
  | ofNat n => cases n with
    | zero => exact D.ng_z.symm
    | succ n => rfl
  | negSucc n =>
    show D.nat (n + 1) = D.ng (D.ng (D.nat (n + 1)))
    rw [D.ng_ng]
@[reducible] def ring : Lean.Grind.CommRing α :=
  letI : Add α := ⟨D.ad⟩
  letI : Mul α := ⟨D.mu⟩
  letI : NatCast α := ⟨D.nat⟩
  letI : (n : Nat) → OfNat α n := fun n => ⟨D.nat n⟩
  letI : SMul Nat α := ⟨fun n a => D.mu (D.nat n) a⟩
  letI : HPow α Nat α := ⟨D.pw⟩
  letI s : Lean.Grind.Semiring α := {
    add_zero := D.ad_z, add_comm := D.ad_c, add_assoc := D.ad_a, mul_assoc := D.mu_a, mul_one := D.mu_o
    one_mul := fun a => (D.mu_c _ _).trans (D.mu_o a)
    left_distrib := fun a b c => by show D.mu a (D.ad b c) = D.ad (D.mu a b) (D.mu a c); rw [D.mu_c, D.dist, D.mu_c b, D.mu_c c]
    right_distrib := D.dist
    zero_mul := D.mu_z
    mul_zero := fun a => (D.mu_c _ _).trans (D.mu_z a)
    pow_zero := fun _ => rfl
    pow_succ := fun _ _ => rfl
    ofNat_succ := fun n => D.nat_succ n
    ofNat_eq_natCast := fun _ => rfl
    nsmul_eq_natCast_mul := fun _ _ => rfl }
  letI : Neg α := ⟨D.ng⟩
  letI : Sub α := ⟨D.sb⟩
  letI : IntCast α := ⟨D.int⟩
  letI : SMul Int α := ⟨fun n a => D.mu (D.int n) a⟩
  letI r : Lean.Grind.Ring α := {
    neg_add_cancel := D.ng_ad
    sub_eq_add_neg := D.sb_ng
    neg_zsmul := fun i a => by show D.mu (D.int (-i)) a = D.ng (D.mu (D.int i) a); rw [D.int_neg, D.mu_ng]
    zsmul_natCast_eq_nsmul := fun _ _ => rfl
    intCast_ofNat := fun _ => rfl
    intCast_neg := D.int_neg }
  { mul_comm := D.mu_c }
end RingD
/-- forms of a prime as a ring -/
structure Fm (P : {p : Int // p ∈ primesL}) where
  v : List Int
  ok : Form P.1 v
theorem Fm.ext {P : {p : Int // p ∈ primesL}} {a b : Fm P} (h : a.v = b.v) : a = b := by
  cases a; cases b; cases h; rfl
theorem Prp {P : {p : Int // p ∈ primesL}} : 2 ≤ P.1 ∧ P.1 ≤ 97 := pr_big P.2
theorem Prp0 {P : {p : Int // p ∈ primesL}} : 0 < P.1 := by have := Prp (P := P); omega
theorem difR_neg {p : Int} (hp : 0 < p) {f g : List Int} (hf : Form p f) : difR p f g = sumR p f (difR p [] g) := by
  have e : sumR p (difR p f g) g = sumR p (sumR p f (difR p [] g)) g := by
    rw [dif_sum hp g hf, sumR_assoc hp, dif_sum hp g (nil_form p), sumR_nil hf]
  have a : difR p (sumR p (difR p f g) g) g = difR p (sumR p (sumR p f (difR p [] g)) g) g := by rw [e]
  rw [sum_dif hp g (difR_form hp _ _), sum_dif hp g (sumR_form hp _ _)] at a
  exact a
def fmD (P : {p : Int // p ∈ primesL}) : RingD (Fm P) where
  z := ⟨[], nil_form _⟩
  o := ⟨[1], one_form Prp.1⟩
  ad a b := ⟨sumR P.1 a.v b.v, sumR_form Prp0 _ _⟩
  mu a b := ⟨mulL P.1 a.v b.v, mulL_form Prp0 _ _⟩
  ng a := ⟨difR P.1 [] a.v, difR_form Prp0 _ _⟩
  sb a b := ⟨difR P.1 a.v b.v, difR_form Prp0 _ _⟩
  ad_z a := Fm.ext (sumR_nil a.ok)
  ad_c a b := Fm.ext (sumR_comm Prp0 _ _)
  ad_a a b c := Fm.ext (sumR_assoc Prp0 _ _ _)
  mu_a a b c := Fm.ext (mulL_assoc Prp0 _ _ _)
  mu_c a b := Fm.ext (mulL_comm _ _ _)
  mu_o a := Fm.ext (mulL_one a.ok)
  mu_z a := Fm.ext (mulL_nil_left P.1 a.v)
  dist a b c := Fm.ext (mulL_add_left Prp0 _ _ _)
  ng_ad a := Fm.ext (dif_sum Prp0 a.v (nil_form _))
  sb_ng a b := Fm.ext (difR_neg Prp0 a.ok)
instance fmRing (P : {p : Int // p ∈ primesL}) : Lean.Grind.CommRing (Fm P) := (fmD P).ring
theorem fm_add {P : {p : Int // p ∈ primesL}} (a b : Fm P) : (a + b).v = sumR P.1 a.v b.v := rfl
theorem fm_mul {P : {p : Int // p ∈ primesL}} (a b : Fm P) : (a * b).v = mulL P.1 a.v b.v := rfl
theorem fm_sub {P : {p : Int // p ∈ primesL}} (a b : Fm P) : (a - b).v = difR P.1 a.v b.v := rfl
theorem fm_neg {P : {p : Int // p ∈ primesL}} (a : Fm P) : (-a).v = difR P.1 [] a.v := rfl
theorem fm_zero {P : {p : Int // p ∈ primesL}} : (0 : Fm P).v = [] := rfl
theorem fm_one {P : {p : Int // p ∈ primesL}} : (1 : Fm P).v = [1] := rfl
theorem fm_dom {P : {p : Int // p ∈ primesL}} {a b : Fm P} (h : a * b = 0) (hb : b ≠ 0) : a = 0 := by
  apply Fm.ext
  show a.v = []
  apply Decidable.byContradiction
  intro na
  have nb : b.v ≠ [] := fun e => hb (Fm.ext e)
  have l := mulL_full P.2 a.ok b.ok na nb
  have e : mulL P.1 a.v b.v = [] := congrArg Fm.v h
  rw [e] at l
  have := List.length_pos_iff.mpr na
  have := List.length_pos_iff.mpr nb
  simp at l
  omega
theorem fm_cancel {P : {p : Int // p ∈ primesL}} {a b c : Fm P} (h : a * c = b * c) (hc : c ≠ 0) : a = b := by
  have e : (a - b) * c = 0 := by grind
  have := fm_dom e hc
  grind
example {P : {p : Int // p ∈ primesL}} (a b c : Fm P) : (a + b) * (a - b) = a * a - b * b := by grind
end LK

end
section
set_option Elab.async false
set_option linter.all false
set_option maxRecDepth 100000
set_option maxHeartbeats 1000000
namespace LK
open FT
/-! forms that differ by a multiple of g -/
section
variable {P : {p : Int // p ∈ primesL}}
def Cg (g a b : Fm P) : Prop := ∃ c, a = b + c * g
theorem Cg.refl (g a : Fm P) : Cg g a a := ⟨0, by grind⟩
theorem Cg.symm {g a b : Fm P} (h : Cg g a b) : Cg g b a := by
  obtain ⟨c, e⟩ := h
  exact ⟨-c, by grind⟩
theorem Cg.trans {g a b c : Fm P} (h : Cg g a b) (h2 : Cg g b c) : Cg g a c := by
  obtain ⟨x, e⟩ := h
  obtain ⟨y, e2⟩ := h2
  exact ⟨x + y, by grind⟩
theorem Cg.mul {g a b c d : Fm P} (h : Cg g a b) (h2 : Cg g c d) : Cg g (a * c) (b * d) := by
  obtain ⟨x, e⟩ := h
  obtain ⟨y, e2⟩ := h2
  refine ⟨b * y + x * d + x * y * g, ?_⟩
  subst e e2
  grind
theorem pw_succ (a : Fm P) (n : Nat) : a ^ (n + 1) = a ^ n * a := rfl
theorem pw_zero (a : Fm P) : a ^ 0 = 1 := rfl
theorem Cg.pow {g a b : Fm P} (h : Cg g a b) : ∀ n : Nat, Cg g (a ^ n) (b ^ n)
  | 0 => Cg.refl g _
  | n + 1 => by rw [pw_succ, pw_succ]; exact (h.pow n).mul h
theorem mul_as (a b c : Fm P) : a * b * c = a * (b * c) := by grind
theorem mul_on (a : Fm P) : a * 1 = a := by grind
theorem on_mul (a : Fm P) : 1 * a = a := by grind
theorem add_cm (a b : Fm P) : a + b = b + a := by grind
theorem mul_cm (a b : Fm P) : a * b = b * a := by grind
theorem pw_add (a : Fm P) (m : Nat) : ∀ n : Nat, a ^ (m + n) = a ^ m * a ^ n
  | 0 => by rw [pw_zero, mul_on]; rfl
  | n + 1 => by rw [← Nat.add_assoc, pw_succ, pw_add a m n, pw_succ, mul_as]
theorem pw_mul (a : Fm P) (m : Nat) : ∀ n : Nat, a ^ (m * n) = (a ^ m) ^ n
  | 0 => rfl
  | n + 1 => by rw [Nat.mul_succ, pw_add, pw_mul a m n, pw_succ]
theorem pw_two (a : Fm P) (n : Nat) : (a * a) ^ n = a ^ (2 * n) := by
  rw [pw_mul]
  have e : a ^ 2 = a * a := by
    show (1 * a) * a = _
    rw [on_mul]
  rw [e]
theorem pw_nil : ∀ n : Nat, 0 < n → (0 : Fm P) ^ n = 0
  | n + 1, _ => by rw [pw_succ]; grind
/-- the rest is one only -/
theorem Cg.uniq {g a b : Fm P} (ra : a.v.length < g.v.length) (rb : b.v.length < g.v.length) (h : Cg g a b) : a = b := by
  obtain ⟨c, e⟩ := h
  have ng : g.v ≠ [] := fun e => by rw [e] at ra; simp at ra
  have e2 : (0 : Fm P) * g + a = c * g + b := by grind
  have e3 : sumR P.1 (mulL P.1 (0 : Fm P).v g.v) a.v = sumR P.1 (mulL P.1 c.v g.v) b.v := congrArg Fm.v e2
  exact Fm.ext (div_unique P.2 g.ok ng (0 : Fm P).ok a.ok c.ok b.ok ra rb e3).2
theorem DivOk.cg {f g : Fm P} {q r : List Int} (d : DivOk P.1 f.v g.v q r) : ∃ q' r' : Fm P, q'.v = q ∧ r'.v = r ∧ r'.v.length < g.v.length ∧ Cg g f r' := by
  refine ⟨⟨q, d.fq⟩, ⟨r, d.fr⟩, rfl, rfl, d.lt, ⟨q, d.fq⟩, ?_⟩
  have e : f = (⟨q, d.fq⟩ : Fm P) * g + ⟨r, d.fr⟩ := Fm.ext d.eq.symm
  exact e.trans (add_cm _ _)
/-! values -/
theorem val_cg {g a b : Fm P} {c : Int} (h : Cg g a b) (hg : valL P.1 c g.v = 0) : valL P.1 c a.v = valL P.1 c b.v := by
  obtain ⟨x, e⟩ := h
  subst e
  have e1 : (b + x * g).v = trimZ (sumL P.1 b.v (mulL P.1 x.v g.v)) := rfl
  rw [e1, val_sum, val_mul, hg, Int.mul_zero, Int.zero_emod, Int.add_zero, val_ev, mod_mod]
theorem val_pw (a : Fm P) (c : Int) : ∀ n : Nat, valL P.1 c (a ^ n).v = (valL P.1 c a.v) ^ n % P.1
  | 0 => by
    show valL P.1 c [1] = _
    rw [val_ev]
    simp [evP]
  | n + 1 => by
    have e : (a ^ (n + 1)).v = mulL P.1 (a ^ n).v a.v := rfl
    rw [e, val_mul, val_pw a c n, mod_mul, Int.pow_succ]
end
end LK

end
section
set_option Elab.async false
set_option linter.all false
set_option maxRecDepth 100000
set_option maxHeartbeats 1000000
namespace LK
open FT
/-! the program's remainder of a power -/
theorem ix_ok {Φ : Nat → List T → CR} {a b : E} {ρ ρ1 ρ2 : Env8} {x y : Opd} {t u v : T} (h1 : opdOf a (evalE Φ a) ρ = .ok x ρ1) (h2 : opdOf b (evalE Φ b) ρ1 = .ok y ρ2) (hx : x.get ρ2 = some t) (hy : y.get ρ2 = some u) (h : ixT t u = some v) : evalE Φ (.ix a b) ρ = .ok v ρ2 := by
  simp only [evalE, h1, h2, R.bind, op2, hx, hy, h, ofO]
theorem ix_ee {Φ : Nat → List T → CR} {a b : E} {ρ ρ1 ρ2 : Env8} {t u v : T} (nv : ∀ i, a ≠ .var i) (h1 : evalE Φ a ρ = .ok t ρ1) (nb : ∀ i, b ≠ .var i) (h2 : evalE Φ b ρ1 = .ok u ρ2) (h : ixT t u = some v) : evalE Φ (.ix a b) ρ = .ok v ρ2 :=
  ix_ok (opd_nv nv h1) (opd_nv nb h2) rfl rfl h
theorem call3 {Φ : Nat → List T → CR} {f : Nat} {e1 e2 e3 : E} {ρ ρ1 ρ2 ρ3 : Env8} {t1 t2 t3 u : T} (h1 : evalE Φ e1 ρ = .ok t1 ρ1) (h2 : evalE Φ e2 ρ1 = .ok t2 ρ2) (h3 : evalE Φ e3 ρ2 = .ok t3 ρ3) (h : Φ f [fz t1, fz t2, fz t3] = .ok u []) : evalE Φ (.call f (.v e1 (.v e2 (.v e3 .nil)))) ρ = .ok u ρ3 := by
  simp only [evalE, evalAs, h1, h2, h3, R.bind, doCall, argsOf, refsOf, nodupN, Option.map, if_true, h, setAll]
theorem run_exc {Φ : Nat → List T → CR} {fn : Fn} {args bs : List T} {x : Ex8} {ρ : Env8} (ρ0 : Env8) (hl : args.length = fn.np) (h0 : args.map some ++ List.replicate (fn.N.length - args.length) none = ρ0) (h : execSs Φ fn.body ρ0 = .exc x ρ) (hb : backs fn.io ρ = some bs) : runFn Φ fn args = .exc x bs := by
  unfold runFn
  rw [if_pos hl, h0, h]
  dsimp only
  rw [hb]
structure FzT (t : T) : Prop where
  a : isFz t = true
  b : fz t = t
theorem fz_f (f : List Int) : FzT (fT f) := ⟨isFz_fT f, by simp only [fz, fzs_zs]⟩
theorem fz_i (i : Int) : FzT (.int i) := ⟨rfl, rfl⟩
theorem div_fm (n : Nat) {P : {p : Int // p ∈ primesL}} (f g : Fm P) (ng : g.v ≠ []) (lf : f.v.length ≤ 900) (lg : g.v.length ≤ 900) : ∃ q r : Fm P, callN fns (n + 2) 3 [.int P.1, fT f.v, fT g.v] = .ok (.tup [fT q.v, fT r.v]) [] ∧ r.v.length < g.v.length ∧ Cg g f r := by
  obtain ⟨q, r, e, d, _⟩ := div_spec n P.2 f.ok g.ok ng lf lg
  obtain ⟨q', r', rfl, rfl, h1, h2⟩ := d.cg
  exact ⟨q', r', e, h1, h2⟩
/-- by the zero form: refused -/
theorem div_zero (n : Nat) (p : Int) (f : List Int) : callN fns (n + 3) 3 [.int p, fT f, fT []] = .exc ⟨0, ["code"], [.str "ZeroForm"]⟩ [] := by
  have l := lvOk n
  show runFn (callN fns (n + 2)) f3 [.int p, fT f, fT []] = _
  generalize callN fns (n + 2) = Φ at *
  have c0 : evalC Φ dv_0c [some (.int p), some (fT f), some (fT []), none, none, none, none, none, none, none, none, none] = .ok true [some (.int p), some (fT f), some (fT []), none, none, none, none, none, none, none, none, none] := by
    simp [doCallW, argsW, oneL, pureT, pureTs, execSs, execS, evalC, evalE, evalEs, evalAs, evalOe, evalOc, evalIt, opdOf, readV, slot, Opd.get, ofR, ofO, R.bind, op1, op2, bindG, backs, doCall, argsOf, refsOf, nodupN, setAll, isFz, isFzs, fz, fzs, fzI, kill, putBack, keepF, FT.truT]
  have l' : Φ 24 [] = .ok .non [] := l
  have e0 : execSs Φ dv [some (.int p), some (fT f), some (fT []), none, none, none, none, none, none, none, none, none] = .exc ⟨0, ["code"], [.str "ZeroForm"]⟩ [some (.int p), some (fT f), some (fT []), none, none, none, none, none, none, none, none, none] := by
    simp only [execSs, execS, c0, ofR, if_true, l', raiseO]
  exact run_exc _ rfl rfl e0 rfl
abbrev pr_0 : S := (.asg (.nm 4) (.ix (.call 3 (.v (.var 0) (.v (.tup (.cons (.int 1) .nil)) (.v (.var 3) .nil)))) (.int 1)))
abbrev pr_1 : S := (.asg (.nm 5) (.ix (.call 3 (.v (.var 0) (.v (.var 1) (.v (.var 3) .nil)))) (.int 1)))
abbrev pr_2 : S := (.asg (.nm 6) (.var 2))
abbrev pr_3b_0t_0 : S := (.asg (.nm 4) (.ix (.call 3 (.v (.var 0) (.v (.call 2 (.v (.var 0) (.v (.var 4) (.v (.var 5) .nil)))) (.v (.var 3) .nil)))) (.int 1)))
abbrev pr_3b_0t : Ss := (.cons pr_3b_0t_0 .nil)
abbrev pr_3b_0e : Ss := .nil
abbrev pr_3b_0c : C := (.cmp .Eq (.bin .Mod (.var 6) (.int 2)) (.int 1))
abbrev pr_3b_0 : S := (.ifs pr_3b_0c pr_3b_0t pr_3b_0e)
abbrev pr_3b_1 : S := (.asg (.nm 6) (.bin .FloorDiv (.var 6) (.int 2)))
abbrev pr_3b_2t_0 : S := (.asg (.nm 5) (.ix (.call 3 (.v (.var 0) (.v (.call 2 (.v (.var 0) (.v (.var 5) (.v (.var 5) .nil)))) (.v (.var 3) .nil)))) (.int 1)))
abbrev pr_3b_2t : Ss := (.cons pr_3b_2t_0 .nil)
abbrev pr_3b_2e : Ss := .nil
abbrev pr_3b_2c : C := (.cmp .Gt (.var 6) (.int 0))
abbrev pr_3b_2 : S := (.ifs pr_3b_2c pr_3b_2t pr_3b_2e)
abbrev pr_3b : Ss := (.cons pr_3b_0 (.cons pr_3b_1 (.cons pr_3b_2 .nil)))
abbrev pr_3 : S := (.whil (.cmp .Gt (.var 6) (.int 0)) pr_3b [])
abbrev pr_4 : S := (.ret (.var 4))
abbrev pr : Ss := (.cons pr_0 (.cons pr_1 (.cons pr_2 (.cons pr_3 (.cons pr_4 .nil)))))
abbrev pE (p : Int) (f : List Int) (m : Nat) (g r s : List Int) (k : Nat) : Env8 := [some (.int p), some (fT f), some (.int (m : Nat)), some (fT g), some (fT r), some (fT s), some (.int (k : Nat))]
theorem ix_one {x y : List Int} : ixT (.tup [fT x, fT y]) (.int 1) = some (fT y) := by
  have a0 : L2.atI [fT x, fT y] 1 = some (fT y) := rfl
  simp only [ixT, a0, pickT, isFz_fT, if_true]
theorem rest_of {Φ : Nat → List T → CR} {e : E} {ρ : Env8} {p : Int} {f g q r : List Int} (he : evalE Φ e ρ = .ok (fT f) ρ) (d : Φ 3 [.int p, fT f, fT g] = .ok (.tup [fT q, fT r]) []) (h0 : slot ρ 0 = some (.int p)) (h3 : slot ρ 3 = some (fT g)) : evalE Φ (.ix (.call 3 (.v (.var 0) (.v e (.v (.var 3) .nil)))) (.int 1)) ρ = .ok (fT r) ρ := by
  have v0 : evalE Φ (.var 0) ρ = .ok (.int p) ρ := var_ok h0 rfl
  have v3 : evalE Φ (.var 3) ρ = .ok (fT g) ρ := var_ok h3 (isFz_fT _)
  have e2 : evalE Φ (.call 3 (.v (.var 0) (.v e (.v (.var 3) .nil)))) ρ = .ok (.tup [fT q, fT r]) ρ := call3 v0 he v3 (by rw [(fz_i _).b, (fz_f _).b, (fz_f _).b]; exact d)
  exact ix_ee (fun i h => by cases h) e2 (fun i h => by cases h) rfl ix_one
section
variable {P : {p : Int // p ∈ primesL}} {Φ : Nat → List T → CR} {g : Fm P} (lg : g.v.length ≤ 200)
  (hdiv : ∀ f : Fm P, f.v.length ≤ 900 → ∃ q r : Fm P, Φ 3 [.int P.1, fT f.v, fT g.v] = .ok (.tup [fT q.v, fT r.v]) [] ∧ r.v.length < g.v.length ∧ Cg g f r)
  (hmul : ∀ a b : Fm P, a.v.length ≤ 300 → b.v.length ≤ 300 → Φ 2 [.int P.1, fT a.v, fT b.v] = .ok (fT (a * b).v) [])
include lg hdiv hmul
/-- the rest of a product -/
theorem pr_step (a b : Fm P) (la : a.v.length < g.v.length) (lb : b.v.length < g.v.length) (i j : Nat) (ρ : Env8) (h0 : slot ρ 0 = some (.int P.1)) (hi : slot ρ i = some (fT a.v)) (hj : slot ρ j = some (fT b.v)) (h3 : slot ρ 3 = some (fT g.v)) : ∃ r : Fm P, r.v.length < g.v.length ∧ Cg g (a * b) r ∧
    evalE Φ (.ix (.call 3 (.v (.var 0) (.v (.call 2 (.v (.var 0) (.v (.var i) (.v (.var j) .nil)))) (.v (.var 3) .nil)))) (.int 1)) ρ = .ok (fT r.v) ρ := by
  have ml := mulL_len P.1 a.v b.v
  have m := hmul a b (by omega) (by omega)
  obtain ⟨q, r, e, lr, c⟩ := hdiv (a * b) (by show (mulL P.1 a.v b.v).length ≤ 900; omega)
  refine ⟨r, lr, c, ?_⟩
  have e1 : evalE Φ (.call 2 (.v (.var 0) (.v (.var i) (.v (.var j) .nil)))) ρ = .ok (fT (a * b).v) ρ := call3 (var_ok h0 rfl) (var_ok hi (isFz_fT _)) (var_ok hj (isFz_fT _)) (by rw [(fz_i _).b, (fz_f _).b, (fz_f _).b]; exact m)
  have e2 : evalE Φ (.call 3 (.v (.var 0) (.v (.call 2 (.v (.var 0) (.v (.var i) (.v (.var j) .nil)))) (.v (.var 3) .nil)))) ρ = .ok (.tup [fT q.v, fT r.v]) ρ := call3 (var_ok h0 rfl) e1 (var_ok h3 (isFz_fT _)) (by rw [(fz_i _).b, (fz_f _).b, (fz_f _).b]; exact e)
  exact ix_ee (fun i h => by cases h) e2 (fun i h => by cases h) rfl ix_one
theorem pr_turn (f : List Int) (m : Nat) (r s : Fm P) (k : Nat) (hk : 0 < k) (lr : r.v.length < g.v.length) (ls : s.v.length < g.v.length) : ∃ r' s' : Fm P, r'.v.length < g.v.length ∧ s'.v.length < g.v.length ∧ Cg g (r * s ^ k) (r' * s' ^ (k / 2)) ∧
    execSs Φ pr_3b (pE P.1 f m g.v r.v s.v k) = .nx (pE P.1 f m g.v r'.v s'.v (k / 2)) := by
  have hr : ∃ r' : Fm P, r'.v.length < g.v.length ∧ Cg g (r * s ^ (k % 2)) r' ∧ execS Φ pr_3b_0 (pE P.1 f m g.v r.v s.v k) = .nx (pE P.1 f m g.v r'.v s.v k) := by
    have c : evalC Φ pr_3b_0c (pE P.1 f m g.v r.v s.v k) = .ok (decide (k % 2 = 1)) (pE P.1 f m g.v r.v s.v k) := by
      have e : decide (((k : Nat) : Int) % 2 = 1) = decide (k % 2 = 1) := by
        apply decide_eq_decide.mpr
        omega
      rw [← e]
      simp [doCallW, argsW, oneL, pureT, pureTs, execSs, execS, evalC, evalE, evalEs, evalAs, evalOe, evalOc, evalIt, opdOf, readV, slot, Opd.get, ofR, ofO, R.bind, op1, op2, bindG, backs, doCall, argsOf, refsOf, nodupN, setAll, isFz, isFzs, fz, fzs, fzI, kill, putBack, keepF, FT.binT, FT.modT, FT.cmpT]
    by_cases q : k % 2 = 1
    · rw [decide_eq_true q] at c
      obtain ⟨r', l', cg, e⟩ := pr_step lg hdiv hmul r s lr ls 4 5 (pE P.1 f m g.v r.v s.v k) rfl rfl rfl rfl
      refine ⟨r', l', ?_, seq_if c ?_⟩
      · rw [q]
        have : s ^ 1 = s := by show 1 * s = s; rw [on_mul]
        rw [this]
        exact cg
      · rw [if_pos rfl]
        exact seq_nx _ (asg_nm e (by show 4 < 7; omega)) rfl
    · rw [decide_eq_false q] at c
      have z : k % 2 = 0 := by omega
      exact ⟨r, lr, by rw [z, pw_zero, mul_on]; exact Cg.refl g r, if_no c⟩
  obtain ⟨r', l', cr, e0⟩ := hr
  have e1 : execS Φ pr_3b_1 (pE P.1 f m g.v r'.v s.v k) = .nx (pE P.1 f m g.v r'.v s.v (k / 2)) := by
    have : ((k / 2 : Nat) : Int) = (k : Int) / 2 := by omega
    simp only [pE]
    rw [this]
    have l2 : Nat.log2 2 < 9000 := by decide
    simp [doCallW, argsW, oneL, pureT, pureTs, execSs, execS, evalC, evalE, evalEs, evalAs, evalOe, evalOc, evalIt, opdOf, readV, slot, Opd.get, ofR, ofO, R.bind, op1, op2, bindG, backs, doCall, argsOf, refsOf, nodupN, setAll, isFz, isFzs, fz, fzs, fzI, kill, putBack, keepF, FT.binT, FT.fdvT, l2]
  have hs : ∃ s' : Fm P, s'.v.length < g.v.length ∧ (Cg g (s ^ (2 * (k / 2))) (s' ^ (k / 2))) ∧ execS Φ pr_3b_2 (pE P.1 f m g.v r'.v s.v (k / 2)) = .nx (pE P.1 f m g.v r'.v s'.v (k / 2)) := by
    have c : evalC Φ pr_3b_2c (pE P.1 f m g.v r'.v s.v (k / 2)) = .ok (decide (0 < k / 2)) (pE P.1 f m g.v r'.v s.v (k / 2)) := by
      refine ccmp_ok (x := .sl 6) (y := .vl (.int 0)) (t := .int ((k / 2 : Nat) : Int)) (u := .int 0) (opd_var rfl) rfl rfl rfl ?_
      show some (decide ((0 : Int) < ((k / 2 : Nat) : Int))) = _
      congr 1
      apply decide_eq_decide.mpr
      omega
    by_cases q : 0 < k / 2
    · rw [decide_eq_true q] at c
      obtain ⟨s', l2, cg, e⟩ := pr_step lg hdiv hmul s s ls ls 5 5 (pE P.1 f m g.v r'.v s.v (k / 2)) rfl rfl rfl rfl
      refine ⟨s', l2, ?_, seq_if c ?_⟩
      · rw [← pw_two]
        exact cg.pow _
      · rw [if_pos rfl]
        exact seq_nx _ (asg_nm e (by show 5 < 7; omega)) rfl
    · rw [decide_eq_false q] at c
      have z : k / 2 = 0 := by omega
      exact ⟨s, ls, by rw [z]; exact Cg.refl g _, if_no c⟩
  obtain ⟨s', l2, cs, e2⟩ := hs
  refine ⟨r', s', l', l2, ?_, seq_nx _ e0 (seq_nx _ e1 (seq_nx _ e2 rfl))⟩
  have ek : k = k % 2 + 2 * (k / 2) := by omega
  have : r * s ^ k = (r * s ^ (k % 2)) * s ^ (2 * (k / 2)) := by
    conv => lhs; rw [ek]
    rw [pw_add, mul_as]
  rw [this]
  exact cr.mul cs
theorem pr_loop (f : List Int) (m : Nat) : ∀ (j fuel : Nat) (r s : Fm P) (k : Nat), k < 2 ^ j → j < fuel → r.v.length < g.v.length → s.v.length < g.v.length → ∃ r' s' : Fm P, r'.v.length < g.v.length ∧ Cg g (r * s ^ k) r' ∧
    whilL (evalC Φ (.cmp .Gt (.var 6) (.int 0))) (execSs Φ pr_3b) [] fuel (pE P.1 f m g.v r.v s.v k) = .nx (pE P.1 f m g.v r'.v s'.v 0)
  | j, 0, _, _, _, _, h, _, _ => by omega
  | j, fuel + 1, r, s, k, hk, hf, lr, ls => by
    have c : evalC Φ (.cmp .Gt (.var 6) (.int 0)) (pE P.1 f m g.v r.v s.v k) = .ok (decide (0 < k)) (pE P.1 f m g.v r.v s.v k) := by
      refine ccmp_ok (x := .sl 6) (y := .vl (.int 0)) (t := .int ((k : Nat) : Int)) (u := .int 0) (opd_var rfl) rfl rfl rfl ?_
      show some (decide ((0 : Int) < ((k : Nat) : Int))) = _
      congr 1
      apply decide_eq_decide.mpr
      omega
    by_cases q : 0 < k
    · rw [decide_eq_true q] at c
      cases j with
      | zero => simp at hk; omega
      | succ j =>
        obtain ⟨r1, s1, l1, l2, cg, e⟩ := pr_turn lg hdiv hmul f m r s k q lr ls
        have hk2 : k / 2 < 2 ^ j := by
          have : 2 ^ (j + 1) = 2 * 2 ^ j := by rw [Nat.pow_succ, Nat.mul_comm]
          omega
        obtain ⟨r2, s2, l3, cg2, e2⟩ := pr_loop f m j fuel r1 s1 (k / 2) hk2 (by omega) l1 l2
        refine ⟨r2, s2, l3, cg.trans cg2, ?_⟩
        simp only [whilL, c, e]
        exact e2
    · rw [decide_eq_false q] at c
      have z : k = 0 := by omega
      subst z
      refine ⟨r, s, lr, by rw [pw_zero, mul_on]; exact Cg.refl g r, ?_⟩
      simp only [whilL, c]
theorem pr_run (f : Fm P) (lf : f.v.length ≤ 900) (m : Nat) (hm : m < 2 ^ 128) : ∃ (r s : Fm P), r.v.length < g.v.length ∧ Cg g (f ^ m) r ∧ execSs Φ pr [some (.int P.1), some (fT f.v), some (.int (m : Nat)), some (fT g.v), none, none, none] = .rt (fT r.v) (pE P.1 f.v m g.v r.v s.v 0) := by
  have l1 : 1 ≤ PySem.sizeLine := by rw [line_big]; omega
  obtain ⟨q1, r1, d1, b1, c1⟩ := hdiv 1 (by show ([1] : List Int).length ≤ 900; simp)
  obtain ⟨q2, r2, d2, b2, c2⟩ := hdiv f lf
  have one : ∀ ρ : Env8, evalE Φ (.tup (.cons (.int 1) .nil)) ρ = .ok (fT [1]) ρ := fun ρ => by simp [doCallW, argsW, oneL, pureT, pureTs, execSs, execS, evalC, evalE, evalEs, evalAs, evalOe, evalOc, evalIt, opdOf, readV, slot, Opd.get, ofR, ofO, R.bind, op1, op2, bindG, backs, doCall, argsOf, refsOf, nodupN, setAll, isFz, isFzs, fz, fzs, fzI, kill, putBack, keepF, l1]
  have s0 : execS Φ pr_0 [some (.int P.1), some (fT f.v), some (.int (m : Nat)), some (fT g.v), none, none, none] = .nx [some (.int P.1), some (fT f.v), some (.int (m : Nat)), some (fT g.v), some (fT r1.v), none, none] :=
    asg_nm (rest_of (one _) d1 rfl rfl) (by show 4 < 7; omega)
  have s1 : execS Φ pr_1 [some (.int P.1), some (fT f.v), some (.int (m : Nat)), some (fT g.v), some (fT r1.v), none, none] = .nx [some (.int P.1), some (fT f.v), some (.int (m : Nat)), some (fT g.v), some (fT r1.v), some (fT r2.v), none] :=
    asg_nm (rest_of (f := f.v) (var_ok rfl (isFz_fT _)) d2 rfl rfl) (by show 5 < 7; omega)
  have s2 : execS Φ pr_2 [some (.int P.1), some (fT f.v), some (.int (m : Nat)), some (fT g.v), some (fT r1.v), some (fT r2.v), none] = .nx (pE P.1 f.v m g.v r1.v r2.v m) := asg_nm (var_ok rfl rfl) (by show 6 < 7; omega)
  obtain ⟨r, s, lr, cg, e⟩ := pr_loop lg hdiv hmul f.v m 128 FUEL r1 r2 m hm (fuel_big 128 (by omega)) b1 b2
  refine ⟨r, s, lr, ?_, seq_nx _ s0 (seq_nx _ s1 (seq_nx _ s2 (seq_nx _ e (seq_rt (ret_eval (var_ok rfl (isFz_fT _)))))))⟩
  have h1 := c1.mul (c2.pow m)
  rw [on_mul] at h1
  exact h1.trans cg
end
theorem power_spec (n : Nat) {P : {p : Int // p ∈ primesL}} (f g : Fm P) (ng : g.v ≠ []) (lf : f.v.length ≤ 900) (lg : g.v.length ≤ 200) (m : Nat) (hm : m < 2 ^ 128) : ∃ r : Fm P, callN fns (n + 3) 4 [.int P.1, fT f.v, .int (m : Nat), fT g.v] = .ok (fT r.v) [] ∧ r.v.length < g.v.length ∧ Cg g (f ^ m) r := by
  obtain ⟨r, s, lr, cg, e⟩ := pr_run (Φ := callN fns (n + 2)) (g := g) lg (fun f lf => div_fm n f g ng lf (by omega)) (fun a b la lb => mult_form P.2 a.ok b.ok la lb n) f lf m hm
  refine ⟨r, ?_, lr, cg⟩
  show runFn (callN fns (n + 2)) f4 [.int P.1, fT f.v, .int (m : Nat), fT g.v] = _
  generalize callN fns (n + 2) = Φ at *
  exact run_of _ rfl rfl e rfl
theorem power_zero (n : Nat) (p : Int) (f : List Int) (m : Int) : callN fns (n + 4) 4 [.int p, fT f, .int m, fT []] = .exc ⟨0, ["code"], [.str "ZeroForm"]⟩ [] := by
  have d := div_zero n p [1]
  show runFn (callN fns (n + 3)) f4 [.int p, fT f, .int m, fT []] = _
  generalize callN fns (n + 3) = Φ at *
  have l1 : 1 ≤ PySem.sizeLine := by rw [line_big]; omega
  have one : ∀ ρ : Env8, evalE Φ (.tup (.cons (.int 1) .nil)) ρ = .ok (fT [1]) ρ := fun ρ => by simp [doCallW, argsW, oneL, pureT, pureTs, execSs, execS, evalC, evalE, evalEs, evalAs, evalOe, evalOc, evalIt, opdOf, readV, slot, Opd.get, ofR, ofO, R.bind, op1, op2, bindG, backs, doCall, argsOf, refsOf, nodupN, setAll, isFz, isFzs, fz, fzs, fzI, kill, putBack, keepF, l1]
  have ec : evalE Φ (.call 3 (.v (.var 0) (.v (.tup (.cons (.int 1) .nil)) (.v (.var 3) .nil)))) [some (.int p), some (fT f), some (.int m), some (fT []), none, none, none] = .exc ⟨0, ["code"], [.str "ZeroForm"]⟩ [some (.int p), some (fT f), some (.int m), some (fT []), none, none, none] := by
    have v0 : evalE Φ (.var 0) [some (.int p), some (fT f), some (.int m), some (fT []), none, none, none] = .ok (.int p) [some (.int p), some (fT f), some (.int m), some (fT []), none, none, none] := var_ok rfl rfl
    have v3 : evalE Φ (.var 3) [some (.int p), some (fT f), some (.int m), some (fT []), none, none, none] = .ok (fT []) [some (.int p), some (fT f), some (.int m), some (fT []), none, none, none] := var_ok rfl rfl
    have a := one [some (.int p), some (fT f), some (.int m), some (fT []), none, none, none]
    have ea : evalAs Φ (.v (.var 0) (.v (.tup (.cons (.int 1) .nil)) (.v (.var 3) .nil))) [some (.int p), some (fT f), some (.int m), some (fT []), none, none, none] = .ok [.vl (.int p), .vl (fT [1]), .vl (fT [])] [some (.int p), some (fT f), some (.int m), some (fT []), none, none, none] := by
      simp only [evalAs, v0, a, v3, R.bind]
    have d' : Φ 3 [.int p, fT [1], fT []] = .exc ⟨0, ["code"], [.str "ZeroForm"]⟩ [] := d
    have z : argsOf [.vl (.int p), .vl (fT [1]), .vl (fT [])] [some (.int p), some (fT f), some (.int m), some (fT []), none, none, none] = some [.int p, fT [1], fT []] := by
      simp only [argsOf, Option.map, (fz_i p).b, (fz_f [1]).b, (fz_f []).b]
    rw [show evalE Φ (.call 3 (.v (.var 0) (.v (.tup (.cons (.int 1) .nil)) (.v (.var 3) .nil)))) = fun ρ => (evalAs Φ (.v (.var 0) (.v (.tup (.cons (.int 1) .nil)) (.v (.var 3) .nil))) ρ).bind fun xs ρ => doCall Φ 3 xs some ρ from rfl]
    simp only [ea, R.bind, doCall, z, refsOf, nodupN, if_true, d', setAll]
  have es : execS Φ pr_0 [some (.int p), some (fT f), some (.int m), some (fT []), none, none, none] = .exc ⟨0, ["code"], [.str "ZeroForm"]⟩ [some (.int p), some (fT f), some (.int m), some (fT []), none, none, none] := by
    have ei : evalE Φ (.ix (.call 3 (.v (.var 0) (.v (.tup (.cons (.int 1) .nil)) (.v (.var 3) .nil)))) (.int 1)) [some (.int p), some (fT f), some (.int m), some (fT []), none, none, none] = .exc ⟨0, ["code"], [.str "ZeroForm"]⟩ [some (.int p), some (fT f), some (.int m), some (fT []), none, none, none] := by
      rw [show evalE Φ (.ix (.call 3 (.v (.var 0) (.v (.tup (.cons (.int 1) .nil)) (.v (.var 3) .nil)))) (.int 1)) = fun ρ => (opdOf (.call 3 (.v (.var 0) (.v (.tup (.cons (.int 1) .nil)) (.v (.var 3) .nil)))) (evalE Φ (.call 3 (.v (.var 0) (.v (.tup (.cons (.int 1) .nil)) (.v (.var 3) .nil))))) ρ).bind fun x ρ => (opdOf (.int 1) (evalE Φ (.int 1)) ρ).bind fun y ρ => op2 ixT x y ρ from rfl]
      simp only [opdOf, ec, R.bind]
    show ofR (evalE Φ (.ix (.call 3 (.v (.var 0) (.v (.tup (.cons (.int 1) .nil)) (.v (.var 3) .nil)))) (.int 1)) _) _ = _
    rw [ei]
    rfl
  have e0 : execSs Φ pr [some (.int p), some (fT f), some (.int m), some (fT []), none, none, none] = .exc ⟨0, ["code"], [.str "ZeroForm"]⟩ [some (.int p), some (fT f), some (.int m), some (fT []), none, none, none] := by
    simp only [execSs, es]
  exact run_exc _ rfl rfl e0 rfl
end LK

end
section
set_option Elab.async false
set_option linter.all false
set_option maxRecDepth 100000
set_option maxHeartbeats 1000000
namespace LK
open FT
/-! the law's call, an error caught -/
abbrev lpB : Ss := (.cons (.ifs (.tr (.var 4)) (.cons (.ret (.callK 0 4 [.kw 3, .kw 2, .kw 1, .kw 0] (.cons (.var 3) (.cons (.var 2) (.cons (.var 1) (.cons (.var 0) .nil)))))) .nil) .nil) (.cons (.ret (.call 4 (.v (.var 0) (.v (.var 1) (.v (.var 2) (.v (.var 3) .nil)))))) .nil))
theorem try_run {Φ : Nat → List T → CR} {b : Ss} {c lv : Nat} {i : Option Nat} {h : List HI} {ρ : Env8} {o : O} (l : Φ lv [] = .ok .non []) (e : execSs Φ b ρ = o) : execS Φ (.tryC b c lv i h) ρ = tryO c i h o := by
  subst e
  simp only [execS, l, tryL]
section
variable {Φ : Nat → List T → CR} (l : Φ 24 [] = .ok .non [])
include l
theorem lp_ok {P F M G R1 : T} (fP : FzT P) (fF : FzT F) (fM : FzT M) (fG : FzT G) (h : Φ 4 [P, F, M, G] = .ok R1 []) (k : Bool) : execSs Φ f20.body [some P, some F, some M, some G, some (.bl k)] = .rt R1 [some P, some F, some M, some G, some (.bl k)] := by
  have e : execSs Φ lpB [some P, some F, some M, some G, some (.bl k)] = .rt R1 [some P, some F, some M, some G, some (.bl k)] := by
    cases k <;> simp [doCallW, argsW, oneL, pureT, pureTs, execSs, execS, evalC, evalE, evalEs, evalAs, evalOe, evalOc, evalIt, opdOf, readV, slot, Opd.get, ofR, ofO, R.bind, op1, op2, bindG, backs, doCall, argsOf, refsOf, nodupN, setAll, isFz, isFzs, fz, fzs, fzI, kill, putBack, keepF, doCallK, srcT, FT.truT, fP.a, fP.b, fF.a, fF.b, fM.a, fM.b, fG.a, fG.b, h]
  have t := try_run (c := 0) (i := none) (h := [.s "zero", .s "refused"]) l e
  exact seq_rt t
theorem lp_no {P F M G : T} (fP : FzT P) (fF : FzT F) (fM : FzT M) (fG : FzT G) (h : Φ 4 [P, F, M, G] = .exc ⟨0, ["code"], [.str "ZeroForm"]⟩ []) (k : Bool) : execSs Φ f20.body [some P, some F, some M, some G, some (.bl k)] = .rt (.tup [.str "zero", .str "refused"]) [some P, some F, some M, some G, some (.bl k)] := by
  have e : execSs Φ lpB [some P, some F, some M, some G, some (.bl k)] = .exc ⟨0, ["code"], [.str "ZeroForm"]⟩ [some P, some F, some M, some G, some (.bl k)] := by
    cases k <;> simp [doCallW, argsW, oneL, pureT, pureTs, execSs, execS, evalC, evalE, evalEs, evalAs, evalOe, evalOc, evalIt, opdOf, readV, slot, Opd.get, ofR, ofO, R.bind, op1, op2, bindG, backs, doCall, argsOf, refsOf, nodupN, setAll, isFz, isFzs, fz, fzs, fzI, kill, putBack, keepF, doCallK, srcT, FT.truT, fP.a, fP.b, fF.a, fF.b, fM.a, fM.b, fG.a, fG.b, h]
  have t := try_run (c := 0) (i := none) (h := [.s "zero", .s "refused"]) l e
  have l2 : 2 ≤ PySem.sizeLine := by rw [line_big]; omega
  refine seq_rt (t.trans ?_)
  simp [tryO, hands, hiTs, hiT, clr, l2]
end
theorem lpower_spec (n : Nat) {P : {p : Int // p ∈ primesL}} (f g : Fm P) (ng : g.v ≠ []) (lf : f.v.length ≤ 900) (lg : g.v.length ≤ 200) (m : Nat) (hm : m < 2 ^ 128) (k : Bool) : ∃ r : Fm P, callN fns (n + 4) 20 [.int P.1, fT f.v, .int (m : Nat), fT g.v, .bl k] = .ok (fT r.v) [] ∧ r.v.length < g.v.length ∧ Cg g (f ^ m) r := by
  obtain ⟨r, e, lr, cg⟩ := power_spec n f g ng lf lg m hm
  refine ⟨r, ?_, lr, cg⟩
  have l : callN fns (n + 3) 24 [] = .ok .non [] := lvOk (n + 1)
  show runFn (callN fns (n + 3)) f20 [.int P.1, fT f.v, .int (m : Nat), fT g.v, .bl k] = _
  generalize callN fns (n + 3) = Φ at *
  exact run_of _ rfl rfl (lp_ok l (fz_i _) (fz_f _) (fz_i _) (fz_f _) e k) rfl
theorem lpower_zero (n : Nat) (p : Int) (f : List Int) (m : Int) (k : Bool) : callN fns (n + 5) 20 [.int p, fT f, .int m, fT [], .bl k] = .ok (.tup [.str "zero", .str "refused"]) [] := by
  have e := power_zero n p f m
  have l : callN fns (n + 4) 24 [] = .ok .non [] := lvOk (n + 2)
  show runFn (callN fns (n + 4)) f20 [.int p, fT f, .int m, fT [], .bl k] = _
  generalize callN fns (n + 4) = Φ at *
  exact run_of _ rfl rfl (lp_no l (fz_i _) (fz_f _) (fz_i _) (fz_f _) e k) rfl
end LK

end
section
set_option Elab.async false
set_option linter.all false
set_option maxRecDepth 100000
set_option maxHeartbeats 1000000
namespace LK
open FT
/-! the law's own inverse -/
theorem r2_one {Φ : Nat → List T → CR} {a : E} {ρ : Env8} {p : Int} (h : 1 ≤ p ∧ p ≤ 1000) (e : evalE Φ a ρ = .ok (.int p) ρ) : evalIt Φ (.r2 (.int 1) a) ρ = .ok ((List.range (p - 1).toNat).map fun j => T.int (1 + (j : Nat))) ρ := by
  have k1 : rngOk 1 = true := by decide
  have k2 : rngOk p = true := by
    unfold rngOk
    rw [decide_eq_true (by omega : -(2 ^ 62) ≤ p), decide_eq_true (by omega : p < 2 ^ 62)]
    rfl
  simp only [evalIt, evalE, e, R.bind, k1, k2, Bool.and_self, if_true]
  rfl
theorem linv_spec (n : Nat) {p : Int} (hp : p ∈ primesL) (a : Int) (ha : 0 < a ∧ a < p) : ∃ b : Int, callN fns (n + 1) 14 [.int p, .int a] = .ok (.int b) [] ∧ (a * b) % p = 1 ∧ 0 ≤ b ∧ b < p := by
  have pb := pr_big hp
  obtain ⟨v, _, hv⟩ := pr_inv hp ha.1 ha.2
  have vr : 0 ≤ v % p ∧ v % p < p := ⟨Int.emod_nonneg _ (by omega), Int.emod_lt_of_pos _ (by omega)⟩
  have v0 : v % p ≠ 0 := fun e => by rw [e, Int.mul_zero, Int.zero_emod] at hv; cases hv
  show ∃ b : Int, runFn (callN fns n) f14 [.int p, .int a] = _ ∧ _
  generalize callN fns n = Φ at *
  have hz : ∀ us : List Nat, isFzs (us.map fun j : Nat => T.int (1 + (j : Nat))) = true := fun us => by
    induction us with
    | nil => rfl
    | cons u us ih => rw [List.map_cons]; simp only [isFzs, isFz, ih, Bool.and_self]
  have q := lc_gen (Φ := Φ) (g := .nm 2) (own := [2]) (it := .r2 (.int 1) (.var 0)) (c := .so (.cmp .Eq (.bin .Mod (.b1 .int (.bin .Mult (.var 1) (.var 2))) (.var 0)) (.int 1))) (e := .var 2) (ρ := [some (.int p), some (.int a), none]) (fun j : Nat => T.int (1 + (j : Nat))) (fun j : Nat => decide ((a * (1 + (j : Nat))) % p = 1)) (fun j : Nat => T.int (1 + (j : Nat))) (List.range (p - 1).toNat) (r2_one (by omega) (var_ok rfl rfl)) rfl rfl (by rw [List.length_range]; omega) (hz _) fun j hj => by
    have hj' := List.mem_range.mp hj
    have mo : mulOk a (1 + (j : Nat)) = true := by
      unfold mulOk
      rw [decide_eq_true (by omega : -(2 ^ 64) < a), decide_eq_true (by omega : a < 2 ^ 64)]
      rfl
    have p0 : 0 < p := by omega
    refine ⟨[some (.int p), some (.int a), some (.int (1 + (j : Nat)))], [some (.int p), some (.int a), some (.int (1 + (j : Nat)))], rfl, ?_, fun _ => rfl, fun _ => ⟨[some (.int p), some (.int a), some (.int (1 + (j : Nat)))], var_ok rfl rfl, rfl⟩⟩
    generalize (1 + (j : Int)) = y at *
    simp [doCallW, argsW, oneL, pureT, pureTs, execSs, execS, evalC, evalE, evalEs, evalAs, evalOe, evalOc, evalIt, opdOf, readV, slot, Opd.get, ofR, ofO, R.bind, op1, op2, bindG, backs, doCall, argsOf, refsOf, nodupN, setAll, isFz, isFzs, fz, fzs, fzI, kill, putBack, keepF, FT.binT, FT.mulT, FT.modT, FT.b1T, FT.cmpT, mo, p0]
  have mem : (v % p - 1).toNat ∈ (List.range (p - 1).toNat).filter fun j : Nat => decide ((a * (1 + (j : Nat))) % p = 1) := by
    refine List.mem_filter.mpr ⟨List.mem_range.mpr (by omega), ?_⟩
    rw [decide_eq_true_eq, show (1 + (((v % p - 1).toNat : Nat) : Int)) = v % p by omega]
    exact hv
  cases hl : (List.range (p - 1).toNat).filter fun j : Nat => decide ((a * (1 + (j : Nat))) % p = 1) with
  | nil => rw [hl] at mem; cases mem
  | cons u us =>
    have mu : u ∈ (List.range (p - 1).toNat).filter fun j : Nat => decide ((a * (1 + (j : Nat))) % p = 1) := by rw [hl]; exact List.mem_cons_self ..
    obtain ⟨m1, m2⟩ := List.mem_filter.mp mu
    have m1' := List.mem_range.mp m1
    rw [hl] at q
    have ix : FT.ixT (.lst true ((u :: us).map fun j : Nat => T.int (1 + (j : Nat)))) (.int 0) = some (.int (1 + (u : Nat))) := by
      have a0 := atI_map 0 (fun j : Nat => T.int (1 + (j : Nat))) (u :: us) 0 (by simp)
      have a0 : L2.atI ((u :: us).map fun j : Nat => T.int (1 + (j : Nat))) 0 = some (T.int (1 + (u : Nat))) := a0
      simp only [FT.ixT, a0, FT.pickT, isFz, if_true]
    refine ⟨1 + (u : Nat), ?_, of_decide_eq_true m2, by omega, by omega⟩
    exact run_of _ rfl rfl (seq_rt (ret_eval (ix_ee (fun i h => by cases h) q (fun i h => by cases h) rfl ix))) rfl
end LK

end
section
set_option Elab.async false
set_option linter.all false
set_option maxRecDepth 100000
set_option maxHeartbeats 1000000
namespace LK
open FT
/-! the law's own division -/
abbrev ld_0 : S := (.par [4, 5, 6] (.cons (.b1 .list (.var 1)) (.cons (.bin .Mult (.lst (.cons (.int 0) .nil)) (.b2 .max (.int 0) (.bin .Add (.bin .Sub (.b1 .len (.var 1)) (.b1 .len (.var 2))) (.int 1)))) (.cons (.call 14 (.v (.var 0) (.v (.ix (.var 2) (.neg (.int 1))) .nil))) .nil))))
abbrev ld_1b_0 : S := (.asg (.nm 7) (.bin .Mod (.b1 .int (.bin .Mult (.ix (.var 4) (.bin .Sub (.bin .Add (.var 3) (.b1 .len (.var 2))) (.int 1))) (.var 6))) (.var 0)))
abbrev ld_1b_1 : S := (.setix 5 (.var 3) (.var 7))
abbrev ld_1b_2t_0b_0 : S := (.setix 4 (.bin .Add (.var 3) (.var 8)) (.bin .Mod (.b1 .int (.bin .Sub (.ix (.var 4) (.bin .Add (.var 3) (.var 8))) (.bin .Mult (.var 7) (.ix (.var 2) (.var 8))))) (.var 0)))
abbrev ld_1b_2t_0b : Ss := (.cons ld_1b_2t_0b_0 .nil)
abbrev ld_1b_2t_0 : S := (.for_ (.nm 8) (.r1 (.b1 .len (.var 2))) ld_1b_2t_0b [8])
abbrev ld_1b_2t : Ss := (.cons ld_1b_2t_0 .nil)
abbrev ld_1b_2e : Ss := .nil
abbrev ld_1b_2c : C := (.cmp .NotEq (.var 7) (.int 0))
abbrev ld_1b_2 : S := (.ifs ld_1b_2c ld_1b_2t ld_1b_2e)
abbrev ld_1b : Ss := (.cons ld_1b_0 (.cons ld_1b_1 (.cons ld_1b_2 .nil)))
abbrev ld_1 : S := (.for_ (.nm 3) (.r3 (.bin .Sub (.b1 .len (.var 1)) (.b1 .len (.var 2))) (.neg (.int 1)) (-1)) ld_1b [3, 7])
abbrev ld_2 : S := (.ret (.tup (.cons (.call 12 (.v (.var 5) .nil)) (.cons (.call 12 (.v (.sl (.var 4) .no (.so (.bin .Sub (.b1 .len (.var 2)) (.int 1)))) .nil)) .nil))))
abbrev ld : Ss := (.cons ld_0 (.cons ld_1 (.cons ld_2 .nil)))
abbrev lE (p : Int) (f g : List Int) (back : Int) (L Q : List Int) (x3 x7 x8 : Option T) : Env8 := [some (.int p), some (fT f), some (fT g), x3, some (.lst true (L.map T.int)), some (.lst true (Q.map T.int)), some (.int back), x7, x8]
theorem set_same {Q : List Int} {k : Nat} (h : k < Q.length) (e : Q.getD k 0 = 0) : Q.set k 0 = Q := by
  apply List.ext_getElem
  · rw [List.length_set]
  · intro i h1 h2
    rw [List.getElem_set]
    split
    · rename_i q
      subst q
      rw [List.getD_eq_getElem?_getD, List.getElem?_eq_getElem h] at e
      exact e.symm
    · rfl
section
variable {Φ : Nat → List T → CR} {p : Int} (hp : 2 ≤ p ∧ p ≤ 97) (f g : List Int) (back : Int)
include hp
theorem ld_in (L Q : List Int) (a : Nat) (fig : Int) (hfig : 0 ≤ fig ∧ fig < p) (h : a + g.length ≤ L.length) :
    forL (bindG (.nm 8)) (execSs Φ ld_1b_2t_0b) [8] ((List.range g.length).map fun j => T.int (j : Nat)) (lE p f g back L Q (some (.int (a : Nat))) (some (.int fig)) none) = .nx (lE p f g back (subAt p a fig g L) Q (some (.int (a : Nat))) (some (.int fig)) none) := by
  have z := for_gen (g := .nm 8) (ks := [8]) (b := execSs Φ ld_1b_2t_0b) (fun j : Nat => T.int (j : Nat)) (fun M => lE p f g back M Q (some (.int (a : Nat))) (some (.int fig)) none) (fun M j => subF p a fig M (0 + j, g.getD j 0)) (fun M => M.length = L.length) (List.range g.length) L rfl fun j hj M hM => by
    have hj' := List.mem_range.mp hj
    have hk : a + j < M.length := by omega
    have ix := ix_lst hk ((a : Int) + (j : Nat)) (by omega) true
    have ig : FT.ixT (fT g) (.int (j : Nat)) = some (.int (g.getD j 0)) := by
      have a0 := atI_map 0 T.int g j hj'
      simp only [FT.ixT, a0, FT.pickT, isFz, if_true]
    have mo : ∀ y, mulOk fig y = true := fun y => by
      unfold mulOk
      rw [decide_eq_true (by omega : -(2 ^ 64) < fig), decide_eq_true (by omega : fig < 2 ^ 64)]
      rfl
    have p0 : 0 < p := by omega
    have v1 : evalE Φ (.bin .Mod (.b1 .int (.bin .Sub (.ix (.var 4) (.bin .Add (.var 3) (.var 8))) (.bin .Mult (.var 7) (.ix (.var 2) (.var 8))))) (.var 0)) (lE p f g back M Q (some (.int (a : Nat))) (some (.int fig)) (some (.int (j : Nat)))) = .ok (.int ((M.getD (a + j) 0 - fig * g.getD j 0) % p)) (lE p f g back M Q (some (.int (a : Nat))) (some (.int fig)) (some (.int (j : Nat)))) := by
      generalize M.getD (a + j) 0 = y at *
      generalize g.getD j 0 = y2 at *
      unfold lE
      generalize fT g = G at *
      simp [doCallW, argsW, oneL, pureT, pureTs, execSs, execS, evalC, evalE, evalEs, evalAs, evalOe, evalOc, evalIt, opdOf, readV, slot, Opd.get, ofR, ofO, R.bind, op1, op2, bindG, backs, doCall, argsOf, refsOf, nodupN, setAll, isFz, isFzs, fz, fzs, fzI, kill, putBack, keepF, FT.binT, FT.addT, FT.subT, FT.mulT, FT.modT, FT.b1T, ix, ig, mo, p0]
    have v2 : evalE Φ (.bin .Add (.var 3) (.var 8)) (lE p f g back M Q (some (.int (a : Nat))) (some (.int fig)) (some (.int (j : Nat)))) = .ok (.int ((a + j : Nat) : Int)) (lE p f g back M Q (some (.int (a : Nat))) (some (.int fig)) (some (.int (j : Nat)))) := by
      rw [Int.natCast_add]
      simp [doCallW, argsW, oneL, pureT, pureTs, execSs, execS, evalC, evalE, evalEs, evalAs, evalOe, evalOc, evalIt, opdOf, readV, slot, Opd.get, ofR, ofO, R.bind, op1, op2, bindG, backs, doCall, argsOf, refsOf, nodupN, setAll, isFz, isFzs, fz, fzs, fzI, kill, putBack, keepF, FT.binT, FT.addT]
    have st := setix_gen (i := 4) (s := M) (k := a + j) ⟨_, rfl⟩ rfl hk v1 v2
    refine ⟨by unfold subF; rw [List.length_set]; exact hM, lE p f g back M Q (some (.int (a : Nat))) (some (.int fig)) (some (.int (j : Nat))), _, rfl, seq_nx _ st rfl, ?_⟩
    have e0 : subF p a fig M (0 + j, g.getD j 0) = M.set (a + j) ((M.getD (a + j) 0 - fig * g.getD j 0) % p) := by
      unfold subF
      rw [Nat.zero_add]
    rw [e0]
    rfl
  have e := z.1
  have eq : (List.range g.length).foldl (fun M j => subF p a fig M (0 + j, g.getD j 0)) L = subAt p a fig g L := by
    unfold subAt
    rw [enumZ_range, List.foldl_map]
  rw [eq] at e
  exact e
theorem ld_turn (L Q : List Int) (a : Nat) (h : a + g.length ≤ L.length) (hg : 0 < g.length) (lg : g.length ≤ 900) (ha : a < Q.length) (hQ : Q.getD a 0 = 0) (hL : Red p L) (hb : 0 ≤ back ∧ back < p) : ∃ x7,
    execSs Φ ld_1b (lE p f g back L Q (some (.int (a : Nat))) none none) = .nx (lE p f g back (stepD p back g (L, Q) a).1 (stepD p back g (L, Q) a).2 (some (.int (a : Nat))) x7 none) := by
  have p0 : 0 < p := by omega
  have ix := ix_lst (L := L) (k := a + g.length - 1) (by omega) ((a : Int) + (g.length : Nat) - 1) (by omega) true
  have lr := get_red p0 hL (a + g.length - 1)
  have fr : 0 ≤ figD p back g L a ∧ figD p back g L a < p := ⟨Int.emod_nonneg _ (by omega), Int.emod_lt_of_pos _ p0⟩
  have lb : FT.b1T .len (fT g) = some (.int (g.length : Nat)) := by simp [FT.b1T, FT.lenT]
  have s0 : execS Φ ld_1b_0 (lE p f g back L Q (some (.int (a : Nat))) none none) = .nx (lE p f g back L Q (some (.int (a : Nat))) (some (.int (figD p back g L a))) none) := by
    unfold figD
    generalize L.getD (a + g.length - 1) 0 = y at *
    have mo : mulOk y back = true := by
      unfold mulOk
      rw [decide_eq_true (by omega : -(2 ^ 64) < y), decide_eq_true (by omega : y < 2 ^ 64)]
      rfl
    have ll : FT.lenT (fT g) = some g.length := by simp [FT.lenT]
    unfold lE
    generalize fT g = G at *
    generalize g.length = gl at *
    simp [doCallW, argsW, oneL, pureT, pureTs, execSs, execS, evalC, evalE, evalEs, evalAs, evalOe, evalOc, evalIt, opdOf, readV, slot, Opd.get, ofR, ofO, R.bind, op1, op2, bindG, backs, doCall, argsOf, refsOf, nodupN, setAll, isFz, isFzs, fz, fzs, fzI, kill, putBack, keepF, FT.binT, FT.addT, FT.subT, FT.mulT, FT.modT, FT.b1T, ll, ix, mo, p0]
  refine ⟨some (.int (figD p back g L a)), ?_⟩
  generalize hfig : figD p back g L a = fig at *
  have es : stepD p back g (L, Q) a = if fig = 0 then (L, Q) else (subAt p a fig g L, Q.set a fig) := by
    unfold stepD
    rw [hfig]
  rw [es]
  have v1 : evalE Φ (.var 7) (lE p f g back L Q (some (.int (a : Nat))) (some (.int fig)) none) = .ok (.int fig) (lE p f g back L Q (some (.int (a : Nat))) (some (.int fig)) none) := var_ok rfl rfl
  have v2 : evalE Φ (.var 3) (lE p f g back L Q (some (.int (a : Nat))) (some (.int fig)) none) = .ok (.int (a : Nat)) (lE p f g back L Q (some (.int (a : Nat))) (some (.int fig)) none) := var_ok rfl rfl
  have st := setix_gen (i := 5) (s := Q) (k := a) ⟨_, rfl⟩ rfl ha v1 v2
  have st' : execS Φ ld_1b_1 (lE p f g back L Q (some (.int (a : Nat))) (some (.int fig)) none) = .nx (lE p f g back L (Q.set a fig) (some (.int (a : Nat))) (some (.int fig)) none) := st
  have c : evalC Φ ld_1b_2c (lE p f g back L (Q.set a fig) (some (.int (a : Nat))) (some (.int fig)) none) = .ok (decide (fig ≠ 0)) (lE p f g back L (Q.set a fig) (some (.int (a : Nat))) (some (.int fig)) none) := by
    generalize Q.set a fig = Q2 at *
    simp [doCallW, argsW, oneL, pureT, pureTs, execSs, execS, evalC, evalE, evalEs, evalAs, evalOe, evalOc, evalIt, opdOf, readV, slot, Opd.get, ofR, ofO, R.bind, op1, op2, bindG, backs, doCall, argsOf, refsOf, nodupN, setAll, isFz, isFzs, fz, fzs, fzI, kill, putBack, keepF, FT.cmpT]
  by_cases q : fig = 0
  · rw [if_pos q]
    rw [decide_eq_false (fun z => z q)] at c
    subst q
    rw [set_same ha hQ] at c st'
    exact seq_nx _ s0 (seq_nx _ st' (seq_nx _ (if_no c) rfl))
  · rw [if_neg q]
    rw [decide_eq_true q] at c
    have hi : evalIt Φ (.r1 (.b1 .len (.var 2))) (lE p f g back L (Q.set a fig) (some (.int (a : Nat))) (some (.int fig)) none) = .ok ((List.range g.length).map fun j => T.int (j : Nat)) (lE p f g back L (Q.set a fig) (some (.int (a : Nat))) (some (.int fig)) none) := rng_row (by omega) (b1_var rfl lb)
    refine seq_nx _ s0 (seq_nx _ st' (seq_nx _ (seq_if c ?_) rfl))
    rw [if_pos rfl]
    exact seq_nx _ (seq_for hi (ld_in hp f g back L (Q.set a fig) a fig fr h)) rfl
theorem ld_out (hg : 0 < g.length) (lg : g.length ≤ 900) (hb : 0 ≤ back ∧ back < p) : ∀ (n : Nat) (L Q : List Int), n + g.length ≤ L.length + 1 → n ≤ Q.length → (∀ k, k < n → Q.getD k 0 = 0) → Red p L →
    forL (bindG (.nm 3)) (execSs Φ ld_1b) [3, 7] ((List.range n).reverse.map fun a => T.int (a : Nat)) (lE p f g back L Q none none none) = .nx (lE p f g back (runD p back g (L, Q) n).1 (runD p back g (L, Q) n).2 none none none)
  | 0, L, Q, _, _, _, _ => rfl
  | n + 1, L, Q, h, hQ, hz, hL => by
    obtain ⟨x7, e⟩ := ld_turn (Φ := Φ) hp f g back L Q n (by omega) hg lg (by omega) (hz n (by omega)) hL hb
    have p0 : 0 < p := by omega
    have lf : n + g.length ≤ L.length := by omega
    have hl : (stepD p back g (L, Q) n).1.length = L.length ∧ (stepD p back g (L, Q) n).2.length = Q.length ∧ Red p (stepD p back g (L, Q) n).1 ∧ ∀ k, k < n → (stepD p back g (L, Q) n).2.getD k 0 = 0 := by
      unfold stepD
      split
      · exact ⟨rfl, rfl, hL, fun k hk => hz k (by omega)⟩
      · exact ⟨subAt_len p n _ g L lf, by rw [List.length_set], subAt_red p0 lf hL, fun k hk => by
          show (Q.set n _).getD k 0 = 0
          rw [getD_set _ _ _ _ (by omega), if_neg (by omega)]
          exact hz k (by omega)⟩
    have ih := ld_out hg lg hb n (stepD p back g (L, Q) n).1 (stepD p back g (L, Q) n).2 (by omega) (by omega) hl.2.2.2 hl.2.2.1
    rw [List.range_succ, List.reverse_append, List.map_append]
    show forL (bindG (.nm 3)) (execSs Φ ld_1b) [3, 7] (T.int (n : Nat) :: (List.range n).reverse.map fun a => T.int (a : Nat)) _ = _
    have eb : bindG (.nm 3) (.int (n : Nat)) (lE p f g back L Q none none none) = some (lE p f g back L Q (some (.int (n : Nat))) none none) := rfl
    have ek : kill [3, 7] (lE p f g back (stepD p back g (L, Q) n).1 (stepD p back g (L, Q) n).2 (some (.int (n : Nat))) x7 none) = lE p f g back (stepD p back g (L, Q) n).1 (stepD p back g (L, Q) n).2 none none none := rfl
    simp only [forL, eb, e, ek]
    rw [runD_succ]
    exact ih
end
theorem r3_down {Φ : Nat → List T → CR} {a : E} {ρ : Env8} {x : Int} {n : Nat} (h : -1000 ≤ x ∧ x ≤ 1000) (hn : n = (x + 1).toNat) (e : evalE Φ a ρ = .ok (.int x) ρ) : evalIt Φ (.r3 a (.neg (.int 1)) (-1)) ρ = .ok ((List.range n).reverse.map fun a => T.int (a : Nat)) ρ := by
  have k1 : rngOk x = true := by
    unfold rngOk
    rw [decide_eq_true (by omega : -(2 ^ 62) ≤ x), decide_eq_true (by omega : x < 2 ^ 62)]
    rfl
  have k2 : rngOk (-1) = true := by decide
  have en : evalE Φ (.neg (.int 1)) ρ = .ok (.int (-1)) ρ := by simp [doCallW, argsW, oneL, pureT, pureTs, execSs, execS, evalC, evalE, evalEs, evalAs, evalOe, evalOc, evalIt, opdOf, readV, slot, Opd.get, ofR, ofO, R.bind, op1, op2, bindG, backs, doCall, argsOf, refsOf, nodupN, setAll, isFz, isFzs, fz, fzs, fzI, kill, putBack, keepF]
  simp only [evalIt, e, en, R.bind, k1, k2, Bool.and_self, if_true]
  have e2 : (x - -1).toNat = n := by omega
  rw [e2]
  unfold rngD
  congr 1
  apply List.ext_getElem
  · simp
  · intro k h1 h2
    have hk : k < n := by simpa using h1
    simp only [List.getElem_map, List.getElem_range, List.getElem_reverse, List.length_range, T.int.injEq]
    omega
theorem cut_any (ns : List Int) (m : Nat) : cutT (ns.map T.int) none (some (m : Int)) = (ns.take m).map T.int := by
  by_cases h : m ≤ ns.length
  · exact cut_len ns m h
  · unfold cutT
    rw [HT.sIx_none, HT.sIx_nat]
    have e : min m (ns.map T.int).length = (ns.map T.int).length := by rw [List.length_map]; omega
    rw [e]
    have e2 : ns.take m = ns := List.take_of_length_le (by omega)
    rw [e2]
    simp only [Nat.sub_zero, List.drop_zero]
    exact List.take_of_length_le (Nat.le_refl _)
theorem par3 {Φ : Nat → List T → CR} {i j k : Nat} {e1 e2 e3 : E} {ρ ρ1 ρ2 ρ3 : Env8} {t1 t2 t3 : T} (h1 : evalE Φ e1 ρ = .ok t1 ρ1) (h2 : evalE Φ e2 ρ1 = .ok t2 ρ2) (h3 : evalE Φ e3 ρ2 = .ok t3 ρ3) (hi : i < ρ3.length) (hj : j < ρ3.length) (hk : k < ρ3.length) : execS Φ (.par [i, j, k] (.cons e1 (.cons e2 (.cons e3 .nil)))) ρ = .nx (((ρ3.set i (some t1)).set j (some t2)).set k (some t3)) := by
  simp only [execS, evalEs, h1, h2, h3, R.bind, ofR, List.length_cons, List.length_nil, List.all_cons, List.all_nil, hi, hj, hk, decide_true, Bool.and_self, and_self, if_true, setAll]
theorem ld_run {Φ : Nat → List T → CR} {p : Int} (hp : 2 ≤ p ∧ p ≤ 97) (f g : List Int) (ng : g ≠ []) (lf : f.length ≤ 900) (lg : g.length ≤ 900) (rf : Red p f) (back : Int) (hb : 0 ≤ back ∧ back < p) (h14 : Φ 14 [.int p, .int (g.getLast ng)] = .ok (.int back) []) (h12 : ∀ ns : List Int, ns.length ≤ 1000 → Φ 12 [.lst false (ns.map T.int)] = .ok (fT (trimZ ns)) []) (L Q : List Int) (N : Nat) (hN : N = f.length + 1 - g.length) (hR : runD p back g (f, List.replicate N 0) N = (L, Q)) (lL : L.length ≤ 1000) (lQ : Q.length ≤ 1000) :
    execSs Φ ld [some (.int p), some (fT f), some (fT g), none, none, none, none, none, none] = .rt (.tup [fT (trimZ Q), fT (trimZ (L.take (g.length - 1)))]) [some (.int p), some (fT f), some (fT g), none, some (.lst true (L.map T.int)), some (.lst false (Q.map T.int)), some (.int back), none, none] := by
  have lg0 : 0 < g.length := List.length_pos_iff.mpr ng
  have l2 : 2 ≤ PySem.sizeLine := by rw [line_big]; omega
  have l1 : 1 ≤ PySem.sizeLine := by omega
  have lb := line_big
  have bg : FT.b1T .len (fT g) = some (.int (g.length : Nat)) := by simp [FT.b1T, FT.lenT]
  have bf : FT.b1T .len (fT f) = some (.int (f.length : Nat)) := by simp [FT.b1T, FT.lenT]
  have ls : FT.b1T .list (fT f) = some (.lst true (f.map T.int)) := by simp [FT.b1T]
  have al := atI_last ng
  have i1 : FT.ixT (fT g) (.int (-1)) = some (.int (g.getLast ng)) := by simp only [FT.ixT, al, FT.pickT, isFz, if_true]
  have ff := fz_f f
  have fg := fz_f g
  have e1 : evalE Φ (.b1 .list (.var 1)) [some (.int p), some (fT f), some (fT g), none, none, none, none, none, none] = .ok (.lst true (f.map T.int)) [some (.int p), some (fT f), some (fT g), none, none, none, none, none, none] := b1_var rfl ls
  have dif : ∀ ρ : Env8, slot ρ 1 = some (fT f) → slot ρ 2 = some (fT g) → evalE Φ (.bin .Sub (.b1 .len (.var 1)) (.b1 .len (.var 2))) ρ = .ok (.int ((f.length : Nat) - (g.length : Nat))) ρ := fun ρ h1 h2 =>
    bin_ok (t := .int (f.length : Nat)) (u := .int (g.length : Nat)) (opd_nv (fun _ z => by cases z) (b1_var h1 bf)) (opd_nv (fun _ z => by cases z) (b1_var h2 bg)) rfl rfl rfl
  have mx : evalE Φ (.b2 .max (.int 0) (.bin .Add (.bin .Sub (.b1 .len (.var 1)) (.b1 .len (.var 2))) (.int 1))) [some (.int p), some (fT f), some (fT g), none, none, none, none, none, none] = .ok (.int (N : Nat)) [some (.int p), some (fT f), some (fT g), none, none, none, none, none, none] := by
    have a1 := bin_ok (op := .Add) (b := .int 1) (u := .int 1) (v := .int ((f.length : Nat) - (g.length : Nat) + 1)) (opd_nv (fun _ z => by cases z) (dif [some (.int p), some (fT f), some (fT g), none, none, none, none, none, none] rfl rfl)) (opd_nv (fun _ z => by cases z) rfl) rfl rfl rfl
    have e : FT.b2T .max (.int 0) (.int ((f.length : Nat) - (g.length : Nat) + 1)) = some (.int (N : Nat)) := by
      simp only [FT.b2T]
      congr 2
      split <;> omega
    rw [show evalE Φ (.b2 .max (.int 0) (.bin .Add (.bin .Sub (.b1 .len (.var 1)) (.b1 .len (.var 2))) (.int 1))) = fun ρ => (opdOf (.int 0) (evalE Φ (.int 0)) ρ).bind fun x ρ => (opdOf (.bin .Add (.bin .Sub (.b1 .len (.var 1)) (.b1 .len (.var 2))) (.int 1)) (evalE Φ (.bin .Add (.bin .Sub (.b1 .len (.var 1)) (.b1 .len (.var 2))) (.int 1))) ρ).bind fun y ρ => op2 (b2T .max) x y ρ from rfl]
    have o1 := opd_nv (a := .bin .Add (.bin .Sub (.b1 .len (.var 1)) (.b1 .len (.var 2))) (.int 1)) (m := evalE Φ (.bin .Add (.bin .Sub (.b1 .len (.var 1)) (.b1 .len (.var 2))) (.int 1))) (fun _ z => by cases z) a1
    have o0 : opdOf (.int 0) (evalE Φ (.int 0)) [some (.int p), some (fT f), some (fT g), none, none, none, none, none, none] = .ok (.vl (.int 0)) [some (.int p), some (fT f), some (fT g), none, none, none, none, none, none] := opd_nv (fun _ z => by cases z) rfl
    simp only [o0, R.bind, o1, op2, Opd.get, e, ofO]
  have m0 : evalE Φ (.lst (.cons (.int 0) .nil)) [some (.int p), some (fT f), some (fT g), none, none, none, none, none, none] = .ok (.lst true [.int 0]) [some (.int p), some (fT f), some (fT g), none, none, none, none, none, none] := by simp [doCallW, argsW, oneL, pureT, pureTs, execSs, execS, evalC, evalE, evalEs, evalAs, evalOe, evalOc, evalIt, opdOf, readV, slot, Opd.get, ofR, ofO, R.bind, op1, op2, bindG, backs, doCall, argsOf, refsOf, nodupN, setAll, isFz, isFzs, fz, fzs, fzI, kill, putBack, keepF, l1]
  have hm' : FT.mulT (.lst true [.int 0]) (.int (N : Nat)) = some (.lst true ((List.replicate N (0 : Int)).map T.int)) := by
    simp only [FT.mulT]
    rw [if_pos ⟨rfl, by omega, by omega, by rw [Int.toNat_natCast, List.length_singleton]; omega⟩, Int.toNat_natCast]
    exact congrArg (fun z => some (T.lst true z)) (rep_flat N)
  have e2 := bin_ok (op := .Mult) (opd_nv (fun _ z => by cases z) m0) (opd_nv (fun _ z => by cases z) mx) rfl rfl hm'
  have e3 : evalE Φ (.call 14 (.v (.var 0) (.v (.ix (.var 2) (.neg (.int 1))) .nil))) [some (.int p), some (fT f), some (fT g), none, none, none, none, none, none] = .ok (.int back) [some (.int p), some (fT f), some (fT g), none, none, none, none, none, none] := by
    have v : evalE Φ (.ix (.var 2) (.neg (.int 1))) [some (.int p), some (fT f), some (fT g), none, none, none, none, none, none] = .ok (.int (g.getLast ng)) [some (.int p), some (fT f), some (fT g), none, none, none, none, none, none] :=
      ix_at (t := fT g) (k := .int (-1)) rfl (by simp [doCallW, argsW, oneL, pureT, pureTs, execSs, execS, evalC, evalE, evalEs, evalAs, evalOe, evalOc, evalIt, opdOf, readV, slot, Opd.get, ofR, ofO, R.bind, op1, op2, bindG, backs, doCall, argsOf, refsOf, nodupN, setAll, isFz, isFzs, fz, fzs, fzI, kill, putBack, keepF]) (fun _ h => by cases h) i1
    exact call2 (var_ok rfl rfl) v h14
  have s0 : execS Φ ld_0 [some (.int p), some (fT f), some (fT g), none, none, none, none, none, none] = .nx (lE p f g back f (List.replicate N 0) none none none) := par3 e1 e2 e3 (by show 4 < 9; omega) (by show 5 < 9; omega) (by show 6 < 9; omega)
  have hi : evalIt Φ (.r3 (.bin .Sub (.b1 .len (.var 1)) (.b1 .len (.var 2))) (.neg (.int 1)) (-1)) (lE p f g back f (List.replicate N 0) none none none) = .ok ((List.range N).reverse.map fun a => T.int (a : Nat)) (lE p f g back f (List.replicate N 0) none none none) := r3_down (x := (f.length : Nat) - (g.length : Nat)) (by omega) (by omega) (dif _ rfl rfl)
  have lp := fun (hz : 0 < N) => ld_out (Φ := Φ) hp f g back lg0 lg hb N f (List.replicate N 0) (by omega) (by rw [List.length_replicate]; exact Nat.le_refl _) (fun k hk => by
    rw [List.getD_eq_getElem?_getD, List.getElem?_replicate, if_pos hk]; rfl) rf
  have lp' : forL (bindG (.nm 3)) (execSs Φ ld_1b) [3, 7] ((List.range N).reverse.map fun a => T.int (a : Nat)) (lE p f g back f (List.replicate N 0) none none none) = .nx (lE p f g back L Q none none none) := by
    by_cases hz : 0 < N
    · have := lp hz
      rw [hR] at this
      exact this
    · have z : N = 0 := by omega
      subst z
      have e : (f, ([] : List Int)) = (L, Q) := hR
      cases e
      rfl
  refine seq_nx _ s0 (seq_nx _ (seq_for hi lp') (seq_rt (ret_eval ?_)))
  have t1 : evalE Φ (.call 12 (.v (.var 5) .nil)) (lE p f g back L Q none none none) = .ok (fT (trimZ Q)) [some (.int p), some (fT f), some (fT g), none, some (.lst true (L.map T.int)), some (.lst false (Q.map T.int)), some (.int back), none, none] := by
    have r : evalE Φ (.var 5) (lE p f g back L Q none none none) = .ok (.lst false (Q.map T.int)) [some (.int p), some (fT f), some (fT g), none, some (.lst true (L.map T.int)), some (.lst false (Q.map T.int)), some (.int back), none, none] := by simp [doCallW, argsW, oneL, pureT, pureTs, execSs, execS, evalC, evalE, evalEs, evalAs, evalOe, evalOc, evalIt, opdOf, readV, slot, Opd.get, ofR, ofO, R.bind, op1, op2, bindG, backs, doCall, argsOf, refsOf, nodupN, setAll, isFz, isFzs, fz, fzs, fzI, kill, putBack, keepF]
    exact call1 r (by simp only [fz, fzs_zs]; exact h12 Q lQ)
  have hsl : FT.slT (.lst true (L.map T.int)) none (some ((g.length : Int) - 1)) = some (.lst true ((L.take (g.length - 1)).map T.int)) := by
    have e : ((g.length : Int) - 1) = ((g.length - 1 : Nat) : Int) := by omega
    rw [e]
    simp only [FT.slT, isFzs_zs, if_true]
    rw [cut_any]
  have fl := h12 (L.take (g.length - 1)) (by rw [List.length_take]; omega)
  have t2 : evalE Φ (.sl (.var 4) .no (.so (.bin .Sub (.b1 .len (.var 2)) (.int 1)))) [some (.int p), some (fT f), some (fT g), none, some (.lst true (L.map T.int)), some (.lst false (Q.map T.int)), some (.int back), none, none] = .ok (.lst true ((L.take (g.length - 1)).map T.int)) [some (.int p), some (fT f), some (fT g), none, some (.lst true (L.map T.int)), some (.lst false (Q.map T.int)), some (.int back), none, none] := by
    have b : evalE Φ (.bin .Sub (.b1 .len (.var 2)) (.int 1)) [some (.int p), some (fT f), some (fT g), none, some (.lst true (L.map T.int)), some (.lst false (Q.map T.int)), some (.int back), none, none] = .ok (.int ((g.length : Nat) - 1)) [some (.int p), some (fT f), some (fT g), none, some (.lst true (L.map T.int)), some (.lst false (Q.map T.int)), some (.int back), none, none] :=
      bin_ok (t := .int (g.length : Nat)) (u := .int 1) (opd_nv (fun _ z => by cases z) (b1_var rfl bg)) (opd_nv (fun _ z => by cases z) rfl) rfl rfl rfl
    generalize L.take (g.length - 1) = M at *
    rw [show evalE Φ (.sl (.var 4) .no (.so (.bin .Sub (.b1 .len (.var 2)) (.int 1)))) = fun ρ => (opdOf (.var 4) (evalE Φ (.var 4)) ρ).bind fun x ρ => (evalOe Φ .no ρ).bind fun l ρ => (evalOe Φ (.so (.bin .Sub (.b1 .len (.var 2)) (.int 1))) ρ).bind fun h ρ => op1 (fun t => slT t l h) x ρ from rfl]
    have o4 : opdOf (.var 4) (evalE Φ (.var 4)) [some (.int p), some (fT f), some (fT g), none, some (.lst true (L.map T.int)), some (.lst false (Q.map T.int)), some (.int back), none, none] = .ok (.sl 4) [some (.int p), some (fT f), some (fT g), none, some (.lst true (L.map T.int)), some (.lst false (Q.map T.int)), some (.int back), none, none] := opd_var rfl
    have s4 : slot [some (.int p), some (fT f), some (fT g), none, some (.lst true (L.map T.int)), some (.lst false (Q.map T.int)), some (.int back), none, none] 4 = some (.lst true (L.map T.int)) := rfl
    simp only [o4, R.bind, evalOe, b, op1, Opd.get, s4, hsl, ofO]
  have t3 := call1 (Φ := Φ) (f := 12) t2 (u := fT (trimZ (L.take (g.length - 1)))) (by simp only [fz, fzs_zs]; exact fl)
  have t4 := es_cons t1 (es_cons t3 es_nil)
  simp only [evalE, t4, R.bind]
  simp [fzs, fz, l2]
theorem ldiv_fm (n : Nat) {P : {p : Int // p ∈ primesL}} (f g : Fm P) (ng : g.v ≠ []) (lf : f.v.length ≤ 900) (lg : g.v.length ≤ 900) : ∃ q r : Fm P, callN fns (n + 2) 15 [.int P.1, fT f.v, fT g.v] = .ok (.tup [fT q.v, fT r.v]) [] ∧ r.v.length < g.v.length ∧ Cg g f r := by
  have pb := pr_big P.2
  have p0 : 0 < P.1 := by omega
  have lr := last_range g.ok ng
  obtain ⟨b, e14, hb, b0, b1⟩ := linv_spec n P.2 (g.v.getLast ng) lr
  have h12 := fun (ns : List Int) (h : ns.length ≤ 1000) => trim_spec n false ns h
  obtain ⟨N, hN⟩ : ∃ N, N = f.v.length + 1 - g.v.length := ⟨_, rfl⟩
  have main : ∃ q r L Q, DivOk P.1 f.v g.v q r ∧ runD P.1 b g.v (f.v, List.replicate N 0) N = (L, Q) ∧ trimZ Q = q ∧ trimZ (L.take (g.v.length - 1)) = r ∧ L.length ≤ 1000 ∧ Q.length ≤ 1000 := by
    by_cases hl : f.v.length < g.v.length
    · have z : N = 0 := by omega
      subst z
      refine ⟨[], f.v, f.v, [], div_short p0 f.ok hl, rfl, rfl, ?_, by omega, by simp⟩
      rw [List.take_of_length_le (by omega)]
      exact trimZ_id f.ok
    · have d := div_facts P.2 f.ok g.ok ng hb (by omega)
      have eQ : (runD P.1 b g.v (f.v, List.replicate N 0) N).2 = quoD P.1 b f.v g.v := by unfold quoD; rw [hN]
      have eL : (runD P.1 b g.v (f.v, List.replicate N 0) N).1 = leftD P.1 b f.v g.v := by unfold leftD; rw [hN]
      have st := start_ok pb.1 f.ok ng (n := N) (by omega)
      have inv := runD_ok pb.1 ng hb (n := N) (by omega) N _ (Nat.le_refl _) st
      refine ⟨_, _, leftD P.1 b f.v g.v, quoD P.1 b f.v g.v, d.1, Prod.ext eL eQ, trimZ_id d.1.fq, ?_, by rw [d.2.2]; omega, by rw [d.2.1]; omega⟩
      unfold resD
      have rL : Red P.1 (leftD P.1 b f.v g.v) := by rw [← eL]; exact inv.rL
      rw [modL_id (fun z hz => rL z (List.mem_of_mem_take hz))]
  obtain ⟨q, r, L, Q, d, hR, hq, hr, lL, lQ⟩ := main
  obtain ⟨q', r', e1, e2, h1, h2⟩ := d.cg
  refine ⟨q', r', ?_, h1, h2⟩
  have run := ld_run (Φ := callN fns (n + 1)) pb f.v g.v ng lf lg f.ok.red b ⟨b0, b1⟩ e14 h12 L Q N hN hR lL lQ
  rw [hq, hr, ← e1, ← e2] at run
  show runFn (callN fns (n + 1)) f15 [.int P.1, fT f.v, fT g.v] = _
  generalize callN fns (n + 1) = Φ at *
  exact run_of _ rfl rfl run rfl
end LK

end
section
set_option Elab.async false
set_option linter.all false
set_option maxRecDepth 100000
set_option maxHeartbeats 1000000
namespace LK
open FT
/-! the law's power of a value -/
abbrev vp_0 : S := (.asg (.nm 3) (.int 1))
abbrev vp_1b_0t_0 : S := (.asg (.nm 3) (.bin .Mod (.b1 .int (.bin .Mult (.var 3) (.var 1))) (.var 0)))
abbrev vp_1b_0t : Ss := (.cons vp_1b_0t_0 .nil)
abbrev vp_1b_0e : Ss := .nil
abbrev vp_1b_0c : C := (.cmp .Eq (.bin .Mod (.b1 .int (.var 2)) (.int 2)) (.int 1))
abbrev vp_1b_0 : S := (.ifs vp_1b_0c vp_1b_0t vp_1b_0e)
abbrev vp_1b_1 : S := (.par [1, 2] (.cons (.bin .Mod (.b1 .int (.bin .Mult (.var 1) (.var 1))) (.var 0)) (.cons (.bin .FloorDiv (.var 2) (.int 2)) .nil)))
abbrev vp_1b : Ss := (.cons vp_1b_0 (.cons vp_1b_1 .nil))
abbrev vp_1 : S := (.for_ (.nm 4) (.r1 (.int 101)) vp_1b [4])
abbrev vp_2 : S := (.ret (.var 3))
abbrev vp : Ss := (.cons vp_0 (.cons vp_1 (.cons vp_2 .nil)))
def vpF (p : Int) (s : Int × Int × Nat) : Int × Int × Nat := (if s.2.2 % 2 = 1 then s.1 * s.2.1 % p else s.1, s.2.1 * s.2.1 % p, s.2.2 / 2)
theorem pow_mod (p x : Int) : ∀ k : Nat, (x % p) ^ k % p = x ^ k % p
  | 0 => by rw [Int.pow_zero, Int.pow_zero]
  | k + 1 => by rw [Int.pow_succ, Int.pow_succ, ← mod_mul, pow_mod p x k, mod_mul, mul_mod]
theorem pow_two_i (x : Int) (k : Nat) : (x * x) ^ k = x ^ (2 * k) := by
  rw [Int.pow_mul]
  congr 1
  rw [show (2 : Nat) = 1 + 1 from rfl, Int.pow_succ, Int.pow_succ]
  simp
theorem vp_fold (p : Int) : ∀ (us : List Nat) (fo a : Int) (m : Nat), m < 2 ^ us.length → fo % p = fo → (us.foldl (fun s _ => vpF p s) (fo, a, m)).1 = fo * a ^ m % p
  | [], fo, a, m, h, hf => by
    have z : m = 0 := by simpa using h
    subst z
    show fo = fo * a ^ 0 % p
    rw [Int.pow_zero, Int.mul_one, hf]
  | u :: us, fo, a, m, h, hf => by
    have h2 : m / 2 < 2 ^ us.length := by
      rw [List.length_cons, Nat.pow_succ] at h
      omega
    have e : m = m % 2 + 2 * (m / 2) := by omega
    show (us.foldl (fun s _ => vpF p s) (vpF p (fo, a, m))).1 = _
    by_cases q : m % 2 = 1
    · rw [show vpF p (fo, a, m) = (fo * a % p, a * a % p, m / 2) from by unfold vpF; dsimp only; rw [if_pos q], vp_fold p us _ _ _ h2 (mod_mod p _), ← mul_mod p _ ((a * a % p) ^ (m / 2)), pow_mod, mul_mod, mod_mul, pow_two_i]
      conv => rhs; rw [e, q]
      rw [Int.pow_add, Int.mul_assoc, Int.pow_succ, Int.pow_zero, Int.one_mul]
    · rw [show vpF p (fo, a, m) = (fo, a * a % p, m / 2) from by unfold vpF; dsimp only; rw [if_neg q], vp_fold p us _ _ _ h2 hf, ← mul_mod p _ ((a * a % p) ^ (m / 2)), pow_mod, mul_mod, pow_two_i]
      conv => rhs; rw [e, show m % 2 = 0 by omega]
      rw [Nat.zero_add]
abbrev vpE (p : Int) (s : Int × Int × Nat) (x4 : Option T) : Env8 := [some (.int p), some (.int s.2.1), some (.int (s.2.2 : Nat)), some (.int s.1), x4]
theorem vp_spec (n : Nat) (p a : Int) (hp : 2 ≤ p ∧ p ≤ 97) (ha : 0 ≤ a ∧ a < p) (m : Nat) (hm : m < 2 ^ 101) : callN fns (n + 1) 21 [.int p, .int a, .int (m : Nat)] = .ok (.int (a ^ m % p)) [] := by
  have p0 : 0 < p := by omega
  show runFn (callN fns n) f21 [.int p, .int a, .int (m : Nat)] = _
  generalize callN fns n = Φ at *
  have mo : ∀ x y : Int, 0 ≤ x ∧ x < p → mulOk x y = true := fun x y h => by
    unfold mulOk
    rw [decide_eq_true (by omega : -(2 ^ 64) < x), decide_eq_true (by omega : x < 2 ^ 64)]
    rfl
  have z := for_gen (g := .nm 4) (ks := [4]) (b := execSs Φ vp_1b) (fun k : Nat => T.int (k : Nat)) (fun s => vpE p s none) (fun s _ => vpF p s) (fun s => (0 ≤ s.1 ∧ s.1 < p) ∧ (0 ≤ s.2.1 ∧ s.2.1 < p)) (List.range 101) (1, a, m) ⟨⟨by omega, by show (1 : Int) < p; omega⟩, ha⟩ fun k hk s hs => by
    obtain ⟨fo, a, m⟩ := s
    obtain ⟨h1, h2⟩ := hs
    dsimp only at h1 h2
    have m1 := mo fo a h1
    have m2 := mo a a h2
    have c : evalC Φ vp_1b_0c (vpE p (fo, a, m) (some (.int (k : Nat)))) = .ok (decide (m % 2 = 1)) (vpE p (fo, a, m) (some (.int (k : Nat)))) := by
      have e : decide (((m : Nat) : Int) % 2 = 1) = decide (m % 2 = 1) := decide_eq_decide.mpr (by omega)
      rw [← e]
      simp [doCallW, argsW, oneL, pureT, pureTs, execSs, execS, evalC, evalE, evalEs, evalAs, evalOe, evalOc, evalIt, opdOf, readV, slot, Opd.get, ofR, ofO, R.bind, op1, op2, bindG, backs, doCall, argsOf, refsOf, nodupN, setAll, isFz, isFzs, fz, fzs, fzI, kill, putBack, keepF, FT.binT, FT.modT, FT.b1T, FT.cmpT]
    have s0 : execS Φ vp_1b_0 (vpE p (fo, a, m) (some (.int (k : Nat)))) = .nx (vpE p ((vpF p (fo, a, m)).1, a, m) (some (.int (k : Nat)))) := by
      unfold vpF
      dsimp only
      by_cases q : m % 2 = 1
      · rw [decide_eq_true q] at c
        rw [if_pos q]
        refine seq_if c ?_
        rw [if_pos rfl]
        refine seq_nx (vpE p (fo * a % p, a, m) (some (.int (k : Nat)))) ?_ rfl
        simp [doCallW, argsW, oneL, pureT, pureTs, execSs, execS, evalC, evalE, evalEs, evalAs, evalOe, evalOc, evalIt, opdOf, readV, slot, Opd.get, ofR, ofO, R.bind, op1, op2, bindG, backs, doCall, argsOf, refsOf, nodupN, setAll, isFz, isFzs, fz, fzs, fzI, kill, putBack, keepF, FT.binT, FT.mulT, FT.modT, FT.b1T, m1, p0]
      · rw [decide_eq_false q] at c
        rw [if_neg q]
        exact if_no c
    have s1 : execS Φ vp_1b_1 (vpE p ((vpF p (fo, a, m)).1, a, m) (some (.int (k : Nat)))) = .nx (vpE p (vpF p (fo, a, m)) (some (.int (k : Nat)))) := by
      have e : (((m / 2 : Nat)) : Int) = (m : Int) / 2 := by omega
      have l2 : Nat.log2 2 < 9000 := by decide
      unfold vpF
      dsimp only
      unfold vpE
      dsimp only
      rw [e]
      generalize (if m % 2 = 1 then fo * a % p else fo) = fo2
      simp [doCallW, argsW, oneL, pureT, pureTs, execSs, execS, evalC, evalE, evalEs, evalAs, evalOe, evalOc, evalIt, opdOf, readV, slot, Opd.get, ofR, ofO, R.bind, op1, op2, bindG, backs, doCall, argsOf, refsOf, nodupN, setAll, isFz, isFzs, fz, fzs, fzI, kill, putBack, keepF, FT.binT, FT.mulT, FT.modT, FT.fdvT, FT.b1T, m2, p0, l2]
    refine ⟨⟨?_, ⟨Int.emod_nonneg _ (by omega), Int.emod_lt_of_pos _ p0⟩⟩, vpE p (fo, a, m) (some (.int (k : Nat))), _, rfl, seq_nx _ s0 (seq_nx _ s1 rfl), rfl⟩
    unfold vpF
    dsimp only
    split
    · exact ⟨Int.emod_nonneg _ (by omega), Int.emod_lt_of_pos _ p0⟩
    · exact h1
  have fold := vp_fold p (List.range 101) 1 a m (by rw [List.length_range]; exact hm) (Int.emod_eq_of_lt (by omega) (by omega))
  rw [Int.one_mul] at fold
  have e1 := z.1
  clear z
  generalize (List.range 101).foldl (fun s _ => vpF p s) (1, a, m) = s at *
  obtain ⟨fo, a', m'⟩ := s
  dsimp only at fold
  subst fold
  have s0 : execS Φ vp_0 [some (.int p), some (.int a), some (.int (m : Nat)), none, none] = .nx (vpE p (1, a, m) none) := by simp [doCallW, argsW, oneL, pureT, pureTs, execSs, execS, evalC, evalE, evalEs, evalAs, evalOe, evalOc, evalIt, opdOf, readV, slot, Opd.get, ofR, ofO, R.bind, op1, op2, bindG, backs, doCall, argsOf, refsOf, nodupN, setAll, isFz, isFzs, fz, fzs, fzI, kill, putBack, keepF]
  exact run_of [some (.int p), some (.int a), some (.int (m : Nat)), none, none] rfl rfl (seq_nx _ s0 (seq_nx _ (seq_for (rng_row (m := 101) (by omega) rfl) e1) (seq_rt (ret_eval (var_ok rfl rfl))))) rfl
theorem val_spec2 (n : Nat) {p : Int} (hp : p ∈ primesL) (c : Int) (f : List Int) : callN fns (n + 1) 16 [.int p, fT f, .int c] = .ok (.int (valL p c f)) [] := val_spec n p c (by have := pr_big hp; omega) f
/-! full forms, drawn -/
theorem full_spec (n : Nat) (b : BagS) (hb : b.Ok) (p : Int) (h0 : 2 ≤ p) (h1 : p < 2 ^ 32) (d : Nat) (hd : d ≤ 100) : ∃ (f : List Int) (b' : BagS), callN fns (n + 2) 19 [b.t, .int p, .int (d : Nat)] = .ok (fT f) [b'.t] ∧ b'.Ok ∧ Form p f ∧ f ≠ [] ∧ f.length = d + 1 := by
  have lb := line_big
  have l1 : 1 ≤ PySem.sizeLine := by omega
  obtain ⟨ns, b2, e2, hb2, hr, hn⟩ := comp_draw n p (some (.int (d : Nat))) (by omega) (by omega) (rngL 0 d) [] b hb (by rw [rngL_length, line_big]; simp; omega)
  rw [List.nil_append] at e2
  rw [rngL_length] at hn
  have hl := lc_eval (Φ := callN fns (n + 1)) (g := .nm 3) (it := .r1 (.var 2)) (c := .no) (e := .call 6 (.r 0 (.v (.var 1) .nil))) (own := [3]) (ρ := [some b.t, some (.int p), some (.int (d : Nat)), none]) (ρ1 := [some b.t, some (.int p), some (.int (d : Nat)), none]) (ρ2 := [some b2.t, some (.int p), some (.int (d : Nat)), none]) (ts := rngL 0 d) (acc := ns.map T.int)
    (r1_nat (by omega) (var_ok rfl rfl)) e2
  rw [fzs_zs] at hl
  have hb3 : putBack [3] [some b.t, some (.int p), some (.int (d : Nat)), none] [some b2.t, some (.int p), some (.int (d : Nat)), none] = [some b2.t, some (.int p), some (.int (d : Nat)), none] := by simp [putBack, keepF, slot]
  rw [hb3] at hl
  refine ⟨ns ++ [1], b2, ?_, hb2, ⟨fun z hz => ?_, fun hne => ?_⟩, by simp, by rw [List.length_append, List.length_singleton, hn]⟩
  · show runFn (callN fns (n + 1)) f19 [b.t, .int p, .int (d : Nat)] = _
    generalize callN fns (n + 1) = Φ at *
    have m1 : evalE Φ (.lst (.cons (.int 1) .nil)) [some b2.t, some (.int p), some (.int (d : Nat)), none] = .ok (.lst true [.int 1]) [some b2.t, some (.int p), some (.int (d : Nat)), none] := by simp [doCallW, argsW, oneL, pureT, pureTs, execSs, execS, evalC, evalE, evalEs, evalAs, evalOe, evalOc, evalIt, opdOf, readV, slot, Opd.get, ofR, ofO, R.bind, op1, op2, bindG, backs, doCall, argsOf, refsOf, nodupN, setAll, isFz, isFzs, fz, fzs, fzI, kill, putBack, keepF, l1]
    have ad : FT.binT .Add (.lst true (ns.map T.int)) (.lst true [.int 1]) = some (.lst true ((ns ++ [1]).map T.int)) := by
      simp only [FT.binT, FT.addT]
      rw [if_pos ⟨isFzs_zs ns, rfl, by rw [List.length_map, List.length_singleton]; omega⟩, List.map_append]
      rfl
    exact run_of (ρ := [some b2.t, some (.int p), some (.int (d : Nat)), none]) [some b.t, some (.int p), some (.int (d : Nat)), none] rfl rfl (seq_rt (ret_eval (b1_ok (fun _ h => by cases h) (bin_ok (opd_nv (fun _ h => by cases h) hl) (opd_nv (fun _ h => by cases h) m1) rfl rfl ad) (by simp only [FT.b1T, isFzs_zs, if_true])))) rfl
  · rcases List.mem_append.mp hz with q | q
    · exact hr z q
    · rw [List.mem_singleton.mp q]; omega
  · have e : (ns ++ [1]).getLast hne = 1 := by simp
    rw [e]; omega
end LK

end
section
set_option Elab.async false
set_option linter.all false
set_option maxRecDepth 100000
set_option maxHeartbeats 1000000
namespace LK
open FT
/-! small powers one by one -/
abbrev sm_0 : S := (.asg (.nm 4) (.ix (.call 15 (.v (.var 1) (.v (.tup (.cons (.int 1) .nil)) (.v (.var 3) .nil)))) (.int 1)))
abbrev sm_1b_0t_0 : S := (.ret (.bl false))
abbrev sm_1b_0t : Ss := (.cons sm_1b_0t_0 .nil)
abbrev sm_1b_0e : Ss := .nil
abbrev sm_1b_0c : C := (.not (.tr (.call 8 (.v (.call 20 (.v (.var 1) (.v (.var 2) (.v (.var 5) (.v (.var 3) (.v (.cmp .Eq (.var 5) (.int 2)) .nil)))))) (.v (.var 4) .nil)))))
abbrev sm_1b_0 : S := (.ifs sm_1b_0c sm_1b_0t sm_1b_0e)
abbrev sm_1b_1 : S := (.asg (.nm 4) (.ix (.call 15 (.v (.var 1) (.v (.call 13 (.v (.var 1) (.v (.var 4) (.v (.var 2) .nil)))) (.v (.var 3) .nil)))) (.int 1)))
abbrev sm_1b : Ss := (.cons sm_1b_0 (.cons sm_1b_1 .nil))
abbrev sm_1 : S := (.for_ (.nm 5) (.r1 (.bin .Add (.int 2) (.call 6 (.r 0 (.v (.int 7) .nil))))) sm_1b [5])
abbrev sm_2 : S := (.ret (.bl true))
abbrev sm : Ss := (.cons sm_0 (.cons sm_1 (.cons sm_2 .nil)))
abbrev smE (b : BagS) (p : Int) (f g : List Int) (x4 x5 : Option T) : Env8 := [some b.t, some (.int p), some (fT f), some (fT g), x4, x5]
theorem call5 {Φ : Nat → List T → CR} {f : Nat} {e1 e2 e3 e4 e5 : E} {ρ ρ1 ρ2 ρ3 ρ4 ρ5 : Env8} {t1 t2 t3 t4 t5 u : T} (h1 : evalE Φ e1 ρ = .ok t1 ρ1) (h2 : evalE Φ e2 ρ1 = .ok t2 ρ2) (h3 : evalE Φ e3 ρ2 = .ok t3 ρ3) (h4 : evalE Φ e4 ρ3 = .ok t4 ρ4) (h5 : evalE Φ e5 ρ4 = .ok t5 ρ5) (h : Φ f [fz t1, fz t2, fz t3, fz t4, fz t5] = .ok u []) : evalE Φ (.call f (.v e1 (.v e2 (.v e3 (.v e4 (.v e5 .nil)))))) ρ = .ok u ρ5 := by
  simp only [evalE, evalAs, h1, h2, h3, h4, h5, R.bind, doCall, argsOf, refsOf, nodupN, Option.map, if_true, h, setAll]
theorem rest_at {Φ : Nat → List T → CR} {e : E} {ρ ρ1 : Env8} {p : Int} {f g q r : List Int} (k i j : Nat) (he : evalE Φ e ρ = .ok (fT f) ρ1) (d : Φ k [.int p, fT f, fT g] = .ok (.tup [fT q, fT r]) []) (h0 : slot ρ i = some (.int p)) (h3 : slot ρ1 j = some (fT g)) : evalE Φ (.ix (.call k (.v (.var i) (.v e (.v (.var j) .nil)))) (.int 1)) ρ = .ok (fT r) ρ1 := by
  have v0 : evalE Φ (.var i) ρ = .ok (.int p) ρ := var_ok h0 rfl
  have v3 : evalE Φ (.var j) ρ1 = .ok (fT g) ρ1 := var_ok h3 (isFz_fT _)
  have e2 : evalE Φ (.call k (.v (.var i) (.v e (.v (.var j) .nil)))) ρ = .ok (.tup [fT q, fT r]) ρ1 := call3 v0 he v3 (by rw [(fz_i _).b, (fz_f _).b, (fz_f _).b]; exact d)
  exact ix_ee (fun i h => by cases h) e2 (fun i h => by cases h) rfl ix_one
theorem not_call2 {Φ : Nat → List T → CR} {f : Nat} {as : As} {ρ ρ1 : Env8} (h : evalE Φ (.call f as) ρ = .ok (.bl true) ρ1) : evalC Φ (.not (.tr (.call f as))) ρ = .ok false ρ1 := not_call h
section
variable {Φ : Nat → List T → CR} {P : {p : Int // p ∈ primesL}} {f g : Fm P} (lf : f.v.length ≤ 101) (lg : g.v.length ≤ 200)
  (hdiv : ∀ h : Fm P, h.v.length ≤ 900 → ∃ q r : Fm P, Φ 15 [.int P.1, fT h.v, fT g.v] = .ok (.tup [fT q.v, fT r.v]) [] ∧ r.v.length < g.v.length ∧ Cg g h r)
  (hmul : ∀ a b : Fm P, a.v.length ≤ 300 → b.v.length ≤ 300 → Φ 13 [.int P.1, fT a.v, fT b.v] = .ok (fT (a * b).v) [])
  (hpw : ∀ m : Nat, m < 2 ^ 128 → ∀ k : Bool, ∃ r : Fm P, Φ 20 [.int P.1, fT f.v, .int (m : Nat), fT g.v, .bl k] = .ok (fT r.v) [] ∧ r.v.length < g.v.length ∧ Cg g (f ^ m) r)
  (hsame : ∀ h : List Int, h.length ≤ 1000 → Φ 8 [fT h, fT h] = .ok (.bl true) [])
include lf lg hdiv hmul hpw hsame
theorem sm_turn (b : BagS) (k : Nat) (hk : k < 1000) (r : Fm P) (lr : r.v.length < g.v.length) (cg : Cg g (f ^ k) r) : ∃ r' : Fm P, r'.v.length < g.v.length ∧ Cg g (f ^ (k + 1)) r' ∧ execSs Φ sm_1b (smE b P.1 f.v g.v (some (fT r.v)) (some (.int (k : Nat)))) = .nx (smE b P.1 f.v g.v (some (fT r'.v)) (some (.int (k : Nat)))) := by
  obtain ⟨r2, e20, l2, c2⟩ := hpw k (Nat.lt_trans hk (by decide)) (decide ((k : Int) = 2))
  have er := Cg.uniq lr l2 (cg.symm.trans c2)
  subst er
  have hs := hsame r.v (by omega)
  have ml := mulL_len P.1 r.v f.v
  have m13 := hmul r f (by omega) (by omega)
  obtain ⟨q, r', e15, l', c'⟩ := hdiv (r * f) (by show (mulL P.1 r.v f.v).length ≤ 900; omega)
  refine ⟨r', l', ?_, ?_⟩
  · rw [pw_succ]
    exact (cg.mul (Cg.refl g f)).trans c'
  have fp := fz_i P.1
  have ff := fz_f f.v
  have fg := fz_f g.v
  have fr := fz_f r.v
  have frf := fz_f (r * f).v
  have c : evalC Φ sm_1b_0c (smE b P.1 f.v g.v (some (fT r.v)) (some (.int (k : Nat)))) = .ok false (smE b P.1 f.v g.v (some (fT r.v)) (some (.int (k : Nat)))) := by
    have ek : evalE Φ (.cmp .Eq (.var 5) (.int 2)) (smE b P.1 f.v g.v (some (fT r.v)) (some (.int (k : Nat)))) = .ok (.bl (decide ((k : Int) = 2))) (smE b P.1 f.v g.v (some (fT r.v)) (some (.int (k : Nat)))) := by
      simp [doCallW, argsW, oneL, pureT, pureTs, execSs, execS, evalC, evalE, evalEs, evalAs, evalOe, evalOc, evalIt, opdOf, readV, slot, Opd.get, ofR, ofO, R.bind, op1, op2, bindG, backs, doCall, argsOf, refsOf, nodupN, setAll, isFz, isFzs, fz, fzs, fzI, kill, putBack, keepF, FT.cmpT]
    generalize decide ((k : Int) = 2) = kb at *
    have e5 := call5 (Φ := Φ) (f := 20) (e1 := .var 1) (e2 := .var 2) (e3 := .var 5) (e4 := .var 3) (t1 := .int P.1) (t2 := fT f.v) (t3 := .int (k : Nat)) (t4 := fT g.v) (ρ := smE b P.1 f.v g.v (some (fT r.v)) (some (.int (k : Nat)))) (var_ok rfl rfl) (var_ok rfl (isFz_fT _)) (var_ok rfl rfl) (var_ok rfl (isFz_fT _)) ek (by rw [fp.b, ff.b, (fz_i _).b, fg.b]; exact e20)
    exact not_call (call2 e5 (var_ok (t := fT r.v) rfl (isFz_fT _)) (by rw [fr.b]; exact hs))
  have s1 : execS Φ sm_1b_1 (smE b P.1 f.v g.v (some (fT r.v)) (some (.int (k : Nat)))) = .nx (smE b P.1 f.v g.v (some (fT r'.v)) (some (.int (k : Nat)))) := by
    have e1 : evalE Φ (.call 13 (.v (.var 1) (.v (.var 4) (.v (.var 2) .nil)))) (smE b P.1 f.v g.v (some (fT r.v)) (some (.int (k : Nat)))) = .ok (fT (r * f).v) (smE b P.1 f.v g.v (some (fT r.v)) (some (.int (k : Nat)))) := call3 (var_ok rfl rfl) (var_ok rfl (isFz_fT _)) (var_ok rfl (isFz_fT _)) (by rw [fp.b, fr.b, ff.b]; exact m13)
    have e3 := rest_at (Φ := Φ) 15 1 3 e1 e15 rfl rfl
    exact asg_nm e3 (by show 4 < 6; omega)
  exact seq_nx _ (if_no c) (seq_nx _ s1 rfl)
theorem sm_loop (b : BagS) : ∀ (n k : Nat) (r : Fm P), k + n < 1000 → r.v.length < g.v.length → Cg g (f ^ k) r → ∃ r' : Fm P, forL (bindG (.nm 5)) (execSs Φ sm_1b) [5] ((List.range' k n).map fun j => T.int (j : Nat)) (smE b P.1 f.v g.v (some (fT r.v)) none) = .nx (smE b P.1 f.v g.v (some (fT r'.v)) none)
  | 0, k, r, _, _, _ => ⟨r, rfl⟩
  | n + 1, k, r, h, lr, cg => by
    obtain ⟨r1, l1, c1, e1⟩ := sm_turn lf lg hdiv hmul hpw hsame b k (by omega) r lr cg
    obtain ⟨r2, e2⟩ := sm_loop b n (k + 1) r1 (by omega) l1 c1
    refine ⟨r2, ?_⟩
    rw [List.range'_succ, List.map_cons]
    have eb : bindG (.nm 5) (.int (k : Nat)) (smE b P.1 f.v g.v (some (fT r.v)) none) = some (smE b P.1 f.v g.v (some (fT r.v)) (some (.int (k : Nat)))) := rfl
    have ek : kill [5] (smE b P.1 f.v g.v (some (fT r1.v)) (some (.int (k : Nat)))) = smE b P.1 f.v g.v (some (fT r1.v)) none := rfl
    simp only [forL, eb, e1, ek]
    exact e2
theorem sm_run (hdraw : ∀ b : BagS, b.Ok → ∀ top : Int, 0 < top → top < 2 ^ 128 → ∃ (v : Int) (b' : BagS), Φ 6 [b.t, .int top] = .ok (.int v) [b'.t] ∧ 0 ≤ v ∧ v < top ∧ b'.Ok) (b : BagS) (hb : b.Ok) : ∃ (b' : BagS) (x4 : Option T), execSs Φ sm [some b.t, some (.int P.1), some (fT f.v), some (fT g.v), none, none] = .rt (.bl true) (smE b' P.1 f.v g.v x4 none) ∧ b'.Ok := by
  have l1 : 1 ≤ PySem.sizeLine := by rw [line_big]; omega
  obtain ⟨q0, r0, e15, l0, c0⟩ := hdiv 1 (by show ([1] : List Int).length ≤ 900; simp)
  have fp := fz_i P.1
  have fg := fz_f g.v
  have f1 := fz_f [1]
  have one : ∀ ρ : Env8, evalE Φ (.tup (.cons (.int 1) .nil)) ρ = .ok (fT [1]) ρ := fun ρ => by simp [doCallW, argsW, oneL, pureT, pureTs, execSs, execS, evalC, evalE, evalEs, evalAs, evalOe, evalOc, evalIt, opdOf, readV, slot, Opd.get, ofR, ofO, R.bind, op1, op2, bindG, backs, doCall, argsOf, refsOf, nodupN, setAll, isFz, isFzs, fz, fzs, fzI, kill, putBack, keepF, l1]
  have s0 : execS Φ sm_0 [some b.t, some (.int P.1), some (fT f.v), some (fT g.v), none, none] = .nx (smE b P.1 f.v g.v (some (fT r0.v)) none) := by
    have e3 := rest_at (Φ := Φ) 15 1 3 (one [some b.t, some (.int P.1), some (fT f.v), some (fT g.v), none, none]) e15 rfl rfl
    exact asg_nm e3 (by show 4 < 6; omega)
  obtain ⟨w, b1, e6, w0, w1, hb1⟩ := hdraw b hb 7 (by omega) (by omega)
  obtain ⟨w, rfl⟩ : ∃ k : Nat, w = (k : Nat) := ⟨w.toNat, by omega⟩
  have ev : evalE Φ (.bin .Add (.int 2) (.call 6 (.r 0 (.v (.int 7) .nil)))) (smE b P.1 f.v g.v (some (fT r0.v)) none) = .ok (.int ((2 + w : Nat) : Int)) (smE b1 P.1 f.v g.v (some (fT r0.v)) none) := by
    have e : ((2 + w : Nat) : Int) = 2 + (w : Int) := by omega
    rw [e]
    simp [doCallW, argsW, oneL, pureT, pureTs, execSs, execS, evalC, evalE, evalEs, evalAs, evalOe, evalOc, evalIt, opdOf, readV, slot, Opd.get, ofR, ofO, R.bind, op1, op2, bindG, backs, doCall, argsOf, refsOf, nodupN, setAll, isFz, isFzs, fz, fzs, fzI, kill, putBack, keepF, FT.binT, FT.addT, e6]
  have hi := rng_row (Φ := Φ) (by omega : 2 + w ≤ 1000) ev
  rw [List.range_eq_range'] at hi
  obtain ⟨r', e2⟩ := sm_loop lf lg hdiv hmul hpw hsame b1 (2 + w) 0 r0 (by omega) l0 (by rw [pw_zero]; exact c0)
  exact ⟨b1, _, seq_nx _ s0 (seq_nx _ (seq_for hi e2) (seq_rt (ret_eval rfl))), hb1⟩
end
theorem small_spec (n : Nat) {P : {p : Int // p ∈ primesL}} (f g : Fm P) (ng : g.v ≠ []) (lf : f.v.length ≤ 101) (lg : g.v.length ≤ 200) (b : BagS) (hb : b.Ok) : ∃ b' : BagS, callN fns (n + 5) 22 [b.t, .int P.1, fT f.v, fT g.v] = .ok (.bl true) [b'.t] ∧ b'.Ok := by
  obtain ⟨b', x4, e, hb'⟩ := sm_run (Φ := callN fns (n + 4)) lf lg (fun h lh => ldiv_fm (n + 2) h g ng lh (by omega)) (fun a b la lb => mul_form P.2 a.ok b.ok la lb (n + 2)) (fun m hm k => lpower_spec n f g ng (by omega) lg m hm k) (fun h lh => same_ints (n + 2) h lh) (fun b hb top h0 h1 => draw_spec (n + 3) b hb top h0 h1) b hb
  refine ⟨b', ?_, hb'⟩
  show runFn (callN fns (n + 4)) f22 [b.t, .int P.1, fT f.v, fT g.v] = _
  generalize callN fns (n + 4) = Φ at *
  exact run_of _ rfl rfl e rfl
end LK

end
section
set_option Elab.async false
set_option linter.all false
set_option maxRecDepth 100000
set_option maxHeartbeats 1000000
namespace LK
open FT
abbrev lw_0 : S := (.asg (.nm 1) (.call 5 (.v (.var 0) .nil)))
abbrev lw_1 : S := (.asg (.nm 2) (.call 11 (.r 1 .nil)))
abbrev lw_2 : S := (.asg (.nm 3) (.sl (.lc (.nm 5) (.r1 (.var 2)) (.so (.cmp .Lt (.call 6 (.r 1 (.v (.var 2) .nil))) (.int 2))) (.var 5) [5]) .no (.so (.int 3))))
abbrev lw_3 : S := (.asg (.nm 4) (.call 19 (.r 1 (.v (.var 2) (.v (.call 6 (.r 1 (.v (.int 3) .nil))) .nil)))))
abbrev lw_4b_0 : S := (.asg (.nm 4) (.call 13 (.v (.var 2) (.v (.var 4) (.v (.tup (.cons (.bin .Mod (.b1 .int (.bin .Sub (.int 0) (.var 5))) (.var 2)) (.cons (.int 1) .nil))) .nil)))))
abbrev lw_4b : Ss := (.cons lw_4b_0 .nil)
abbrev lw_4 : S := (.for_ (.nm 5) (.sq (.var 3)) lw_4b [])
abbrev lw_5 : S := (.asg (.nm 4) (.call 13 (.v (.var 2) (.v (.var 4) (.v (.tup (.cons (.bin .Add (.int 1) (.call 6 (.r 1 (.v (.bin .Sub (.var 2) (.int 1)) .nil)))) .nil)) .nil)))))
abbrev lw_6 : S := (.asg (.nm 6) (.call 18 (.r 1 (.v (.var 2) (.v (.call 7 (.r 1 (.v (.lst (.cons (.int 1) (.cons (.int 2) (.cons (.int 4) (.cons (.int 7) .nil))))) .nil))) .nil)))))
abbrev lw_7t_0 : S := (.ret (.bl false))
abbrev lw_7t : Ss := (.cons lw_7t_0 .nil)
abbrev lw_7e : Ss := .nil
abbrev lw_7c : C := (.or (.not (.tr (.call 22 (.r 1 (.v (.var 2) (.v (.var 6) (.v (.var 4) .nil))))))) (.not (.tr (.call 22 (.r 1 (.v (.var 2) (.v (.tup .nil) (.v (.var 4) .nil))))))))
abbrev lw_7 : S := (.ifs lw_7c lw_7t lw_7e)
abbrev lw_8t_0 : S := (.ret (.bl false))
abbrev lw_8t : Ss := (.cons lw_8t_0 .nil)
abbrev lw_8e : Ss := .nil
abbrev lw_8c : C := (.not (.tr (.call 8 (.v (.lst (.cons (.call 20 (.v (.var 2) (.v (.var 6) (.v (.int 1) (.v (.tup .nil) (.v (.bl true) .nil)))))) (.cons (.call 20 (.v (.var 2) (.v (.var 6) (.v (.call 6 (.r 1 (.v (.bin .Pow (.int 10) (.int 30)) .nil))) (.v (.tup .nil) (.v (.bl false) .nil)))))) .nil))) (.v (.lst (.cons (.tup (.cons (.str "zero") (.cons (.str "refused") .nil))) (.cons (.tup (.cons (.str "zero") (.cons (.str "refused") .nil))) .nil))) .nil)))))
abbrev lw_8 : S := (.ifs lw_8c lw_8t lw_8e)
abbrev lw_9t_0 : S := (.ret (.call 8 (.v (.lst (.cons (.call 20 (.v (.var 2) (.v (.var 6) (.v (.bin .Add (.int 1) (.call 6 (.r 1 (.v (.bin .Pow (.int 10) (.int 30)) .nil)))) (.v (.var 4) (.v (.bl false) .nil)))))) (.cons (.call 20 (.v (.var 2) (.v (.var 6) (.v (.bin .Pow (.int 10) (.int 30)) (.v (.var 4) (.v (.bl true) .nil)))))) .nil))) (.v (.lst (.cons (.tup .nil) (.cons (.tup .nil) .nil))) .nil))))
abbrev lw_9t : Ss := (.cons lw_9t_0 .nil)
abbrev lw_9e : Ss := .nil
abbrev lw_9c : C := (.cmp .Eq (.var 6) (.tup .nil))
abbrev lw_9 : S := (.ifs lw_9c lw_9t lw_9e)
abbrev lw_10 : S := (.asg (.nm 7) (.call 7 (.r 1 (.v (.lst (.cons (.bin .Pow (.int 10) (.int 30)) (.cons (.bin .Add (.int 1) (.call 6 (.r 1 (.v (.bin .Pow (.int 10) (.int 30)) .nil)))) (.cons (.bin .Add (.int 2) (.call 6 (.r 1 (.v (.bin .Pow (.int 10) (.int 6)) .nil)))) (.cons (.bin .Pow (.var 2) (.int 2)) (.cons (.bin .Add (.bin .Pow (.int 10) (.int 29)) (.call 6 (.r 1 (.v (.bin .Pow (.int 10) (.int 20)) .nil)))) .nil)))))) .nil))))
abbrev lw_11 : S := (.asg (.nm 8) (.call 20 (.v (.var 2) (.v (.var 6) (.v (.var 7) (.v (.var 4) (.v (.bl false) .nil)))))))
abbrev lw_12t_0 : S := (.ret (.bl false))
abbrev lw_12t : Ss := (.cons lw_12t_0 .nil)
abbrev lw_12e : Ss := .nil
abbrev lw_12c : C := (.or (.not (.tr (.call 17 (.v (.var 2) (.v (.var 8) .nil))))) (.cmp .GtE (.b1 .len (.var 8)) (.b1 .len (.var 4))))
abbrev lw_12 : S := (.ifs lw_12c lw_12t lw_12e)
abbrev lw_13t_0 : S := (.ret (.bl false))
abbrev lw_13t : Ss := (.cons lw_13t_0 .nil)
abbrev lw_13e : Ss := .nil
abbrev lw_13c : C := (.cmp .NotEq (.lc (.nm 5) (.sq (.var 3)) (.so (.cmp .NotEq (.call 16 (.v (.var 2) (.v (.var 8) (.v (.var 5) .nil)))) (.call 21 (.v (.var 2) (.v (.call 16 (.v (.var 2) (.v (.var 6) (.v (.var 5) .nil)))) (.v (.var 7) .nil)))))) (.int 1) [5]) (.lst .nil))
abbrev lw_13 : S := (.ifs lw_13c lw_13t lw_13e)
abbrev lw_14 : S := (.asg (.nm 9) (.call 7 (.r 1 (.v (.lst (.cons (.call 6 (.r 1 (.v (.bin .Add (.var 7) (.int 1)) .nil))) (.cons (.int 1) (.cons (.bin .FloorDiv (.var 7) (.int 2)) (.cons (.b2 .min (.var 7) (.call 6 (.r 1 (.v (.int 100) .nil)))) .nil))))) .nil))))
abbrev lw_15 : S := (.asg (.nm 10) (.lst (.cons (.call 20 (.v (.var 2) (.v (.var 6) (.v (.var 9) (.v (.var 4) (.v (.bl true) .nil)))))) (.cons (.call 20 (.v (.var 2) (.v (.var 6) (.v (.bin .Sub (.var 7) (.var 9)) (.v (.var 4) (.v (.bl false) .nil)))))) .nil))))
abbrev lw_16t_0 : S := (.ret (.bl false))
abbrev lw_16t : Ss := (.cons lw_16t_0 .nil)
abbrev lw_16e : Ss := .nil
abbrev lw_16c : C := (.or (.cmp .NotEq (.lc (.nm 13) (.sq (.var 10)) (.so (.not (.tr (.call 17 (.v (.var 2) (.v (.var 13) .nil)))))) (.int 1) [13]) (.lst .nil)) (.cmp .NotEq (.ix (.call 15 (.v (.var 2) (.v (.call 13 (.v (.var 2) (.v (.ix (.var 10) (.int 0)) (.v (.ix (.var 10) (.int 1)) .nil)))) (.v (.var 4) .nil)))) (.int 1)) (.var 8)))
abbrev lw_16 : S := (.ifs lw_16c lw_16t lw_16e)
abbrev lw_17 : S := (.par [9, 12] (.cons (.bin .Add (.int 1) (.call 6 (.r 1 (.v (.bin .Pow (.int 10) (.int 9)) .nil)))) (.cons (.bin .Add (.int 1) (.call 6 (.r 1 (.v (.bin .Pow (.int 10) (.int 9)) .nil)))) .nil)))
abbrev lw_18 : S := (.asg (.nm 11) (.call 20 (.v (.var 2) (.v (.var 6) (.v (.var 9) (.v (.var 4) (.v (.bl false) .nil)))))))
abbrev lw_19 : S := (.ret (.and (.call 17 (.v (.var 2) (.v (.var 11) .nil))) (.call 8 (.v (.call 20 (.v (.var 2) (.v (.var 11) (.v (.var 12) (.v (.var 4) (.v (.bl false) .nil)))))) (.v (.call 20 (.v (.var 2) (.v (.var 6) (.v (.bin .Mult (.var 9) (.var 12)) (.v (.var 4) (.v (.bl false) .nil)))))) .nil)))))
abbrev lw : Ss := (.cons lw_0 (.cons lw_1 (.cons lw_2 (.cons lw_3 (.cons lw_4 (.cons lw_5 (.cons lw_6 (.cons lw_7 (.cons lw_8 (.cons lw_9 (.cons lw_10 (.cons lw_11 (.cons lw_12 (.cons lw_13 (.cons lw_14 (.cons lw_15 (.cons lw_16 (.cons lw_17 (.cons lw_18 (.cons lw_19 .nil))))))))))))))))))))

abbrev wE (sc : List Int) (b : BagS) (x2 x3 x4 x5 x6 x7 x8 x9 x10 x11 x12 x13 : Option T) : Env8 := [some (.slst (sc.map T.int)), some b.t, x2, x3, x4, x5, x6, x7, x8, x9, x10, x11, x12, x13]

theorem pair_ok {Φ : Nat → List T → CR} {e1 e2 : E} {ρ ρ1 ρ2 : Env8} {x y : T} (h1 : evalE Φ e1 ρ = .ok x ρ1) (h2 : evalE Φ e2 ρ1 = .ok y ρ2) (fx : fz x = x) (fy : fz y = y) : evalE Φ (.tup (.cons e1 (.cons e2 .nil))) ρ = .ok (.tup [x, y]) ρ2 := by
  have l2 : 2 ≤ PySem.sizeLine := by rw [line_big]; omega
  simp [doCallW, argsW, oneL, pureT, pureTs, execSs, execS, evalC, evalE, evalEs, evalAs, evalOe, evalOc, evalIt, opdOf, readV, slot, Opd.get, ofR, ofO, R.bind, op1, op2, bindG, backs, doCall, argsOf, refsOf, nodupN, setAll, isFz, isFzs, fz, fzs, fzI, kill, putBack, keepF, h1, h2, fx, fy, l2]
section
variable {Φ : Nat → List T → CR} (sc : List Int)

theorem w1L {b b1 : BagS} {x2 x3 x4 x5 x6 x7 x8 x9 x10 x11 x12 x13 : Option T} {P : T}  (fP : FzT P) (e11 : Φ 11 [b.t] = .ok P [b1.t]) :
    execS Φ lw_1 (wE sc b x2 x3 x4 x5 x6 x7 x8 x9 x10 x11 x12 x13) = .nx (wE sc b1 (some P) x3 x4 x5 x6 x7 x8 x9 x10 x11 x12 x13) := by
  have l7 : 7 ≤ PySem.sizeLine := by rw [line_big]; omega
  have l1 : 1 ≤ PySem.sizeLine := by omega
  have l2 : 2 ≤ PySem.sizeLine := by omega
  have l3 : 3 ≤ PySem.sizeLine := by omega
  have l4 : 4 ≤ PySem.sizeLine := by omega
  have l5 : 5 ≤ PySem.sizeLine := by omega
  simp [doCallW, argsW, oneL, pureT, pureTs, execSs, execS, evalC, evalE, evalEs, evalAs, evalOe, evalOc, evalIt, opdOf, readV, slot, Opd.get, ofR, ofO, R.bind, op1, op2, bindG, backs, doCall, argsOf, refsOf, nodupN, setAll, isFz, isFzs, fz, fzs, fzI, kill, putBack, keepF, doCallK, srcT, FT.binT, FT.addT, FT.subT, FT.mulT, FT.modT, FT.fdvT, FT.powT, FT.b1T, FT.b2T, FT.lenT, FT.cmpT, FT.ltT, FT.leT, fP.a, fP.b, e11, l1, l2, l3, l4, l5, l7]

theorem w3L {b b2 b1 : BagS} {x3 x4 x5 x6 x7 x8 x9 x10 x11 x12 x13 : Option T} {P D G : T}  (fP : FzT P) (fD : FzT D) (fG : FzT G) (e6 : Φ 6 [b.t, .int 3] = .ok D [b1.t]) (e19 : Φ 19 [b1.t, P, D] = .ok G [b2.t]) :
    execS Φ lw_3 (wE sc b (some P) x3 x4 x5 x6 x7 x8 x9 x10 x11 x12 x13) = .nx (wE sc b2 (some P) x3 (some G) x5 x6 x7 x8 x9 x10 x11 x12 x13) := by
  have l7 : 7 ≤ PySem.sizeLine := by rw [line_big]; omega
  have l1 : 1 ≤ PySem.sizeLine := by omega
  have l2 : 2 ≤ PySem.sizeLine := by omega
  have l3 : 3 ≤ PySem.sizeLine := by omega
  have l4 : 4 ≤ PySem.sizeLine := by omega
  have l5 : 5 ≤ PySem.sizeLine := by omega
  simp [doCallW, argsW, oneL, pureT, pureTs, execSs, execS, evalC, evalE, evalEs, evalAs, evalOe, evalOc, evalIt, opdOf, readV, slot, Opd.get, ofR, ofO, R.bind, op1, op2, bindG, backs, doCall, argsOf, refsOf, nodupN, setAll, isFz, isFzs, fz, fzs, fzI, kill, putBack, keepF, doCallK, srcT, FT.binT, FT.addT, FT.subT, FT.mulT, FT.modT, FT.fdvT, FT.powT, FT.b1T, FT.b2T, FT.lenT, FT.cmpT, FT.ltT, FT.leT, fP.a, fP.b, fD.a, fD.b, fG.a, fG.b, e6, e19, l1, l2, l3, l4, l5, l7]

theorem w4L {b : BagS} {x3 x6 x7 x8 x9 x10 x11 x12 x13 : Option T} {G G2 : T} {p c : Int} (fG : FzT G) (p0 : 0 < p) (e13 : Φ 13 [.int p, G, .tup [.int ((0 - c) % p), .int 1]] = .ok G2 []) :
    execS Φ lw_4b_0 (wE sc b (some (.int p)) x3 (some G) (some (.int c)) x6 x7 x8 x9 x10 x11 x12 x13) = .nx (wE sc b (some (.int p)) x3 (some G2) (some (.int c)) x6 x7 x8 x9 x10 x11 x12 x13) := by
  have l7 : 7 ≤ PySem.sizeLine := by rw [line_big]; omega
  have l1 : 1 ≤ PySem.sizeLine := by omega
  have l2 : 2 ≤ PySem.sizeLine := by omega
  have l3 : 3 ≤ PySem.sizeLine := by omega
  have l4 : 4 ≤ PySem.sizeLine := by omega
  have l5 : 5 ≤ PySem.sizeLine := by omega
  have v : evalE Φ (.bin .Mod (.b1 .int (.bin .Sub (.int 0) (.var 5))) (.var 2)) (wE sc b (some (.int p)) x3 (some G) (some (.int c)) x6 x7 x8 x9 x10 x11 x12 x13) = .ok (.int ((0 - c) % p)) (wE sc b (some (.int p)) x3 (some G) (some (.int c)) x6 x7 x8 x9 x10 x11 x12 x13) := by
    simp [doCallW, argsW, oneL, pureT, pureTs, execSs, execS, evalC, evalE, evalEs, evalAs, evalOe, evalOc, evalIt, opdOf, readV, slot, Opd.get, ofR, ofO, R.bind, op1, op2, bindG, backs, doCall, argsOf, refsOf, nodupN, setAll, isFz, isFzs, fz, fzs, fzI, kill, putBack, keepF, FT.binT, FT.addT, FT.subT, FT.mulT, FT.modT, FT.fdvT, FT.powT, FT.b1T, FT.b2T, FT.lenT, FT.cmpT, FT.ltT, FT.leT, p0]
  have v2 := pair_ok (x := .int ((0 - c) % p)) (y := .int 1) v (show evalE Φ (.int 1) (wE sc b (some (.int p)) x3 (some G) (some (.int c)) x6 x7 x8 x9 x10 x11 x12 x13) = .ok (.int 1) (wE sc b (some (.int p)) x3 (some G) (some (.int c)) x6 x7 x8 x9 x10 x11 x12 x13) from rfl) rfl rfl
  have e := call3 (Φ := Φ) (f := 13) (e1 := .var 2) (e2 := .var 4) (t1 := .int p) (t2 := G) (var_ok rfl rfl) (var_ok rfl fG.a) v2 (by rw [fG.b]; exact e13)
  exact asg_nm e (by show 4 < 14; omega)

theorem w5L {b b1 : BagS} {x3 x5 x6 x7 x8 x9 x10 x11 x12 x13 : Option T} {G G2 : T} {p u : Int} (fG : FzT G) (e6 : Φ 6 [b.t, .int (p - 1)] = .ok (.int u) [b1.t]) (e13 : Φ 13 [.int p, G, .tup [.int (1 + u)]] = .ok G2 []) :
    execS Φ lw_5 (wE sc b (some (.int p)) x3 (some G) x5 x6 x7 x8 x9 x10 x11 x12 x13) = .nx (wE sc b1 (some (.int p)) x3 (some G2) x5 x6 x7 x8 x9 x10 x11 x12 x13) := by
  have l7 : 7 ≤ PySem.sizeLine := by rw [line_big]; omega
  have l1 : 1 ≤ PySem.sizeLine := by omega
  have l2 : 2 ≤ PySem.sizeLine := by omega
  have l3 : 3 ≤ PySem.sizeLine := by omega
  have l4 : 4 ≤ PySem.sizeLine := by omega
  have l5 : 5 ≤ PySem.sizeLine := by omega
  simp [doCallW, argsW, oneL, pureT, pureTs, execSs, execS, evalC, evalE, evalEs, evalAs, evalOe, evalOc, evalIt, opdOf, readV, slot, Opd.get, ofR, ofO, R.bind, op1, op2, bindG, backs, doCall, argsOf, refsOf, nodupN, setAll, isFz, isFzs, fz, fzs, fzI, kill, putBack, keepF, doCallK, srcT, FT.binT, FT.addT, FT.subT, FT.mulT, FT.modT, FT.fdvT, FT.powT, FT.b1T, FT.b2T, FT.lenT, FT.cmpT, FT.ltT, FT.leT, fG.a, fG.b, e6, e13, l1, l2, l3, l4, l5, l7]

theorem w6L {b b2 b1 : BagS} {x3 x4 x5 x6 x7 x8 x9 x10 x11 x12 x13 : Option T} {P D F : T}  (fP : FzT P) (fD : FzT D) (fF : FzT F) (e7 : Φ 7 [b.t, .lst false [.int 1, .int 2, .int 4, .int 7]] = .ok D [b1.t]) (e18 : Φ 18 [b1.t, P, D] = .ok F [b2.t]) :
    execS Φ lw_6 (wE sc b (some P) x3 x4 x5 x6 x7 x8 x9 x10 x11 x12 x13) = .nx (wE sc b2 (some P) x3 x4 x5 (some F) x7 x8 x9 x10 x11 x12 x13) := by
  have l7 : 7 ≤ PySem.sizeLine := by rw [line_big]; omega
  have l1 : 1 ≤ PySem.sizeLine := by omega
  have l2 : 2 ≤ PySem.sizeLine := by omega
  have l3 : 3 ≤ PySem.sizeLine := by omega
  have l4 : 4 ≤ PySem.sizeLine := by omega
  have l5 : 5 ≤ PySem.sizeLine := by omega
  simp [doCallW, argsW, oneL, pureT, pureTs, execSs, execS, evalC, evalE, evalEs, evalAs, evalOe, evalOc, evalIt, opdOf, readV, slot, Opd.get, ofR, ofO, R.bind, op1, op2, bindG, backs, doCall, argsOf, refsOf, nodupN, setAll, isFz, isFzs, fz, fzs, fzI, kill, putBack, keepF, doCallK, srcT, FT.binT, FT.addT, FT.subT, FT.mulT, FT.modT, FT.fdvT, FT.powT, FT.b1T, FT.b2T, FT.lenT, FT.cmpT, FT.ltT, FT.leT, fP.a, fP.b, fD.a, fD.b, fF.a, fF.b, e7, e18, l1, l2, l3, l4, l5, l7]

theorem w7L {b b2 b1 : BagS} {x3 x5 x7 x8 x9 x10 x11 x12 x13 : Option T} {P G F : T}  (fP : FzT P) (fG : FzT G) (fF : FzT F) (e22a : Φ 22 [b.t, P, F, G] = .ok (.bl true) [b1.t]) (e22b : Φ 22 [b1.t, P, .tup [], G] = .ok (.bl true) [b2.t]) :
    evalC Φ lw_7c (wE sc b (some P) x3 (some G) x5 (some F) x7 x8 x9 x10 x11 x12 x13) = .ok false (wE sc b2 (some P) x3 (some G) x5 (some F) x7 x8 x9 x10 x11 x12 x13) := by
  have l7 : 7 ≤ PySem.sizeLine := by rw [line_big]; omega
  have l1 : 1 ≤ PySem.sizeLine := by omega
  have l2 : 2 ≤ PySem.sizeLine := by omega
  have l3 : 3 ≤ PySem.sizeLine := by omega
  have l4 : 4 ≤ PySem.sizeLine := by omega
  have l5 : 5 ≤ PySem.sizeLine := by omega
  refine cor_f (ρ1 := (wE sc b1 (some P) x3 (some G) x5 (some F) x7 x8 x9 x10 x11 x12 x13)) (not_call ?_) (not_call ?_)
  · simp [doCallW, argsW, oneL, pureT, pureTs, execSs, execS, evalC, evalE, evalEs, evalAs, evalOe, evalOc, evalIt, opdOf, readV, slot, Opd.get, ofR, ofO, R.bind, op1, op2, bindG, backs, doCall, argsOf, refsOf, nodupN, setAll, isFz, isFzs, fz, fzs, fzI, kill, putBack, keepF, fP.a, fP.b, fG.a, fG.b, fF.a, fF.b, e22a, e22b]
  · simp [doCallW, argsW, oneL, pureT, pureTs, execSs, execS, evalC, evalE, evalEs, evalAs, evalOe, evalOc, evalIt, opdOf, readV, slot, Opd.get, ofR, ofO, R.bind, op1, op2, bindG, backs, doCall, argsOf, refsOf, nodupN, setAll, isFz, isFzs, fz, fzs, fzI, kill, putBack, keepF, fP.a, fP.b, fG.a, fG.b, fF.a, fF.b, e22a, e22b]

theorem w8L {b b1 : BagS} {x3 x5 x7 x8 x9 x10 x11 x12 x13 : Option T} {P G F M Z : T}  (fP : FzT P) (fG : FzT G) (fF : FzT F) (fM : FzT M) (hZ : Z = .tup [.str "zero", .str "refused"]) (e20a : Φ 20 [P, F, .int 1, .tup [], .bl true] = .ok Z []) (e6 : Φ 6 [b.t, .int 1000000000000000000000000000000] = .ok M [b1.t]) (e20b : Φ 20 [P, F, M, .tup [], .bl false] = .ok Z []) (s : Φ 8 [.lst false [Z, Z], .lst false [Z, Z]] = .ok (.bl true) []) :
    evalC Φ lw_8c (wE sc b (some P) x3 (some G) x5 (some F) x7 x8 x9 x10 x11 x12 x13) = .ok false (wE sc b1 (some P) x3 (some G) x5 (some F) x7 x8 x9 x10 x11 x12 x13) := by
  have l7 : 7 ≤ PySem.sizeLine := by rw [line_big]; omega
  have l1 : 1 ≤ PySem.sizeLine := by omega
  have l2 : 2 ≤ PySem.sizeLine := by omega
  have l3 : 3 ≤ PySem.sizeLine := by omega
  have l4 : 4 ≤ PySem.sizeLine := by omega
  have l5 : 5 ≤ PySem.sizeLine := by omega
  subst hZ
  refine not_call ?_
  simp [doCallW, argsW, oneL, pureT, pureTs, execSs, execS, evalC, evalE, evalEs, evalAs, evalOe, evalOc, evalIt, opdOf, readV, slot, Opd.get, ofR, ofO, R.bind, op1, op2, bindG, backs, doCall, argsOf, refsOf, nodupN, setAll, isFz, isFzs, fz, fzs, fzI, kill, putBack, keepF, doCallK, srcT, FT.binT, FT.addT, FT.subT, FT.mulT, FT.modT, FT.fdvT, FT.powT, FT.b1T, FT.b2T, FT.lenT, FT.cmpT, FT.ltT, FT.leT, fP.a, fP.b, fG.a, fG.b, fF.a, fF.b, fM.a, fM.b, e20a, e6, e20b, s, l1, l2, l3, l4, l5, l7, fz, fzs]

theorem w9cL {b : BagS} {x2 x3 x4 x5 x7 x8 x9 x10 x11 x12 x13 : Option T} {F : T} {q : Bool}   (eq : eqT F (.tup []) = some q) :
    evalC Φ lw_9c (wE sc b x2 x3 x4 x5 (some F) x7 x8 x9 x10 x11 x12 x13) = .ok q (wE sc b x2 x3 x4 x5 (some F) x7 x8 x9 x10 x11 x12 x13) := by
  have l7 : 7 ≤ PySem.sizeLine := by rw [line_big]; omega
  have l1 : 1 ≤ PySem.sizeLine := by omega
  have l2 : 2 ≤ PySem.sizeLine := by omega
  have l3 : 3 ≤ PySem.sizeLine := by omega
  have l4 : 4 ≤ PySem.sizeLine := by omega
  have l5 : 5 ≤ PySem.sizeLine := by omega
  simp [doCallW, argsW, oneL, pureT, pureTs, execSs, execS, evalC, evalE, evalEs, evalAs, evalOe, evalOc, evalIt, opdOf, readV, slot, Opd.get, ofR, ofO, R.bind, op1, op2, bindG, backs, doCall, argsOf, refsOf, nodupN, setAll, isFz, isFzs, fz, fzs, fzI, kill, putBack, keepF, FT.cmpT, eq]

theorem w9L {b b1 : BagS} {x3 x5 x7 x8 x9 x10 x11 x12 x13 : Option T} {P G F : T} {u : Int} (fP : FzT P) (fG : FzT G) (fF : FzT F) (e6 : Φ 6 [b.t, .int 1000000000000000000000000000000] = .ok (.int u) [b1.t]) (e20a : Φ 20 [P, F, .int (1 + u), G, .bl false] = .ok (.tup []) []) (e20b : Φ 20 [P, F, .int 1000000000000000000000000000000, G, .bl true] = .ok (.tup []) []) (s : Φ 8 [.lst false [.tup [], .tup []], .lst false [.tup [], .tup []]] = .ok (.bl true) []) :
    evalE Φ (.call 8 (.v (.lst (.cons (.call 20 (.v (.var 2) (.v (.var 6) (.v (.bin .Add (.int 1) (.call 6 (.r 1 (.v (.bin .Pow (.int 10) (.int 30)) .nil)))) (.v (.var 4) (.v (.bl false) .nil)))))) (.cons (.call 20 (.v (.var 2) (.v (.var 6) (.v (.bin .Pow (.int 10) (.int 30)) (.v (.var 4) (.v (.bl true) .nil)))))) .nil))) (.v (.lst (.cons (.tup .nil) (.cons (.tup .nil) .nil))) .nil))) (wE sc b (some P) x3 (some G) x5 (some F) x7 x8 x9 x10 x11 x12 x13) = .ok (.bl true) (wE sc b1 (some P) x3 (some G) x5 (some F) x7 x8 x9 x10 x11 x12 x13) := by
  have l7 : 7 ≤ PySem.sizeLine := by rw [line_big]; omega
  have l1 : 1 ≤ PySem.sizeLine := by omega
  have l2 : 2 ≤ PySem.sizeLine := by omega
  have l3 : 3 ≤ PySem.sizeLine := by omega
  have l4 : 4 ≤ PySem.sizeLine := by omega
  have l5 : 5 ≤ PySem.sizeLine := by omega
  simp [doCallW, argsW, oneL, pureT, pureTs, execSs, execS, evalC, evalE, evalEs, evalAs, evalOe, evalOc, evalIt, opdOf, readV, slot, Opd.get, ofR, ofO, R.bind, op1, op2, bindG, backs, doCall, argsOf, refsOf, nodupN, setAll, isFz, isFzs, fz, fzs, fzI, kill, putBack, keepF, doCallK, srcT, FT.binT, FT.addT, FT.subT, FT.mulT, FT.modT, FT.fdvT, FT.powT, FT.b1T, FT.b2T, FT.lenT, FT.cmpT, FT.ltT, FT.leT, fP.a, fP.b, fG.a, fG.b, fF.a, fF.b, e6, e20a, e20b, s, l1, l2, l3, l4, l5, l7, fz, fzs]

theorem w10L {b b4 b1 b2 b3 : BagS} {x3 x4 x5 x6 x7 x8 x9 x10 x11 x12 x13 : Option T} {M : T} {p u1 u2 u3 : Int} (fM : FzT M) (pb : p.natAbs < 2 ^ 64) (e6a : Φ 6 [b.t, .int 1000000000000000000000000000000] = .ok (.int u1) [b1.t]) (e6b : Φ 6 [b1.t, .int 1000000] = .ok (.int u2) [b2.t]) (e6c : Φ 6 [b2.t, .int 100000000000000000000] = .ok (.int u3) [b3.t]) (e7 : Φ 7 [b3.t, .lst false [.int 1000000000000000000000000000000, .int (1 + u1), .int (2 + u2), .int (p ^ 2), .int (100000000000000000000000000000 + u3)]] = .ok M [b4.t]) :
    execS Φ lw_10 (wE sc b (some (.int p)) x3 x4 x5 x6 x7 x8 x9 x10 x11 x12 x13) = .nx (wE sc b4 (some (.int p)) x3 x4 x5 x6 (some M) x8 x9 x10 x11 x12 x13) := by
  have l7 : 7 ≤ PySem.sizeLine := by rw [line_big]; omega
  have l1 : 1 ≤ PySem.sizeLine := by omega
  have l2 : 2 ≤ PySem.sizeLine := by omega
  have l3 : 3 ≤ PySem.sizeLine := by omega
  have l4 : 4 ≤ PySem.sizeLine := by omega
  have l5 : 5 ≤ PySem.sizeLine := by omega
  have pb' : p.natAbs < 18446744073709551616 := pb
  simp [doCallW, argsW, oneL, pureT, pureTs, execSs, execS, evalC, evalE, evalEs, evalAs, evalOe, evalOc, evalIt, opdOf, readV, slot, Opd.get, ofR, ofO, R.bind, op1, op2, bindG, backs, doCall, argsOf, refsOf, nodupN, setAll, isFz, isFzs, fz, fzs, fzI, kill, putBack, keepF, FT.binT, FT.addT, FT.subT, FT.mulT, FT.modT, FT.fdvT, FT.powT, FT.b1T, FT.b2T, FT.lenT, FT.cmpT, FT.ltT, FT.leT, pb', e6a, e6b, e6c, e7, l5, fz, fzs]

theorem w11L {b : BagS} {x3 x5 x8 x9 x10 x11 x12 x13 : Option T} {P G F M A : T}  (fP : FzT P) (fG : FzT G) (fF : FzT F) (fM : FzT M) (e20 : Φ 20 [P, F, M, G, .bl false] = .ok A []) :
    execS Φ lw_11 (wE sc b (some P) x3 (some G) x5 (some F) (some M) x8 x9 x10 x11 x12 x13) = .nx (wE sc b (some P) x3 (some G) x5 (some F) (some M) (some A) x9 x10 x11 x12 x13) := by
  have l7 : 7 ≤ PySem.sizeLine := by rw [line_big]; omega
  have l1 : 1 ≤ PySem.sizeLine := by omega
  have l2 : 2 ≤ PySem.sizeLine := by omega
  have l3 : 3 ≤ PySem.sizeLine := by omega
  have l4 : 4 ≤ PySem.sizeLine := by omega
  have l5 : 5 ≤ PySem.sizeLine := by omega
  simp [doCallW, argsW, oneL, pureT, pureTs, execSs, execS, evalC, evalE, evalEs, evalAs, evalOe, evalOc, evalIt, opdOf, readV, slot, Opd.get, ofR, ofO, R.bind, op1, op2, bindG, backs, doCall, argsOf, refsOf, nodupN, setAll, isFz, isFzs, fz, fzs, fzI, kill, putBack, keepF, doCallK, srcT, FT.binT, FT.addT, FT.subT, FT.mulT, FT.modT, FT.fdvT, FT.powT, FT.b1T, FT.b2T, FT.lenT, FT.cmpT, FT.ltT, FT.leT, fP.a, fP.b, fG.a, fG.b, fF.a, fF.b, fM.a, fM.b, e20, l1, l2, l3, l4, l5, l7]

theorem w12L {b : BagS} {x3 x5 x6 x7 x9 x10 x11 x12 x13 : Option T} {P G A : T} {i j : Int} (fP : FzT P) (fG : FzT G) (fA : FzT A) (e17 : Φ 17 [P, A] = .ok (.bl true) []) (la : FT.b1T .len A = some (.int i)) (lg : FT.b1T .len G = some (.int j)) (lt : ¬ j ≤ i) :
    evalC Φ lw_12c (wE sc b (some P) x3 (some G) x5 x6 x7 (some A) x9 x10 x11 x12 x13) = .ok false (wE sc b (some P) x3 (some G) x5 x6 x7 (some A) x9 x10 x11 x12 x13) := by
  have l7 : 7 ≤ PySem.sizeLine := by rw [line_big]; omega
  have l1 : 1 ≤ PySem.sizeLine := by omega
  have l2 : 2 ≤ PySem.sizeLine := by omega
  have l3 : 3 ≤ PySem.sizeLine := by omega
  have l4 : 4 ≤ PySem.sizeLine := by omega
  have l5 : 5 ≤ PySem.sizeLine := by omega
  refine cor_f (ρ1 := (wE sc b (some P) x3 (some G) x5 x6 x7 (some A) x9 x10 x11 x12 x13)) (not_call ?_) ?_
  · simp [doCallW, argsW, oneL, pureT, pureTs, execSs, execS, evalC, evalE, evalEs, evalAs, evalOe, evalOc, evalIt, opdOf, readV, slot, Opd.get, ofR, ofO, R.bind, op1, op2, bindG, backs, doCall, argsOf, refsOf, nodupN, setAll, isFz, isFzs, fz, fzs, fzI, kill, putBack, keepF, fP.a, fP.b, fA.a, fA.b, e17]
  · simp [doCallW, argsW, oneL, pureT, pureTs, execSs, execS, evalC, evalE, evalEs, evalAs, evalOe, evalOc, evalIt, opdOf, readV, slot, Opd.get, ofR, ofO, R.bind, op1, op2, bindG, backs, doCall, argsOf, refsOf, nodupN, setAll, isFz, isFzs, fz, fzs, fzI, kill, putBack, keepF, FT.cmpT, FT.leT, la, lg, lt]

theorem w14L {b b3 b1 b2 : BagS} {x2 x3 x4 x5 x6 x8 x9 x10 x11 x12 x13 : Option T} {A : T} {m u v : Int} (fA : FzT A) (e6a : Φ 6 [b.t, .int (m + 1)] = .ok (.int u) [b1.t]) (e6b : Φ 6 [b1.t, .int 100] = .ok (.int v) [b2.t]) (e7 : Φ 7 [b2.t, .lst false [.int u, .int 1, .int (m / 2), .int (if v < m then v else m)]] = .ok A [b3.t]) :
    execS Φ lw_14 (wE sc b x2 x3 x4 x5 x6 (some (.int m)) x8 x9 x10 x11 x12 x13) = .nx (wE sc b3 x2 x3 x4 x5 x6 (some (.int m)) x8 (some A) x10 x11 x12 x13) := by
  have l7 : 7 ≤ PySem.sizeLine := by rw [line_big]; omega
  have l1 : 1 ≤ PySem.sizeLine := by omega
  have l2 : 2 ≤ PySem.sizeLine := by omega
  have l3 : 3 ≤ PySem.sizeLine := by omega
  have l4 : 4 ≤ PySem.sizeLine := by omega
  have l5 : 5 ≤ PySem.sizeLine := by omega
  have lg2 : Nat.log2 2 < 9000 := by decide
  simp [doCallW, argsW, oneL, pureT, pureTs, execSs, execS, evalC, evalE, evalEs, evalAs, evalOe, evalOc, evalIt, opdOf, readV, slot, Opd.get, ofR, ofO, R.bind, op1, op2, bindG, backs, doCall, argsOf, refsOf, nodupN, setAll, isFz, isFzs, fz, fzs, fzI, kill, putBack, keepF, FT.binT, FT.addT, FT.subT, FT.mulT, FT.modT, FT.fdvT, FT.powT, FT.b1T, FT.b2T, FT.lenT, FT.cmpT, FT.ltT, FT.leT, lg2, e6a, e6b, e7, l4, fz, fzs]

theorem w15L {b : BagS} {x3 x5 x8 x10 x11 x12 x13 : Option T} {P G F R1 R2 : T} {m a : Int} (fP : FzT P) (fG : FzT G) (fF : FzT F) (fR1 : FzT R1) (fR2 : FzT R2) (e20a : Φ 20 [P, F, .int a, G, .bl true] = .ok R1 []) (e20b : Φ 20 [P, F, .int (m - a), G, .bl false] = .ok R2 []) :
    execS Φ lw_15 (wE sc b (some P) x3 (some G) x5 (some F) (some (.int m)) x8 (some (.int a)) x10 x11 x12 x13) = .nx (wE sc b (some P) x3 (some G) x5 (some F) (some (.int m)) x8 (some (.int a)) (some (.lst true [R1, R2])) x11 x12 x13) := by
  have l7 : 7 ≤ PySem.sizeLine := by rw [line_big]; omega
  have l1 : 1 ≤ PySem.sizeLine := by omega
  have l2 : 2 ≤ PySem.sizeLine := by omega
  have l3 : 3 ≤ PySem.sizeLine := by omega
  have l4 : 4 ≤ PySem.sizeLine := by omega
  have l5 : 5 ≤ PySem.sizeLine := by omega
  simp [doCallW, argsW, oneL, pureT, pureTs, execSs, execS, evalC, evalE, evalEs, evalAs, evalOe, evalOc, evalIt, opdOf, readV, slot, Opd.get, ofR, ofO, R.bind, op1, op2, bindG, backs, doCall, argsOf, refsOf, nodupN, setAll, isFz, isFzs, fz, fzs, fzI, kill, putBack, keepF, doCallK, srcT, FT.binT, FT.addT, FT.subT, FT.mulT, FT.modT, FT.fdvT, FT.powT, FT.b1T, FT.b2T, FT.lenT, FT.cmpT, FT.ltT, FT.leT, fP.a, fP.b, fG.a, fG.b, fF.a, fF.b, fR1.a, fR1.b, fR2.a, fR2.b, e20a, e20b, l1, l2, l3, l4, l5, l7]

theorem w17L {b b2 b1 : BagS} {x2 x3 x4 x5 x6 x7 x8 x9 x10 x11 x12 x13 : Option T}  {u v : Int}  (e6a : Φ 6 [b.t, .int 1000000000] = .ok (.int u) [b1.t]) (e6b : Φ 6 [b1.t, .int 1000000000] = .ok (.int v) [b2.t]) :
    execS Φ lw_17 (wE sc b x2 x3 x4 x5 x6 x7 x8 x9 x10 x11 x12 x13) = .nx (wE sc b2 x2 x3 x4 x5 x6 x7 x8 (some (.int (1 + u))) x10 x11 (some (.int (1 + v))) x13) := by
  have l7 : 7 ≤ PySem.sizeLine := by rw [line_big]; omega
  have l1 : 1 ≤ PySem.sizeLine := by omega
  have l2 : 2 ≤ PySem.sizeLine := by omega
  have l3 : 3 ≤ PySem.sizeLine := by omega
  have l4 : 4 ≤ PySem.sizeLine := by omega
  have l5 : 5 ≤ PySem.sizeLine := by omega
  simp [doCallW, argsW, oneL, pureT, pureTs, execSs, execS, evalC, evalE, evalEs, evalAs, evalOe, evalOc, evalIt, opdOf, readV, slot, Opd.get, ofR, ofO, R.bind, op1, op2, bindG, backs, doCall, argsOf, refsOf, nodupN, setAll, isFz, isFzs, fz, fzs, fzI, kill, putBack, keepF, doCallK, srcT, FT.binT, FT.addT, FT.subT, FT.mulT, FT.modT, FT.fdvT, FT.powT, FT.b1T, FT.b2T, FT.lenT, FT.cmpT, FT.ltT, FT.leT, e6a, e6b, l1, l2, l3, l4, l5, l7]

theorem w18L {b : BagS} {x3 x5 x7 x8 x10 x11 x12 x13 : Option T} {P G F A : T} {a : Int} (fP : FzT P) (fG : FzT G) (fF : FzT F) (e20 : Φ 20 [P, F, .int a, G, .bl false] = .ok A []) :
    execS Φ lw_18 (wE sc b (some P) x3 (some G) x5 (some F) x7 x8 (some (.int a)) x10 x11 x12 x13) = .nx (wE sc b (some P) x3 (some G) x5 (some F) x7 x8 (some (.int a)) x10 (some A) x12 x13) := by
  have l7 : 7 ≤ PySem.sizeLine := by rw [line_big]; omega
  have l1 : 1 ≤ PySem.sizeLine := by omega
  have l2 : 2 ≤ PySem.sizeLine := by omega
  have l3 : 3 ≤ PySem.sizeLine := by omega
  have l4 : 4 ≤ PySem.sizeLine := by omega
  have l5 : 5 ≤ PySem.sizeLine := by omega
  simp [doCallW, argsW, oneL, pureT, pureTs, execSs, execS, evalC, evalE, evalEs, evalAs, evalOe, evalOc, evalIt, opdOf, readV, slot, Opd.get, ofR, ofO, R.bind, op1, op2, bindG, backs, doCall, argsOf, refsOf, nodupN, setAll, isFz, isFzs, fz, fzs, fzI, kill, putBack, keepF, doCallK, srcT, FT.binT, FT.addT, FT.subT, FT.mulT, FT.modT, FT.fdvT, FT.powT, FT.b1T, FT.b2T, FT.lenT, FT.cmpT, FT.ltT, FT.leT, fP.a, fP.b, fG.a, fG.b, fF.a, fF.b, e20, l1, l2, l3, l4, l5, l7]

theorem w19L {b : BagS} {x3 x5 x7 x8 x10 x13 : Option T} {P G F A B : T} {a c : Int} (fP : FzT P) (fG : FzT G) (fF : FzT F) (fA : FzT A) (fB : FzT B) (mo : mulOk a c = true) (e17 : Φ 17 [P, A] = .ok (.bl true) []) (e20a : Φ 20 [P, A, .int c, G, .bl false] = .ok B []) (e20b : Φ 20 [P, F, .int (a * c), G, .bl false] = .ok B []) (s : Φ 8 [B, B] = .ok (.bl true) []) :
    evalE Φ (.and (.call 17 (.v (.var 2) (.v (.var 11) .nil))) (.call 8 (.v (.call 20 (.v (.var 2) (.v (.var 11) (.v (.var 12) (.v (.var 4) (.v (.bl false) .nil)))))) (.v (.call 20 (.v (.var 2) (.v (.var 6) (.v (.bin .Mult (.var 9) (.var 12)) (.v (.var 4) (.v (.bl false) .nil)))))) .nil)))) (wE sc b (some P) x3 (some G) x5 (some F) x7 x8 (some (.int a)) x10 (some A) (some (.int c)) x13) = .ok (.bl true) (wE sc b (some P) x3 (some G) x5 (some F) x7 x8 (some (.int a)) x10 (some A) (some (.int c)) x13) := by
  have l7 : 7 ≤ PySem.sizeLine := by rw [line_big]; omega
  have l1 : 1 ≤ PySem.sizeLine := by omega
  have l2 : 2 ≤ PySem.sizeLine := by omega
  have l3 : 3 ≤ PySem.sizeLine := by omega
  have l4 : 4 ≤ PySem.sizeLine := by omega
  have l5 : 5 ≤ PySem.sizeLine := by omega
  simp [doCallW, argsW, oneL, pureT, pureTs, execSs, execS, evalC, evalE, evalEs, evalAs, evalOe, evalOc, evalIt, opdOf, readV, slot, Opd.get, ofR, ofO, R.bind, op1, op2, bindG, backs, doCall, argsOf, refsOf, nodupN, setAll, isFz, isFzs, fz, fzs, fzI, kill, putBack, keepF, doCallK, srcT, FT.binT, FT.addT, FT.subT, FT.mulT, FT.modT, FT.fdvT, FT.powT, FT.b1T, FT.b2T, FT.lenT, FT.cmpT, FT.ltT, FT.leT, fP.a, fP.b, fG.a, fG.b, fF.a, fF.b, fA.a, fA.b, fB.a, fB.b, mo, e17, e20a, e20b, s, l1, l2, l3, l4, l5, l7]

end
end LK

end
section
set_option Elab.async false
set_option linter.all false
set_option maxRecDepth 100000
set_option maxHeartbeats 1000000
namespace LK
open FT
/-! comprehensions that draw, that find nothing -/
theorem comp_filt {own : List Nat} {c : Env8 → R Bool} {e : Env8 → R T} {g : G} (E : BagS → Option T → Env8) (hb : ∀ b t, bindG g t (E b none) = some (E b (some t))) (hc : ∀ (b : BagS) (t : T), b.Ok → ∃ (k : Bool) (b' : BagS), c (E b (some t)) = .ok k (E b' (some t)) ∧ b'.Ok)
    (he : ∀ b t, isFz t = true → e (E b (some t)) = .ok t (E b (some t))) (hk : ∀ b t, kill own (E b (some t)) = E b none) : ∀ (ts acc : List T) (b : BagS), isFzs ts = true → b.Ok → acc.length + ts.length ≤ 2000 → ∃ (us : List T) (b' : BagS), compL (bindG g) c e own ts acc (E b none) = .ok (acc ++ us) (E b' none) ∧ b'.Ok ∧ (∀ t ∈ us, t ∈ ts) ∧ us.length ≤ ts.length
  | [], acc, b, _, ho, _ => ⟨[], b, by simp [compL], ho, (fun t z => nomatch z), Nat.le_refl _⟩
  | t :: ts, acc, b, hz, ho, hl => by
    rw [List.length_cons] at hl
    have hz' : (isFz t && isFzs ts) = true := hz
    simp only [Bool.and_eq_true] at hz'
    obtain ⟨k, b1, e1, ho1⟩ := hc b t ho
    have l : acc.length < PySem.sizeLine := by rw [line_big]; omega
    cases k with
    | false =>
      obtain ⟨us, b2, e2, ho2, hm, hn⟩ := comp_filt E hb hc he hk ts acc b1 hz'.2 ho1 (by omega)
      refine ⟨us, b2, ?_, ho2, fun u hu => List.mem_cons_of_mem _ (hm u hu), by rw [List.length_cons]; omega⟩
      simp only [compL, hb, e1, R.bind, Bool.false_eq_true, if_false, hk]
      exact e2
    | true =>
      obtain ⟨us, b2, e2, ho2, hm, hn⟩ := comp_filt E hb hc he hk ts (acc ++ [t]) b1 hz'.2 ho1 (by rw [List.length_append, List.length_singleton]; omega)
      refine ⟨t :: us, b2, ?_, ho2, fun u hu => ?_, by rw [List.length_cons, List.length_cons]; omega⟩
      · simp only [compL, hb, e1, R.bind, if_true, he _ _ hz'.1, l, hk]
        rw [e2]
        simp
      · rcases List.mem_cons.mp hu with q | q
        · rw [q]; exact List.mem_cons_self ..
        · exact List.mem_cons_of_mem _ (hm u q)
theorem fzs_sub : ∀ {us ts : List T}, (∀ t ∈ us, t ∈ ts) → (∀ t ∈ ts, isFz t = true) → isFzs us = true
  | [], _, _, _ => rfl
  | u :: us, ts, h, hz => by
    simp only [isFzs, Bool.and_eq_true]
    exact ⟨hz u (h u (List.mem_cons_self ..)), fzs_sub (fun t ht => h t (List.mem_cons_of_mem _ ht)) hz⟩
theorem ints_of {p : Int} : ∀ {us : List T}, (∀ t ∈ us, ∃ c : Int, t = .int c ∧ 0 ≤ c ∧ c < p) → ∃ cs : List Int, us = cs.map T.int ∧ ∀ c ∈ cs, 0 ≤ c ∧ c < p
  | [], _ => ⟨[], rfl, fun c z => nomatch z⟩
  | u :: us, h => by
    obtain ⟨c, e, hc⟩ := h u (List.mem_cons_self ..)
    obtain ⟨cs, e2, h2⟩ := ints_of (us := us) fun t ht => h t (List.mem_cons_of_mem _ ht)
    subst e e2
    refine ⟨c :: cs, rfl, fun d hd => ?_⟩
    rcases List.mem_cons.mp hd with q | q
    · rw [q]; exact hc
    · exact h2 d q
theorem comp_none {α : Type} {own : List Nat} {c : Env8 → R Bool} {e : Env8 → R T} {g : G} {ρk : Env8} (inj : α → T) : ∀ (us : List α) (acc : List T), (∀ u ∈ us, ∃ ρa ρb, bindG g (inj u) ρk = some ρa ∧ c ρa = .ok false ρb ∧ kill own ρb = ρk) → compL (bindG g) c e own (us.map inj) acc ρk = .ok acc ρk
  | [], acc, _ => rfl
  | u :: us, acc, h => by
    obtain ⟨ρa, ρb, h1, h2, h3⟩ := h u (List.mem_cons_self ..)
    rw [List.map_cons]
    simp only [compL, h1, h2, R.bind, Bool.false_eq_true, if_false, h3]
    exact comp_none inj us acc fun v hv => h v (List.mem_cons_of_mem _ hv)
theorem lc_none {α : Type} {Φ : Nat → List T → CR} {g : G} {it : It} {c : C} {e : E} {own : List Nat} {ρ ρ1 ρk : Env8} (inj : α → T) (us : List α) (hi : evalIt Φ it ρ = .ok (us.map inj) ρ1) (hk : kill own ρ1 = ρk) (hb : putBack own ρ1 ρk = ρ1) (h : ∀ u ∈ us, ∃ ρa ρb, bindG g (inj u) ρk = some ρa ∧ evalC Φ c ρa = .ok false ρb ∧ kill own ρb = ρk) : evalE Φ (.lc g it (.so c) e own) ρ = .ok (.lst true []) ρ1 := by
  have q := lc_eval (Φ := Φ) (g := g) (it := it) (c := .so c) (e := e) (own := own) (acc := []) (ρ2 := ρk) hi (by rw [hk]; exact comp_none inj us [] h)
  rw [hb] at q
  exact q
theorem ne_nil {Φ : Nat → List T → CR} {a : E} {ρ ρ1 : Env8} (nv : ∀ i, a ≠ .var i) (h : evalE Φ a ρ = .ok (.lst true []) ρ1) : evalC Φ (.cmp .NotEq a (.lst .nil)) ρ = .ok false ρ1 := by
  have e := eqT_zs true true [] []
  have e1 : evalE Φ (.lst .nil) ρ1 = .ok (.lst true []) ρ1 := by simp [doCallW, argsW, oneL, pureT, pureTs, execSs, execS, evalC, evalE, evalEs, evalAs, evalOe, evalOc, evalIt, opdOf, readV, slot, Opd.get, ofR, ofO, R.bind, op1, op2, bindG, backs, doCall, argsOf, refsOf, nodupN, setAll, isFz, isFzs, fz, fzs, fzI, kill, putBack, keepF]
  refine ccmp_ok (x := .vl (.lst true [])) (y := .vl (.lst true [])) (t := .lst true []) (u := .lst true []) (opd_nv nv h) (opd_nv (fun i z => by cases z) e1) rfl rfl ?_
  have e' : eqT (.lst true []) (.lst true []) = some true := e
  simp only [FT.cmpT, e', Option.map, Bool.not_true]
theorem toD_fT (f : List Int) : toD (fT f) = some (.tuple (f.map PySem.PyData.int)) := by simp [toD, toDs_zs]
theorem eqT_fT (f g : List Int) : eqT (fT f) (fT g) = some (decide (f = g)) := by
  have s1 : ∀ f : List Int, PySem.SeqAt.shaped (.tuple (f.map PySem.PyData.int)) = true := fun f => by
    simp [PySem.SeqAt.shaped, PySem.PyData.canLay0, PySem.PyData.depth, lay_zs, deep_zs]
  have e3 : PySem.PyData.eqv (.tuple (f.map PySem.PyData.int)) (.tuple (g.map PySem.PyData.int)) = decide (f = g) := by
    simp only [PySem.PyData.eqv]; exact eqv_zs f g
  unfold eqT
  rw [toD_fT, toD_fT]
  dsimp only
  rw [s1, s1, e3]
  rfl
/-! what is told at one level of calls -/
abbrev ZT : T := .tup [.str "zero", .str "refused"]
structure Pk (Φ : Nat → List T → CR) : Prop where
  prime : ∀ b : BagS, b.Ok → ∃ (P : {p : Int // p ∈ primesL}) (b' : BagS), Φ 11 [b.t] = .ok (.int P.1) [b'.t] ∧ b'.Ok
  draw : ∀ b : BagS, b.Ok → ∀ top : Int, 0 < top → top < 2 ^ 128 → ∃ (v : Int) (b' : BagS), Φ 6 [b.t, .int top] = .ok (.int v) [b'.t] ∧ 0 ≤ v ∧ v < top ∧ b'.Ok
  of : ∀ b : BagS, b.Ok → ∀ xs : List T, isFzs xs = true → xs ≠ [] → xs.length ≤ 1000 → ∃ (t : T) (b' : BagS), Φ 7 [b.t, .lst false xs] = .ok t [b'.t] ∧ t ∈ xs ∧ b'.Ok
  full : ∀ (P : {p : Int // p ∈ primesL}) (d : Nat), d ≤ 100 → ∀ b : BagS, b.Ok → ∃ (g : Fm P) (b' : BagS), Φ 19 [b.t, .int P.1, .int (d : Nat)] = .ok (fT g.v) [b'.t] ∧ b'.Ok ∧ g.v ≠ [] ∧ g.v.length = d + 1
  form : ∀ (P : {p : Int // p ∈ primesL}) (d : Int), 0 ≤ d ∧ d ≤ 100 → ∀ b : BagS, b.Ok → ∃ (f : Fm P) (b' : BagS), Φ 18 [b.t, .int P.1, .int d] = .ok (fT f.v) [b'.t] ∧ b'.Ok ∧ f.v.length ≤ 101
  mul : ∀ (P : {p : Int // p ∈ primesL}) (a b : Fm P), a.v.length ≤ 300 → b.v.length ≤ 300 → Φ 13 [.int P.1, fT a.v, fT b.v] = .ok (fT (a * b).v) []
  small : ∀ (P : {p : Int // p ∈ primesL}) (f g : Fm P), g.v ≠ [] → f.v.length ≤ 101 → g.v.length ≤ 200 → ∀ b : BagS, b.Ok → ∃ b' : BagS, Φ 22 [b.t, .int P.1, fT f.v, fT g.v] = .ok (.bl true) [b'.t] ∧ b'.Ok
  pw : ∀ (P : {p : Int // p ∈ primesL}) (f g : Fm P), g.v ≠ [] → f.v.length ≤ 900 → g.v.length ≤ 200 → ∀ m : Nat, m < 2 ^ 128 → ∀ k : Bool, ∃ r : Fm P, Φ 20 [.int P.1, fT f.v, .int (m : Nat), fT g.v, .bl k] = .ok (fT r.v) [] ∧ r.v.length < g.v.length ∧ Cg g (f ^ m) r
  pz : ∀ (p : Int) (f : List Int) (m : Int) (k : Bool), Φ 20 [.int p, fT f, .int m, fT [], .bl k] = .ok ZT []
  isf : ∀ (P : {p : Int // p ∈ primesL}) (f : Fm P), f.v.length ≤ 1000 → Φ 17 [.int P.1, fT f.v] = .ok (.bl true) []
  val : ∀ (P : {p : Int // p ∈ primesL}) (c : Int) (f : List Int), Φ 16 [.int P.1, fT f, .int c] = .ok (.int (valL P.1 c f)) []
  vp : ∀ (P : {p : Int // p ∈ primesL}) (a : Int), 0 ≤ a ∧ a < P.1 → ∀ m : Nat, m < 2 ^ 101 → Φ 21 [.int P.1, .int a, .int (m : Nat)] = .ok (.int (a ^ m % P.1)) []
  div : ∀ (P : {p : Int // p ∈ primesL}) (f g : Fm P), g.v ≠ [] → f.v.length ≤ 900 → g.v.length ≤ 900 → ∃ q r : Fm P, Φ 15 [.int P.1, fT f.v, fT g.v] = .ok (.tup [fT q.v, fT r.v]) [] ∧ r.v.length < g.v.length ∧ Cg g f r
  same : ∀ f : List Int, f.length ≤ 1000 → Φ 8 [fT f, fT f] = .ok (.bl true) []
  sameZ : Φ 8 [.lst false [ZT, ZT], .lst false [ZT, ZT]] = .ok (.bl true) []
  sameN : Φ 8 [.lst false [.tup [], .tup []], .lst false [.tup [], .tup []]] = .ok (.bl true) []
theorem same_str (n : Nat) (x : PySem.Str) (hx : PySem.PyData.strOk x = true) : callN fns (n + 1) 8 [.str x, .str x] = .ok (.bl true) [] := by
  have e : FT.eqT (.str x) (.str x) = some true := by
    unfold FT.eqT
    simp [toD, PySem.SeqAt.shaped, PySem.PyData.canLay0, PySem.PyData.depth, PySem.PyData.eqv, hx]
  show runFn (callN fns n) f8 _ = _
  unfold runFn f8
  simp [doCallW, argsW, oneL, pureT, pureTs, execSs, execS, evalC, evalE, evalEs, evalAs, evalOe, evalOc, evalIt, opdOf, readV, slot, Opd.get, ofR, ofO, R.bind, op1, op2, bindG, backs, doCall, argsOf, refsOf, nodupN, setAll, isFz, isFzs, fz, fzs, fzI, kill, putBack, keepF, FT.binT, FT.addT, FT.subT, FT.mulT, FT.modT, FT.fdvT, FT.powT, FT.cmpT, FT.ltT, FT.leT, FT.isT, FT.truT, FT.pickT, FT.ixT, FT.b1T, FT.b2T, FT.lenT, FT.isiT, FT.tyT, FT.mulOk, L2.atI, L2.ixN, e]
theorem pk11 : Pk (callN fns 11) where
  prime := fun b hb => by
    obtain ⟨p, b', e, hp, hb'⟩ := prime_spec 8 b hb
    exact ⟨⟨p, hp⟩, b', e, hb'⟩
  draw := fun b hb top h0 h1 => draw_spec 10 b hb top h0 h1
  of := fun b hb xs hz h0 hl => of_spec 9 b hb false xs hz h0 hl
  full := fun P d hd b hb => by
    have pb := pr_big P.2
    obtain ⟨f, b', e, hb', hf, nf, lf⟩ := full_spec 9 b hb P.1 pb.1 (by omega) d hd
    exact ⟨⟨f, hf⟩, b', e, hb', nf, lf⟩
  form := fun P d hd b hb => by
    have pb := pr_big P.2
    obtain ⟨f, b', e, hb', hf, lf⟩ := form23_spec 9 b hb P.1 (by omega) (by omega) d hd
    exact ⟨⟨f, hf⟩, b', e, hb', lf⟩
  mul := fun P a b la lb => mul_form P.2 a.ok b.ok la lb 9
  small := fun P f g ng lf lg b hb => small_spec 6 f g ng lf lg b hb
  pw := fun P f g ng lf lg m hm k => lpower_spec 7 f g ng lf lg m hm k
  pz := fun p f m k => lpower_zero 6 p f m k
  isf := fun P f lf => isform_spec 9 P.1 f.v f.ok lf
  val := fun P c f => val_spec2 10 P.2 c f
  vp := fun P a ha m hm => vp_spec 10 P.1 a (pr_big P.2) ha m hm
  div := fun P f g ng lf lg => ldiv_fm 9 f g ng lf lg
  same := fun f lf => same_ints 9 f lf
  sameZ := same_lst 10 _ (by decide) (by simp) fun t ht => by
    have e : t = ZT := by simpa using ht
    subst e
    refine same_tup 9 _ (by decide) (by simp) fun u hu => ?_
    simp only [List.mem_cons, List.not_mem_nil, or_false] at hu
    rcases hu with e | e <;> subst e
    · exact same_str 8 _ (by decide +kernel)
    · exact same_str 8 _ (by decide +kernel)
  sameN := same_lst 10 _ (by decide) (by simp) fun t ht => by
    have e : t = .tup [] := by simpa using ht
    subst e
    exact same_tup 9 [] rfl (by simp) fun u hu => nomatch hu
end LK

end
section
set_option Elab.async false
set_option linter.all false
set_option maxRecDepth 100000
set_option maxHeartbeats 1000000
namespace LK
open FT
section
variable {P : {p : Int // p ∈ primesL}}
theorem mul_ne {a b : Fm P} (ha : a.v ≠ []) (hb : b.v ≠ []) : (a * b).v ≠ [] := fun e => by
  have z : a * b = 0 := Fm.ext e
  have q := fm_dom z (fun h => hb (by rw [h]; rfl))
  exact ha (by rw [q]; rfl)
def linF (P : {p : Int // p ∈ primesL}) (c : Int) : Fm P := ⟨[(0 - c) % P.1, 1], fun z hz => by
    have pb := pr_big P.2
    simp only [List.mem_cons, List.not_mem_nil, or_false] at hz
    rcases hz with e | e
    · rw [e]; exact ⟨Int.emod_nonneg _ (by omega), Int.emod_lt_of_pos _ (by omega)⟩
    · rw [e]; omega, fun h => by show (1 : Int) ≠ 0; omega⟩
theorem lin_val (c : Int) : valL P.1 c (linF P c).v = 0 := by
  rw [val_ev]
  show ((0 - c) % P.1 + c * (1 + c * 0)) % P.1 = 0
  rw [mod_add]
  have e : 0 - c + c * (1 + c * 0) = 0 := by rw [Int.mul_zero, Int.add_zero, Int.mul_one]; omega
  rw [e, Int.zero_emod]
def cstF (u : Int) (h : 0 < u ∧ u < P.1) : Fm P := ⟨[u], fun z hz => by rw [List.mem_singleton.mp hz]; omega, fun _ => by show u ≠ 0; omega⟩
end
section
variable {Φ : Nat → List T → CR} (k : Pk Φ) (sc : List Int)
include k
theorem w2_ok (P : {p : Int // p ∈ primesL}) (b : BagS) (hb : b.Ok) : ∃ (cs : List Int) (b' : BagS), b'.Ok ∧ (∀ c ∈ cs, 0 ≤ c ∧ c < P.1) ∧ cs.length ≤ 3 ∧
    execS Φ lw_2 (wE sc b (some (.int P.1)) none none none none none none none none none none none) = .nx (wE sc b' (some (.int P.1)) (some (.lst true (cs.map T.int))) none none none none none none none none none none) := by
  have pb := pr_big P.2
  obtain ⟨n, hn⟩ : ∃ n : Nat, P.1 = (n : Nat) := ⟨P.1.toNat, by omega⟩
  have hi : evalIt Φ (.r1 (.var 2)) (wE sc b (some (.int P.1)) none none none none none none none none none none none) = .ok ((List.range n).map fun j => T.int (j : Nat)) (wE sc b (some (.int P.1)) none none none none none none none none none none none) := rng_row (by omega) (var_ok (by rw [hn]; rfl) rfl)
  have hz : isFzs ((List.range n).map fun j => T.int (j : Nat)) = true := fzs_sub (fun t h => h) fun t ht => by
    obtain ⟨j, _, rfl⟩ := List.mem_map.mp ht
    rfl
  obtain ⟨us, b', e1, ho', hm, hl⟩ := comp_filt (own := [5]) (g := .nm 5) (c := evalC Φ (.cmp .Lt (.call 6 (.r 1 (.v (.var 2) .nil))) (.int 2))) (e := evalE Φ (.var 5)) (fun b t => wE sc b (some (.int P.1)) none none t none none none none none none none none) (fun b t => rfl)
    (fun b t ho => by
      obtain ⟨v, b', e, _, _, ho'⟩ := k.draw b ho P.1 (by omega) (by omega)
      exact ⟨decide (v < 2), b', by simp [doCallW, argsW, oneL, pureT, pureTs, execSs, execS, evalC, evalE, evalEs, evalAs, evalOe, evalOc, evalIt, opdOf, readV, slot, Opd.get, ofR, ofO, R.bind, op1, op2, bindG, backs, doCall, argsOf, refsOf, nodupN, setAll, isFz, isFzs, fz, fzs, fzI, kill, putBack, keepF, FT.cmpT, FT.ltT, e], ho'⟩) (fun b t hz => var_ok rfl hz) (fun b t => rfl) ((List.range n).map fun j => T.int (j : Nat)) [] b hz hb (by simp; omega)
  rw [List.nil_append] at e1
  obtain ⟨cs, ec, hc⟩ := ints_of (p := P.1) (us := us) fun t ht => by
    obtain ⟨j, hj, rfl⟩ := List.mem_map.mp (hm t ht)
    have := List.mem_range.mp hj
    exact ⟨(j : Nat), rfl, by omega, by omega⟩
  subst ec
  have q := lc_eval (Φ := Φ) (g := .nm 5) (c := .so (.cmp .Lt (.call 6 (.r 1 (.v (.var 2) .nil))) (.int 2))) (e := .var 5) (own := [5]) hi e1
  rw [fzs_zs] at q
  have q' : evalE Φ (.lc (.nm 5) (.r1 (.var 2)) (.so (.cmp .Lt (.call 6 (.r 1 (.v (.var 2) .nil))) (.int 2))) (.var 5) [5]) (wE sc b (some (.int P.1)) none none none none none none none none none none none) = .ok (.lst true (cs.map T.int)) (wE sc b' (some (.int P.1)) none none none none none none none none none none none) := q
  have hsl : FT.slT (.lst true (cs.map T.int)) none (some 3) = some (.lst true ((cs.take 3).map T.int)) := by
    simp only [FT.slT, isFzs_zs, if_true]
    rw [show (3 : Int) = ((3 : Nat) : Int) from rfl, cut_any]
  refine ⟨cs.take 3, b', ho', fun c hc' => hc c (List.mem_of_mem_take hc'), by rw [List.length_take]; omega, ?_⟩
  have es : evalE Φ (.sl (.lc (.nm 5) (.r1 (.var 2)) (.so (.cmp .Lt (.call 6 (.r 1 (.v (.var 2) .nil))) (.int 2))) (.var 5) [5]) .no (.so (.int 3))) (wE sc b (some (.int P.1)) none none none none none none none none none none none) = .ok (.lst true ((cs.take 3).map T.int)) (wE sc b' (some (.int P.1)) none none none none none none none none none none none) := by
    have o := opd_nv (a := (.lc (.nm 5) (.r1 (.var 2)) (.so (.cmp .Lt (.call 6 (.r 1 (.v (.var 2) .nil))) (.int 2))) (.var 5) [5])) (m := evalE Φ (.lc (.nm 5) (.r1 (.var 2)) (.so (.cmp .Lt (.call 6 (.r 1 (.v (.var 2) .nil))) (.int 2))) (.var 5) [5])) (fun i z => by cases z) q'
    generalize hLC : (E.lc (.nm 5) (.r1 (.var 2)) (.so (.cmp .Lt (.call 6 (.r 1 (.v (.var 2) .nil))) (.int 2))) (.var 5) [5]) = LC at *
    rw [show evalE Φ (.sl LC .no (.so (.int 3))) = fun ρ => (opdOf LC (evalE Φ LC) ρ).bind fun x ρ => (evalOe Φ .no ρ).bind fun l ρ => (evalOe Φ (.so (.int 3)) ρ).bind fun h ρ => op1 (fun t => slT t l h) x ρ from rfl]
    simp only [o, R.bind, evalOe, evalE, op1, Opd.get, hsl, ofO]
  exact asg_nm es (by show 3 < 14; omega)
theorem w4_loop (P : {p : Int // p ∈ primesL}) (b : BagS) (x3 : Option T) : ∀ (cs : List Int) (g : Fm P) (o : Option Int), g.v ≠ [] → g.v.length + 2 * cs.length ≤ 100 → ∃ (g' : Fm P) (o' : Option Int), g'.v ≠ [] ∧ g'.v.length ≤ g.v.length + 2 * cs.length ∧ (∀ c, c ∈ cs ∨ valL P.1 c g.v = 0 → valL P.1 c g'.v = 0) ∧
    forL (bindG (.nm 5)) (execSs Φ lw_4b) [] (cs.map T.int) (wE sc b (some (.int P.1)) x3 (some (fT g.v)) (o.map T.int) none none none none none none none none) = .nx (wE sc b (some (.int P.1)) x3 (some (fT g'.v)) (o'.map T.int) none none none none none none none none)
  | [], g, o, ng, _ => ⟨g, o, ng, by simp, fun c h => h.elim (fun z => nomatch z) id, rfl⟩
  | c :: cs, g, o, ng, hl => by
    rw [List.length_cons] at hl
    have pb := pr_big P.2
    have ml := mulL_len P.1 g.v (linF P c).v
    have l2 : (linF P c).v.length = 2 := rfl
    have n1 := mul_ne ng (show (linF P c).v ≠ [] from fun z => by cases z)
    have ml' : (g * linF P c).v.length ≤ g.v.length + (linF P c).v.length := ml
    obtain ⟨g', o', n', lg', hv, e⟩ := w4_loop P b x3 cs (g * linF P c) (some c) n1 (by omega)
    have e13 := k.mul P g (linF P c) (by omega) (by omega)
    have s := w4L sc (Φ := Φ) (b := b) (x3 := x3) (x6 := none) (x7 := none) (x8 := none) (x9 := none) (x10 := none) (x11 := none) (x12 := none) (x13 := none) (fz_f g.v) (show 0 < P.1 by omega) e13
    refine ⟨g', o', n', by rw [List.length_cons]; omega, fun d hd => hv d ?_, ?_⟩
    · have em : (g * linF P c).v = mulL P.1 g.v (linF P c).v := rfl
      rcases hd with hd | hd
      · rcases List.mem_cons.mp hd with q | q
        · right
          rw [em, val_mul, q, lin_val, Int.mul_zero, Int.zero_emod]
        · exact .inl q
      · right
        rw [em, val_mul, hd, Int.zero_mul, Int.zero_emod]
    · rw [List.map_cons]
      have eb : bindG (.nm 5) (.int c) (wE sc b (some (.int P.1)) x3 (some (fT g.v)) (o.map T.int) none none none none none none none none) = some (wE sc b (some (.int P.1)) x3 (some (fT g.v)) (some (.int c)) none none none none none none none none) := rfl
      have s2 : execSs Φ lw_4b (wE sc b (some (.int P.1)) x3 (some (fT g.v)) (some (.int c)) none none none none none none none none) = .nx (wE sc b (some (.int P.1)) x3 (some (fT (g * linF P c).v)) (some (.int c)) none none none none none none none none) := seq_nx _ s rfl
      simp only [forL, eb, s2, kill]
      exact e
theorem jSetup (b : BagS) (hb : b.Ok) : ∃ (P : {p : Int // p ∈ primesL}) (g f : Fm P) (cs : List Int) (o : Option Int) (b' : BagS), b'.Ok ∧ g.v ≠ [] ∧ g.v.length ≤ 100 ∧ f.v.length ≤ 101 ∧ (∀ c ∈ cs, valL P.1 c g.v = 0) ∧ cs.length ≤ 3 ∧ ∀ ss r,
    execSs Φ ss (wE sc b' (some (.int P.1)) (some (.lst false (cs.map T.int))) (some (fT g.v)) (o.map T.int) (some (fT f.v)) none none none none none none none) = r →
    execSs Φ (.cons lw_1 (.cons lw_2 (.cons lw_3 (.cons lw_4 (.cons lw_5 (.cons lw_6 ss)))))) (wE sc b none none none none none none none none none none none none) = r := by
  obtain ⟨P, b1, e11, hb1⟩ := k.prime b hb
  have pb := pr_big P.2
  obtain ⟨cs, b2, hb2, hc, lc, s2⟩ := w2_ok k sc P b1 hb1
  obtain ⟨d, b3, e6, d0, d1, hb3⟩ := k.draw b2 hb2 3 (by omega) (by omega)
  obtain ⟨d, rfl⟩ : ∃ n : Nat, d = (n : Nat) := ⟨d.toNat, by omega⟩
  obtain ⟨g0, b4, e19, hb4, n0, l0⟩ := k.full P d (by omega) b3 hb3
  obtain ⟨g1, o, n1, l1, v1, lp⟩ := w4_loop k sc P b4 (some (.lst false (cs.map T.int))) cs g0 none n0 (by omega)
  obtain ⟨u, b5, e6', u0, u1, hb5⟩ := k.draw b4 hb4 (P.1 - 1) (by omega) (by omega)
  have ch : 0 < 1 + u ∧ 1 + u < P.1 := by omega
  have e13 := k.mul P g1 (cstF (1 + u) ch) (by omega) (by show ([1 + u] : List Int).length ≤ 300; simp)
  have ml : (g1 * cstF (1 + u) ch).v.length ≤ g1.v.length + 1 := mulL_len P.1 g1.v [1 + u]
  obtain ⟨t, b6, e7, ht, hb6⟩ := k.of b5 hb5 (([1, 2, 4, 7] : List Int).map T.int) (isFzs_zs _) (by simp) (by simp)
  obtain ⟨dg, hdg, rfl⟩ := List.mem_map.mp ht
  have hd2 : 0 ≤ dg ∧ dg ≤ 100 := by
    simp only [List.mem_cons, List.not_mem_nil, or_false] at hdg
    omega
  obtain ⟨f, b7, e18, hb7, lf⟩ := k.form P dg hd2 b6 hb6
  refine ⟨P, g1 * cstF (1 + u) ch, f, cs, o, b7, hb7, mul_ne n1 (fun z => by cases z), by omega, lf, fun c hc' => ?_, lc, fun ss r h => ?_⟩
  · have em : (g1 * cstF (1 + u) ch).v = mulL P.1 g1.v (cstF (1 + u) ch).v := rfl
    rw [em, val_mul, v1 c (.inl hc'), Int.zero_mul, Int.zero_emod]
  · have hi : evalIt Φ (.sq (.var 3)) (wE sc b4 (some (.int P.1)) (some (.lst true (cs.map T.int))) (some (fT g0.v)) none none none none none none none none none) = .ok (cs.map T.int) (wE sc b4 (some (.int P.1)) (some (.lst false (cs.map T.int))) (some (fT g0.v)) none none none none none none none none none) := by
      generalize fT g0.v = G
      simp [doCallW, argsW, oneL, pureT, pureTs, execSs, execS, evalC, evalE, evalEs, evalAs, evalOe, evalOc, evalIt, opdOf, readV, slot, Opd.get, ofR, ofO, R.bind, op1, op2, bindG, backs, doCall, argsOf, refsOf, nodupN, setAll, isFz, isFzs, fz, fzs, fzI, kill, putBack, keepF, itemsT]
    exact seq_nx _ (w1L sc (fz_i _) e11) (seq_nx _ s2 (seq_nx _ (w3L sc (fz_i _) (fz_i _) (fz_f _) e6 e19) (seq_nx _ (seq_for hi lp) (seq_nx _ (w5L sc (fz_f _) e6' e13) (seq_nx _ (w6L sc (fz_i _) (fz_i _) (fz_f _) e7 e18) h)))))
end
end LK

end
section
set_option Elab.async false
set_option linter.all false
set_option maxRecDepth 100000
set_option maxHeartbeats 1000000
namespace LK
open FT
theorem val_range {p : Int} (hp : 0 < p) (c : Int) (f : List Int) : 0 ≤ valL p c f ∧ valL p c f < p := by
  rw [val_ev]
  exact ⟨Int.emod_nonneg _ (by omega), Int.emod_lt_of_pos _ hp⟩
section
variable {Φ : Nat → List T → CR} (k : Pk Φ) (sc : List Int)
include k
/-- statement 13: the values at the roots -/
theorem w13_ok (P : {p : Int // p ∈ primesL}) (g f told : Fm P) (m : Nat) (hm : m < 2 ^ 101) (cs : List Int) (lc : cs.length ≤ 3) (hv : ∀ c ∈ cs, valL P.1 c g.v = 0) (cg : Cg g (f ^ m) told) (b : BagS) (o : Option Int) (x4 x9 x10 x11 x12 x13 : Option T) :
    evalC Φ lw_13c (wE sc b (some (.int P.1)) (some (.lst false (cs.map T.int))) x4 (o.map T.int) (some (fT f.v)) (some (.int (m : Nat))) (some (fT told.v)) x9 x10 x11 x12 x13) = .ok false (wE sc b (some (.int P.1)) (some (.lst false (cs.map T.int))) x4 (o.map T.int) (some (fT f.v)) (some (.int (m : Nat))) (some (fT told.v)) x9 x10 x11 x12 x13) := by
  have p0 : 0 < P.1 := by have := pr_big P.2; omega
  refine ne_nil (fun i z => by cases z) ?_
  have hi : evalIt Φ (.sq (.var 3)) (wE sc b (some (.int P.1)) (some (.lst false (cs.map T.int))) x4 (o.map T.int) (some (fT f.v)) (some (.int (m : Nat))) (some (fT told.v)) x9 x10 x11 x12 x13) = .ok (cs.map T.int) (wE sc b (some (.int P.1)) (some (.lst false (cs.map T.int))) x4 (o.map T.int) (some (fT f.v)) (some (.int (m : Nat))) (some (fT told.v)) x9 x10 x11 x12 x13) := by
    generalize fT f.v = F
    generalize fT told.v = A
    simp [doCallW, argsW, oneL, pureT, pureTs, execSs, execS, evalC, evalE, evalEs, evalAs, evalOe, evalOc, evalIt, opdOf, readV, slot, Opd.get, ofR, ofO, R.bind, op1, op2, bindG, backs, doCall, argsOf, refsOf, nodupN, setAll, isFz, isFzs, fz, fzs, fzI, kill, putBack, keepF, itemsT]
  refine lc_none (ρk := wE sc b (some (.int P.1)) (some (.lst false (cs.map T.int))) x4 none (some (fT f.v)) (some (.int (m : Nat))) (some (fT told.v)) x9 x10 x11 x12 x13) T.int cs hi rfl (by cases o <;> rfl) fun c hc => ?_
  refine ⟨wE sc b (some (.int P.1)) (some (.lst false (cs.map T.int))) x4 (some (.int c)) (some (fT f.v)) (some (.int (m : Nat))) (some (fT told.v)) x9 x10 x11 x12 x13, wE sc b (some (.int P.1)) (some (.lst false (cs.map T.int))) x4 (some (.int c)) (some (fT f.v)) (some (.int (m : Nat))) (some (fT told.v)) x9 x10 x11 x12 x13, rfl, ?_, rfl⟩
  have e1 := call3 (Φ := Φ) (f := 16) (e1 := .var 2) (e2 := .var 8) (e3 := .var 5) (t1 := .int P.1) (t2 := fT told.v) (t3 := .int c) (ρ := wE sc b (some (.int P.1)) (some (.lst false (cs.map T.int))) x4 (some (.int c)) (some (fT f.v)) (some (.int (m : Nat))) (some (fT told.v)) x9 x10 x11 x12 x13) (var_ok rfl rfl) (var_ok rfl (isFz_fT _)) (var_ok rfl rfl) (by rw [(fz_i _).b, (fz_f _).b, (fz_i _).b]; exact k.val P c told.v)
  have e2 := call3 (Φ := Φ) (f := 16) (e1 := .var 2) (e2 := .var 6) (e3 := .var 5) (t1 := .int P.1) (t2 := fT f.v) (t3 := .int c) (ρ := wE sc b (some (.int P.1)) (some (.lst false (cs.map T.int))) x4 (some (.int c)) (some (fT f.v)) (some (.int (m : Nat))) (some (fT told.v)) x9 x10 x11 x12 x13) (var_ok rfl rfl) (var_ok rfl (isFz_fT _)) (var_ok rfl rfl) (by rw [(fz_i _).b, (fz_f _).b, (fz_i _).b]; exact k.val P c f.v)
  have e3 := call3 (Φ := Φ) (f := 21) (e1 := .var 2) (e3 := .var 7) (t1 := .int P.1) (t3 := .int (m : Nat)) (ρ := wE sc b (some (.int P.1)) (some (.lst false (cs.map T.int))) x4 (some (.int c)) (some (fT f.v)) (some (.int (m : Nat))) (some (fT told.v)) x9 x10 x11 x12 x13) (var_ok rfl rfl) e2 (var_ok rfl rfl) (by rw [(fz_i _).b, (fz_i _).b, (fz_i _).b]; exact k.vp P (valL P.1 c f.v) (val_range p0 c f.v) m hm)
  refine ccmp_ok (opd_nv (fun i z => by cases z) e1) (opd_nv (fun i z => by cases z) e3) rfl rfl ?_
  have ev : valL P.1 c told.v = (valL P.1 c f.v) ^ m % P.1 := by rw [← val_pw, val_cg cg (hv c hc)]
  rw [ev]
  simp [FT.cmpT]
/-- statement 16: the parts' product -/
theorem w16_ok (P : {p : Int // p ∈ primesL}) (g told r1 r2 : Fm P) (ng : g.v ≠ []) (lg : g.v.length ≤ 100) (lt : told.v.length < g.v.length) (l1 : r1.v.length < g.v.length) (l2 : r2.v.length < g.v.length) (cg : Cg g (r1 * r2) told) (b : BagS) (x3 x5 x6 x7 x9 x11 x12 : Option T) :
    evalC Φ lw_16c (wE sc b (some (.int P.1)) x3 (some (fT g.v)) x5 x6 x7 (some (fT told.v)) x9 (some (.lst true [fT r1.v, fT r2.v])) x11 x12 none) = .ok false (wE sc b (some (.int P.1)) x3 (some (fT g.v)) x5 x6 x7 (some (fT told.v)) x9 (some (.lst false [fT r1.v, fT r2.v])) x11 x12 none) := by
  have fp := fz_i P.1
  have fg := fz_f g.v
  have f1 := fz_f r1.v
  have f2 := fz_f r2.v
  refine cor_f (ρ1 := wE sc b (some (.int P.1)) x3 (some (fT g.v)) x5 x6 x7 (some (fT told.v)) x9 (some (.lst false [fT r1.v, fT r2.v])) x11 x12 none) (ne_nil (fun i z => by cases z) ?_) ?_
  · have hi : evalIt Φ (.sq (.var 10)) (wE sc b (some (.int P.1)) x3 (some (fT g.v)) x5 x6 x7 (some (fT told.v)) x9 (some (.lst true [fT r1.v, fT r2.v])) x11 x12 none) = .ok ([r1, r2].map fun r => fT r.v) (wE sc b (some (.int P.1)) x3 (some (fT g.v)) x5 x6 x7 (some (fT told.v)) x9 (some (.lst false [fT r1.v, fT r2.v])) x11 x12 none) := by
      show evalIt Φ (.sq (.var 10)) _ = .ok [fT r1.v, fT r2.v] _
      unfold wE
      generalize fT r1.v = A at *
      generalize fT r2.v = B at *
      generalize fT g.v = G at *
      generalize fT told.v = Tt at *
      simp [doCallW, argsW, oneL, pureT, pureTs, execSs, execS, evalC, evalE, evalEs, evalAs, evalOe, evalOc, evalIt, opdOf, readV, slot, Opd.get, ofR, ofO, R.bind, op1, op2, bindG, backs, doCall, argsOf, refsOf, nodupN, setAll, isFz, isFzs, fz, fzs, fzI, kill, putBack, keepF, itemsT, f1.a, f1.b, f2.a, f2.b]
    refine lc_none (ρk := wE sc b (some (.int P.1)) x3 (some (fT g.v)) x5 x6 x7 (some (fT told.v)) x9 (some (.lst false [fT r1.v, fT r2.v])) x11 x12 none) (fun r : Fm P => fT r.v) [r1, r2] hi rfl rfl fun r hr => ?_
    refine ⟨wE sc b (some (.int P.1)) x3 (some (fT g.v)) x5 x6 x7 (some (fT told.v)) x9 (some (.lst false [fT r1.v, fT r2.v])) x11 x12 (some (fT r.v)), _, rfl, not_call (call2 (t1 := .int P.1) (t2 := fT r.v) (ρ1 := wE sc b (some (.int P.1)) x3 (some (fT g.v)) x5 x6 x7 (some (fT told.v)) x9 (some (.lst false [fT r1.v, fT r2.v])) x11 x12 (some (fT r.v))) (ρ2 := wE sc b (some (.int P.1)) x3 (some (fT g.v)) x5 x6 x7 (some (fT told.v)) x9 (some (.lst false [fT r1.v, fT r2.v])) x11 x12 (some (fT r.v))) (var_ok rfl rfl) (var_ok rfl (isFz_fT _)) (by rw [fp.b, (fz_f _).b]; exact k.isf P r (by
      simp only [List.mem_cons, List.not_mem_nil, or_false] at hr
      rcases hr with e | e <;> rw [e] <;> omega))), rfl⟩
  · have ml := mulL_len P.1 r1.v r2.v
    have m := k.mul P r1 r2 (by omega) (by omega)
    obtain ⟨q, r3, e15, l3, c3⟩ := k.div P (r1 * r2) g ng (by show (mulL P.1 r1.v r2.v).length ≤ 900; omega) (by omega)
    have er := Cg.uniq lt l3 (cg.symm.trans c3)
    subst er
    have i0 : FT.ixT (.lst false [fT r1.v, fT r2.v]) (.int 0) = some (fT r1.v) := by
      have a0 : L2.atI [fT r1.v, fT r2.v] 0 = some (fT r1.v) := rfl
      simp only [FT.ixT, a0, FT.pickT, isFz_fT, if_true]
    have i1 : FT.ixT (.lst false [fT r1.v, fT r2.v]) (.int 1) = some (fT r2.v) := by
      have a0 : L2.atI [fT r1.v, fT r2.v] 1 = some (fT r2.v) := rfl
      simp only [FT.ixT, a0, FT.pickT, isFz_fT, if_true]
    have v0 : evalE Φ (.ix (.var 10) (.int 0)) (wE sc b (some (.int P.1)) x3 (some (fT g.v)) x5 x6 x7 (some (fT told.v)) x9 (some (.lst false [fT r1.v, fT r2.v])) x11 x12 none) = .ok (fT r1.v) (wE sc b (some (.int P.1)) x3 (some (fT g.v)) x5 x6 x7 (some (fT told.v)) x9 (some (.lst false [fT r1.v, fT r2.v])) x11 x12 none) := ix_at rfl rfl (fun j z => by cases z) i0
    have v1 : evalE Φ (.ix (.var 10) (.int 1)) (wE sc b (some (.int P.1)) x3 (some (fT g.v)) x5 x6 x7 (some (fT told.v)) x9 (some (.lst false [fT r1.v, fT r2.v])) x11 x12 none) = .ok (fT r2.v) (wE sc b (some (.int P.1)) x3 (some (fT g.v)) x5 x6 x7 (some (fT told.v)) x9 (some (.lst false [fT r1.v, fT r2.v])) x11 x12 none) := ix_at rfl rfl (fun j z => by cases z) i1
    have e13 := call3 (Φ := Φ) (f := 13) (e1 := .var 2) (t1 := .int P.1) (var_ok rfl rfl) v0 v1 (by rw [fp.b, f1.b, f2.b]; exact m)
    have e3 := rest_at (Φ := Φ) 15 2 4 e13 e15 rfl rfl
    refine ccmp_ok (x := .vl (fT told.v)) (y := .sl 8) (t := fT told.v) (u := fT told.v) (opd_nv (fun i z => by cases z) e3) (opd_var rfl) rfl rfl ?_
    simp [FT.cmpT, eqT_fT]
theorem law_run (b : BagS) (hb : b.Ok) : ∃ ρ, execSs Φ (.cons lw_1 (.cons lw_2 (.cons lw_3 (.cons lw_4 (.cons lw_5 (.cons lw_6 (.cons lw_7 (.cons lw_8 (.cons lw_9 (.cons lw_10 (.cons lw_11 (.cons lw_12 (.cons lw_13 (.cons lw_14 (.cons lw_15 (.cons lw_16 (.cons lw_17 (.cons lw_18 (.cons lw_19 .nil))))))))))))))))))) (wE sc b none none none none none none none none none none none none) = .rt (.bl true) ρ := by
  obtain ⟨P, g, f, cs, o, b1, hb1, ng, lg, lf, hv, lc, hS⟩ := jSetup k sc b hb
  have pb := pr_big P.2
  have p0 : 0 < P.1 := by omega
  have fp := fz_i P.1
  have fg := fz_f g.v
  have ff := fz_f f.v
  obtain ⟨b2, e22a, hb2⟩ := k.small P f g ng lf (by omega) b1 hb1
  obtain ⟨b3, e22b, hb3⟩ := k.small P 0 g ng (by show ([] : List Int).length ≤ 101; simp) (by omega) b2 hb2
  obtain ⟨u0, b4, e6, u00, u01, hb4⟩ := k.draw b3 hb3 1000000000000000000000000000000 (by omega) (by omega)
  have s7 := if_no (a := lw_7t) (w7L sc (x3 := some (.lst false (cs.map T.int))) (x5 := o.map T.int) (x7 := none) (x8 := none) (x9 := none) (x10 := none) (x11 := none) (x12 := none) (x13 := none) fp fg ff e22a e22b)
  have s8 := if_no (a := lw_8t) (w8L sc (x3 := some (.lst false (cs.map T.int))) (x5 := o.map T.int) (x7 := none) (x8 := none) (x9 := none) (x10 := none) (x11 := none) (x12 := none) (x13 := none) fp fg ff (fz_i u0) rfl (k.pz P.1 f.v 1 true) e6 (k.pz P.1 f.v u0 false) k.sameZ)
  have c9 := w9cL sc (Φ := Φ) (b := b4) (x2 := some (.int P.1)) (x3 := some (.lst false (cs.map T.int))) (x4 := some (fT g.v)) (x5 := o.map T.int) (x7 := none) (x8 := none) (x9 := none) (x10 := none) (x11 := none) (x12 := none) (x13 := none) (eqT_fT f.v [])
  have lg0 : 0 < g.v.length := List.length_pos_iff.mpr ng
  by_cases hf : f.v = []
  · rw [decide_eq_true hf] at c9
    have fz0 : f = 0 := Fm.ext hf
    obtain ⟨u, b5, e6', u10, u11, hb5⟩ := k.draw b4 hb4 1000000000000000000000000000000 (by omega) (by omega)
    obtain ⟨n, hn⟩ : ∃ n : Nat, 1 + u = (n : Nat) := ⟨(1 + u).toNat, by omega⟩
    have zero : ∀ (n : Nat) (kk : Bool), 0 < n → n < 2 ^ 128 → Φ 20 [.int P.1, fT f.v, .int (n : Nat), fT g.v, .bl kk] = .ok (.tup []) [] := fun n kk h0 h1 => by
      obtain ⟨r, e, lr, cg⟩ := k.pw P f g ng (by omega) (by omega) n h1 kk
      rw [fz0, pw_nil n h0] at cg
      have er := Cg.uniq (show (0 : Fm P).v.length < g.v.length from lg0) lr cg
      rw [e, ← er]
      rfl
    have z1 := zero n false (by omega) (by omega)
    rw [← hn] at z1
    have z2 := zero 1000000000000000000000000000000 true (by omega) (by decide)
    have e9 := w9L sc (x3 := some (.lst false (cs.map T.int))) (x5 := o.map T.int) (x7 := none) (x8 := none) (x9 := none) (x10 := none) (x11 := none) (x12 := none) (x13 := none) fp fg ff e6' z1 z2 k.sameN
    have h9 := seq_if (Φ := Φ) (a := lw_9t) (b := lw_9e) (o := .rt (.bl true) (wE sc b5 (some (.int P.1)) (some (.lst false (cs.map T.int))) (some (fT g.v)) (o.map T.int) (some (fT f.v)) none none none none none none none)) c9 (by
      rw [if_pos rfl]
      exact seq_rt (ret_eval e9))
    exact ⟨_, hS _ _ (seq_nx _ s7 (seq_nx _ s8 (seq_rt h9)))⟩
  rw [decide_eq_false hf] at c9
  obtain ⟨u1, b5, e6a, u10, u11, hb5⟩ := k.draw b4 hb4 1000000000000000000000000000000 (by omega) (by omega)
  obtain ⟨u2, b6, e6b, u20, u21, hb6⟩ := k.draw b5 hb5 1000000 (by omega) (by omega)
  obtain ⟨u3, b7, e6c, u30, u31, hb7⟩ := k.draw b6 hb6 100000000000000000000 (by omega) (by omega)
  obtain ⟨t, b8, e7, ht, hb8⟩ := k.of b7 hb7 (([1000000000000000000000000000000, 1 + u1, 2 + u2, P.1 ^ 2, 100000000000000000000000000000 + u3] : List Int).map T.int) (isFzs_zs _) (by simp) (by simp)
  obtain ⟨mi, hmi, rfl⟩ := List.mem_map.mp ht
  have p2 : 1 ≤ P.1 ^ 2 ∧ P.1 ^ 2 ≤ 97 * 97 := by
    have e : P.1 ^ 2 = P.1 * P.1 := by rw [show (2 : Nat) = 1 + 1 from rfl, Int.pow_succ, Int.pow_succ, Int.pow_zero, Int.one_mul]
    rw [e]
    exact ⟨by have := Int.mul_le_mul pb.1 pb.1 (by omega) (by omega); omega, Int.mul_le_mul pb.2 pb.2 (by omega) (by omega)⟩
  have hm2 : 1 ≤ mi ∧ mi ≤ 1000000000000000000000000000000 := by
    simp only [List.mem_cons, List.not_mem_nil, or_false] at hmi
    omega
  obtain ⟨m, rfl⟩ : ∃ m : Nat, mi = (m : Nat) := ⟨mi.toNat, by omega⟩
  have mb : m ≤ 1000000000000000000000000000000 := by omega
  have m128 : m < 2 ^ 128 := Nat.lt_of_le_of_lt mb (by decide)
  have m101 : m < 2 ^ 101 := Nat.lt_of_le_of_lt mb (by decide)
  have s10 := w10L sc (Φ := Φ) (b := b4) (x3 := some (.lst false (cs.map T.int))) (x4 := some (fT g.v)) (x5 := o.map T.int) (x6 := some (fT f.v)) (x7 := none) (x8 := none) (x9 := none) (x10 := none) (x11 := none) (x12 := none) (x13 := none) (fz_i (m : Nat)) (show P.1.natAbs < 2 ^ 64 by omega) e6a e6b e6c e7
  obtain ⟨told, e20, lt, cgt⟩ := k.pw P f g ng (by omega) (by omega) m m128 false
  have ft := fz_f told.v
  have s11 := w11L sc (Φ := Φ) (b := b8) (x3 := some (.lst false (cs.map T.int))) (x5 := o.map T.int) (x8 := none) (x9 := none) (x10 := none) (x11 := none) (x12 := none) (x13 := none) fp fg ff (fz_i (m : Nat)) e20
  have lenT : ∀ h : Fm P, FT.b1T .len (fT h.v) = some (.int (h.v.length : Nat)) := fun h => by simp [FT.b1T, FT.lenT]
  have s12 := if_no (a := lw_12t) (w12L sc (Φ := Φ) (b := b8) (x3 := some (.lst false (cs.map T.int))) (x5 := o.map T.int) (x6 := some (fT f.v)) (x7 := some (.int (m : Nat))) (x9 := none) (x10 := none) (x11 := none) (x12 := none) (x13 := none) fp fg ft (k.isf P told (by omega)) (lenT told) (lenT g) (by omega))
  have s13 := if_no (a := lw_13t) (w13_ok k sc P g f told m m101 cs lc hv cgt b8 o (some (fT g.v)) none none none none none)
  obtain ⟨v1, b9, e6d, v10, v11, hb9⟩ := k.draw b8 hb8 ((m : Nat) + 1) (by omega) (by omega)
  obtain ⟨v2, b10, e6e, v20, v21, hb10⟩ := k.draw b9 hb9 100 (by omega) (by omega)
  obtain ⟨t, b11, e7', ht', hb11⟩ := k.of b10 hb10 (([v1, 1, (m : Int) / 2, if v2 < (m : Int) then v2 else (m : Int)] : List Int).map T.int) (isFzs_zs _) (by simp) (by simp)
  obtain ⟨ai, hai, rfl⟩ := List.mem_map.mp ht'
  have ha2 : 0 ≤ ai ∧ ai ≤ m := by
    simp only [List.mem_cons, List.not_mem_nil, or_false] at hai
    rcases hai with e | e | e | e
    · omega
    · omega
    · omega
    · rw [e]; split <;> omega
  obtain ⟨a, rfl⟩ : ∃ a : Nat, ai = (a : Nat) := ⟨ai.toNat, by omega⟩
  have s14 := w14L sc (Φ := Φ) (b := b8) (x2 := some (.int P.1)) (x3 := some (.lst false (cs.map T.int))) (x4 := some (fT g.v)) (x5 := o.map T.int) (x6 := some (fT f.v)) (x8 := some (fT told.v)) (x9 := none) (x10 := none) (x11 := none) (x12 := none) (x13 := none) (fz_i (a : Nat)) e6d e6e e7'
  obtain ⟨r1, e20a, l1, c1⟩ := k.pw P f g ng (by omega) (by omega) a (by omega) true
  obtain ⟨r2, e20b, l2, c2⟩ := k.pw P f g ng (by omega) (by omega) (m - a) (by omega) false
  have eb : ((m - a : Nat) : Int) = (m : Int) - (a : Int) := by omega
  rw [eb] at e20b
  have s15 := w15L sc (Φ := Φ) (b := b11) (x3 := some (.lst false (cs.map T.int))) (x5 := o.map T.int) (x8 := some (fT told.v)) (x10 := none) (x11 := none) (x12 := none) (x13 := none) fp fg ff (fz_f r1.v) (fz_f r2.v) e20a e20b
  have cgp : Cg g (r1 * r2) told := by
    have h := c1.mul c2
    rw [← pw_add, show a + (m - a) = m by omega] at h
    exact h.symm.trans cgt
  have s16 := if_no (a := lw_16t) (w16_ok k sc P g told r1 r2 ng lg lt l1 l2 cgp b11 (some (.lst false (cs.map T.int))) (o.map T.int) (some (fT f.v)) (some (.int (m : Nat))) (some (.int (a : Nat))) none none)
  obtain ⟨y1, b12, e6f, y10, y11, hb12⟩ := k.draw b11 hb11 1000000000 (by omega) (by omega)
  obtain ⟨y2, b13, e6g, y20, y21, hb13⟩ := k.draw b12 hb12 1000000000 (by omega) (by omega)
  have s17 := w17L sc (Φ := Φ) (b := b11) (x2 := some (.int P.1)) (x3 := some (.lst false (cs.map T.int))) (x4 := some (fT g.v)) (x5 := o.map T.int) (x6 := some (fT f.v)) (x7 := some (.int (m : Nat))) (x8 := some (fT told.v)) (x9 := some (.int (a : Nat))) (x10 := some (.lst false [fT r1.v, fT r2.v])) (x11 := none) (x12 := none) (x13 := none) e6f e6g
  obtain ⟨i, hi⟩ : ∃ i : Nat, 1 + y1 = (i : Nat) := ⟨(1 + y1).toNat, by omega⟩
  obtain ⟨j, hj⟩ : ∃ j : Nat, 1 + y2 = (j : Nat) := ⟨(1 + y2).toNat, by omega⟩
  rw [hi, hj] at s17
  have ib : i ≤ 1000000000 := by omega
  have jb : j ≤ 1000000000 := by omega
  have ijb : i * j < 2 ^ 128 := Nat.lt_of_le_of_lt (Nat.mul_le_mul ib jb) (by decide)
  obtain ⟨first, e20c, l3, c3⟩ := k.pw P f g ng (by omega) (by omega) i (by omega) false
  have s18 := w18L sc (Φ := Φ) (b := b13) (x3 := some (.lst false (cs.map T.int))) (x5 := o.map T.int) (x7 := some (.int (m : Nat))) (x8 := some (fT told.v)) (x10 := some (.lst false [fT r1.v, fT r2.v])) (x11 := none) (x12 := some (.int (j : Nat))) (x13 := none) fp fg ff e20c
  obtain ⟨r4, e20d, l4, c4⟩ := k.pw P first g ng (by omega) (by omega) j (by omega) false
  obtain ⟨r5, e20e, l5, c5⟩ := k.pw P f g ng (by omega) (by omega) (i * j) ijb false
  have er : r5 = r4 := by
    refine Cg.uniq l5 l4 (c5.symm.trans ?_)
    rw [pw_mul]
    exact (c3.pow j).trans c4
  subst er
  rw [Int.natCast_mul] at e20e
  have mo : mulOk (i : Nat) (j : Nat) = true := by
    unfold mulOk
    rw [decide_eq_true (by omega : -(2 ^ 64) < ((i : Nat) : Int)), decide_eq_true (by omega : ((i : Nat) : Int) < 2 ^ 64)]
    rfl
  have e19 := w19L sc (Φ := Φ) (b := b13) (x3 := some (.lst false (cs.map T.int))) (x5 := o.map T.int) (x7 := some (.int (m : Nat))) (x8 := some (fT told.v)) (x10 := some (.lst false [fT r1.v, fT r2.v])) (x13 := none) fp fg ff (fz_f first.v) (fz_f r5.v) mo (k.isf P first (by omega)) e20d e20e (k.same r5.v (by omega))
  exact ⟨_, hS _ _ (seq_nx _ s7 (seq_nx _ s8 (seq_nx _ (if_no c9) (seq_nx _ s10 (seq_nx _ s11 (seq_nx _ s12 (seq_nx _ s13 (seq_nx _ s14 (seq_nx _ s15 (seq_nx _ s16 (seq_nx _ s17 (seq_nx _ s18 (seq_rt (ret_eval e19))))))))))))))⟩
end
theorem lawTrue (ns : List Int) (h : ns.length ≤ 63) : callN fns 12 23 [.slst (ns.map T.int)] = .ok (.bl true) [] := by
  obtain ⟨b, e, hb⟩ := bag_spec 10 ns h
  have e' : callN fns 11 5 [.slst (ns.map T.int)] = .ok b.t [] := e
  have k := pk11
  show runFn (callN fns 11) f23 [.slst (ns.map T.int)] = _
  generalize callN fns 11 = Φ at *
  obtain ⟨ρ, e1⟩ := law_run k ns b hb
  have s0 : execS Φ lw_0 [some (.slst (ns.map T.int)), none, none, none, none, none, none, none, none, none, none, none, none, none] = .nx (wE ns b none none none none none none none none none none none none) := by
    simp [doCallW, argsW, oneL, pureT, pureTs, execSs, execS, evalC, evalE, evalEs, evalAs, evalOe, evalOc, evalIt, opdOf, readV, slot, Opd.get, ofR, ofO, R.bind, op1, op2, bindG, backs, doCall, argsOf, refsOf, nodupN, setAll, isFz, isFzs, fz, fzs, fzI, kill, putBack, keepF, e', isFz]
  exact run_of [some (.slst (ns.map T.int)), none, none, none, none, none, none, none, none, none, none, none, none, none] rfl rfl (seq_nx _ s0 e1) rfl
end LK

end
namespace LK
open PySem PySem.Spec PyProof.Rows L2 FT
/-! the text's defs, the head's facts -/
def topS (i : Nat) : Stmt := PySem.Challenge.pw_freetops_k04_whole_powers_of_thirty_digi.main.body.getD i (.Pass ⟨0, 0, 0, 0⟩)
theorem chk0 : fnC fis kws cls lv i0 f0 (defBody (topS 3)) (defScope (topS 3)) = true := by kernel_rfl
theorem chk1 : fnC fis kws cls lv i1 f1 (defBody (topS 5)) (defScope (topS 5)) = true := by kernel_rfl
theorem chk2 : fnC fis kws cls lv i2 f2 (defBody (topS 6)) (defScope (topS 6)) = true := by kernel_rfl
theorem chk3 : fnC fis kws cls lv i3 f3 (defBody (topS 8)) (defScope (topS 8)) = true := by kernel_rfl
theorem chk4 : fnC fis kws cls lv i4 f4 (defBody (topS 9)) (defScope (topS 9)) = true := by kernel_rfl
theorem chk5 : fnC fis kws cls lv i5 f5 (defBody (topS 11)) (defScope (topS 11)) = true := by kernel_rfl
theorem chk6 : fnC fis kws cls lv i6 f6 (defBody (topS 12)) (defScope (topS 12)) = true := by kernel_rfl
theorem chk7 : fnC fis kws cls lv i7 f7 (defBody (topS 13)) (defScope (topS 13)) = true := by kernel_rfl
theorem chk8 : fnC fis kws cls lv i8 f8 (defBody (topS 14)) (defScope (topS 14)) = true := by kernel_rfl
theorem chk9 : fnC fis kws cls lv i9 f9 (defBody (topS 15)) (defScope (topS 15)) = true := by kernel_rfl
theorem chk10 : fnC fis kws cls lv i10 f10 (defBody (topS 16)) (defScope (topS 16)) = true := by kernel_rfl
theorem chk11 : fnC fis kws cls lv i11 f11 (defBody (topS 17)) (defScope (topS 17)) = true := by kernel_rfl
theorem chk12 : fnC fis kws cls lv i12 f12 (defBody (topS 18)) (defScope (topS 18)) = true := by kernel_rfl
theorem chk13 : fnC fis kws cls lv i13 f13 (defBody (topS 19)) (defScope (topS 19)) = true := by kernel_rfl
theorem chk14 : fnC fis kws cls lv i14 f14 (defBody (topS 20)) (defScope (topS 20)) = true := by kernel_rfl
theorem chk15 : fnC fis kws cls lv i15 f15 (defBody (topS 21)) (defScope (topS 21)) = true := by kernel_rfl
theorem chk16 : fnC fis kws cls lv i16 f16 (defBody (topS 22)) (defScope (topS 22)) = true := by kernel_rfl
theorem chk17 : fnC fis kws cls lv i17 f17 (defBody (topS 23)) (defScope (topS 23)) = true := by kernel_rfl
theorem chk18 : fnC fis kws cls lv i18 f18 (defBody (topS 24)) (defScope (topS 24)) = true := by kernel_rfl
theorem chk19 : fnC fis kws cls lv i19 f19 (defBody (topS 25)) (defScope (topS 25)) = true := by kernel_rfl
theorem chk20 : fnC fis kws cls lv i20 f20 (defBody (topS 26)) (defScope (topS 26)) = true := by kernel_rfl
theorem chk21 : fnC fis kws cls lv i21 f21 (defBody (topS 27)) (defScope (topS 27)) = true := by kernel_rfl
theorem chk22 : fnC fis kws cls lv i22 f22 (defBody (topS 28)) (defScope (topS 28)) = true := by kernel_rfl
theorem chk23 : fnC fis kws cls lv i23 f23 (defBody (topS 29)) (defScope (topS 29)) = true := by kernel_rfl
def d0 : He.DefD := ⟨("inverse", none), "inverse", "inverse", defArgs (topS 3), defBody (topS 3), defScope (topS 3), [], []⟩
def d1 : He.DefD := ⟨("form_of", none), "form_of", "form_of", defArgs (topS 5), defBody (topS 5), defScope (topS 5), [], []⟩
def d2 : He.DefD := ⟨("multiply", none), "multiply", "multiply", defArgs (topS 6), defBody (topS 6), defScope (topS 6), [], []⟩
def d3 : He.DefD := ⟨("divided", none), "divided", "divided", defArgs (topS 8), defBody (topS 8), defScope (topS 8), [], []⟩
def d4 : He.DefD := ⟨("power_remainder", none), "power_remainder", "power_remainder", defArgs (topS 9), defBody (topS 9), defScope (topS 9), [], []⟩
def d5 : He.DefD := ⟨("_law_bag", none), "_law_bag", "_law_bag", defArgs (topS 11), defBody (topS 11), defScope (topS 11), [], []⟩
def d6 : He.DefD := ⟨("_law_draw", none), "_law_draw", "_law_draw", defArgs (topS 12), defBody (topS 12), defScope (topS 12), [], []⟩
def d7 : He.DefD := ⟨("_law_of", none), "_law_of", "_law_of", defArgs (topS 13), defBody (topS 13), defScope (topS 13), [], []⟩
def d8 : He.DefD := ⟨("_law_same", none), "_law_same", "_law_same", defArgs (topS 14), defBody (topS 14), defScope (topS 14), [], []⟩
def d9 : He.DefD := ⟨("_law_is_num", none), "_law_is_num", "_law_is_num", defArgs (topS 15), defBody (topS 15), defScope (topS 15), [], []⟩
def d10 : He.DefD := ⟨("_law_primes", none), "_law_primes", "_law_primes", defArgs (topS 16), defBody (topS 16), defScope (topS 16), [], []⟩
def d11 : He.DefD := ⟨("_law_prime", none), "_law_prime", "_law_prime", defArgs (topS 17), defBody (topS 17), defScope (topS 17), [], []⟩
def d12 : He.DefD := ⟨("_law_trim", none), "_law_trim", "_law_trim", defArgs (topS 18), defBody (topS 18), defScope (topS 18), [], []⟩
def d13 : He.DefD := ⟨("_law_mul", none), "_law_mul", "_law_mul", defArgs (topS 19), defBody (topS 19), defScope (topS 19), [], []⟩
def d14 : He.DefD := ⟨("_law_inv", none), "_law_inv", "_law_inv", defArgs (topS 20), defBody (topS 20), defScope (topS 20), [], []⟩
def d15 : He.DefD := ⟨("_law_divide", none), "_law_divide", "_law_divide", defArgs (topS 21), defBody (topS 21), defScope (topS 21), [], []⟩
def d16 : He.DefD := ⟨("_law_val", none), "_law_val", "_law_val", defArgs (topS 22), defBody (topS 22), defScope (topS 22), [], []⟩
def d17 : He.DefD := ⟨("_law_is_form", none), "_law_is_form", "_law_is_form", defArgs (topS 23), defBody (topS 23), defScope (topS 23), [], []⟩
def d18 : He.DefD := ⟨("_law_form", none), "_law_form", "_law_form", defArgs (topS 24), defBody (topS 24), defScope (topS 24), [], []⟩
def d19 : He.DefD := ⟨("_law_full_form", none), "_law_full_form", "_law_full_form", defArgs (topS 25), defBody (topS 25), defScope (topS 25), [], []⟩
def d20 : He.DefD := ⟨("_law_power", none), "_law_power", "_law_power", defArgs (topS 26), defBody (topS 26), defScope (topS 26), [], []⟩
def d21 : He.DefD := ⟨("_law_value_power", none), "_law_value_power", "_law_value_power", defArgs (topS 27), defBody (topS 27), defScope (topS 27), [], []⟩
def d22 : He.DefD := ⟨("_law_small_so", none), "_law_small_so", "_law_small_so", defArgs (topS 28), defBody (topS 28), defScope (topS 28), [], []⟩
def d23 : He.DefD := ⟨("law", none), "law", "law", defArgs (topS 29), defBody (topS 29), defScope (topS 29), [], []⟩
def methS (i j : Nat) : Stmt := match topS i with
  | .ClassDef _ _ _ b .. => b.getD j (.Pass ⟨0, 0, 0, 0⟩)
  | _ => .Pass ⟨0, 0, 0, 0⟩
def d24 : He.DefD := ⟨("ZeroForm", some "__init__"), "__init__", "ZeroForm.__init__", defArgs (methS 1 0), defBody (methS 1 0), defScope (methS 1 0), [], []⟩
def fn : List He.DefD := [d0, d1, d2, d3, d4, d5, d6, d7, d8, d9, d10, d11, d12, d13, d14, d15, d16, d17, d18, d19, d20, d21, d22, d23, d24]
def fa : List He.Fa := [.glo "inverse", .glo "form_of", .glo "multiply", .glo "divided", .glo "power_remainder", .glo "_law_bag", .glo "_law_draw", .glo "_law_of", .glo "_law_same", .glo "_law_is_num", .glo "_law_primes", .glo "_law_prime", .glo "_law_trim", .glo "_law_mul", .glo "_law_inv", .glo "_law_divide", .glo "_law_val", .glo "_law_is_form", .glo "_law_form", .glo "_law_full_form", .glo "_law_power", .glo "_law_value_power", .glo "_law_small_so", .glo "law", .free "len", .free "int", .free "tuple", .free "list", .free "all", .free "any", .free "sum", .free "abs", .free "max", .free "min", .free "str", .free "bool", .free "isinstance", .free "range", .free "enumerate", .free "zip", .free "reversed"]
abbrev RR : PySem.W.OpenRow := PySem.W.OpenLaw.row PySem.Challenge.rw_freetops_k04_whole_powers_of_thirty_digi
abbrev hk : PySem.W.Hook := hookZ 5 cls fa fn
def ob (s : PySem.W.SharedT) : Bool × He.AlD := obsZG 5 cls fa fn (HandSHeadRun.getT s)
theorem ob_eq (s : PySem.W.SharedT) : ob s = hk.obs s.abs := obsZ_eq (HandSHeadRun.getT_eq s)
def cnK (K : PySem.W.Frag) : Nat → Addr := fun c => match cls[c]? with
  | some ci => He.ga K ci.name
  | none => 0
theorem run (w : World) : HandSHeadRun.RunEq RR (PySem.W.view RR.prog [29]) hk ob 4000 [("ZeroForm" : Str), ("inverse" : Str), ("form_of" : Str), ("multiply" : Str), ("divided" : Str), ("power_remainder" : Str), ("_law_bag" : Str), ("_law_draw" : Str), ("_law_of" : Str), ("_law_same" : Str), ("_law_is_num" : Str), ("_law_primes" : Str), ("_law_prime" : Str), ("_law_trim" : Str), ("_law_mul" : Str), ("_law_inv" : Str), ("_law_divide" : Str), ("_law_val" : Str), ("_law_is_form" : Str), ("_law_form" : Str), ("_law_full_form" : Str), ("_law_power" : Str), ("_law_value_power" : Str), ("_law_small_so" : Str)] w := by
  intro os
  kernel_rfl
section
variable {K : PySem.W.Frag} {h : Heap} {mg : Str → Option Value}
theorem txt0 (X : K.In h) (G : h.Ns mainGlobals mg) (c : He.SaysD fa fn K) : ∃ fa fd, Txt K mg fns fis kws cls lv 0 i0 fa fd := by
  obtain ⟨fd, F⟩ := c.def_ 0 (d := d0) rfl
  exact ⟨_, fd, _, _, _, _, _, f0, F, He.glo_ok X G (c.fact 0 (f := .glo "inverse") rfl), F.bindsN (fun _ _ _ _ _ _ us hl => match us, hl with | [_, _], _ => rfl),
    (fun kk ki hk e => match kk, ki, hk, e with
    | 0, _, rfl, e => absurd e (by decide)
    | (kk + 1), _, hk, _ => absurd hk (by simp [kws])
    ), rfl, chk0⟩
theorem txt1 (X : K.In h) (G : h.Ns mainGlobals mg) (c : He.SaysD fa fn K) : ∃ fa fd, Txt K mg fns fis kws cls lv 1 i1 fa fd := by
  obtain ⟨fd, F⟩ := c.def_ 1 (d := d1) rfl
  exact ⟨_, fd, _, _, _, _, _, f1, F, He.glo_ok X G (c.fact 1 (f := .glo "form_of") rfl), F.bindsN (fun _ _ _ _ _ _ us hl => match us, hl with | [_, _], _ => rfl),
    (fun kk ki hk e => match kk, ki, hk, e with
    | 0, _, rfl, e => absurd e (by decide)
    | (kk + 1), _, hk, _ => absurd hk (by simp [kws])
    ), rfl, chk1⟩
theorem txt2 (X : K.In h) (G : h.Ns mainGlobals mg) (c : He.SaysD fa fn K) : ∃ fa fd, Txt K mg fns fis kws cls lv 2 i2 fa fd := by
  obtain ⟨fd, F⟩ := c.def_ 2 (d := d2) rfl
  exact ⟨_, fd, _, _, _, _, _, f2, F, He.glo_ok X G (c.fact 2 (f := .glo "multiply") rfl), F.bindsN (fun _ _ _ _ _ _ us hl => match us, hl with | [_, _, _], _ => rfl),
    (fun kk ki hk e => match kk, ki, hk, e with
    | 0, _, rfl, e => absurd e (by decide)
    | (kk + 1), _, hk, _ => absurd hk (by simp [kws])
    ), rfl, chk2⟩
theorem txt3 (X : K.In h) (G : h.Ns mainGlobals mg) (c : He.SaysD fa fn K) : ∃ fa fd, Txt K mg fns fis kws cls lv 3 i3 fa fd := by
  obtain ⟨fd, F⟩ := c.def_ 3 (d := d3) rfl
  exact ⟨_, fd, _, _, _, _, _, f3, F, He.glo_ok X G (c.fact 3 (f := .glo "divided") rfl), F.bindsN (fun _ _ _ _ _ _ us hl => match us, hl with | [_, _, _], _ => rfl),
    (fun kk ki hk e => match kk, ki, hk, e with
    | 0, _, rfl, e => absurd e (by decide)
    | (kk + 1), _, hk, _ => absurd hk (by simp [kws])
    ), rfl, chk3⟩
theorem txt4 (X : K.In h) (G : h.Ns mainGlobals mg) (c : He.SaysD fa fn K) : ∃ fa fd, Txt K mg fns fis kws cls lv 4 i4 fa fd := by
  obtain ⟨fd, F⟩ := c.def_ 4 (d := d4) rfl
  exact ⟨_, fd, _, _, _, _, _, f4, F, He.glo_ok X G (c.fact 4 (f := .glo "power_remainder") rfl), F.bindsN (fun _ _ _ _ _ _ us hl => match us, hl with | [_, _, _, _], _ => rfl),
    (fun kk ki hk e => match kk, ki, hk, e with
    | 0, _, rfl, _ => F.kbn0 _ _ (fun _ _ _ _ _ _ ws hl => match ws, hl with | [_, _, _, _], _ => rfl)
    | (kk + 1), _, hk, _ => absurd hk (by simp [kws])
    ), rfl, chk4⟩
theorem txt5 (X : K.In h) (G : h.Ns mainGlobals mg) (c : He.SaysD fa fn K) : ∃ fa fd, Txt K mg fns fis kws cls lv 5 i5 fa fd := by
  obtain ⟨fd, F⟩ := c.def_ 5 (d := d5) rfl
  exact ⟨_, fd, _, _, _, _, _, f5, F, He.glo_ok X G (c.fact 5 (f := .glo "_law_bag") rfl), F.bindsN (fun _ _ _ _ _ _ us hl => match us, hl with | [_], _ => rfl),
    (fun kk ki hk e => match kk, ki, hk, e with
    | 0, _, rfl, e => absurd e (by decide)
    | (kk + 1), _, hk, _ => absurd hk (by simp [kws])
    ), rfl, chk5⟩
theorem txt6 (X : K.In h) (G : h.Ns mainGlobals mg) (c : He.SaysD fa fn K) : ∃ fa fd, Txt K mg fns fis kws cls lv 6 i6 fa fd := by
  obtain ⟨fd, F⟩ := c.def_ 6 (d := d6) rfl
  exact ⟨_, fd, _, _, _, _, _, f6, F, He.glo_ok X G (c.fact 6 (f := .glo "_law_draw") rfl), F.bindsN (fun _ _ _ _ _ _ us hl => match us, hl with | [_, _], _ => rfl),
    (fun kk ki hk e => match kk, ki, hk, e with
    | 0, _, rfl, e => absurd e (by decide)
    | (kk + 1), _, hk, _ => absurd hk (by simp [kws])
    ), rfl, chk6⟩
theorem txt7 (X : K.In h) (G : h.Ns mainGlobals mg) (c : He.SaysD fa fn K) : ∃ fa fd, Txt K mg fns fis kws cls lv 7 i7 fa fd := by
  obtain ⟨fd, F⟩ := c.def_ 7 (d := d7) rfl
  exact ⟨_, fd, _, _, _, _, _, f7, F, He.glo_ok X G (c.fact 7 (f := .glo "_law_of") rfl), F.bindsN (fun _ _ _ _ _ _ us hl => match us, hl with | [_, _], _ => rfl),
    (fun kk ki hk e => match kk, ki, hk, e with
    | 0, _, rfl, e => absurd e (by decide)
    | (kk + 1), _, hk, _ => absurd hk (by simp [kws])
    ), rfl, chk7⟩
theorem txt8 (X : K.In h) (G : h.Ns mainGlobals mg) (c : He.SaysD fa fn K) : ∃ fa fd, Txt K mg fns fis kws cls lv 8 i8 fa fd := by
  obtain ⟨fd, F⟩ := c.def_ 8 (d := d8) rfl
  exact ⟨_, fd, _, _, _, _, _, f8, F, He.glo_ok X G (c.fact 8 (f := .glo "_law_same") rfl), F.bindsN (fun _ _ _ _ _ _ us hl => match us, hl with | [_, _], _ => rfl),
    (fun kk ki hk e => match kk, ki, hk, e with
    | 0, _, rfl, e => absurd e (by decide)
    | (kk + 1), _, hk, _ => absurd hk (by simp [kws])
    ), rfl, chk8⟩
theorem txt9 (X : K.In h) (G : h.Ns mainGlobals mg) (c : He.SaysD fa fn K) : ∃ fa fd, Txt K mg fns fis kws cls lv 9 i9 fa fd := by
  obtain ⟨fd, F⟩ := c.def_ 9 (d := d9) rfl
  exact ⟨_, fd, _, _, _, _, _, f9, F, He.glo_ok X G (c.fact 9 (f := .glo "_law_is_num") rfl), F.bindsN (fun _ _ _ _ _ _ us hl => match us, hl with | [_], _ => rfl),
    (fun kk ki hk e => match kk, ki, hk, e with
    | 0, _, rfl, e => absurd e (by decide)
    | (kk + 1), _, hk, _ => absurd hk (by simp [kws])
    ), rfl, chk9⟩
theorem txt10 (X : K.In h) (G : h.Ns mainGlobals mg) (c : He.SaysD fa fn K) : ∃ fa fd, Txt K mg fns fis kws cls lv 10 i10 fa fd := by
  obtain ⟨fd, F⟩ := c.def_ 10 (d := d10) rfl
  exact ⟨_, fd, _, _, _, _, _, f10, F, He.glo_ok X G (c.fact 10 (f := .glo "_law_primes") rfl), F.bindsN (fun _ _ _ _ _ _ us hl => match us, hl with | [], _ => rfl),
    (fun kk ki hk e => match kk, ki, hk, e with
    | 0, _, rfl, e => absurd e (by decide)
    | (kk + 1), _, hk, _ => absurd hk (by simp [kws])
    ), rfl, chk10⟩
theorem txt11 (X : K.In h) (G : h.Ns mainGlobals mg) (c : He.SaysD fa fn K) : ∃ fa fd, Txt K mg fns fis kws cls lv 11 i11 fa fd := by
  obtain ⟨fd, F⟩ := c.def_ 11 (d := d11) rfl
  exact ⟨_, fd, _, _, _, _, _, f11, F, He.glo_ok X G (c.fact 11 (f := .glo "_law_prime") rfl), F.bindsN (fun _ _ _ _ _ _ us hl => match us, hl with | [_], _ => rfl),
    (fun kk ki hk e => match kk, ki, hk, e with
    | 0, _, rfl, e => absurd e (by decide)
    | (kk + 1), _, hk, _ => absurd hk (by simp [kws])
    ), rfl, chk11⟩
theorem txt12 (X : K.In h) (G : h.Ns mainGlobals mg) (c : He.SaysD fa fn K) : ∃ fa fd, Txt K mg fns fis kws cls lv 12 i12 fa fd := by
  obtain ⟨fd, F⟩ := c.def_ 12 (d := d12) rfl
  exact ⟨_, fd, _, _, _, _, _, f12, F, He.glo_ok X G (c.fact 12 (f := .glo "_law_trim") rfl), F.bindsN (fun _ _ _ _ _ _ us hl => match us, hl with | [_], _ => rfl),
    (fun kk ki hk e => match kk, ki, hk, e with
    | 0, _, rfl, e => absurd e (by decide)
    | (kk + 1), _, hk, _ => absurd hk (by simp [kws])
    ), rfl, chk12⟩
theorem txt13 (X : K.In h) (G : h.Ns mainGlobals mg) (c : He.SaysD fa fn K) : ∃ fa fd, Txt K mg fns fis kws cls lv 13 i13 fa fd := by
  obtain ⟨fd, F⟩ := c.def_ 13 (d := d13) rfl
  exact ⟨_, fd, _, _, _, _, _, f13, F, He.glo_ok X G (c.fact 13 (f := .glo "_law_mul") rfl), F.bindsN (fun _ _ _ _ _ _ us hl => match us, hl with | [_, _, _], _ => rfl),
    (fun kk ki hk e => match kk, ki, hk, e with
    | 0, _, rfl, e => absurd e (by decide)
    | (kk + 1), _, hk, _ => absurd hk (by simp [kws])
    ), rfl, chk13⟩
theorem txt14 (X : K.In h) (G : h.Ns mainGlobals mg) (c : He.SaysD fa fn K) : ∃ fa fd, Txt K mg fns fis kws cls lv 14 i14 fa fd := by
  obtain ⟨fd, F⟩ := c.def_ 14 (d := d14) rfl
  exact ⟨_, fd, _, _, _, _, _, f14, F, He.glo_ok X G (c.fact 14 (f := .glo "_law_inv") rfl), F.bindsN (fun _ _ _ _ _ _ us hl => match us, hl with | [_, _], _ => rfl),
    (fun kk ki hk e => match kk, ki, hk, e with
    | 0, _, rfl, e => absurd e (by decide)
    | (kk + 1), _, hk, _ => absurd hk (by simp [kws])
    ), rfl, chk14⟩
theorem txt15 (X : K.In h) (G : h.Ns mainGlobals mg) (c : He.SaysD fa fn K) : ∃ fa fd, Txt K mg fns fis kws cls lv 15 i15 fa fd := by
  obtain ⟨fd, F⟩ := c.def_ 15 (d := d15) rfl
  exact ⟨_, fd, _, _, _, _, _, f15, F, He.glo_ok X G (c.fact 15 (f := .glo "_law_divide") rfl), F.bindsN (fun _ _ _ _ _ _ us hl => match us, hl with | [_, _, _], _ => rfl),
    (fun kk ki hk e => match kk, ki, hk, e with
    | 0, _, rfl, e => absurd e (by decide)
    | (kk + 1), _, hk, _ => absurd hk (by simp [kws])
    ), rfl, chk15⟩
theorem txt16 (X : K.In h) (G : h.Ns mainGlobals mg) (c : He.SaysD fa fn K) : ∃ fa fd, Txt K mg fns fis kws cls lv 16 i16 fa fd := by
  obtain ⟨fd, F⟩ := c.def_ 16 (d := d16) rfl
  exact ⟨_, fd, _, _, _, _, _, f16, F, He.glo_ok X G (c.fact 16 (f := .glo "_law_val") rfl), F.bindsN (fun _ _ _ _ _ _ us hl => match us, hl with | [_, _, _], _ => rfl),
    (fun kk ki hk e => match kk, ki, hk, e with
    | 0, _, rfl, e => absurd e (by decide)
    | (kk + 1), _, hk, _ => absurd hk (by simp [kws])
    ), rfl, chk16⟩
theorem txt17 (X : K.In h) (G : h.Ns mainGlobals mg) (c : He.SaysD fa fn K) : ∃ fa fd, Txt K mg fns fis kws cls lv 17 i17 fa fd := by
  obtain ⟨fd, F⟩ := c.def_ 17 (d := d17) rfl
  exact ⟨_, fd, _, _, _, _, _, f17, F, He.glo_ok X G (c.fact 17 (f := .glo "_law_is_form") rfl), F.bindsN (fun _ _ _ _ _ _ us hl => match us, hl with | [_, _], _ => rfl),
    (fun kk ki hk e => match kk, ki, hk, e with
    | 0, _, rfl, e => absurd e (by decide)
    | (kk + 1), _, hk, _ => absurd hk (by simp [kws])
    ), rfl, chk17⟩
theorem txt18 (X : K.In h) (G : h.Ns mainGlobals mg) (c : He.SaysD fa fn K) : ∃ fa fd, Txt K mg fns fis kws cls lv 18 i18 fa fd := by
  obtain ⟨fd, F⟩ := c.def_ 18 (d := d18) rfl
  exact ⟨_, fd, _, _, _, _, _, f18, F, He.glo_ok X G (c.fact 18 (f := .glo "_law_form") rfl), F.bindsN (fun _ _ _ _ _ _ us hl => match us, hl with | [_, _, _], _ => rfl),
    (fun kk ki hk e => match kk, ki, hk, e with
    | 0, _, rfl, e => absurd e (by decide)
    | (kk + 1), _, hk, _ => absurd hk (by simp [kws])
    ), rfl, chk18⟩
theorem txt19 (X : K.In h) (G : h.Ns mainGlobals mg) (c : He.SaysD fa fn K) : ∃ fa fd, Txt K mg fns fis kws cls lv 19 i19 fa fd := by
  obtain ⟨fd, F⟩ := c.def_ 19 (d := d19) rfl
  exact ⟨_, fd, _, _, _, _, _, f19, F, He.glo_ok X G (c.fact 19 (f := .glo "_law_full_form") rfl), F.bindsN (fun _ _ _ _ _ _ us hl => match us, hl with | [_, _, _], _ => rfl),
    (fun kk ki hk e => match kk, ki, hk, e with
    | 0, _, rfl, e => absurd e (by decide)
    | (kk + 1), _, hk, _ => absurd hk (by simp [kws])
    ), rfl, chk19⟩
theorem txt20 (X : K.In h) (G : h.Ns mainGlobals mg) (c : He.SaysD fa fn K) : ∃ fa fd, Txt K mg fns fis kws cls lv 20 i20 fa fd := by
  obtain ⟨fd, F⟩ := c.def_ 20 (d := d20) rfl
  exact ⟨_, fd, _, _, _, _, _, f20, F, He.glo_ok X G (c.fact 20 (f := .glo "_law_power") rfl), F.bindsN (fun _ _ _ _ _ _ us hl => match us, hl with | [_, _, _, _, _], _ => rfl),
    (fun kk ki hk e => match kk, ki, hk, e with
    | 0, _, rfl, e => absurd e (by decide)
    | (kk + 1), _, hk, _ => absurd hk (by simp [kws])
    ), rfl, chk20⟩
theorem txt21 (X : K.In h) (G : h.Ns mainGlobals mg) (c : He.SaysD fa fn K) : ∃ fa fd, Txt K mg fns fis kws cls lv 21 i21 fa fd := by
  obtain ⟨fd, F⟩ := c.def_ 21 (d := d21) rfl
  exact ⟨_, fd, _, _, _, _, _, f21, F, He.glo_ok X G (c.fact 21 (f := .glo "_law_value_power") rfl), F.bindsN (fun _ _ _ _ _ _ us hl => match us, hl with | [_, _, _], _ => rfl),
    (fun kk ki hk e => match kk, ki, hk, e with
    | 0, _, rfl, e => absurd e (by decide)
    | (kk + 1), _, hk, _ => absurd hk (by simp [kws])
    ), rfl, chk21⟩
theorem txt22 (X : K.In h) (G : h.Ns mainGlobals mg) (c : He.SaysD fa fn K) : ∃ fa fd, Txt K mg fns fis kws cls lv 22 i22 fa fd := by
  obtain ⟨fd, F⟩ := c.def_ 22 (d := d22) rfl
  exact ⟨_, fd, _, _, _, _, _, f22, F, He.glo_ok X G (c.fact 22 (f := .glo "_law_small_so") rfl), F.bindsN (fun _ _ _ _ _ _ us hl => match us, hl with | [_, _, _, _], _ => rfl),
    (fun kk ki hk e => match kk, ki, hk, e with
    | 0, _, rfl, e => absurd e (by decide)
    | (kk + 1), _, hk, _ => absurd hk (by simp [kws])
    ), rfl, chk22⟩
theorem txt23 (X : K.In h) (G : h.Ns mainGlobals mg) (c : He.SaysD fa fn K) : ∃ fa fd, Txt K mg fns fis kws cls lv 23 i23 fa fd := by
  obtain ⟨fd, F⟩ := c.def_ 23 (d := d23) rfl
  exact ⟨_, fd, _, _, _, _, _, f23, F, He.glo_ok X G (c.fact 23 (f := .glo "law") rfl), F.bindsN (fun _ _ _ _ _ _ us hl => match us, hl with | [_], _ => rfl),
    (fun kk ki hk e => match kk, ki, hk, e with
    | 0, _, rfl, e => absurd e (by decide)
    | (kk + 1), _, hk, _ => absurd hk (by simp [kws])
    ), rfl, chk23⟩
theorem blts (X : K.In h) (G : h.Ns mainGlobals mg) (c : He.SaysD fa fn K) : ∀ b ∈ bltNames, mg b = none := by
  intro b hb
  simp only [bltNames, List.mem_cons, List.not_mem_nil, or_false] at hb
  rcases hb with rfl | rfl | rfl | rfl | rfl | rfl | rfl | rfl | rfl | rfl | rfl | rfl | rfl | rfl | rfl | rfl | rfl
  · exact He.free_ok X G (c.fact 24 (f := .free "len") rfl)
  · exact He.free_ok X G (c.fact 25 (f := .free "int") rfl)
  · exact He.free_ok X G (c.fact 26 (f := .free "tuple") rfl)
  · exact He.free_ok X G (c.fact 27 (f := .free "list") rfl)
  · exact He.free_ok X G (c.fact 28 (f := .free "all") rfl)
  · exact He.free_ok X G (c.fact 29 (f := .free "any") rfl)
  · exact He.free_ok X G (c.fact 30 (f := .free "sum") rfl)
  · exact He.free_ok X G (c.fact 31 (f := .free "abs") rfl)
  · exact He.free_ok X G (c.fact 32 (f := .free "max") rfl)
  · exact He.free_ok X G (c.fact 33 (f := .free "min") rfl)
  · exact He.free_ok X G (c.fact 34 (f := .free "str") rfl)
  · exact He.free_ok X G (c.fact 35 (f := .free "bool") rfl)
  · exact He.free_ok X G (c.fact 36 (f := .free "isinstance") rfl)
  · exact He.free_ok X G (c.fact 37 (f := .free "range") rfl)
  · exact He.free_ok X G (c.fact 38 (f := .free "enumerate") rfl)
  · exact He.free_ok X G (c.fact 39 (f := .free "zip") rfl)
  · exact He.free_ok X G (c.fact 40 (f := .free "reversed") rfl)
theorem txts (X : K.In h) (G : h.Ns mainGlobals mg) (c : He.SaysD fa fn K) : ∀ (f : Nat) (fi : FnI), fis[f]? = some fi → ∃ fa fd, Txt K mg fns fis kws cls lv f fi fa fd := fun f fi hf => match f, fi, hf with
  | 0, _, rfl => txt0 X G c
  | 1, _, rfl => txt1 X G c
  | 2, _, rfl => txt2 X G c
  | 3, _, rfl => txt3 X G c
  | 4, _, rfl => txt4 X G c
  | 5, _, rfl => txt5 X G c
  | 6, _, rfl => txt6 X G c
  | 7, _, rfl => txt7 X G c
  | 8, _, rfl => txt8 X G c
  | 9, _, rfl => txt9 X G c
  | 10, _, rfl => txt10 X G c
  | 11, _, rfl => txt11 X G c
  | 12, _, rfl => txt12 X G c
  | 13, _, rfl => txt13 X G c
  | 14, _, rfl => txt14 X G c
  | 15, _, rfl => txt15 X G c
  | 16, _, rfl => txt16 X G c
  | 17, _, rfl => txt17 X G c
  | 18, _, rfl => txt18 X G c
  | 19, _, rfl => txt19 X G c
  | 20, _, rfl => txt20 X G c
  | 21, _, rfl => txt21 X G c
  | 22, _, rfl => txt22 X G c
  | 23, _, rfl => txt23 X G c
  | (f + 24), _, hf => absurd hf (by simp [fis])
end
theorem clsT {K : PySem.W.Frag} {h : Heap} {mg : Str → Option Value} (X : K.In h) (G : h.Ns mainGlobals mg) (z : (cls.all fun ci => zfAll K ci) = true) (c : He.SaysD fa fn K) : ∀ (c : Nat) (ci : ClI), cls[c]? = some ci → ClsT K mg ci (cnK K c)
  | 0, _, rfl => by
    obtain ⟨fd, F⟩ := c.def_ 24 (d := d24) rfl
    exact zfAll_ok X G (List.all_eq_true.mp z _ (List.mem_of_getElem? (i := 0) rfl)) F (F.bindsN (fun _ _ _ _ _ _ us hl => match us, hl with | [_], _ => rfl)) (y := "self") (fnScope_ok (by kernel_rfl)) (by kernel_rfl)
  | (k + 1), _, e => absurd e (by simp [cls])
theorem lvC : cls ≠ [] → ∀ n, callN fns n lv [] = .ok .non [] → 2 ≤ n := fun _ => lvTwo
theorem txtLaw {K : PySem.W.Frag} {h : Heap} {mg : Str → Option Value} (X : K.In h) (G : h.Ns mainGlobals mg) (c : He.SaysD fa fn K) : ∃ fd, FunD K d23.name d23.qual d23.params d23.body d23.scope [] [] (He.ga K "law") fd ∧ Txt K mg fns fis kws cls lv 23 i23 (He.ga K "law") fd := by
  obtain ⟨fd, F⟩ := c.def_ 23 (d := d23) rfl
  refine ⟨fd, F, ?_⟩
  obtain ⟨fa', fd', tx⟩ := txt23 X G c
  obtain ⟨x, qual, params, body, scope, fn', F', hm, hb, hk, hfn, hc⟩ := tx
  exact ⟨_, _, _, _, _, f23, F, He.glo_ok X G (c.fact 23 (f := .glo "law") rfl), F.bindsN (fun _ _ _ _ _ _ us hl => match us, hl with | [_], _ => rfl),
    (fun kk ki hk e => match kk, ki, hk, e with
    | 0, _, rfl, e => absurd e (by decide)
    | (kk + 1), _, hk, _ => absurd hk (by simp [kws])
    ), rfl, chk23⟩
theorem mainU (H : Hp) (K : PySem.W.Frag) (a : Addr) (ns : List Int) (hl : ns.length ≤ 63) (hS : SqL K H a (ns.map V.int)) : spOf K (cnK K) (callN fns 12 23) 1 [] [.ref a] H (fun v _ => v = .bl true) fun _ _ _ => False := by
  refine law_sp (lawTrue ns hl) hS
end LK
open PySem PySem.W PySem.Calls PyProof.Rows
theorem PySem.Challenge.cw_freetops_k04_whole_powers_of_thirty_digi_holds : PySem.Challenge.rw_freetops_k04_whole_powers_of_thirty_digi.Holds := by
  w_on; o_law
  refine HandSHeadRun.head_any (r := OpenLaw.row PySem.Challenge.rw_freetops_k04_whole_powers_of_thirty_digi) (q := view (OpenLaw.row PySem.Challenge.rw_freetops_k04_whole_powers_of_thirty_digi).prog [29]) (H := LK.hk) (ob := LK.ob) (M := 4000) (loose := [("ZeroForm" : Str), ("inverse" : Str), ("form_of" : Str), ("multiply" : Str), ("divided" : Str), ("power_remainder" : Str), ("_law_bag" : Str), ("_law_draw" : Str), ("_law_of" : Str), ("_law_same" : Str), ("_law_is_num" : Str), ("_law_primes" : Str), ("_law_prime" : Str), ("_law_trim" : Str), ("_law_mul" : Str), ("_law_inv" : Str), ("_law_divide" : Str), ("_law_val" : Str), ("_law_is_form" : Str), ("_law_form" : Str), ("_law_full_form" : Str), ("_law_power" : Str), ("_law_value_power" : Str), ("_law_small_so" : Str)]) (d := HandSHeadRun.topDef (OpenLaw.row PySem.Challenge.rw_freetops_k04_whole_powers_of_thirty_digi).prog 29) (kwd := []) LK.ob_eq
    (by kernel_rfl) (fun s => by kernel_rfl) LK.run (by kernel_rfl) (by kernel_rfl) (by kernel_rfl) (by rfl) (by first | assumption | decide +kernel) (by decide +kernel) ⟨rfl, rfl, rfl, rfl, rfl, by decide +kernel⟩ ?hw ?hc
  case hw => w_witness2
  case hc =>
    refine L2.walk_ofE (l := PySem.Challenge.rw_freetops_k04_whole_powers_of_thirty_digi) (n := 63) (k := 12) (x := "_law_script") (CX := L2.CX0) rfl (by decide) (by kernel_rfl) ⟨rfl, by decide, by decide⟩ ?F (fun _ _ _ _ z => z)
    intro w mg fa h Y G hmg0
    obtain ⟨K, KX, cz⟩ := Y
    have c : He.SaysD LK.fa LK.fn K := congrArg Prod.snd cz
    have z : (LK.cls.all fun ci => FT.zfAll K ci) = true := congrArg Prod.fst cz
    have hmg : mg ("law" : PySem.Str) = some (.ref fa) := by
      have e : (HandSHeadRun.topDef (OpenLaw.row PySem.Challenge.rw_freetops_k04_whole_powers_of_thirty_digi).prog 29).name = ("law" : PySem.Str) := by kernel_rfl
      rw [← e]
      exact hmg0
    obtain ⟨fd, FL, tx⟩ := LK.txtLaw KX G c
    have e := hmg.symm.trans (He.glo_ok KX G (c.fact 23 (f := .glo "law") rfl))
    cases e
    exact ⟨K, fd, fun vs H Q _ => FT.spOf K (LK.cnK K) (FT.callN LK.fns 12 23) 1 [] vs H Q fun _ _ _ => False, KX, fun s v => L2.FunD.bindsA (ps := ["_law_script"]) FL (fun _ _ _ _ _ _ us hl => match us, hl with | [_], _ => rfl) s [v] rfl, fun H a ns hl _ hS => LK.mainU H K a ns hl hS, fun base _ _ => FT.FnOk.nox (FT.level (LK.blts KX G c) (LK.clsT KX G z c) LK.lvC (LK.txts KX G c) 12 23 LK.i23 _ fd rfl tx)⟩
