import Derived.Test.YtpfhleghgkeemaaGreatDoorX16
/-
  Several chunks, read alone as one.
-/
namespace Go.Sx
open Go
set_option linter.unusedVariables false
variable {Γ : Cx} {s : St}

/-- Several chunks said as one that is read alone. -/
theorem ent_ro {fr : Fr} {hp rest : Hp} {c' : Ch} (hh : ∀ w, HL hp w → c'.holds w) (ho : ∀ w, HL hp w → ∀ k, c'.own k → ∃ c ∈ hp, c.own k) (hr : ¬ c'.rw) : Ent Γ ⟨fr, hp ++ rest⟩ ⟨fr, c' :: rest⟩ := fun a w h => by
  obtain ⟨h1, h2, h3⟩ := h.hs.split
  have hl : HL hp w := h1.holds
  refine ⟨h.size, h.defers, h.fr, ⟨fun c hc => ?_, List.pairwise_cons.2 ⟨fun d hd => ?_, h2.apart⟩⟩, h.ext, fun c hc hcr k hk => ?_⟩
  · rcases List.mem_cons.1 hc with rfl | hc
    · exact hh w hl
    · exact h2.holds c hc
  · by_cases hdr : d.rw
    · refine .inr fun k hk hdk => ?_
      obtain ⟨c, hc, hck⟩ := ho w hl k hk
      rcases h3 c hc d hd with ⟨_, h5⟩ | h5
      · exact h5 hdr
      · exact h5 k hck hdk
    · exact .inl ⟨hr, hdr⟩
  · rcases List.mem_cons.1 hc with rfl | hc
    · exact absurd hcr hr
    · exact h.bd c (List.mem_append.2 (.inr hc)) hcr k hk
def bagQ (hp : Hp) : Oq where
  own := fun k => ∃ c ∈ hp, c.own k
  rw := False
  holds := fun w => ∀ c ∈ hp, c.holds w
  loc := fun w w' hk h c hc => c.loc (fun k hck => hk k ⟨c, hc, hck⟩) (h c hc)
  lt := fun w k h ⟨c, hc, hck⟩ => c.lt (h c hc) hck
/-- Chunks that are read alone, as one. -/
def bag (hp : Hp) : Ch := .op (bagQ hp)
theorem view_bag {hp : Hp} : View (star hp) (bag hp) := ⟨fun w h => h.1.holds, fun w h k hk => hk, fun h => h⟩
theorem view_in {hp : Hp} {c c' : Ch} (hc : c ∈ hp) (v : View c c') : View (bag hp) c' := ⟨fun w h => v.holds w (h c hc), fun w h k hk => ⟨c, hc, v.own w (h c hc) k hk⟩, v.ro⟩
theorem ent_bag {fr : Fr} {hp rest : Hp} : Ent Γ ⟨fr, hp ++ rest⟩ ⟨fr, bag hp :: rest⟩ := ent_ro (fun w h => h) (fun w h k hk => hk) (fun h => h)
theorem view_self {hp : Hp} : View (bag hp) (bag hp) := ⟨fun w h => h, fun w h k hk => hk, fun h => h⟩
theorem row_spot {hp : Hp} {w : World} (h : HS hp w) (i : Nat) {T sz n cap : Nat} {a : Option Addr} {xs : List Value} (hi : hp[i]? = some (row T sz a n cap xs)) : ∀ ad, a = some ad → ad.spot = none := by
  obtain ⟨_, _, _, _, h5⟩ := h.holds _ (List.mem_of_getElem? hi)
  intro ad e
  rcases h5 with ⟨_, h6⟩ | ⟨g, off, cur, fz, h6, _⟩
  · exact h6 ad e
  · rw [e] at h6; cases h6; rfl
end Go.Sx
