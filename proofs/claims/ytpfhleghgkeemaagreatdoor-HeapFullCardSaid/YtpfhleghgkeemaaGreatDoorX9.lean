import Derived.Test.YtpfhleghgkeemaaGreatDoorX8
/-! X9: reading and writing at a place of a row; text to bytes. -/
namespace Go.Sx
open Go

theorem ld_row {hp : Hp} {w : World} (h : HS hp w) (i : Nat) {T sz n cap g off : Nat} {xs : List Value} (hi : hp[i]? = some (row T sz (some ⟨g, off, none⟩) n cap xs)) (q : Nat) {vs : List Value} (hv : (xs.drop q).take vs.length = vs) : cellsAt w ⟨g, off + q, none⟩ vs := by
  have := cells_row h i hi q vs.length
  rwa [hv] at this
theorem ld_ro {hp : Hp} {w : World} (h : HS hp w) (i : Nat) {g off : Nat} {xs : List Value} (hi : hp[i]? = some (ro (some ⟨g, off, none⟩) xs)) (q : Nat) {vs : List Value} (hv : (xs.drop q).take vs.length = vs) : cellsAt w ⟨g, off + q, none⟩ vs := by
  have := cells_ro h i hi q vs.length
  rwa [hv] at this
theorem u8_at {l : List UInt8} {q : Nat} (hq : q < l.length) : ((u8s l).drop q).take 1 = [.int .u8 (l[q]).toNat] := by
  have h : q < (u8s l).length := by rw [u8s_len]; exact hq
  rw [List.drop_eq_getElem_cons h]
  simp [u8s]
theorem u8_set {l : List UInt8} {q : Nat} (hq : q < l.length) (b : UInt8) : (u8s l).take q ++ [.int .u8 b.toNat] ++ (u8s l).drop (q + 1) = u8s (l.set q b) := by
  unfold u8s
  rw [List.set_eq_take_append_cons_drop, if_pos hq]
  simp [List.map_take, List.map_drop]
theorem u8_at1 {l : List UInt8} {q : Nat} (hq : q < l.length) : ((u8s l).drop (q * 1)).take 1 = [.int .u8 (l[q]).toNat] := by rw [Nat.mul_one]; exact u8_at hq
theorem u8_set1 {l : List UInt8} {q : Nat} (hq : q < l.length) (b : UInt8) : (u8s l).take (q * 1) ++ [.int .u8 b.toNat] ++ (u8s l).drop (q * 1 + 1) = u8s (l.set q b) := by rw [Nat.mul_one]; exact u8_set hq b
theorem xor_u8 (b c : UInt8) : (IntKind.u8.wrap ↑(BitVec.ofInt IntKind.u8.bits ↑b.toNat ^^^ BitVec.ofInt IntKind.u8.bits ↑c.toNat).toNat) = ((b ^^^ c).toNat : Int) := by
  have h : IntKind.u8.bits = 8 := rfl
  simp [h, IntKind.wrap, IntKind.signed]
  have := (b ^^^ c).toNat_lt
  rw [UInt8.toNat_xor] at this
  omega
theorem xor_u32 (b c : UInt32) : (IntKind.u32.wrap ↑(BitVec.ofInt IntKind.u32.bits ↑b.toNat ^^^ BitVec.ofInt IntKind.u32.bits ↑c.toNat).toNat) = ((b ^^^ c).toNat : Int) := by
  have h : IntKind.u32.bits = 32 := rfl
  simp [h, IntKind.wrap, IntKind.signed]
  have := (b ^^^ c).toNat_lt
  rw [UInt32.toNat_xor] at this
  omega
theorem stq' {Γ : Cx} {s : St} {ops : Array Oper} {i : Nat} {t : TypeId} {g off q : Nat} {v : Value} {dst : Option Nat} (hc : storeOf ops Γ.nt i s.fr = some (t, .pointer (some ⟨g, off + q, none⟩), v, dst)) (pi : Nat) {T sz n cap : Nat} {xs : List Value} (hpi : s.hp[pi]? = some (row T sz (some ⟨g, off, none⟩) n cap xs))
    (vs : List Value) (hvs : v.cells = vs.toArray) (hk : (Γ.P.info? t).map (·.size) = some vs.length) (h1 : Sx.One vs) (hq : q + vs.length ≤ xs.length) {xs' : List Value} (he : xs.take q ++ vs ++ xs.drop (q + vs.length) = xs') :
    Step Γ ops i s (fun s' => s' = ⟨putFr s.fr dst undef, s.hp.set pi (row T sz (some ⟨g, off, none⟩) n cap xs')⟩) := by
  subst he
  exact stq hc pi hpi vs hvs hk h1 hq
theorem row_addr' {hp : Hp} {w : World} (h : HS hp w) (i : Nat) {T sz n cap : Nat} {a : Option Addr} {xs : List Value} (hi : hp[i]? = some (row T sz a n cap xs)) (hn : 0 < n) : ∃ g off, a = some ⟨g, off, none⟩ := row_addr h i hi hn
end Go.Sx
