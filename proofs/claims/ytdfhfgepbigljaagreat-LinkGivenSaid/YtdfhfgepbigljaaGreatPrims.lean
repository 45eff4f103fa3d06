/- The library's functions that are not interpreted, at this program: strings.IndexByte; slices.Sorted over a map's keys. -/
import Derived.Test.YtdfhfgepbigljaaGreatShelf
import Derived.Test.YtdfhfgepbigljaaGreatLvM3
import Derived.KernelRfl
namespace Go.Lv.Tryz
open Go.Proofs Go.RowKit Go.Maps Go.Sort Go.Shelf
set_option linter.unusedVariables false

theorem sorts69 (m : Nat) : AnyZ.SortsIn Tryz.prog Tryz.sorted69_ren Fence.wide m :=
  ⟨fun blk off cap ss W hH hblk hsz => callsIn_wide.2 (AnyM.slices_Sort_string Tryz.sort120 blk off cap ss W hH hblk hsz),
   fun p cap W => callsIn_wide.2 (AnyM.slices_Sort_string_none Tryz.sort120 p cap W)⟩

/-- slices.Sorted at a map's keys: the shelf's contract, in whatever world the iterator's box lies. -/
theorem sortedAt : SortedAt Tryz.prog 9 9 69 121 := by
  intro b nn D0 R w Bm hBm hm hown hmax hbytes
  refine (callsIn_wide (n := 5)).1 ?_
  have hseq : SeqGives Fence.wide 2 Tryz.prog 121 #[.pointer (some ⟨Bm, 0, none⟩)] encStr (fun ss => ss.Perm (strKeys D0)) (Maps.size D0) w :=
    AnyZ.keys_gives (ρ := Tryz.keys70_ren) { Tryz.keys70 with } Fence.wide _ trivial rfl (by omega) Bm b nn D0 w hBm hm hown
  exact AnyZ.sorted_in Tryz.sorted69 Fence.wide 5 trivial trivial trivial trivial rfl (by omega) (sorts69 _) (enters_of Tryz.func120 (by kernel_rfl) rfl) 121 #[.pointer (some ⟨Bm, 0, none⟩)] trivial (enters_of Tryz.func121 (by kernel_rfl) rfl) _ _ hmax hbytes _ hseq

theorem rid69 : rid 69 = 69 := by kernel_rfl
theorem rid121 : rid 121 = 121 := by kernel_rfl
theorem rid169 : rid 169 = 169 := by kernel_rfl
theorem sorted_prim : HPrimOk Tryz.prog 69 (sortedH 121) :=
  sorted_ok (K := 9) (T := 9) (f := 69) (it := 121) Tryz.underlying9 (by rw [rid69]; exact sortedAt) rid121 ⟨Tryz.f69, by rw [rid69]; exact Tryz.func69, by kernel_rfl, by kernel_rfl⟩

/-- the place of a byte in a text -/
def idx (c : Nat) : List Nat → Int → Int
  | [], _ => -1
  | x :: r, i => if Nat.beq x c then i else idx c r (i + 1)
def indexByte : List PV → Option PV
  | [.str s, .int .u8 (.ofNat c)] => if Nat.blt c 256 then some (.int .i64 (idx c s 0)) else none
  | _ => none
theorem idx_eq (c : Nat) (hc : c < 256) : ∀ (l : List UInt8) (i : Int), idx c (l.map UInt8.toNat) i = if Lib.indexByte l c.toUInt8 = -1 then -1 else i + Lib.indexByte l c.toUInt8
  | [], i => by simp [idx, Lib.indexByte]
  | b :: l, i => by
    have hb : (b == c.toUInt8) = Nat.beq b.toNat c := by
      rw [Bool.eq_iff_iff, beq_iff_eq, ← UInt8.toNat_inj, Nat.beq_eq]
      have : c.toUInt8.toNat = c := by simp [Nat.toUInt8, UInt8.toNat_ofNat']; omega
      rw [this]
    have hge := Lib.indexByte_ge l c.toUInt8
    simp only [List.map_cons, idx, Lib.indexByte, hb, idx_eq c hc l (i + 1)]
    cases Nat.beq b.toNat c with
    | true => simp
    | false =>
      simp only [Bool.false_eq_true, if_false, beq_iff_eq]
      by_cases e : Lib.indexByte l c.toUInt8 = -1
      · simp [e]
      · simp only [e, if_false]
        rw [if_neg (by omega)]; omega

theorem index_prim : PrimOk Tryz.prog 169 indexByte := by
  intro I w args rargs v hlow hl hrel h
  unfold indexByte at h
  split at h
  · rename_i s c
    split at h
    · rename_i hc
      simp only [Option.some.injEq] at h; subst h
      refine ⟨⟨Tryz.f169, by rw [rid169]; exact Tryz.func169, by kernel_rfl, by kernel_rfl⟩, ?_⟩
      match rargs, hl with
      | ⟨[r0, r1]⟩, _ =>
      have h0 := hrel 0 (.str s) r0 rfl rfl
      have h1 := hrel 1 (.int .u8 (.ofNat c)) r1 rfl rfl
      cases h1
      cases h0 with
      | str b _ hb =>
      rw [rid169]
      have hS := Any.strings_IndexByte Tryz.lays137 b (Int.ofNat c) w
      refine Calls.mono hS fun e w' he => ?_
      obtain ⟨rfl, rfl⟩ := he
      have hc' : c < 256 := Nat.le_of_ble_eq_true hc
      refine ⟨_, ⟨fun _ => none, I⟩, rfl, Ev.refl ⟨fun b k h => by simp at h, fun b b' k k' R h => by simp at h, hlow⟩, hlow, ?_⟩
      have : idx c s 0 = Lib.indexByte b.data.toList (Int.ofNat c).toNat.toUInt8 := by
        subst hb
        rw [idx_eq c hc']
        have e : (Int.ofNat c).toNat.toUInt8 = c.toUInt8 := rfl
        rw [e]
        split
        · rename_i h; exact h.symm
        · simp
      rw [this]
      exact .int _ _
    · simp at h
  · simp at h
end Go.Lv.Tryz
