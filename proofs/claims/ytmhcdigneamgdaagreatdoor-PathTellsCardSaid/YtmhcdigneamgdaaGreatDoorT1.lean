/- Parts of the proof, put together: Num, Qa0. -/
import Derived.Test.YtmhcdigneamgdaaGreatDoorT0
import Derived.Test.YtmhcdigneamgdaaGreatDoorWMore
import Derived.LoopTactic
import Derived.Test.YtmhcdigneamgdaaGreatDoorProg
import Derived.Below
import Derived.Deep.Draws
import Derived.Deep.AppendLies
import Derived.Maps.AppendAt
import Derived.OwnWalk
import Derived.Laws.BytesArg
import Derived.Laws.MakeOwn
import Derived.Laws.OwnMore
import Derived.Deep.OwnRows
import Derived.Tactics
import Derived.Lib.ConvBytes
import Derived.Laws.Slices
import Derived.WalkKit
import Derived.KernelRfl
import Derived.RowKit3
import Derived.Deep.LoopGhost
import Derived.Deep.QuietTactic
import Derived.BigQuiet
import Derived.WideLaws
import Derived.Deep.DeepCutAuto
import Derived.Deep.CutBlock
import Derived.Deep.RegionHeld3
import Derived.Laws.Rows
import Derived.Lib.AppendStr
import Derived.ArgAppend
import Derived.Laws.IdiomCopy
import Derived.OrdersHeld
import Derived.Laws.BitsLemmas
import Derived.RowKit
import Derived.Test.YtmhcdigneamgdaaGreatDoorWWords
import Derived.Test.YtmhcdigneamgdaaGreatDoorWLast
import Derived.Test.YtmhcdigneamgdaaGreatDoorWTab
import Derived.Test.YtmhcdigneamgdaaGreatDoorWQPut
import Derived.Test.YtmhcdigneamgdaaGreatDoorWApart
import Derived.Test.YtmhcdigneamgdaaGreatDoorWArr
import Derived.Test.YtmhcdigneamgdaaGreatDoorWZeros
import Derived.Test.YtmhcdigneamgdaaGreatDoorWFoot
import Derived.Test.YtmhcdigneamgdaaGreatDoorWKept
import Derived.Test.YtmhcdigneamgdaaGreatDoorWShare
import Derived.Test.YtmhcdigneamgdaaGreatDoorWN
import Derived.Test.YtmhcdigneamgdaaGreatDoorWGuard
import Derived.Test.YtmhcdigneamgdaaGreatDoorWNEv
/- Walk of text.Number. -/
namespace Go.Proofs.YtmhcdigneamgdaaGreatDoor.G
open Go.RowKit Go.Proofs.YtmhcdigneamgdaaGreatDoorW.PrintWords Go.Proofs.YtmhcdigneamgdaaGreatDoorW.PrintMore
attribute [local go_sem] max2_int min2_int max_two min_two
set_option linter.unusedVariables false
set_option linter.unusedSimpArgs false

def text_Number.f (a0 : ByteArray) (a1 : Int) : Option (Int × Int) := if a0.size ≤ 4294967280 ∧ 2 ≤ a1 ∧ a1 ≤ 15 then some (if Sp.numOk a0.data.toList a1 then ((Sp.numL a0.data.toList : Nat), 0) else (0, 5)) else none

def tens : ByteArray := ⟨#[48, 49, 50, 51, 52, 53, 54, 55, 56, 57]⟩
theorem tens_has (b : UInt8) : tens.data.toList.contains b = Sp.digitB b := by
  have h : ∀ b : Fin 256, tens.data.toList.contains (UInt8.ofNat b.val) = Sp.digitB (UInt8.ofNat b.val) := by decide +kernel
  have := h ⟨b.toNat, b.toNat_lt⟩
  simpa using this
theorem dropWhile_nil {α : Type} (p : α → Bool) : ∀ l : List α, l.dropWhile p = [] ↔ ∀ x ∈ l, p x = true
  | [] => by simp
  | a :: l => by
    rw [List.dropWhile_cons]
    split
    · rename_i h
      rw [dropWhile_nil p l]
      simp [h]
    · rename_i h
      simp [h]
theorem trimS_nil (l cs : List UInt8) : Lib.trimS l cs = [] ↔ ∀ x ∈ l, cs.contains x = true := by
  unfold Lib.trimS Lib.trimLeftS Lib.trimRightS
  rw [dropWhile_nil]
  constructor
  · intro h
    have h2 : ∀ x ∈ l.reverse.dropWhile (cs.contains ·), cs.contains x = true := fun x hx => h x (List.mem_reverse.2 hx)
    by_cases e : l.reverse.dropWhile (cs.contains ·) = []
    · intro x hx
      exact (dropWhile_nil _ _).1 e x (List.mem_reverse.2 hx)
    · have := List.head_dropWhile_not (p := fun x => cs.contains x) e
      have h3 := h2 _ (List.head_mem e)
      rw [this] at h3
      cases h3
  · intro h x hx
    exact h x (List.mem_reverse.1 ((List.dropWhile_sublist _).mem (List.mem_reverse.1 hx)))
theorem trim_tens (a0 : ByteArray) (hs : a0.size ≤ 4294967280) : strings_Trim.f a0 tens = some ⟨(Lib.trimS a0.data.toList tens.data.toList).toArray⟩ := by
  unfold strings_Trim.f
  rw [if_pos ⟨by omega, by decide, by decide +kernel⟩]
theorem trim_tens_yes (l : List UInt8) (h : l.all Sp.digitB = true) : Lib.trimS l tens.data.toList = [] :=
  (trimS_nil _ _).2 fun x hx => by rw [tens_has]; exact List.all_eq_true.1 h x hx
theorem trim_tens_no (l : List UInt8) (h : l.all Sp.digitB = false) : Lib.trimS l tens.data.toList ≠ [] := fun e => by
  have : l.all Sp.digitB = true := List.all_eq_true.2 fun x hx => by rw [← tens_has]; exact (trimS_nil _ _).1 e x hx
  rw [this] at h
  cases h
theorem numL_snoc (l : List UInt8) (k : Nat) (h : k < l.length) : Sp.numL (l.take (k + 1)) = 10 * Sp.numL (l.take k) + ((l[k]).toNat - 48) := by
  unfold Sp.numL
  rw [List.take_succ_eq_append_getElem h, List.foldl_append]
  rfl
theorem numL_lt (l : List UInt8) (h : l.all Sp.digitB = true) : ∀ k, k ≤ l.length → Sp.numL (l.take k) < 10 ^ k
  | 0, _ => by simp [Sp.numL]
  | k + 1, hk => by
    rw [numL_snoc l k (by omega)]
    have ih := numL_lt l h k (by omega)
    have hd := List.all_eq_true.1 h l[k] (List.getElem_mem _)
    unfold Sp.digitB at hd
    simp at hd
    rw [Nat.pow_succ]
    omega

set_option maxHeartbeats 8000000 in
set_option maxRecDepth 1000000 in
theorem number_no (a0 : ByteArray) (a1 : Int) (w : World) (hs : a0.size ≤ 4294967280) (h2 : 1 < a1) (h15 : a1 ≤ 15) (h : Sp.numOk a0.data.toList a1 = false) :
    Calls Tryz.prog 106 #[.string a0, .int .i64 a1] w fun e w' => e = .returned (.tuple #[.int .i64 0, .int .i64 5]) ∧ Below w.heap.size w w' := by
  by_cases h0 : a0.toList = []
  · have h0b : a0.toList.isEmpty = true := by simp [h0]
    go_enter Tryz.func106, Tryz.ntmps106
    go_wp2
    go_ret2
    exact ⟨rfl, Below.refl _ _⟩
  · by_cases hl : a1 < (a0.size : Int)
    · go_enter Tryz.func106, Tryz.ntmps106
      go_wp2
      go_ret2
      exact ⟨rfl, Below.refl _ _⟩
    · have hall : a0.data.toList.all Sp.digitB = false := by
        unfold Sp.numOk at h
        rw [Lib.toList_data] at h0
        have e1 : a0.data.toList.isEmpty = false := by simpa using h0
        rw [Lib.size_eq] at hl
        rw [e1, decide_eq_true (by omega)] at h
        simpa using h
      have HT := Aside0.mk (trim_tens a0 hs)
      have ht := trim_tens_no _ hall
      generalize hx : Lib.trimS a0.data.toList tens.data.toList = x at HT ht
      clear hx hall
      have hx2 : ¬ (⟨x.toArray⟩ : ByteArray).toList = [] := by rw [Lib.toList_data]; simpa using ht
      generalize (⟨x.toArray⟩ : ByteArray) = tr at HT hx2
      clear ht
      unfold tens at HT
      have h0b : a0.toList.isEmpty = false := by simpa using h0
      have hx3 : (!tr.toList.isEmpty) = true := by simpa using hx2
      have hl' : (a0.size : Int) ≤ a1 := by omega
      go_enter Tryz.func106, Tryz.ntmps106
      go_wp2_with (go_at_call 108; (with_reducible refine (strings_Trim.calls _ _ tr _ HT.out).mono ?_); rintro e w1 ⟨rfl, hb1⟩; have HB1 := Aside0.mk hb1; clear hb1)
      go_ret2
      exact ⟨rfl, HB1.out⟩

set_option maxHeartbeats 8000000 in
set_option maxRecDepth 1000000 in
theorem number_yes (a0 : ByteArray) (a1 : Int) (w : World) (hs : a0.size ≤ 4294967280) (h2 : 1 < a1) (h15 : a1 ≤ 15) (h : Sp.numOk a0.data.toList a1 = true) :
    Calls Tryz.prog 106 #[.string a0, .int .i64 a1] w fun e w' => e = .returned (.tuple #[.int .i64 (Sp.numL a0.data.toList : Nat), .int .i64 0]) ∧ Below w.heap.size w w' := by
  unfold Sp.numOk at h
  simp only [Bool.and_eq_true, Bool.not_eq_true', decide_eq_true_eq] at h
  obtain ⟨⟨h0, hl⟩, hall⟩ := h
  have h0a : ¬ a0.toList = [] := by rw [Lib.toList_data]; simpa using h0
  have h0b : a0.toList.isEmpty = false := by rw [Lib.toList_data]; exact h0
  have hsl := Lib.size_eq a0
  have hl' : (a0.size : Int) ≤ a1 := by rw [hsl]; exact hl
  have HT := Aside0.mk (trim_tens a0 hs)
  rw [trim_tens_yes _ hall] at HT
  have hx2 : (⟨([] : List UInt8).toArray⟩ : ByteArray).toList = [] := by rw [Lib.toList_data]
  have hx3 : (!(⟨([] : List UInt8).toArray⟩ : ByteArray).toList.isEmpty) = false := by rw [hx2]; rfl
  generalize (⟨([] : List UInt8).toArray⟩ : ByteArray) = tr at HT hx2 hx3
  unfold tens at HT
  have HA := Aside0.mk hall
  have kb := fun W => print_bytes (P := Tryz.prog) 9 55 5 Tryz.underlying9 Tryz.underlying55 Tryz.underlying5 a0 W
  have HN := Aside0.mk hsl.symm
  clear hall h0 hl hsl
  go_enter Tryz.func106, Tryz.ntmps106
  go_wp2_with (go_at_call 108; (with_reducible refine (strings_Trim.calls _ _ tr _ HT.out).mono ?_); rintro e w1 ⟨rfl, hb1⟩; have HB1 := Aside0.mk hb1; clear hb1)
  have hI := Aside0.mk (InPlace.start w1 5 a0)
  have hB := Aside0.mk (bytes_below HB1.out HB1.out.size 5 a0)
  clear kb
  generalize Lib.bytesWorld w1 5 a0 = W at hI hB ⊢
  generalize grownCap w1 a0.size 0 5 = C
  generalize hla : a0.data.toList = l at HN HA hI
  have HLA := Aside0.mk hla
  clear hla
  go_loop [6, 27] (fun t i => ∃ k : Nat, k ≤ a0.size ∧ i = .int .i64 k ∧ t = .int .i64 (Sp.numL (l.take k) : Nat)) (fun _ i => a0.size - (intOf i).toNat)
  case atStart => exact ⟨0, Nat.zero_le _, rfl, rfl⟩
  case round =>
    obtain ⟨k, hk, rfl, rfl⟩ := hrel
    have hpw := numL_lt l HA.out k (by rw [HN.out]; exact hk)
    have hk15 : k ≤ 15 := by omega
    have hpw2 : 10 ^ k ≤ 10 ^ 15 := Nat.pow_le_pow_right (by decide) hk15
    have hbn : Sp.numL (l.take k) < 1000000000000000 := Nat.lt_of_lt_of_le hpw hpw2
    clear hpw hpw2
    by_cases hlt : k < a0.size
    · have hkl : k < l.length := by rw [HN.out]; exact hlt
      have hc0 := hI.out.cell k hkl
      have e0 : l.getD k 0 = l[k] := by simp [List.getD_eq_getElem?_getD, List.getElem?_eq_getElem hkl]
      rw [e0] at hc0
      have hd := List.all_eq_true.1 HA.out l[k] (List.getElem_mem _)
      unfold Sp.digitB at hd
      simp only [Bool.and_eq_true, decide_eq_true_eq] at hd
      have hd1 := hd.1
      have hd2 := hd.2
      have HS := Aside0.mk (numL_snoc l k hkl)
      clear e0 hd
      generalize (l[k]).toNat = c at hc0 hd1 hd2 HS
      generalize Sp.numL (l.take k) = m at hbn HS
      go_wp2
      go_round
      case rel => exact ⟨k + 1, by omega, by go_num, by rw [HS.out]; congr 1; omega⟩
      case measure => simp [intOf]; omega
    · obtain rfl : k = a0.size := by omega
      go_wp2
      go_ret2
      exact ⟨by rw [HLA.out, ← HN.out, List.take_length]; rfl, hB.out⟩

theorem text_Number.calls (a0 : ByteArray) (a1 : Int) (r1 r2 : Int) (w : World) (h : text_Number.f a0 a1 = some (r1, r2)) :
    Calls Tryz.prog 106 #[.string a0, .int .i64 a1] w fun e w' => e = .returned (.tuple #[.int .i64 r1, .int .i64 r2]) ∧ Below w.heap.size w w' := by
  unfold text_Number.f at h
  split at h
  · rename_i hs
    have h := Option.some.inj h
    cases hp : Sp.numOk a0.data.toList a1
    · rw [hp] at h
      obtain ⟨rfl, rfl⟩ := Prod.mk.inj h
      exact number_no a0 a1 w hs.1 (by omega) hs.2.2 hp
    · rw [hp] at h
      obtain ⟨rfl, rfl⟩ := Prod.mk.inj h
      exact number_yes a0 a1 w hs.1 (by omega) hs.2.2 hp
  · cases h
end Go.Proofs.YtmhcdigneamgdaaGreatDoor.G

namespace Go.Proofs.YtmhcdigneamgdaaGreatDoor.Qa
open Go.RowKit Go.Proofs.YtmhcdigneamgdaaGreatDoor.G Go.Proofs.YtmhcdigneamgdaaGreatDoorW.PrintWords Go.Proofs.YtmhcdigneamgdaaGreatDoorW.PrintLast Go.Proofs.YtmhcdigneamgdaaGreatDoorW.PrintMore
attribute [local go_sem] max2_int min2_int max_two min_two max_three min_three max_four min_four   -- for this text's walks alone
set_option linter.unusedVariables false
set_option linter.unusedSimpArgs false



def errW : Option Int → Value
  | none => .nilIface
  | some c => .iface 0 (.int .i64 c)
theorem errW_none : errW none = .nilIface := rfl
theorem errW_some (c : Int) : errW (some c) = .iface 0 (.int .i64 c) := rfl

theorem info5 : (Tryz.prog.info? 5).map (fun i => (i.zero, i.size, i.bytes)) = some (some (.int .u8 0), 1, 1) := by kernel_rfl
theorem info9 : (Tryz.prog.info? 9).map (fun i => (i.zero, i.size, i.bytes)) = some (some (.string ⟨#[]⟩), 1, 16) := by kernel_rfl
-- the values' own types

end Go.Proofs.YtmhcdigneamgdaaGreatDoor.Qa
