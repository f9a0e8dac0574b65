/- Parts of the proof, put together: Dom2, Low, Txt, Quo, Loc, Qb0. -/
import Derived.Test.YtmhcdigneamgdaaGreatDoorT3
import Derived.Test.YtmhcdigneamgdaaGreatDoorT0
import Derived.LoopTactic
import Derived.Laws.RangeString
import Derived.Laws.RangeAny
import Derived.Lib.RuneCount
import Derived.Test.YtmhcdigneamgdaaGreatDoorWLast
import Derived.Deep.QuietTactic
import Derived.BigQuiet
import Derived.OwnWalk
import Derived.Test.YtmhcdigneamgdaaGreatDoorWMore
import Derived.Deep.RegionWith
import Derived.Test.YtmhcdigneamgdaaGreatDoorProg
import Derived.Below
import Derived.Deep.Draws
import Derived.Deep.AppendLies
import Derived.Maps.AppendAt
import Derived.Laws.BytesArg
import Derived.Laws.MakeOwn
import Derived.Laws.OwnMore
import Derived.Deep.OwnRows
import Derived.Tactics
import Derived.Lib.ConvBytes
import Derived.Laws.Slices
import Derived.WalkKit
import Derived.KernelRfl
import Derived.RowKit3
import Derived.Deep.LoopGhost
import Derived.WideLaws
import Derived.Deep.DeepCutAuto
import Derived.Deep.CutBlock
import Derived.Deep.RegionHeld3
import Derived.Laws.Rows
import Derived.Lib.AppendStr
import Derived.ArgAppend
import Derived.Laws.IdiomCopy
import Derived.OrdersHeld
import Derived.Laws.BitsLemmas
import Derived.RowKit
import Derived.Test.YtmhcdigneamgdaaGreatDoorWWords
import Derived.Test.YtmhcdigneamgdaaGreatDoorWTab
import Derived.Test.YtmhcdigneamgdaaGreatDoorWQPut
import Derived.Test.YtmhcdigneamgdaaGreatDoorWApart
import Derived.Test.YtmhcdigneamgdaaGreatDoorWArr
import Derived.Test.YtmhcdigneamgdaaGreatDoorWZeros
import Derived.Test.YtmhcdigneamgdaaGreatDoorWFoot
import Derived.Test.YtmhcdigneamgdaaGreatDoorWKept
import Derived.Test.YtmhcdigneamgdaaGreatDoorWShare
import Derived.Test.YtmhcdigneamgdaaGreatDoorWN
import Derived.Test.YtmhcdigneamgdaaGreatDoorWGuard
import Derived.Test.YtmhcdigneamgdaaGreatDoorWNEv
/- Walk of addr.domain: what is wrong with a domain. -/
namespace Go.Proofs.YtmhcdigneamgdaaGreatDoor.G
open Go.RowKit Go.Proofs.YtmhcdigneamgdaaGreatDoorW.PrintWords Go.Proofs.YtmhcdigneamgdaaGreatDoor.Qa
set_option linter.unusedVariables false
set_option linter.unusedSimpArgs false

theorem domL_lit (m : List UInt8) : Sp.domL (91 :: m) = if m.getLast? = some 93 then (if m.dropLast.count 46 = 3 ∧ (Sp.splitL 46 m.dropLast).all Sp.octetL = true then 0 else 5) else 5 := rfl
theorem domL_dns (l : List UInt8) (h : l.head? ≠ some 91) : Sp.domL l = if (Sp.splitL 46 l).all Sp.labelL then (if l.length > 255 ∨ (Sp.splitL 46 l).all (fun p => decide (p.length ≤ 63)) = false then 3 else 0) else 5 := by
  unfold Sp.domL
  split
  · simp at h
  · rfl

set_option maxHeartbeats 8000000 in
set_option maxRecDepth 100000 in
theorem domain_dns (a0 : ByteArray) (w : World) (hs : a0.size ≤ 4294967280) (hG : Glob w) (h : a0.data.toList.head? ≠ some 91) :
    Calls Tryz.prog 55 #[.string a0] w fun e w' => e = .returned (.int .i64 (Sp.domL a0.data.toList)) ∧ Below w.heap.size w w' := by
  rw [domL_dns _ h]
  have hcp := CutPrefix_eq a0 ⟨#[91]⟩
  rw [show (⟨#[91]⟩ : ByteArray).data.toList = [91] from rfl, hasPrefix_one] at hcp
  have hb : (a0.data.toList.head? == some 91) = false := by simpa using h
  rw [hb, if_neg (by decide)] at hcp
  have HCP := Aside0.mk hcp
  clear hcp hb h
  have HL := Aside0.mk (fun (W : World) (hW : Below w.heap.size w W) => allParts_calls Sp.labelL 87 (enters_of Tryz.func87 (by kernel_rfl) rfl) a0 W hs (hG.below hW) (fun W2 x hx hb => label_is a0 W hs W2 x hx))
  have HS := Aside0.mk (fun (W : World) (hW : Below w.heap.size w W) => allParts_calls (fun p => decide (p.length ≤ 63)) 88 (enters_of Tryz.func88 (by kernel_rfl) rfl) a0 W hs (hG.below hW) (fun W2 x hx hb => short_is a0 hs W2 x hx))
  clear hG
  have hsz := Lib.size_eq a0
  rw [← hsz]
  clear hsz
  generalize ((Sp.splitL 46 a0.data.toList).all fun p => decide (p.length ≤ 63)) = s at HS
  generalize (Sp.splitL 46 a0.data.toList).all Sp.labelL = l at HL
  cases l with
  | false =>
    go_enter Tryz.func55, Tryz.ntmps55
    go_wp2_with (first | (go_at_call 27; (with_reducible refine (strings_CutPrefix.calls a0 ⟨#[91]⟩ a0 false _ HCP.out).mono ?_); rintro e w' ⟨rfl, ⟨nd, rfl⟩⟩) | (go_at_call 81; (with_reducible refine (HL.out _ ?hbw).mono ?_); (case hbw => exact pw_below_drewN (Below.refl _ _) _); rintro e w2 ⟨rfl, hb2⟩; have HB2 := Aside0.mk (then_below (pw_below_drewN (Below.refl _ _) _) hb2); clear hb2))
    go_ret
    exact ⟨rfl, HB2.out⟩
  | true =>
    by_cases h255 : (255 : Int) < (a0.size : Int)
    · rw [if_pos rfl, if_pos (.inl (by omega))]
      go_enter Tryz.func55, Tryz.ntmps55
      go_wp2_with (first | (go_at_call 27; (with_reducible refine (strings_CutPrefix.calls a0 ⟨#[91]⟩ a0 false _ HCP.out).mono ?_); rintro e w' ⟨rfl, ⟨nd, rfl⟩⟩) | (go_at_call 81; (with_reducible refine (HL.out _ ?hbw).mono ?_); (case hbw => exact pw_below_drewN (Below.refl _ _) _); rintro e w2 ⟨rfl, hb2⟩; have HB2 := Aside0.mk (then_below (pw_below_drewN (Below.refl _ _) _) hb2); clear hb2))
      go_ret
      exact ⟨rfl, HB2.out⟩
    · have h255' : (a0.size : Int) ≤ 255 := by omega
      have hr : (if a0.size > 255 ∨ s = false then (3 : Int) else 0) = if s = true then 0 else 3 := by
        cases s
        · rw [if_pos (.inr rfl)]; rfl
        · rw [if_neg (by simp; omega)]; rfl
      rw [if_pos rfl, hr]
      clear hr h255
      cases s with
      | false =>
        go_enter Tryz.func55, Tryz.ntmps55
        go_wp2_with (first | (go_at_call 27; (with_reducible refine (strings_CutPrefix.calls a0 ⟨#[91]⟩ a0 false _ HCP.out).mono ?_); rintro e w' ⟨rfl, ⟨nd, rfl⟩⟩) | (go_at_call 81; (with_reducible refine (HL.out _ ?hbw).mono ?_); (case hbw => exact pw_below_drewN (Below.refl _ _) _); rintro e w2 ⟨rfl, hb2⟩; have HB2 := Aside0.mk (then_below (pw_below_drewN (Below.refl _ _) _) hb2); clear hb2) | (go_at_call 81; (with_reducible refine (HS.out _ HB2.out).mono ?_); rintro e w3 ⟨rfl, hb3⟩; have HB3 := Aside0.mk (then_below HB2.out hb3); clear hb3))
        go_ret
        exact ⟨rfl, HB3.out⟩
      | true =>
        go_enter Tryz.func55, Tryz.ntmps55
        go_wp2_with (first | (go_at_call 27; (with_reducible refine (strings_CutPrefix.calls a0 ⟨#[91]⟩ a0 false _ HCP.out).mono ?_); rintro e w' ⟨rfl, ⟨nd, rfl⟩⟩) | (go_at_call 81; (with_reducible refine (HL.out _ ?hbw).mono ?_); (case hbw => exact pw_below_drewN (Below.refl _ _) _); rintro e w2 ⟨rfl, hb2⟩; have HB2 := Aside0.mk (then_below (pw_below_drewN (Below.refl _ _) _) hb2); clear hb2) | (go_at_call 81; (with_reducible refine (HS.out _ HB2.out).mono ?_); rintro e w3 ⟨rfl, hb3⟩; have HB3 := Aside0.mk (then_below HB2.out hb3); clear hb3))
        go_ret
        exact ⟨rfl, HB3.out⟩

set_option maxHeartbeats 8000000 in
set_option maxRecDepth 100000 in
theorem domain_lit (m : List UInt8) (w : World) (hs : m.length + 1 ≤ 4294967280) (hG : Glob w) :
    Calls Tryz.prog 55 #[.string ⟨(91 :: m).toArray⟩] w fun e w' => e = .returned (.int .i64 (Sp.domL (91 :: m))) ∧ Below w.heap.size w w' := by
  rw [domL_lit]
  have hcp := CutPrefix_eq ⟨(91 :: m).toArray⟩ ⟨#[91]⟩
  rw [show (⟨#[91]⟩ : ByteArray).data.toList = [91] from rfl, hasPrefix_one, mkB_data] at hcp
  have hcp2 : strings_CutPrefix.f ⟨(91 :: m).toArray⟩ ⟨#[91]⟩ = some (⟨m.toArray⟩, true) := by rw [hcp]; rfl
  have HCP := Aside0.mk hcp2
  clear hcp hcp2
  have hcs := CutSuffix_eq ⟨m.toArray⟩ ⟨#[93]⟩ (by rw [mkB_size]; omega)
  rw [show (⟨#[93]⟩ : ByteArray).data.toList = [93] from rfl, hasSuffix_one, mkB_data] at hcs
  generalize (⟨(91 :: m).toArray⟩ : ByteArray) = a0 at HCP ⊢
  by_cases hl : m.getLast? = some 93
  · rw [if_pos hl]
    have hb : (m.getLast? == some 93) = true := by simpa using hl
    have hdl : m.take ((⟨m.toArray⟩ : ByteArray).size - (⟨#[93]⟩ : ByteArray).size) = m.dropLast := by
      rw [mkB_size, List.dropLast_eq_take]
      rfl
    rw [hb, if_pos rfl, hdl] at hcs
    have HCS := Aside0.mk hcs
    have hdn : m.dropLast.length ≤ 4294967280 := by rw [List.length_dropLast]; omega
    have hct : strings_Count.f ⟨m.dropLast.toArray⟩ ⟨#[46]⟩ = some ((m.dropLast.count 46 : Nat) : Int) := rfl
    have HCT := Aside0.mk hct
    have HO := Aside0.mk (fun (W : World) (hW : Below w.heap.size w W) => allParts_calls Sp.octetL 86 (enters_of Tryz.func86 (by kernel_rfl) rfl) ⟨m.dropLast.toArray⟩ W (by rw [mkB_size]; exact hdn) (hG.below hW) (fun W2 x hx hb => octet_is ⟨m.dropLast.toArray⟩ W (by rw [mkB_size]; exact hdn) (hG.below hW) W2 x hx hb))
    rw [mkB_data] at HO
    clear hcs hct hb hl hdl hdn hG
    generalize (Sp.splitL 46 m.dropLast).all Sp.octetL = o at HO
    generalize m.dropLast.count 46 = n at HCT
    generalize (⟨m.dropLast.toArray⟩ : ByteArray) = s2 at HCS HCT HO
    generalize (⟨m.toArray⟩ : ByteArray) = s1 at HCP HCS
    by_cases hn : n = 3
    · have hnb : (((n : Nat) : Int) != 3) = false := by subst hn; rfl
      cases o with
      | false =>
        rw [if_neg (by simp)]
        clear hn
        go_enter Tryz.func55, Tryz.ntmps55
        go_wp2_with (first | (go_at_call 27; (with_reducible refine (strings_CutPrefix.calls a0 ⟨#[91]⟩ s1 true _ HCP.out).mono ?_); rintro e w' ⟨rfl, ⟨nd, rfl⟩⟩) | (go_at_call 84; (with_reducible refine (strings_CutSuffix.calls s1 ⟨#[93]⟩ s2 true _ HCS.out).mono ?_); rintro e w' ⟨rfl, ⟨nd, rfl⟩⟩) | (go_at_call 85; (with_reducible refine (strings_Count.calls s2 ⟨#[46]⟩ _ _ HCT.out).mono ?_); rintro e w' ⟨rfl, ⟨nd, rfl⟩⟩) | (go_at_call 81; (with_reducible refine (HO.out _ ?hbw).mono ?_); (case hbw => repeat (first | exact Below.refl _ _ | refine pw_below_drewN ?_ _)); rintro e w2 ⟨rfl, hb2⟩; have HB2 := Aside0.mk (then_below (w := w) (pw_below_drewN (Below.refl w.heap.size w) _) hb2); clear hb2))
        go_ret
        exact ⟨rfl, HB2.out⟩
      | true =>
        rw [if_pos ⟨hn, rfl⟩]
        clear hn
        go_enter Tryz.func55, Tryz.ntmps55
        go_wp2_with (first | (go_at_call 27; (with_reducible refine (strings_CutPrefix.calls a0 ⟨#[91]⟩ s1 true _ HCP.out).mono ?_); rintro e w' ⟨rfl, ⟨nd, rfl⟩⟩) | (go_at_call 84; (with_reducible refine (strings_CutSuffix.calls s1 ⟨#[93]⟩ s2 true _ HCS.out).mono ?_); rintro e w' ⟨rfl, ⟨nd, rfl⟩⟩) | (go_at_call 85; (with_reducible refine (strings_Count.calls s2 ⟨#[46]⟩ _ _ HCT.out).mono ?_); rintro e w' ⟨rfl, ⟨nd, rfl⟩⟩) | (go_at_call 81; (with_reducible refine (HO.out _ ?hbw).mono ?_); (case hbw => repeat (first | exact Below.refl _ _ | refine pw_below_drewN ?_ _)); rintro e w2 ⟨rfl, hb2⟩; have HB2 := Aside0.mk (then_below (w := w) (pw_below_drewN (Below.refl w.heap.size w) _) hb2); clear hb2))
        go_ret
        exact ⟨rfl, HB2.out⟩
    · have hnb : (((n : Nat) : Int) != 3) = true := by rw [bne_iff_ne]; omega
      rw [if_neg (fun h => hn h.1)]
      clear hn
      go_enter Tryz.func55, Tryz.ntmps55
      go_wp2_with (first | (go_at_call 27; (with_reducible refine (strings_CutPrefix.calls a0 ⟨#[91]⟩ s1 true _ HCP.out).mono ?_); rintro e w' ⟨rfl, ⟨nd, rfl⟩⟩) | (go_at_call 84; (with_reducible refine (strings_CutSuffix.calls s1 ⟨#[93]⟩ s2 true _ HCS.out).mono ?_); rintro e w' ⟨rfl, ⟨nd, rfl⟩⟩) | (go_at_call 85; (with_reducible refine (strings_Count.calls s2 ⟨#[46]⟩ _ _ HCT.out).mono ?_); rintro e w' ⟨rfl, ⟨nd, rfl⟩⟩))
      go_ret
      exact ⟨rfl, by repeat (first | exact Below.refl _ _ | refine pw_below_drewN ?_ _)⟩
  · rw [if_neg hl]
    have hb : (m.getLast? == some 93) = false := by simpa using hl
    rw [hb, if_neg (by decide)] at hcs
    have HCS := Aside0.mk hcs
    clear hcs hb hl hG
    generalize (⟨m.toArray⟩ : ByteArray) = s1 at HCP HCS
    go_enter Tryz.func55, Tryz.ntmps55
    go_wp2_with (first | (go_at_call 27; (with_reducible refine (strings_CutPrefix.calls a0 ⟨#[91]⟩ s1 true _ HCP.out).mono ?_); rintro e w' ⟨rfl, ⟨nd, rfl⟩⟩) | (go_at_call 84; (with_reducible refine (strings_CutSuffix.calls s1 ⟨#[93]⟩ s1 false _ HCS.out).mono ?_); rintro e w' ⟨rfl, ⟨nd, rfl⟩⟩))
    go_ret
    exact ⟨rfl, by repeat (first | exact Below.refl _ _ | refine pw_below_drewN ?_ _)⟩

def addr_domain.f (a0 : ByteArray) : Option Int := if a0.size ≤ 4294967280 then some (Sp.domL a0.data.toList) else none
theorem addr_domain.calls (a0 : ByteArray) (r : Int) (w : World) (h : addr_domain.f a0 = some r) (hG : Glob w) :
    Calls Tryz.prog 55 #[.string a0] w fun e w' => e = .returned (.int .i64 r) ∧ Below w.heap.size w w' := by
  unfold addr_domain.f at h
  split at h
  · rename_i hs
    obtain rfl := Option.some.inj h
    by_cases h91 : a0.data.toList.head? = some 91
    · obtain ⟨m, hm⟩ : ∃ m, a0.data.toList = 91 :: m := by
        cases hl : a0.data.toList with
        | nil => rw [hl] at h91; cases h91
        | cons b m => rw [hl] at h91; exact ⟨m, by rw [Option.some.inj h91]⟩
      have := domain_lit m w (by rw [Lib.size_eq, hm] at hs; simpa using hs) hG
      rw [← hm, Lib.mk_data] at this
      exact this
    · exact domain_dns a0 w hs hG h91
  · cases h
end Go.Proofs.YtmhcdigneamgdaaGreatDoor.G

/- Walk of text.Lower. -/
namespace Go.Proofs.YtmhcdigneamgdaaGreatDoor.G
open Go.RowKit Go.Proofs.YtmhcdigneamgdaaGreatDoorW.PrintWords
set_option linter.unusedVariables false
set_option linter.unusedSimpArgs false

def text_Lower.f (a0 : ByteArray) : Option ByteArray := if a0.size ≤ 140737488351232 then some ⟨(Sp.lowL a0.data.toList).toArray⟩ else none
def lowTo (l : List UInt8) (k : Nat) : List UInt8 := (l.take k).map Sp.lowB ++ l.drop k
theorem lowTo_length (l : List UInt8) (k : Nat) (h : k ≤ l.length) : (lowTo l k).length = l.length := by simp [lowTo]; omega
theorem lowTo_at (l : List UInt8) (k : Nat) (h : k < l.length) : (lowTo l k).getD k 0 = l[k] := by
  simp only [lowTo, List.getD_eq_getElem?_getD]
  rw [List.getElem?_append_right (by simp; omega)]
  have : k - (List.map Sp.lowB (List.take k l)).length = 0 := by simp; omega
  rw [this, List.getElem?_drop, Nat.add_zero, List.getElem?_eq_getElem h]
  rfl
theorem lowTo_succ (l : List UInt8) (k : Nat) (h : k < l.length) : (lowTo l k).set k (Sp.lowB l[k]) = lowTo l (k + 1) := by
  simp only [lowTo]
  rw [List.set_append_right _ _ (by simp; omega)]
  have : k - (List.map Sp.lowB (List.take k l)).length = 0 := by simp; omega
  rw [this, List.drop_eq_getElem_cons h, List.set_cons_zero, List.take_succ_eq_append_getElem h, List.map_append]
  simp
theorem lowTo_keep (l : List UInt8) (k : Nat) (h : k < l.length) (hb : Sp.lowB l[k] = l[k]) : lowTo l k = lowTo l (k + 1) := by
  simp only [lowTo]
  rw [List.drop_eq_getElem_cons h, List.take_succ_eq_append_getElem h, List.map_append]
  simp [hb]
theorem low_up (b : UInt8) (h1 : 65 ≤ b.toNat) (h2 : b.toNat ≤ 90) : ((Sp.lowB b).toNat : Int) = (b.toNat : Int) + 32 := by
  unfold Sp.lowB
  rw [if_pos ⟨h1, h2⟩, UInt8.toNat_add]
  show (((b.toNat + 32) % 256 : Nat) : Int) = _
  omega
theorem low_same (b : UInt8) (h : ¬ (65 ≤ b.toNat ∧ b.toNat ≤ 90)) : Sp.lowB b = b := by unfold Sp.lowB; rw [if_neg h]

set_option maxHeartbeats 4000000 in
set_option maxRecDepth 1000000 in
theorem text_Lower.calls (a0 : ByteArray) (r : ByteArray) (w : World) (h : text_Lower.f a0 = some r) :
    Calls Tryz.prog 60 #[.string a0] w fun e w' => e = .returned (.string r) ∧ Below w.heap.size w w' := by
  unfold text_Lower.f at h
  split at h
  · rename_i hs
    obtain rfl := Option.some.inj h
    clear h
    have kb := fun W => print_bytes (P := Tryz.prog) 9 55 5 Tryz.underlying9 Tryz.underlying55 Tryz.underlying5 a0 W
    have hsl := Lib.size_eq a0
    have HL := Aside0.mk hsl
    have hI := Aside0.mk (InPlace.start w 5 a0)
    have hB := Aside0.mk (bytes_below (Below.refl w.heap.size w) (Nat.le_refl _) 5 a0)
    generalize hW : Lib.bytesWorld w 5 a0 = W at kb hI hB
    generalize hC : grownCap w a0.size 0 5 = C at kb
    have kb' := kb w
    rw [hW, hC] at kb'
    clear kb hC hW
    generalize hl : a0.data.toList = l at hsl HL hI
    have hln : l.length = a0.size := hsl.symm
    generalize hn : a0.size = n at *
    have HN := Aside0.mk hln
    have hbig : n ≤ 140737488351232 := hs
    clear hln hsl HL hl hs
    have hmeet : ∀ w' : World, InPlace w' 5 w.heap.size (lowTo l n) → Sem.run Tryz.prog (convert 55 9 (.slice (some ⟨w.heap.size, 0, none⟩) n C)) w' = .ok (.string ⟨(Sp.lowL l).toArray⟩) w' := fun w' hw => by
      have e : lowTo l n = Sp.lowL l := by simp [lowTo, Sp.lowL, HN.out.symm ▸ List.take_length, HN.out.symm ▸ List.drop_length]
      rw [e] at hw
      exact hw.text Tryz.underlying55 Tryz.underlying5 Tryz.underlying9 n C (by simp [Sp.lowL, HN.out])
    go_enter Tryz.func60, Tryz.ntmps60
    go_wp2
    go_loopw [10] (fun i wr => ∃ k : Nat, k ≤ n ∧ i = .int .i64 k ∧ Aside0 (InPlace wr 5 w.heap.size (lowTo l k)) ∧ Aside0 (Below w.heap.size w wr)) (fun i _ => n - (intOf i).toNat)
    case atStart => exact ⟨0, Nat.zero_le _, rfl, ⟨by simpa [lowTo] using hI.out⟩, hB⟩
    case round =>
      obtain ⟨k, hk, rfl, I, BB⟩ := hrel
      by_cases hlt : k < n
      · have hkl : k < l.length := by rw [HN.out]; exact hlt
        have hc0 := I.out.cell k (by rw [lowTo_length l k (by omega)]; exact hkl)
        rw [lowTo_at l k hkl] at hc0
        have hf0 := I.out.free k (by rw [lowTo_length l k (by omega)]; exact hkl)
        have hbn := (l[k]).toNat_lt
        by_cases hu : 65 ≤ (l[k]).toNat ∧ (l[k]).toNat ≤ 90
        · have HS := Aside0.mk (I.out.set k (by rw [lowTo_length l k (by omega)]; exact hkl) (Sp.lowB l[k]))
          rw [lowTo_succ l k hkl, low_up _ hu.1 hu.2] at HS
          have hu1 := hu.1
          have hu2 := hu.2
          generalize (l[k]).toNat = b at hc0 hbn hu1 hu2 HS
          clear hu
          go_wp2
          have e : ((b : Int) + 97 - 65) = (b : Int) + 32 := by omega
          rw [e]
          exact ⟨⟨k + 1, by omega, by go_num, HS, ⟨BB.out.setCell (Nat.le_refl _) _⟩⟩, by simp [intOf]; omega⟩
        · have HS := Aside0.mk (lowTo_keep l k hkl (low_same _ hu))
          generalize (l[k]).toNat = b at hc0 hbn hu
          by_cases h1 : 65 ≤ b
          · have h2 : 90 < b := by omega
            clear hu
            go_wp2
            go_roundw
            case rel => exact ⟨k + 1, by omega, by go_num, ⟨by rw [← HS.out]; exact I.out⟩, BB⟩
            case measure => simp [intOf]; omega
          · clear hu
            have h1' : b < 65 := by omega
            go_wp2
            go_roundw
            case rel => exact ⟨k + 1, by omega, by go_num, ⟨by rw [← HS.out]; exact I.out⟩, BB⟩
            case measure => simp [intOf]; omega
      · obtain rfl : k = n := by omega
        have hm := hmeet _ I.out
        clear hmeet
        go_wp2
        go_ret
        exact ⟨rfl, BB.out⟩
  · cases h
end Go.Proofs.YtmhcdigneamgdaaGreatDoor.G

/- Walks of functions of package text: Plain. -/
namespace Go.Proofs.YtmhcdigneamgdaaGreatDoor.G
open Go.RowKit Go.Proofs.YtmhcdigneamgdaaGreatDoorW.PrintWords
set_option linter.unusedVariables false
set_option linter.unusedSimpArgs false

def text_Plain.f (a0 : ByteArray) : Option Bool := some (Sp.plainL a0.data.toList)

theorem plain_all (s : ByteArray) (pos : Nat) (h : ¬ pos < s.size) (ha : ∀ j : Nat, ∀ hj : j < s.size, j < pos → 32 ≤ (s[j]'hj).toNat ∧ (s[j]'hj).toNat ≤ 126) : Sp.plainL s.data.toList = true := by
  unfold Sp.plainL
  rw [List.all_eq_true]
  intro b hb
  obtain ⟨j, hj, rfl⟩ := List.mem_iff_getElem.1 hb
  have hj' : j < s.size := by rw [Lib.size_eq]; exact hj
  have := ha j hj' (by omega)
  have e : s.data.toList[j] = s[j]'hj' := by rw [Array.getElem_toList]; rfl
  rw [e]
  unfold Sp.plainB
  simp [this.1, this.2]
theorem plain_not (s : ByteArray) (pos : Nat) (h : pos < s.size) (ha : ¬ (32 ≤ (s[pos]'h).toNat ∧ (s[pos]'h).toNat ≤ 126)) : Sp.plainL s.data.toList = false := by
  unfold Sp.plainL
  rw [Bool.eq_false_iff]
  intro hall
  rw [List.all_eq_true] at hall
  have hj : pos < s.data.toList.length := by rw [← Lib.size_eq]; exact h
  have e : s.data.toList[pos] = s[pos]'h := by rw [Array.getElem_toList]; rfl
  have := hall _ (List.getElem_mem hj)
  rw [e] at this
  unfold Sp.plainB at this
  simp at this
  exact ha this

theorem iter_below (w : World) (s : ByteArray) (pos : Nat) : Below w.heap.size w (w.iter s pos) := below_alloc (Below.refl _ _) _

set_option maxHeartbeats 4000000 in
set_option maxRecDepth 1000000 in
theorem text_Plain.calls (a0 : ByteArray) (r : Bool) (w : World) (h : text_Plain.f a0 = some r) :
    Calls Tryz.prog 25 #[.string a0] w fun e w' => e = .returned (.bool r) ∧ Below w.heap.size w w' := by
  obtain rfl := Option.some.inj h
  clear h
  go_enter Tryz.func25, Tryz.ntmps25
  go_wp2
  go_loopw [4] (fun c w' => ∃ pos : Nat, w' = w.iter a0 pos ∧ Aside0 (∀ j : Nat, ∀ hj : j < a0.size, j < pos → 32 ≤ (a0[j]'hj).toNat ∧ (a0[j]'hj).toNat ≤ 126)) (fun _ w' => a0.size - w'.iterPos w.heap.size)
  case atStart => exact ⟨0, rfl, ⟨fun j hj hlt => absurd hlt (Nat.not_lt_zero _)⟩⟩
  case round =>
    obtain ⟨pos, rfl, A⟩ := hrel
    by_cases hp : pos < a0.size
    · have hnx : ∀ ty, (Instr.next (.pointer (some ⟨w.heap.size, 0, none⟩)) true ty).run Tryz.prog (w.iter a0 pos) = _ := fun ty => run_next_any w a0 pos ty hp
      by_cases ha : 32 ≤ (a0[pos]'hp).toNat ∧ (a0[pos]'hp).toNat ≤ 126
      · rw [decode_ascii a0 pos hp (by omega)] at hnx
        have h1 := ha.1
        have h2 := ha.2
        generalize hb : (a0[pos]'hp).toNat = b at hnx h1 h2
        have HB := Aside0.mk hb
        clear hb ha
        go_wp2
        go_roundw
        case rel =>
          refine ⟨pos + 1, rfl, ⟨fun j hj hlt => ?_⟩⟩
          by_cases e : j = pos
          · subst e
            have := HB.out
            omega
          · exact A.out j hj (by omega)
        case measure => simp; omega
      · have HN := Aside0.mk (plain_not a0 pos hp ha)
        by_cases h128 : (a0[pos]'hp).toNat < 128
        · rw [decode_ascii a0 pos hp h128] at hnx
          generalize hb : (a0[pos]'hp).toNat = b at hnx ha h128
          clear hb
          by_cases h126 : b ≤ 126
          · have h32 : b < 32 := by omega
            go_wp2
            go_ret
            exact ⟨by rw [HN.out]; rfl, iter_below _ _ _⟩
          · have h126' : 126 < b := by omega
            go_wp2
            go_ret
            exact ⟨by rw [HN.out]; rfl, iter_below _ _ _⟩
        · have hd := (decode_high a0 pos hp (by omega)).1
          have hle := decode_le a0 pos
          generalize (Utf8.decode a0 pos).1 = b at hnx hd hle
          generalize (Utf8.decode a0 pos).2 = wd at hnx
          go_wp2
          go_ret
          exact ⟨by rw [HN.out]; rfl, iter_below _ _ _⟩
    · have hnx : ∀ ty, (Instr.next (.pointer (some ⟨w.heap.size, 0, none⟩)) true ty).run Tryz.prog (w.iter a0 pos) = _ := fun ty => run_next_end w a0 pos ty hp
      have HY := Aside0.mk (plain_all a0 pos hp A.out)
      clear A
      go_wp2
      go_ret
      exact ⟨by rw [HY.out]; rfl, iter_below _ _ _⟩
end Go.Proofs.YtmhcdigneamgdaaGreatDoor.G

/- Walk of text.Quote. -/
namespace Go.Proofs.YtmhcdigneamgdaaGreatDoor.G
open Go.RowKit Go.Proofs.YtmhcdigneamgdaaGreatDoorW.PrintWords
set_option linter.unusedVariables false
set_option linter.unusedSimpArgs false

def ints (l : List UInt8) : List Int := l.map fun b => (b.toNat : Int)
theorem ints_append (l m : List UInt8) : ints (l ++ m) = ints l ++ ints m := by simp [ints]
theorem ints_text (l : List UInt8) : strOfNums (ints l) = ⟨l.toArray⟩ := by
  unfold strOfNums ints
  congr 1
  rw [List.map_map]
  congr 1
  conv => rhs; rw [← List.map_id l]
  congr 1
  funext b
  simp
def escB (b : UInt8) : List UInt8 := if b = 34 ∨ b = 92 then [92, b] else [b]
def quoTo (l : List UInt8) (k : Nat) : List UInt8 := 34 :: (l.take k).flatMap escB
theorem quoTo_succ (l : List UInt8) (k : Nat) (h : k < l.length) : quoTo l (k + 1) = quoTo l k ++ escB l[k] := by
  simp only [quoTo]
  rw [List.take_succ_eq_append_getElem h, List.flatMap_append]
  simp
theorem quoTo_le (l : List UInt8) (k : Nat) : (quoTo l k).length ≤ 2 * k + 1 := by
  have : ∀ m : List UInt8, (m.flatMap escB).length ≤ 2 * m.length := by
    intro m
    induction m with
    | nil => simp
    | cons a m ih =>
      rw [List.flatMap_cons, List.length_append, List.length_cons]
      have : (escB a).length ≤ 2 := by unfold escB; split <;> simp
      omega
  have h1 := this (l.take k)
  have h2 := List.length_take_le k l
  simp only [quoTo, List.length_cons]
  omega
theorem info5 : (Tryz.prog.info? 5).map (fun i => (i.zero, i.size, i.bytes)) = some (some (.int .u8 0), 1, 1) := by kernel_rfl

def text_Quote.f (a0 : ByteArray) : Option (ByteArray × Int) := if a0.size ≤ 17592186044416 then some (if Sp.plainL a0.data.toList then (⟨(Sp.quoteL a0.data.toList).toArray⟩, 0) else (⟨#[]⟩, 5)) else none

set_option maxHeartbeats 8000000 in
set_option maxRecDepth 1000000 in
theorem quote_yes (a0 : ByteArray) (w : World) (hs : a0.size ≤ 17592186044416) (hp : Sp.plainL a0.data.toList = true) :
    Calls Tryz.prog 49 #[.string a0] w fun e w' => e = .returned (.tuple #[.string ⟨(Sp.quoteL a0.data.toList).toArray⟩, .int .i64 0]) ∧ Below w.heap.size w w' := by
  have HP := Aside0.mk (show text_Plain.f a0 = some true by unfold text_Plain.f; rw [hp])
  clear hp
  have kb := fun W => print_bytes (P := Tryz.prog) 9 55 5 Tryz.underlying9 Tryz.underlying55 Tryz.underlying5 a0 W
  have hsl := Lib.size_eq a0
  have hln : a0.data.toList.length = a0.size := hsl.symm
  have HLN := Aside0.mk hln
  clear hsl hln
  go_enter Tryz.func49, Tryz.ntmps49
  go_wp2_with (go_at_call 25; (with_reducible refine (text_Plain.calls a0 true _ HP.out).mono ?_); rintro e w1 ⟨rfl, hb1⟩; have HB1 := Aside0.mk hb1; clear hb1)
  have hI0 := InPlace.start (w1.alloc (.cells #[.int .u8 34] 5)) 5 a0
  have hsz : (w1.alloc (.cells #[.int .u8 34] 5)).heap.size = w1.heap.size + 1 := by simp
  rw [hsz] at hI0
  have hO0 := own_lit_of (enc := Value.int .u8) w1 w.heap.size 5 [34] HB1.out.size (by simp)
  have hO1 : Kd.R (Kd.int .u8) 5 (w1.alloc (.cells #[.int .u8 34] 5)) w.heap.size (fun q => q ≠ w1.heap.size + 1) (.slice (some ⟨w1.heap.size, 0, none⟩) 1 1) [34] :=
    Kd.R_of_own (by exact hO0) (fun q hq => by simp [Value.ownBlock] at hq; omega)
  have hbw : Below (w1.alloc (.cells #[.int .u8 34] 5)).heap.size (w1.alloc (.cells #[.int .u8 34] 5)) (Lib.bytesWorld (w1.alloc (.cells #[.int .u8 34] 5)) 5 a0) := bytes_below (Below.refl _ _) (Nat.le_refl _) 5 a0
  have hO2 := Aside0.mk (Kd.R_below hO1 hbw)
  have hI := Aside0.mk hI0
  have hB := Aside0.mk (bytes_below (below_alloc HB1.out (.cells #[.int .u8 34] 5)) (by have := HB1.out.size; simp; omega) 5 a0)
  have hZ := Aside0.mk (show w1.heap.size + 1 < (Lib.bytesWorld (w1.alloc (.cells #[.int .u8 34] 5)) 5 a0).heap.size by rw [Lib.bytesWorld_size]; simp)
  clear hI0 hO0 hO1 hbw hsz kb
  generalize Lib.bytesWorld (w1.alloc (.cells #[.int .u8 34] 5)) 5 a0 = W at hO2 hI hB hZ ⊢
  generalize grownCap (w1.alloc (.cells #[.int .u8 34] 5)) a0.size 0 5 = C
  generalize hl : a0.data.toList = l at HLN hI
  clear HP
  go_loopw [4, 14] (fun v i wr => ∃ k : Nat, k ≤ a0.size ∧ i = .int .i64 k ∧ Aside0 (InPlace wr 5 (w1.heap.size + 1) l) ∧ Aside0 (Kd.R (Kd.int .u8) 5 wr w.heap.size (fun q => q ≠ w1.heap.size + 1) v (ints (quoTo l k))) ∧ Aside0 (Below w.heap.size w wr) ∧ Aside0 (w1.heap.size + 1 < wr.heap.size)) (fun _ i _ => a0.size - (intOf i).toNat)
  case atStart => exact ⟨0, Nat.zero_le _, rfl, hI, ⟨by simpa [quoTo, ints] using hO2.out⟩, hB, hZ⟩
  case round =>
    clear hI hO2 hB hZ
    obtain ⟨k, hk, rfl, I, O, BB, SZ⟩ := hrel
    have HL := Aside0.mk (show (ints (quoTo l k)).length ≤ 35184372088835 by have := quoTo_le l k; simp [ints]; omega)
    obtain ⟨AV, CV, eV⟩ := Kd.R_slice O.out
    generalize (ints (quoTo l k)).length = NV at eV
    subst eV
    by_cases hlt : k < a0.size
    · have hkl : k < l.length := by rw [HLN.out]; exact hlt
      have hc0 := I.out.cell k hkl
      have hbn := (l[k]).toNat_lt
      have e0 : l.getD k 0 = l[k] := by simp [List.getD_eq_getElem?_getD, List.getElem?_eq_getElem hkl]
      rw [e0] at hc0
      clear e0
      have HS := Aside0.mk (congrArg ints (quoTo_succ l k hkl))
      rw [ints_append] at HS
      by_cases he : l[k] = 34 ∨ l[k] = 92
      · have hx : ints (escB l[k]) = [92, ((l[k]).toNat : Int)] := by unfold escB; rw [if_pos he]; rfl
        rw [hx] at HS
        clear hx
        have hcase : (l[k]).toNat = 34 ∨ (l[k]).toNat = 92 := by rcases he with h | h <;> rw [h] <;> simp
        clear he
        generalize (l[k]).toNat = c at hc0 hbn hcase HS
        rcases hcase with rfl | rfl
        · go_wp2_with (first | (at_builtin; refine Kd.R_append (Kd.int .u8) (w0 := w) w.heap.size rfl (.tmp 24) (.tmp 25) 55 5 (.int .u8 0) 1 rfl Tryz.underlying55 info5 rfl (by decide) (by omega) (.slice AV NV CV) (ints (quoTo l k)) 92 [.int .u8 92] (fun q => q ≠ w1.heap.size + 1) (fun _ => False) rfl rfl ?aP (fun _ hk => hk.elim) ?aF ?aO ?aB ?aS ?aL ?_; (case aP => exact rfl); (case aB => exact BB.out); (case aF => exact (fun q hq => by have := SZ.out; omega)); (case aO => exact O.out); (case aS => exact BB.out.size); (case aL => have := HL.out; (try simp only [List.length_append, List.length_cons, List.length_nil]); omega); intro v2 w3 ho hb hg hat; have I2 := Aside0.mk (I.out.later ((hg.block _ SZ.out (Kd.R_away O.out (fun q hq => hq))))); have O2 := Aside0.mk ho; have B2 := Aside0.mk hb; have S2 := Aside0.mk (Nat.lt_of_lt_of_le SZ.out hg.size); clear ho hb hg hat) | (at_builtin; refine Kd.R_append (Kd.int .u8) (w0 := w) w.heap.size rfl (.tmp 27) (.tmp 29) 55 5 (.int .u8 0) 1 rfl Tryz.underlying55 info5 rfl (by decide) (by omega) v2 (ints (quoTo l k) ++ [92]) 34 [.int .u8 34] (fun q => q ≠ w1.heap.size + 1) (fun _ => False) rfl rfl ?aP (fun _ hk => hk.elim) ?aF ?aO ?aB ?aS ?aL ?_; (case aP => exact rfl); (case aB => exact B2.out); (case aF => exact (fun q hq => by have := S2.out; omega)); (case aO => exact O2.out); (case aS => exact B2.out.size); (case aL => have := HL.out; (try simp only [List.length_append, List.length_cons, List.length_nil]); omega); intro v4 w5 ho hb hg hat; have I3 := Aside0.mk (I2.out.later ((hg.block _ S2.out (Kd.R_away O2.out (fun q hq => hq))))); have O3 := Aside0.mk ho; have B3 := Aside0.mk hb; have S3 := Aside0.mk (Nat.lt_of_lt_of_le S2.out hg.size); clear ho hb hg hat))
          exact ⟨⟨k + 1, by omega, by go_num, I3, ⟨by rw [HS.out]; simpa using O3.out⟩, B3, S3⟩, by simp [intOf]; omega⟩
        · go_wp2_with (first | (at_builtin; refine Kd.R_append (Kd.int .u8) (w0 := w) w.heap.size rfl (.tmp 24) (.tmp 25) 55 5 (.int .u8 0) 1 rfl Tryz.underlying55 info5 rfl (by decide) (by omega) (.slice AV NV CV) (ints (quoTo l k)) 92 [.int .u8 92] (fun q => q ≠ w1.heap.size + 1) (fun _ => False) rfl rfl ?aP (fun _ hk => hk.elim) ?aF ?aO ?aB ?aS ?aL ?_; (case aP => exact rfl); (case aB => exact BB.out); (case aF => exact (fun q hq => by have := SZ.out; omega)); (case aO => exact O.out); (case aS => exact BB.out.size); (case aL => have := HL.out; (try simp only [List.length_append, List.length_cons, List.length_nil]); omega); intro v2 w3 ho hb hg hat; have I2 := Aside0.mk (I.out.later ((hg.block _ SZ.out (Kd.R_away O.out (fun q hq => hq))))); have O2 := Aside0.mk ho; have B2 := Aside0.mk hb; have S2 := Aside0.mk (Nat.lt_of_lt_of_le SZ.out hg.size); clear ho hb hg hat) | (at_builtin; refine Kd.R_append (Kd.int .u8) (w0 := w) w.heap.size rfl (.tmp 27) (.tmp 29) 55 5 (.int .u8 0) 1 rfl Tryz.underlying55 info5 rfl (by decide) (by omega) v2 (ints (quoTo l k) ++ [92]) 92 [.int .u8 92] (fun q => q ≠ w1.heap.size + 1) (fun _ => False) rfl rfl ?aP (fun _ hk => hk.elim) ?aF ?aO ?aB ?aS ?aL ?_; (case aP => exact rfl); (case aB => exact B2.out); (case aF => exact (fun q hq => by have := S2.out; omega)); (case aO => exact O2.out); (case aS => exact B2.out.size); (case aL => have := HL.out; (try simp only [List.length_append, List.length_cons, List.length_nil]); omega); intro v4 w5 ho hb hg hat; have I3 := Aside0.mk (I2.out.later ((hg.block _ S2.out (Kd.R_away O2.out (fun q hq => hq))))); have O3 := Aside0.mk ho; have B3 := Aside0.mk hb; have S3 := Aside0.mk (Nat.lt_of_lt_of_le S2.out hg.size); clear ho hb hg hat))
          exact ⟨⟨k + 1, by omega, by go_num, I3, ⟨by rw [HS.out]; simpa using O3.out⟩, B3, S3⟩, by simp [intOf]; omega⟩
      · have hx : ints (escB l[k]) = [((l[k]).toNat : Int)] := by unfold escB; rw [if_neg he]; rfl
        rw [hx] at HS
        clear hx
        have h34 : (((l[k]).toNat : Int) == 34) = false := by
          rw [beq_eq_false_iff_ne]
          intro h
          exact he (.inl (UInt8.toNat_inj.1 (by simpa using (by omega : (l[k]).toNat = 34))))
        have h92 : (((l[k]).toNat : Int) == 92) = false := by
          rw [beq_eq_false_iff_ne]
          intro h
          exact he (.inr (UInt8.toNat_inj.1 (by simpa using (by omega : (l[k]).toNat = 92))))
        clear he
        generalize (l[k]).toNat = c at hc0 hbn h34 h92 HS
        go_wp2_with (first | (at_builtin; refine Kd.R_append (Kd.int .u8) (w0 := w) w.heap.size rfl (.tmp 27) (.tmp 29) 55 5 (.int .u8 0) 1 rfl Tryz.underlying55 info5 rfl (by decide) (by omega) (.slice AV NV CV) (ints (quoTo l k)) (c : Int) [.int .u8 (c : Int)] (fun q => q ≠ w1.heap.size + 1) (fun _ => False) rfl rfl ?aP (fun _ hk => hk.elim) ?aF ?aO ?aB ?aS ?aL ?_; (case aP => exact rfl); (case aB => exact BB.out); (case aF => exact (fun q hq => by have := SZ.out; omega)); (case aO => exact O.out); (case aS => exact BB.out.size); (case aL => have := HL.out; (try simp only [List.length_append, List.length_cons, List.length_nil]); omega); intro v4 w5 ho hb hg hat; have I3 := Aside0.mk (I.out.later ((hg.block _ SZ.out (Kd.R_away O.out (fun q hq => hq))))); have O3 := Aside0.mk ho; have B3 := Aside0.mk hb; have S3 := Aside0.mk (Nat.lt_of_lt_of_le SZ.out hg.size); clear ho hb hg hat))
        exact ⟨⟨k + 1, by omega, by go_num, I3, ⟨by rw [HS.out]; simpa using O3.out⟩, B3, S3⟩, by simp [intOf]; omega⟩
    · obtain rfl : k = a0.size := by omega
      have HF := Aside0.mk (show quoTo l a0.size ++ [34] = Sp.quoteL l by
        unfold quoTo Sp.quoteL
        rw [← HLN.out, List.take_length]
        rfl)
      go_wp2_with (first | (at_builtin; refine Kd.R_append (Kd.int .u8) (w0 := w) w.heap.size rfl (.tmp 32) (.tmp 33) 55 5 (.int .u8 0) 1 rfl Tryz.underlying55 info5 rfl (by decide) (by omega) (.slice AV NV CV) (ints (quoTo l a0.size)) 34 [.int .u8 34] (fun q => q ≠ w1.heap.size + 1) (fun _ => False) rfl rfl ?aP (fun _ hk => hk.elim) ?aF ?aO ?aB ?aS ?aL ?_; (case aP => exact rfl); (case aB => exact BB.out); (case aF => exact (fun q hq => by have := SZ.out; omega)); (case aO => exact O.out); (case aS => exact BB.out.size); (case aL => have := HL.out; (try simp only [List.length_append, List.length_cons, List.length_nil]); omega); intro v4 w5 ho hb hg hat; have I3 := Aside0.mk (I.out.later ((hg.block _ SZ.out (Kd.R_away O.out (fun q hq => hq))))); have O3 := Aside0.mk ho; have B3 := Aside0.mk hb; have S3 := Aside0.mk (Nat.lt_of_lt_of_le SZ.out hg.size); clear ho hb hg hat; have hs4 := own_string (P := Tryz.prog) (src := 55) (dst := 9) Tryz.underlying55 Tryz.underlying5 Tryz.underlying9 (Kd.own_of_R O3.out); rw [show ints (quoTo l a0.size) ++ [34] = ints (Sp.quoteL l) from by rw [← HF.out, ints_append]; rfl, ints_text] at hs4))
      go_ret2
      exact ⟨by rw [hl]; rfl, B3.out⟩

set_option maxHeartbeats 8000000 in
set_option maxRecDepth 1000000 in
theorem quote_no (a0 : ByteArray) (w : World) (hp : Sp.plainL a0.data.toList = false) :
    Calls Tryz.prog 49 #[.string a0] w fun e w' => e = .returned (.tuple #[.string ⟨#[]⟩, .int .i64 5]) ∧ Below w.heap.size w w' := by
  have HP := Aside0.mk (show text_Plain.f a0 = some false by unfold text_Plain.f; rw [hp])
  clear hp
  go_enter Tryz.func49, Tryz.ntmps49
  go_wp2_with (go_at_call 25; (with_reducible refine (text_Plain.calls a0 false _ HP.out).mono ?_); rintro e w1 ⟨rfl, hb1⟩; have HB1 := Aside0.mk hb1; clear hb1)
  go_ret2
  exact ⟨rfl, HB1.out⟩

theorem text_Quote.calls (a0 : ByteArray) (r1 : ByteArray) (r2 : Int) (w : World) (h : text_Quote.f a0 = some (r1, r2)) :
    Calls Tryz.prog 49 #[.string a0] w fun e w' => e = .returned (.tuple #[.string r1, .int .i64 r2]) ∧ Below w.heap.size w w' := by
  unfold text_Quote.f at h
  split at h
  · rename_i hs
    have h := Option.some.inj h
    cases hp : Sp.plainL a0.data.toList
    · rw [hp] at h
      obtain ⟨rfl, rfl⟩ := Prod.mk.inj h
      exact quote_no a0 w hp
    · rw [hp] at h
      obtain ⟨rfl, rfl⟩ := Prod.mk.inj h
      exact quote_yes a0 w hs hp
  · cases h
end Go.Proofs.YtmhcdigneamgdaaGreatDoor.G

/- Walk of addr.local. -/
namespace Go.Proofs.YtmhcdigneamgdaaGreatDoor.G
open Go.RowKit Go.Proofs.YtmhcdigneamgdaaGreatDoorW.PrintWords Go.Proofs.YtmhcdigneamgdaaGreatDoorW.PrintMore Go.Proofs.YtmhcdigneamgdaaGreatDoor.Qa
attribute [local go_sem] max2_int max_two
set_option linter.unusedVariables false
set_option linter.unusedSimpArgs false

def addr_local.f (k : Nat) (a0 : ByteArray) : Option (ByteArray × ByteArray × Bool) :=
  if Lib.hasPrefix a0.data.toList [34] then
    (text_Quoted.f k a0).bind fun t => if 0 ≤ t.2.1 ∧ t.2.1 ≤ (a0.size : Int) ∧ a0.size ≤ 4294967280 then some (t.1, a0.extract t.2.1.toNat a0.size, (t.2.2 == 0) && !t.1.toList.isEmpty) else none
  else
    let j := (Lib.indexByte a0.data.toList 64).toNat
    if a0.size ≤ 4294967280 ∧ j ≤ a0.size then some (a0.extract 0 j, a0.extract j a0.size, Sp.dotAtomL (a0.extract 0 j).data.toList) else none
theorem addr_local.mono : ∀ a0 k, LeO (addr_local.f k a0) (addr_local.f (k + 1) a0) := by
  intro a0 k
  unfold addr_local.f
  split
  · exact LeO.bind (text_Quoted.mono a0 k) (fun x => LeO.refl _)
  · exact LeO.refl _

theorem HasPrefix_str (s p : ByteArray) : strings_HasPrefix.f s p = some (Lib.hasPrefix s.data.toList p.data.toList) := by
  unfold strings_HasPrefix.f
  rw [HasPrefix_eq]
  rfl

set_option maxHeartbeats 8000000 in
set_option maxRecDepth 100000 in
theorem local_quoted (k : Nat) (a0 t1 : ByteArray) (m e : Int) (w : World) (h34 : Lib.hasPrefix a0.data.toList [34] = true) (ht : text_Quoted.f k a0 = some (t1, m, e)) (h0 : 0 ≤ m) (h1 : m ≤ (a0.size : Int)) (hs : a0.size ≤ 4294967280) :
    Calls Tryz.prog 61 #[.string a0] w fun e' w' => e' = .returned (.tuple #[.string t1, .string (a0.extract m.toNat a0.size), .bool ((e == 0) && !t1.toList.isEmpty)]) ∧ Below w.heap.size w w' := by
  have HP := Aside0.mk (show strings_HasPrefix.f a0 ⟨#[34]⟩ = some true by rw [HasPrefix_str]; exact congrArg some h34)
  have HQ := Aside0.mk ht
  clear h34 ht
  obtain ⟨n, rfl⟩ := Int.eq_ofNat_of_zero_le h0
  have hn : n ≤ a0.size := by omega
  by_cases he : e = 0
  · subst he
    go_enter Tryz.func61, Tryz.ntmps61
    go_wp2_with (first | (go_at_call 35; (with_reducible refine (strings_HasPrefix.calls a0 ⟨#[34]⟩ true _ HP.out).mono ?_); rintro e' w' ⟨rfl, ⟨nd, rfl⟩⟩) | (go_at_call 58; (with_reducible refine (text_Quoted.calls k a0 t1 _ 0 _ HQ.out).mono ?_); rintro e' w2 ⟨rfl, hb2⟩; have HB2 := Aside0.mk (then_below (w := w) (pw_below_drewN (Below.refl w.heap.size w) _) hb2); clear hb2))
    go_quiet (fail)
    go_wp2
    go_ret3
    exact ⟨by simp [ne_nil_b], by repeat (first | exact HB2.out | refine pw_below_drewN ?_ _)⟩
  · have heb : (e == 0) = false := by rw [beq_eq_false_iff_ne]; exact he
    rw [heb]
    clear he
    go_enter Tryz.func61, Tryz.ntmps61
    go_wp2_with (first | (go_at_call 35; (with_reducible refine (strings_HasPrefix.calls a0 ⟨#[34]⟩ true _ HP.out).mono ?_); rintro e' w' ⟨rfl, ⟨nd, rfl⟩⟩) | (go_at_call 58; (with_reducible refine (text_Quoted.calls k a0 t1 _ e _ HQ.out).mono ?_); rintro e' w2 ⟨rfl, hb2⟩; have HB2 := Aside0.mk (then_below (w := w) (pw_below_drewN (Below.refl w.heap.size w) _) hb2); clear hb2))
    go_quiet (fail)
    go_wp2
    go_ret3
    exact ⟨by simp, by repeat (first | exact HB2.out | refine pw_below_drewN ?_ _)⟩

set_option maxHeartbeats 8000000 in
set_option maxRecDepth 100000 in
theorem local_plain (a0 : ByteArray) (w : World) (h34 : Lib.hasPrefix a0.data.toList [34] = false) (hj : (Lib.indexByte a0.data.toList 64).toNat ≤ a0.size) (hs : a0.size ≤ 4294967280) (hG : Glob w) :
    Calls Tryz.prog 61 #[.string a0] w fun e' w' => e' = .returned (.tuple #[.string (a0.extract 0 (Lib.indexByte a0.data.toList 64).toNat), .string (a0.extract (Lib.indexByte a0.data.toList 64).toNat a0.size), .bool (Sp.dotAtomL (a0.extract 0 (Lib.indexByte a0.data.toList 64).toNat).data.toList)]) ∧ Below w.heap.size w w' := by
  have HP := Aside0.mk (show strings_HasPrefix.f a0 ⟨#[34]⟩ = some false by rw [HasPrefix_str]; exact congrArg some h34)
  have HI := Aside0.mk (show strings_IndexByte.f a0 64 = some (Lib.indexByte a0.data.toList 64) from rfl)
  have hge := Lib.indexByte_ge a0.data.toList 64
  have HD := Aside0.mk (show text_DotAtom.f (a0.extract 0 (Lib.indexByte a0.data.toList 64).toNat) = some (Sp.dotAtomL (a0.extract 0 (Lib.indexByte a0.data.toList 64).toNat).data.toList) by
    unfold text_DotAtom.f
    rw [if_pos (by rw [Lib.extract_eq, mkB_size]; simp; omega)])
  have HG := Aside0.mk hG
  clear h34 hG
  generalize Sp.dotAtomL (a0.extract 0 (Lib.indexByte a0.data.toList 64).toNat).data.toList = d at HD ⊢
  generalize Lib.indexByte a0.data.toList 64 = i at hj HI hge HD ⊢
  by_cases hi : i < 0
  · have e0 : i.toNat = 0 := by omega
    have e1 : a0.extract 0 0 = ByteArray.empty := by rw [Lib.extract_eq]; rfl
    rw [e0, e1] at HD ⊢
    rw [ext_all]
    clear e0 e1 hj
    go_enter Tryz.func61, Tryz.ntmps61
    go_wp2_with (first | (go_at_call 35; (with_reducible refine (strings_HasPrefix.calls a0 ⟨#[34]⟩ false _ HP.out).mono ?_); rintro e' w' ⟨rfl, ⟨nd, rfl⟩⟩) | (go_at_call 59; (with_reducible refine (strings_IndexByte.calls a0 64 i _ HI.out).mono ?_); rintro e' w' ⟨rfl, ⟨nd, rfl⟩⟩))
    go_region_with (go_at_call 48; (with_reducible refine (text_DotAtom.calls _ d _ HD.out ?hGG).mono ?_); (case hGG => repeat (first | exact HG.out | refine Glob.drewN ?_ _ | refine Glob.drew ?_)); rintro e' w2 ⟨rfl, hb2⟩; replace hb2 := then_below (w := w) (pw_below_drewN (Below.refl w.heap.size w) _) hb2)
    all_goals (go_wp2; go_ret3; exact ⟨rfl, by repeat (first | assumption | refine pw_below_drewN ?_ _ | refine below_drew ?_)⟩)
  · obtain ⟨n, rfl⟩ := Int.eq_ofNat_of_zero_le (show 0 ≤ i by omega)
    rw [Int.toNat_natCast] at HD hj ⊢
    clear hi
    go_enter Tryz.func61, Tryz.ntmps61
    go_wp2_with (first | (go_at_call 35; (with_reducible refine (strings_HasPrefix.calls a0 ⟨#[34]⟩ false _ HP.out).mono ?_); rintro e' w' ⟨rfl, ⟨nd, rfl⟩⟩) | (go_at_call 59; (with_reducible refine (strings_IndexByte.calls a0 64 (n : Int) _ HI.out).mono ?_); rintro e' w' ⟨rfl, ⟨nd, rfl⟩⟩))
    go_region_with (go_at_call 48; (with_reducible refine (text_DotAtom.calls _ d _ HD.out ?hGG).mono ?_); (case hGG => repeat (first | exact HG.out | refine Glob.drewN ?_ _ | refine Glob.drew ?_)); rintro e' w2 ⟨rfl, hb2⟩; replace hb2 := then_below (w := w) (pw_below_drewN (Below.refl w.heap.size w) _) hb2)
    all_goals (go_wp2; go_ret3; exact ⟨rfl, by repeat (first | assumption | refine pw_below_drewN ?_ _ | refine below_drew ?_)⟩)

theorem addr_local.calls (k : Nat) (a0 r1 r2 : ByteArray) (r3 : Bool) (w : World) (h : addr_local.f k a0 = some (r1, r2, r3)) (hG : Glob w) :
    Calls Tryz.prog 61 #[.string a0] w fun e w' => e = .returned (.tuple #[.string r1, .string r2, .bool r3]) ∧ Below w.heap.size w w' := by
  unfold addr_local.f at h
  cases h34 : Lib.hasPrefix a0.data.toList [34]
  · rw [h34, if_neg (by decide)] at h
    simp only at h
    split at h
    · rename_i hc
      simp only [Option.some.injEq, Prod.mk.injEq] at h
      obtain ⟨rfl, rfl, rfl⟩ := h
      exact local_plain a0 w h34 hc.2 hc.1 hG
    · cases h
  · rw [h34, if_pos rfl] at h
    obtain ⟨⟨t1, m, e⟩, ht, h⟩ := Option.bind_eq_some_iff.mp h
    simp only at h
    split at h
    · rename_i hc
      simp only [Option.some.injEq, Prod.mk.injEq] at h
      obtain ⟨rfl, rfl, rfl⟩ := h
      exact local_quoted k a0 t1 m e w h34 ht hc.1 hc.2.1 hc.2.2
    · cases h
end Go.Proofs.YtmhcdigneamgdaaGreatDoor.G

namespace Go.Proofs.YtmhcdigneamgdaaGreatDoor.Qb
open Go.RowKit Go.Proofs.YtmhcdigneamgdaaGreatDoor.G Go.Proofs.YtmhcdigneamgdaaGreatDoor.Qa Go.Proofs.YtmhcdigneamgdaaGreatDoorW.PrintWords Go.Proofs.YtmhcdigneamgdaaGreatDoorW.PrintLast Go.Proofs.YtmhcdigneamgdaaGreatDoorW.PrintMore
attribute [local go_sem] max2_int min2_int max_two min_two max_three min_three max_four min_four   -- for this text's walks alone
set_option linter.unusedVariables false
set_option linter.unusedSimpArgs false



def errW : Option Int → Value
  | none => .nilIface
  | some c => .iface 0 (.int .i64 c)
theorem errW_none : errW none = .nilIface := rfl
theorem errW_some (c : Int) : errW (some c) = .iface 0 (.int .i64 c) := rfl

theorem info9 : (Tryz.prog.info? 9).map (fun i => (i.zero, i.size, i.bytes)) = some (some (.string ⟨#[]⟩), 1, 16) := by kernel_rfl
-- the values' own types

end Go.Proofs.YtmhcdigneamgdaaGreatDoor.Qb
