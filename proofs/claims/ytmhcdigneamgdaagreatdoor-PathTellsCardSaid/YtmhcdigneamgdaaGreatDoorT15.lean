/- Parts of the proof, put together: LwT, Rf4, Rf5, Rf6, PuT. -/
import Derived.Test.YtmhcdigneamgdaaGreatDoorT14
import Derived.BigRegion
import Derived.Deep.RegionHeld3
import Derived.Test.YtmhcdigneamgdaaGreatDoorT12
/- Walk of the law PathTells, out of what both texts are. -/
namespace Go.Proofs.YtmhcdigneamgdaaGreatDoor.G
open Go.RowKit Go.Proofs.YtmhcdigneamgdaaGreatDoorW.PrintWords Go.Proofs.YtmhcdigneamgdaaGreatDoorW.PrintMore Go.Proofs.YtmhcdigneamgdaaGreatDoor.Qa Go.Proofs.YtmhcdigneamgdaaGreatDoor.Qb
attribute [local go_sem] max2_int max_two min2_int min_two
set_option linter.unusedVariables false
set_option linter.unusedSimpArgs false

set_option maxHeartbeats 4000000 in
set_option maxRecDepth 100000 in
theorem of_calls (a b : Bool) (A : Option Addr) (n c : Nat) (s t : ByteArray) (w : World) :
    Calls Tryz.prog 9 #[.agg #[.bool a, .bool b, .slice A n c, .string s, .string t]] w fun e w' => e = .returned (.agg #[.bool a, .bool b, .slice A n c, .string s, .string t]) ∧ Below w.heap.size w w' := by
  go_enter Tryz.func9, Tryz.ntmps9
  go_wp2
  exact bodyPost_ret (v := .agg #[.bool a, .bool b, .slice A n c, .string s, .string t]) (by simp [results, Tryz.results9, go_sem]) rfl ⟨rfl, below_alloc (below_alloc (Below.refl _ _) _) _⟩

/-- A world that has kept what was there, and one block of the call's own. -/
def Keeps (w : World) (gb : Nat) (cs : Array Value) (ty : TypeId) (W : World) : Prop := Below w.heap.size w W ∧ W.heap[gb]? = some (.cells cs ty (0, 0))
theorem Keeps.step {w : World} {gb : Nat} {cs : Array Value} {ty : TypeId} {W W' : World} (hb : Below W.heap.size W W') (h : Keeps w gb cs ty W) : Keeps w gb cs ty W' := ⟨then_below h.1 hb, blk_below h.2 hb⟩
theorem Keeps.drew {w : World} {gb : Nat} {cs : Array Value} {ty : TypeId} {W : World} (h : Keeps w gb cs ty W) : Keeps w gb cs ty W.drew := ⟨below_drew h.1, blk_drew h.2⟩
theorem Keeps.below {w : World} {gb : Nat} {cs : Array Value} {ty : TypeId} {W : World} (h : Keeps w gb cs ty W) : Below w.heap.size w W := h.1
theorem Keeps.cell {w : World} {gb : Nat} {cs : Array Value} {ty : TypeId} {W : World} (h : Keeps w gb cs ty W) (i : Nat) : W.cell? ⟨gb, i, none⟩ = cs[i]? := blk_cell h.2 i

theorem Keeps.five {w : World} {gb : Nat} {x0 x1 x2 x3 x4 : Value} {ty : TypeId} {W : World} (K : Keeps w gb #[x0, x1, x2, x3, x4] ty W) :
    W.cell? ⟨gb, 0, none⟩ = some x0 ∧ W.cell? ⟨gb, 1, none⟩ = some x1 ∧ W.cell? ⟨gb, 2, none⟩ = some x2 ∧ W.cell? ⟨gb, 3, none⟩ = some x3 ∧ W.cell? ⟨gb, 4, none⟩ = some x4 ∧ Keeps w gb #[x0, x1, x2, x3, x4] ty W :=
  ⟨(K.cell 0).trans rfl, (K.cell 1).trans rfl, (K.cell 2).trans rfl, (K.cell 3).trans rfl, (K.cell 4).trans rfl, K⟩

set_option maxHeartbeats 8000000 in
set_option maxRecDepth 100000 in
theorem law_tells (k : Nat) (a b : Bool) (A : Option Addr) (c : Nat) (l : List ByteArray) (s t : ByteArray) (i j : Int) (r : ByteArray) (w : World) (hC : Kd.C Kd.string w A l.length l) (hc : l.length ≤ c)
    (hi : mn (s.size : Int) 300 = i) (hj : mn (t.size : Int) 300 = j)
    (h1 : path_Path_Text.f a b l (s.extract 0 i.toNat) (t.extract 0 j.toNat) = some r) (h2 : postriderref06_Text.f k a b l (s.extract 0 i.toNat) (t.extract 0 j.toNat) = some r) (hG : Glob w) :
    Calls Tryz.prog 3 #[.agg #[.bool a, .bool b, .slice A l.length c, .string s, .string t]] w fun e w' => e = .returned (.bool true) ∧ Below w.heap.size w w' := by
  have HG := Aside0.mk hG
  have H1 := Aside0.mk h1
  have H2 := Aside0.mk h2
  have HC := Aside0.mk hC
  have HL := Aside0.mk hc
  clear hG h1 h2 hC hc
  have i0 : 0 ≤ i := by unfold mn at hi; split at hi <;> omega
  have i1 : i ≤ s.size := by unfold mn at hi; split at hi <;> omega
  have j0 : 0 ≤ j := by unfold mn at hj; split at hj <;> omega
  have j1 : j ≤ t.size := by unfold mn at hj; split at hj <;> omega
  have hi_ : (if 300 < (s.size : Int) then 300 else (s.size : Int)) = i := hi
  have hj_ : (if 300 < (t.size : Int) then 300 else (t.size : Int)) = j := hj
  clear hi hj
  have i0b := decide_eq_true i0
  have i1b := decide_eq_true i1
  have j0b := decide_eq_true j0
  have j1b := decide_eq_true j1
  replace i0 := eq_true i0
  replace i1 := eq_true i1
  replace j0 := eq_true j0
  replace j1 := eq_true j1
  go_enter Tryz.func3, Tryz.ntmps3
  go_wp2
  have BK1 := Aside0.mk (blk_new w (.cells #[.bool a, .bool b, .slice A l.length c, .string s, .string t] 26))
  have HB1 := Aside0.mk (below_alloc (Below.refl w.heap.size w) (.cells #[.bool a, .bool b, .slice A l.length c, .string s, .string t] 26))
  have GE := Aside0.mk (Nat.le_refl w.heap.size)
  generalize (w.alloc (.cells #[.bool a, .bool b, .slice A l.length c, .string s, .string t] 26)) = w1 at BK1 HB1 ⊢
  obtain ⟨gb, hgb⟩ : ∃ g, g = w.heap.size := ⟨_, rfl⟩
  rw [← hgb] at BK1 ⊢
  have GB := Aside0.mk hgb
  clear hgb
  have c0 := (blk_cell BK1.out 0).trans rfl
  have c1 := (blk_cell BK1.out 1).trans rfl
  have c2 := (blk_cell BK1.out 2).trans rfl
  have c3 := (blk_cell BK1.out 3).trans rfl
  have c4 := (blk_cell BK1.out 4).trans rfl
  have f3 := blk_frozen BK1.out 3
  have f4 := blk_frozen BK1.out 4
  go_region
  go_wp2_with fail
  have KP := Aside0.mk (show Keeps w gb #[.bool a, .bool b, .slice A l.length c, .string (s.extract 0 i.toNat), .string (t.extract 0 j.toNat)] 26 (((w1.setCell ⟨gb, 3, none⟩ (.string (s.extract 0 i.toNat))).setCell ⟨gb, 4, none⟩ (.string (t.extract 0 j.toNat))).drew) from ⟨below_drew (below_set (below_set HB1.out (Nat.le_of_eq GB.out.symm)) (Nat.le_of_eq GB.out.symm)), blk_drew (blk_put (blk_put BK1.out 3 _ rfl) 4 _ rfl)⟩)
  generalize (((w1.setCell ⟨gb, 3, none⟩ (.string (s.extract 0 i.toNat))).setCell ⟨gb, 4, none⟩ (.string (t.extract 0 j.toNat))).drew) = w2 at KP ⊢
  clear BK1 HB1 c0 c1 c2 c3 c4 f3 f4 i0 i1 j0 j1 i0b i1b j0b j1b hi_ hj_
  generalize s.extract 0 i.toNat = s1 at KP H1 H2 ⊢
  generalize t.extract 0 j.toNat = t1 at KP H1 H2 ⊢
  have kp := KP.out
  have c0 := (kp.cell 0).trans rfl
  have c1 := (kp.cell 1).trans rfl
  have c2 := (kp.cell 2).trans rfl
  have c3 := (kp.cell 3).trans rfl
  have c4 := (kp.cell 4).trans rfl
  have hrr : (r.toList == r.toList) = true := beq_self_eq_true _
  go_region_held3 (fun W => W.cell? ⟨gb, 0, none⟩ = some (.bool a) ∧ W.cell? ⟨gb, 1, none⟩ = some (.bool b) ∧ W.cell? ⟨gb, 2, none⟩ = some (.slice A l.length c) ∧ W.cell? ⟨gb, 3, none⟩ = some (.string s1) ∧ W.cell? ⟨gb, 4, none⟩ = some (.string t1) ∧ Keeps w gb #[.bool a, .bool b, .slice A l.length c, .string s1, .string t1] 26 W)
    (first | exact Keeps.five (by go_split_ands; assumption) | exact Keeps.five (Keeps.step (by assumption) (by go_split_ands; assumption)) | exact Keeps.five (Keeps.drew (by go_split_ands; assumption)))
    (first
      | (go_at_call 7; refine (path_Path_Text.calls a b A c l s1 t1 r _ (Kd.C_below HC.out (Keeps.below (by go_split_ands; assumption))) HL.out H1.out (HG.out.below (Keeps.below (by go_split_ands; assumption)))).mono ?_; rintro e' w' ⟨rfl, hb⟩)
      | (go_at_call 9; refine (of_calls a b A l.length c s1 t1 _).mono ?_; rintro e' w' ⟨rfl, hb⟩)
      | (go_at_call 8; refine (postriderref06_Text.calls k a b A c l s1 t1 r _ (Kd.C_below HC.out (Keeps.below (by go_split_ands; assumption))) HL.out H2.out).mono ?_; rintro e' w' ⟨rfl, hb⟩)
      | (go_at_call 10; refine (tells_true _ (HG.out.below (Keeps.below (by go_split_ands; assumption)))).mono ?_; rintro e' w' ⟨rfl, hb⟩))
  all_goals (go_wp2_with fail; go_ret; exact ⟨rfl, Keeps.below (by go_split_ands; first | assumption | exact Keeps.step (by assumption) (by assumption))⟩)
end Go.Proofs.YtmhcdigneamgdaaGreatDoor.G

/- Plain: what the reference's functions of layer 4 compute, over lists of bytes. -/
namespace Go.Proofs.YtmhcdigneamgdaaGreatDoor.G
open Go.RowKit Go.Proofs.YtmhcdigneamgdaaGreatDoorW.PrintWords Go.Proofs.YtmhcdigneamgdaaGreatDoorW.PrintMore Go.Proofs.YtmhcdigneamgdaaGreatDoor.Qa Go.Proofs.YtmhcdigneamgdaaGreatDoor.Qb
set_option linter.unusedVariables false
set_option linter.unusedSimpArgs false

theorem w64s (i : Nat) (h : i < 9223372036854775807) : wrap64 ((i : Int) + 1) = ((i + 1 : Nat) : Int) := by unfold wrap64; omega
theorem ba_len (s : ByteArray) : s.data.toList.length = s.size := by simp
theorem bt_nat (s : ByteArray) (i : Nat) (h : i < s.size) : bt s (i : Int) = ((s.data.toList[i]'(by simpa using h)).toNat : Int) := by
  have h2 : ((i : Int).toNat) < s.size := by omega
  unfold bt
  rw [dif_pos h2]
  simp [ByteArray.getElem_eq_getElem_data]
theorem drop_cons (s : ByteArray) (i : Nat) (h : i < s.size) : s.data.toList.drop i = (s.data.toList[i]'(by simpa using h)) :: s.data.toList.drop (i + 1) :=
  List.drop_eq_getElem_cons (by simpa using h)
theorem drop_end (s : ByteArray) (i : Nat) (h : s.size ≤ i) : s.data.toList.drop i = [] := List.drop_eq_nil_of_le (by simpa using h)
theorem more_k {α : Type} {f : Nat → Option α} (h : ∀ k, LeO (f k) (f (k + 1))) {r : α} {k : Nat} (e : f k = some r) (k' : Nat) (hk : k ≤ k') : f k' = some r := by
  obtain ⟨d, rfl⟩ := Nat.exists_eq_add_of_le hk
  induction d with
  | zero => exact e
  | succ d ih => exact h _ _ (ih (by omega))
theorem kpos {k d : Nat} (h : d < k) : ∃ m, k = m + 1 := ⟨k - 1, by omega⟩

theorem ref_plain1 (b : UInt8) : postriderref04_plain.f (b.toNat : Int) = some (Sp.plainB b) := by
  unfold postriderref04_plain.f Sp.plainB
  by_cases h : (b.toNat : Int) ≥ 32
  · rw [if_pos h]
    have h2 : 32 ≤ b.toNat := by omega
    simp only [h2, decide_true, Bool.true_and, Option.some.injEq]
    exact decide_eq_decide.2 (by omega)
  · rw [if_neg h]
    have h2 : ¬ 32 ≤ b.toNat := by omega
    simp [h2]
theorem ref_plain_l (s : ByteArray) (hs : s.size ≤ 1000000) (d : Nat) : ∀ (k i : Nat), i + d = s.size → d < k → postriderref04_Plain.l0 k s (i : Int) = some (Sp.plainL (s.data.toList.drop i)) := by
  induction d with
  | zero =>
    intro k i hi hk
    obtain ⟨k, rfl⟩ := kpos hk
    simp only [postriderref04_Plain.l0]
    rw [if_neg (by omega), drop_end s i (by omega)]
    rfl
  | succ d ih =>
    intro k i hi hk
    obtain ⟨k, rfl⟩ := kpos hk
    have hlt : i < s.size := by omega
    simp only [postriderref04_Plain.l0]
    rw [if_pos (by omega), if_pos (by omega), bt_nat s i hlt, ref_plain1, drop_cons s i hlt, w64s i (by omega)]
    simp only [Option.bind_some]
    have e : Sp.plainL ((s.data.toList[i]'(by simpa using hlt)) :: s.data.toList.drop (i + 1)) = (Sp.plainB (s.data.toList[i]'(by simpa using hlt)) && Sp.plainL (s.data.toList.drop (i + 1))) := rfl
    rw [e]
    cases h : Sp.plainB (s.data.toList[i]'(by simpa using hlt)) with
    | true => rw [if_pos rfl, ih k (i + 1) (by omega) (by omega)]; rfl
    | false => rfl
theorem ref_plain (s : ByteArray) (hs : s.size ≤ 1000000) (k : Nat) (hk : s.size < k) : postriderref04_Plain.f k s = some (Sp.plainL s.data.toList) := by
  have h := ref_plain_l s hs s.size k 0 (by omega) hk
  rw [List.drop_zero] at h
  exact h

theorem ref_letter1 : ∀ n : Fin 256, postriderref04_Letter.f 30 ((UInt8.ofNat n.1).toNat : Int) = some (Sp.atomB (UInt8.ofNat n.1)) := by decide +kernel
theorem ref_letter (b : UInt8) (k : Nat) (hk : 30 ≤ k) : postriderref04_Letter.f k (b.toNat : Int) = some (Sp.atomB b) := by
  have h := ref_letter1 ⟨b.toNat, b.toNat_lt⟩
  simp only [UInt8.ofNat_toNat] at h
  exact more_k (f := fun k => postriderref04_Letter.f k (b.toNat : Int)) (fun k => postriderref04_Letter.mono _ k) h k hk

/-- Dot atoms, byte by byte. -/
def dotGo : Bool → List UInt8 → Bool
  | e, [] => !e
  | e, b :: r => if b = 46 then (if e then false else dotGo true r) else if Sp.atomB b then dotGo false r else false
theorem dotGo_eq (l : List UInt8) : dotGo true l = Sp.dotAtomL l ∧ ∀ p ps, Sp.splitL 46 l = p :: ps → dotGo false l = (p.all Sp.atomB && ps.all Sp.atomL) := by
  induction l with
  | nil =>
    refine ⟨rfl, fun p ps h => ?_⟩
    simp only [Sp.splitL, List.cons.injEq] at h
    obtain ⟨rfl, rfl⟩ := h
    rfl
  | cons b r ih =>
    obtain ⟨ih1, ih2⟩ := ih
    by_cases hb : b = 46
    · subst hb
      refine ⟨rfl, fun p ps h => ?_⟩
      simp only [Sp.splitL, if_true, List.cons.injEq] at h
      obtain ⟨rfl, rfl⟩ := h
      show dotGo true r = _
      rw [ih1]
      rfl
    · cases hs : Sp.splitL 46 r with
      | nil => exact absurd hs (Sp.splitL_ne 46 r)
      | cons p ps =>
        have h2 := ih2 p ps hs
        have hsp : Sp.splitL 46 (b :: r) = (b :: p) :: ps := by simp only [Sp.splitL, if_neg hb, hs]
        have hg : ∀ e, dotGo e (b :: r) = (Sp.atomB b && dotGo false r) := fun e => by
          simp only [dotGo, if_neg hb]
          cases Sp.atomB b <;> rfl
        constructor
        · rw [hg, h2]
          unfold Sp.dotAtomL
          rw [hsp]
          simp only [List.all_cons, Sp.atomL, List.isEmpty_cons, Bool.not_false, Bool.true_and, Bool.and_assoc]
        · intro p' ps' h
          rw [hsp] at h
          simp only [List.cons.injEq] at h
          obtain ⟨rfl, rfl⟩ := h
          rw [hg, h2]
          simp only [List.all_cons, Bool.and_assoc]
theorem ref_dot_l (s : ByteArray) (hs : s.size ≤ 1000000) (d : Nat) : ∀ (k i : Nat) (e : Bool), i + d = s.size → d + 40 < k → postriderref04_DotAtom.l0 k s e (i : Int) = some (dotGo e (s.data.toList.drop i)) := by
  induction d with
  | zero =>
    intro k i e hi hk
    obtain ⟨k, rfl⟩ := kpos hk
    simp only [postriderref04_DotAtom.l0]
    rw [if_neg (by omega), drop_end s i (by omega)]
    rfl
  | succ d ih =>
    intro k i e hi hk
    obtain ⟨k, rfl⟩ := kpos hk
    have hlt : i < s.size := by omega
    simp only [postriderref04_DotAtom.l0]
    rw [if_pos (by omega), if_pos (by omega), bt_nat s i hlt, drop_cons s i hlt, w64s i (by omega)]
    generalize (s.data.toList[i]'(by simpa using hlt)) = b
    by_cases hb : b = 46
    · subst hb
      rw [if_pos (by decide)]
      simp only [dotGo, if_true]
      cases e with
      | true => rfl
      | false => rw [if_neg (by simp), ih k (i + 1) true (by omega) (by omega)]; rfl
    · have hn : ¬ ((b.toNat : Int) = 46) := fun h => hb (by
        have : b.toNat = 46 := by omega
        exact UInt8.toNat_inj.1 this)
      rw [if_neg hn, ref_letter b k (by omega)]
      simp only [Option.bind_some, dotGo, if_neg hb]
      cases Sp.atomB b with
      | true => rw [if_pos rfl, if_pos rfl, ih k (i + 1) false (by omega) (by omega)]
      | false => rfl
theorem ref_dot (s : ByteArray) (hs : s.size ≤ 1000000) (k : Nat) (hk : s.size + 40 < k) : postriderref04_DotAtom.f k s = some (Sp.dotAtomL s.data.toList) := by
  have h := ref_dot_l s hs s.size k 0 true (by omega) hk
  rw [List.drop_zero, (dotGo_eq _).1] at h
  exact h

theorem ext_one (s : ByteArray) (i : Nat) (h : i < s.size) : s.extract ((i : Int).toNat) ((((i + 1 : Nat) : Int)).toNat) = ⟨#[s.data.toList[i]'(by simpa using h)]⟩ := by
  rw [Int.toNat_natCast, Int.toNat_natCast, Lib.extract_eq]
  rw [drop_cons s i h, show i + 1 - i = 1 by omega]
  rfl
theorem app_lit (a : ByteArray) (b : UInt8) : a ++ (⟨#[b]⟩ : ByteArray) = ⟨(a.data.toList ++ [b]).toArray⟩ := by
  apply ByteArray.ext
  rw [ByteArray.data_append]
  apply Array.ext'
  simp
theorem ref_quote_l (s : ByteArray) (hs : s.size ≤ 1000000) (d : Nat) : ∀ (k i : Nat) (acc : List UInt8), i + d = s.size → d < k → acc.length ≤ 2 * i + 1 →
    postriderref04_Quote.l0 k s ⟨acc.toArray⟩ (i : Int) = some (⟨(acc ++ ((s.data.toList.drop i).flatMap fun b => if b = 34 ∨ b = 92 then [92, b] else [b]) ++ [34]).toArray⟩, 0) := by
  induction d with
  | zero =>
    intro k i acc hi hk ha
    obtain ⟨k, rfl⟩ := kpos hk
    simp only [postriderref04_Quote.l0]
    have hz : (⟨acc.toArray⟩ : ByteArray).size = acc.length := by simp [ByteArray.size]
    rw [if_neg (by omega), if_pos (by omega), drop_end s i (by omega), app_lit]
    simp
  | succ d ih =>
    intro k i acc hi hk ha
    obtain ⟨k, rfl⟩ := kpos hk
    have hlt : i < s.size := by omega
    have hz : (⟨acc.toArray⟩ : ByteArray).size = acc.length := by simp [ByteArray.size]
    simp only [postriderref04_Quote.l0]
    rw [if_pos (by omega), if_pos (by omega), bt_nat s i hlt, drop_cons s i hlt, w64s i (by omega), ext_one s i hlt]
    generalize (s.data.toList[i]'(by simpa using hlt)) = b
    have e1 : ((⟨acc.toArray⟩ : ByteArray) ++ (⟨#[92]⟩ : ByteArray)) = ⟨(acc ++ [92]).toArray⟩ := app_lit _ _
    have e2 : (⟨(acc ++ [92]).toArray⟩ : ByteArray) ++ (⟨#[b]⟩ : ByteArray) = ⟨(acc ++ [92, b]).toArray⟩ := by rw [app_lit]; simp
    have e3 : ((⟨acc.toArray⟩ : ByteArray) ++ (⟨#[b]⟩ : ByteArray)) = ⟨(acc ++ [b]).toArray⟩ := app_lit _ _
    have z1 : (⟨(acc ++ [92]).toArray⟩ : ByteArray).size = acc.length + 1 := by simp [ByteArray.size]
    have z2 : (⟨#[b]⟩ : ByteArray).size = 1 := rfl
    have hle : (i : Int) ≤ ((i + 1 : Nat) : Int) := by omega
    have hle2 : ((i + 1 : Nat) : Int) ≤ (s.size : Int) := by omega
    rw [e1, e2, e3, z1, z2, hz]
    have hesc : (b = 34 ∨ b = 92) → postriderref04_Quote.l0 k s ⟨(acc ++ [92, b]).toArray⟩ ((i + 1 : Nat) : Int) = some (⟨(acc ++ (((b :: s.data.toList.drop (i + 1)).flatMap fun b => if b = 34 ∨ b = 92 then [92, b] else [b])) ++ [34]).toArray⟩, 0) := fun h => by
      rw [ih k (i + 1) (acc ++ [92, b]) (by omega) (by omega) (by simp; omega)]
      simp [List.flatMap_cons, h]
    by_cases h34 : b = 34
    · have : ((b.toNat : Int) = 34) := by rw [h34]; rfl
      rw [if_pos this, if_pos (by omega), if_pos hle, if_pos hle2, if_pos (by omega)]
      exact hesc (.inl h34)
    · have n34 : ¬ ((b.toNat : Int) = 34) := fun h => h34 (UInt8.toNat_inj.1 (by show b.toNat = 34; omega))
      rw [if_neg n34]
      by_cases h92 : b = 92
      · have : ((b.toNat : Int) = 92) := by rw [h92]; rfl
        rw [if_pos this, if_pos (by omega), if_pos hle, if_pos hle2, if_pos (by omega)]
        exact hesc (.inr h92)
      · have n92 : ¬ ((b.toNat : Int) = 92) := fun h => h92 (UInt8.toNat_inj.1 (by show b.toNat = 92; omega))
        rw [if_neg n92, if_pos hle, if_pos hle2, if_pos (by omega), ih k (i + 1) (acc ++ [b]) (by omega) (by omega) (by simp; omega)]
        simp [List.flatMap_cons, h34, h92]
theorem ref_quote (s : ByteArray) (hs : s.size ≤ 1000000) (k : Nat) (hk : s.size < k) : postriderref04_Quote.f k s = some (if Sp.plainL s.data.toList then (⟨(Sp.quoteL s.data.toList).toArray⟩, 0) else (⟨#[]⟩, 5)) := by
  unfold postriderref04_Quote.f
  rw [ref_plain s hs k hk]
  simp only [Option.bind_some]
  cases Sp.plainL s.data.toList with
  | false => rfl
  | true =>
    rw [if_pos rfl, if_pos rfl]
    have h := ref_quote_l s hs s.size k 0 [34] (by omega) hk (by simp)
    rw [List.drop_zero] at h
    exact h
end Go.Proofs.YtmhcdigneamgdaaGreatDoor.G

/- Plain: what the reference's functions of layers 4 (Split, Number) and 5 compute, over lists of bytes. -/
namespace Go.Proofs.YtmhcdigneamgdaaGreatDoor.G
open Go.RowKit Go.Proofs.YtmhcdigneamgdaaGreatDoorW.PrintWords Go.Proofs.YtmhcdigneamgdaaGreatDoorW.PrintMore Go.Proofs.YtmhcdigneamgdaaGreatDoor.Qa Go.Proofs.YtmhcdigneamgdaaGreatDoor.Qb
set_option linter.unusedVariables false
set_option linter.unusedSimpArgs false

theorem split_free (c : UInt8) (p : List UInt8) (h : c ∉ p) : Sp.splitL c p = [p] := by
  induction p with
  | nil => rfl
  | cons b r ih =>
    have hb : b ≠ c := fun e => h (by simp [e])
    have hr : c ∉ r := fun e => h (List.mem_cons_of_mem _ e)
    simp only [Sp.splitL, if_neg hb, ih hr]
theorem split_at (c : UInt8) (p r : List UInt8) (h : c ∉ p) : Sp.splitL c (p ++ c :: r) = p :: Sp.splitL c r := by
  induction p with
  | nil => simp [Sp.splitL]
  | cons b q ih =>
    have hb : b ≠ c := fun e => h (by simp [e])
    have hq : c ∉ q := fun e => h (List.mem_cons_of_mem _ e)
    simp only [List.cons_append, Sp.splitL, if_neg hb, ih hq]
theorem split_pre (c : UInt8) (p r : List UInt8) (h : c ∉ p) : ∃ q qs, Sp.splitL c r = q :: qs ∧ Sp.splitL c (p ++ r) = (p ++ q) :: qs := by
  induction p with
  | nil =>
    cases hs : Sp.splitL c r with
    | nil => exact absurd hs (Sp.splitL_ne c r)
    | cons q qs => exact ⟨q, qs, rfl, hs⟩
  | cons b p ih =>
    have hb : b ≠ c := fun e => h (by simp [e])
    obtain ⟨q, qs, h1, h2⟩ := ih (fun e => h (List.mem_cons_of_mem _ e))
    exact ⟨q, qs, h1, by simp only [List.cons_append, Sp.splitL, if_neg hb, h2]⟩
theorem split_count (c : UInt8) (l : List UInt8) : (Sp.splitL c l).length = l.count c + 1 := by
  induction l with
  | nil => rfl
  | cons b r ih =>
    by_cases hb : b = c
    · subst hb
      simp only [Sp.splitL, if_true, List.length_cons, ih, List.count_cons_self]
    · simp only [Sp.splitL, if_neg hb]
      rw [List.count_cons_of_ne hb]
      cases hs : Sp.splitL c r with
      | nil => exact absurd hs (Sp.splitL_ne c r)
      | cons p ps => rw [hs] at ih; exact ih
/-- The bytes from a place on, up to another one. -/
def cur (l : List UInt8) (f i : Nat) : List UInt8 := (l.drop f).take (i - f)
theorem cur_split (l : List UInt8) (f i : Nat) (h : f ≤ i) : l.drop f = cur l f i ++ l.drop i := by
  unfold cur
  have e : l.drop i = (l.drop f).drop (i - f) := by rw [List.drop_drop]; congr 1; omega
  rw [e, List.take_append_drop]
theorem cur_snoc (l : List UInt8) (f i : Nat) (h : f ≤ i) (hi : i < l.length) : cur l f (i + 1) = cur l f i ++ [l[i]] := by
  unfold cur
  rw [show i + 1 - f = (i - f) + 1 by omega, List.take_succ_eq_append_getElem (by rw [List.length_drop]; omega)]
  congr 2
  rw [List.getElem_drop]
  congr 1
  omega
theorem cur_nil (l : List UInt8) (i : Nat) : cur l i i = [] := by simp [cur]
theorem cur_len (l : List UInt8) (f i : Nat) (h : f ≤ i) (hi : i ≤ l.length) : (cur l f i).length = i - f := by
  unfold cur
  rw [List.length_take, List.length_drop]
  omega
theorem ext_cur (s : ByteArray) (f i : Nat) : s.extract ((f : Int).toNat) ((i : Int).toNat) = ⟨(cur s.data.toList f i).toArray⟩ := by
  rw [Int.toNat_natCast, Int.toNat_natCast, Lib.extract_eq]
  rfl
def mkL (l : List UInt8) : ByteArray := ⟨l.toArray⟩
theorem mkL_list (l : List UInt8) : (mkL l).data.toList = l := rfl
theorem mkL_size (l : List UInt8) : (mkL l).size = l.length := by simp [mkL, ByteArray.size]

theorem ref_split_l (s : ByteArray) (c : UInt8) (hs : s.size ≤ 1000000) (d : Nat) : ∀ (k i f : Nat) (acc : List ByteArray), i + d = s.size → d < k → f ≤ i → c ∉ cur s.data.toList f i → acc.length ≤ i →
    postriderref04_Split.l0 k s (c.toNat : Int) acc (f : Int) (i : Int) = some (acc ++ (Sp.splitL c (s.data.toList.drop f)).map mkL) := by
  induction d with
  | zero =>
    intro k i f acc hi hk hf hc ha
    obtain ⟨k, rfl⟩ := kpos hk
    simp only [postriderref04_Split.l0]
    have hl := ba_len s
    have e : s.data.toList.drop f = cur s.data.toList f i := by
      rw [cur_split _ f i hf, drop_end s i (by omega), List.append_nil]
    have e2 : s.extract ((f : Int).toNat) s.size = mkL (s.data.toList.drop f) := by
      have h := ext_cur s f i
      rw [Int.toNat_natCast, Int.toNat_natCast] at h
      rw [Int.toNat_natCast, e, show s.size = i by omega]
      exact h
    rw [if_neg (by omega), if_pos (by omega), if_pos (by omega), if_pos (by omega), e2, e, split_free c _ hc]
    rfl
  | succ d ih =>
    intro k i f acc hi hk hf hc ha
    obtain ⟨k, rfl⟩ := kpos hk
    have hlt : i < s.size := by omega
    have hl := ba_len s
    simp only [postriderref04_Split.l0]
    rw [if_pos (by omega), if_pos (by omega), bt_nat s i hlt, w64s i (by omega)]
    by_cases hb : (s.data.toList[i]'(by simpa using hlt)) = c
    · rw [if_pos (by rw [hb]), if_pos (by omega), if_pos (by omega), if_pos (by omega), if_pos (by omega), ext_cur s f i,
        ih k (i + 1) (i + 1) _ (by omega) (by omega) (by omega) (by rw [cur_nil]; simp) (by simp; omega)]
      have e : s.data.toList.drop f = cur s.data.toList f i ++ c :: s.data.toList.drop (i + 1) := by
        rw [cur_split _ f i hf, drop_cons s i hlt, hb]
      rw [e, split_at c _ _ hc]
      simp [mkL]
    · have hn : ¬ (((s.data.toList[i]'(by simpa using hlt)).toNat : Int) = (c.toNat : Int)) := fun h => hb (UInt8.toNat_inj.1 (by omega))
      rw [if_neg hn, ih k (i + 1) f acc (by omega) (by omega) (by omega) ?_ (by omega)]
      rw [cur_snoc _ f i hf (by omega)]
      intro hm
      rcases List.mem_append.1 hm with h | h
      · exact hc h
      · exact hb (List.mem_singleton.1 h).symm
theorem ref_split (s : ByteArray) (c : UInt8) (hs : s.size ≤ 1000000) (k : Nat) (hk : s.size < k) : postriderref04_Split.f k s (c.toNat : Int) = some ((Sp.splitL c s.data.toList).map mkL) := by
  have h := ref_split_l s c hs s.size k 0 0 [] (by omega) hk (by omega) (by rw [cur_nil]; simp) (by simp)
  rw [List.drop_zero] at h
  exact h

def numFrom (n : Nat) (l : List UInt8) : Nat := l.foldl (fun n b => 10 * n + (b.toNat - 48)) n
theorem numFrom_cons (n : Nat) (b : UInt8) (l : List UInt8) : numFrom n (b :: l) = numFrom (10 * n + (b.toNat - 48)) l := by unfold numFrom; rw [List.foldl_cons]
theorem numFrom_zero (l : List UInt8) : numFrom 0 l = Sp.numL l := by unfold numFrom Sp.numL; rfl
set_option maxHeartbeats 2000000 in
theorem ref_num_l (s : ByteArray) (hs : s.size ≤ 3) (d : Nat) : ∀ (k i n : Nat), i + d = s.size → d < k → (i = 0 ∧ n = 0 ∨ i = 1 ∧ n ≤ 9 ∨ i = 2 ∧ n ≤ 99 ∨ 3 ≤ i) → postriderref04_Number.l0 k s (n : Int) (i : Int) = some (if (s.data.toList.drop i).all Sp.digitB then (((numFrom n (s.data.toList.drop i) : Nat) : Int), (0 : Int)) else (0, 5)) := by
  induction d with
  | zero =>
    intro k i n hi hk hn
    obtain ⟨k, rfl⟩ := kpos hk
    simp only [postriderref04_Number.l0]
    rw [if_neg (by omega), drop_end s i (by omega)]
    rfl
  | succ d ih =>
    intro k i n hi hk hn
    obtain ⟨k, rfl⟩ := kpos hk
    have hlt : i < s.size := by omega
    simp only [postriderref04_Number.l0]
    rw [if_pos (by omega), if_pos (by omega), bt_nat s i hlt, drop_cons s i hlt, w64s i (by omega)]
    have hb := (s.data.toList[i]'(by simpa using hlt)).toNat_lt
    generalize (s.data.toList[i]'(by simpa using hlt)) = b at hb ⊢
    have hall : ∀ r : List UInt8, (b :: r).all Sp.digitB = (Sp.digitB b && r.all Sp.digitB) := fun r => rfl
    rw [hall]
    by_cases h1 : (b.toNat : Int) < 48
    · have : Sp.digitB b = false := by unfold Sp.digitB; rw [decide_eq_false (by omega)]; rfl
      rw [if_pos h1, this]
      rfl
    · by_cases h2 : (b.toNat : Int) > 57
      · have : Sp.digitB b = false := by unfold Sp.digitB; rw [decide_eq_false (p := b.toNat ≤ 57) (by omega), Bool.and_false]
        rw [if_neg h1, if_pos h2, this]
        rfl
      · have hd : Sp.digitB b = true := by unfold Sp.digitB; rw [decide_eq_true (p := 48 ≤ b.toNat) (by omega), decide_eq_true (p := b.toNat ≤ 57) (by omega)]; rfl
        have hn2 : n ≤ 99 := by omega
        have hnum : wrap64 (wrap64 (10 * (n : Int)) + ((b.toNat : Int) - 48) % 256) = ((10 * n + (b.toNat - 48) : Nat) : Int) := by
          unfold wrap64
          omega
        rw [if_neg h1, if_neg h2, hnum, ih k (i + 1) _ (by omega) (by omega) (by omega), hd, numFrom_cons, Bool.true_and]
theorem ref_num (s : ByteArray) (k : Nat) (hk : 30 ≤ k) : postriderref04_Number.f k s 3 = some (if Sp.numOk s.data.toList 3 then (((Sp.numL s.data.toList : Nat) : Int), (0 : Int)) else (0, 5)) := by
  obtain ⟨k, rfl⟩ : ∃ m, k = m + 4 := ⟨k - 4, by omega⟩
  have hl := ba_len s
  unfold postriderref04_Number.f
  rw [if_neg (by decide)]
  simp only [postriderref04_Number.j0, postriderref04_Number.j1, postriderref04_Number.j2]
  rw [if_neg (by decide)]
  by_cases h0 : (s.size : Int) < 1
  · have e : s.data.toList = [] := List.length_eq_zero_iff.1 (by omega)
    rw [if_pos h0, e]
    rfl
  · rw [if_neg h0]
    by_cases h3 : (s.size : Int) > 3
    · have : Sp.numOk s.data.toList 3 = false := by
        unfold Sp.numOk
        rw [decide_eq_false (p := (s.data.toList.length : Int) ≤ 3) (by omega), Bool.and_false, Bool.false_and]
      rw [decide_eq_true h3, this]
      rfl
    · have he : s.data.toList.isEmpty = false := by
        cases h : s.data.toList with
        | nil => rw [h] at hl; simp only [List.length_nil] at hl; omega
        | cons b r => rfl
      have h := ref_num_l s (by omega) s.size (k + 1) 0 0 (by omega) (by omega) (.inl ⟨rfl, rfl⟩)
      rw [List.drop_zero, numFrom_zero] at h
      have e3 : Sp.numOk s.data.toList 3 = s.data.toList.all Sp.digitB := by
        unfold Sp.numOk
        rw [he, decide_eq_true (p := (s.data.toList.length : Int) ≤ 3) (by omega)]
        simp only [Bool.not_false, Bool.true_and]
      rw [decide_eq_false h3, if_neg (by simp), e3]
      exact h
end Go.Proofs.YtmhcdigneamgdaaGreatDoor.G

/- Plain: what the reference's functions of layer 5 compute (domains, addresses), over lists of bytes; both texts of a path are the same. -/
namespace Go.Proofs.YtmhcdigneamgdaaGreatDoor.G
open Go.RowKit Go.Proofs.YtmhcdigneamgdaaGreatDoorW.PrintWords Go.Proofs.YtmhcdigneamgdaaGreatDoorW.PrintMore Go.Proofs.YtmhcdigneamgdaaGreatDoor.Qa Go.Proofs.YtmhcdigneamgdaaGreatDoor.Qb
set_option linter.unusedVariables false
set_option linter.unusedSimpArgs false

def dig (d : Fin 10) : UInt8 := UInt8.ofNat (48 + d.1)
theorem dig_of (b : UInt8) (h : Sp.digitB b = true) : ∃ d, b = dig d := by
  unfold Sp.digitB at h
  simp only [Bool.and_eq_true, decide_eq_true_eq] at h
  refine ⟨⟨b.toNat - 48, by omega⟩, ?_⟩
  unfold dig
  apply UInt8.toNat_inj.1
  simp only [UInt8.toNat_ofNat']
  omega
theorem oct1 : ∀ a : Fin 10, (Lib.itoa (Sp.numL [dig a] : Nat) == [dig a]) = true := by decide +kernel
theorem oct2 : ∀ a b : Fin 10, (Lib.itoa (Sp.numL [dig a, dig b] : Nat) == [dig a, dig b]) = !(dig a == 48) := by decide +kernel
theorem oct3 : ∀ a b c : Fin 10, (Lib.itoa (Sp.numL [dig a, dig b, dig c] : Nat) == [dig a, dig b, dig c]) = !(dig a == 48) := by decide +kernel
theorem oct_eq (p : List UInt8) (h : Sp.numOk p 3 = true) : (Lib.itoa (Sp.numL p : Nat) == p) = !(decide (p.length > 1) && p.headD 0 == 48) := by
  unfold Sp.numOk at h
  simp only [Bool.and_eq_true, decide_eq_true_eq, List.all_eq_true] at h
  obtain ⟨⟨h1, h2⟩, h3⟩ := h
  match p, h1, h2, h3 with
  | [a], _, _, h3 =>
    obtain ⟨a, rfl⟩ := dig_of a (h3 _ (by simp))
    rw [oct1]
    rfl
  | [a, b], _, _, h3 =>
    obtain ⟨a, rfl⟩ := dig_of a (h3 _ (by simp))
    obtain ⟨b, rfl⟩ := dig_of b (h3 _ (by simp))
    rw [oct2]
    rfl
  | [a, b, c], _, _, h3 =>
    obtain ⟨a, rfl⟩ := dig_of a (h3 _ (by simp))
    obtain ⟨b, rfl⟩ := dig_of b (h3 _ (by simp))
    obtain ⟨c, rfl⟩ := dig_of c (h3 _ (by simp))
    rw [oct3]
    rfl
  | a :: b :: c :: d :: r, _, h2, _ => simp only [List.length_cons] at h2; omega
theorem bt_head (b : UInt8) (r : List UInt8) : bt (mkL (b :: r)) 0 = (b.toNat : Int) := by
  have h := bt_nat (mkL (b :: r)) 0 (by rw [mkL_size]; simp)
  exact h
theorem rd_map (L : List (List UInt8)) (i : Nat) (h : i < L.length) : rdOf ByteArray.empty (L.map mkL) (i : Int) = mkL L[i] := by
  unfold rdOf
  simp [List.getD_eq_getElem?_getD, h]
theorem ref_lit_l (L : List (List UInt8)) (h4 : L.length = 4) (d : Nat) : ∀ (k i : Nat), i + d = 4 → d + 40 < k → postriderref05_literal.l0 k (L.map mkL) (i : Int) = some ((L.drop i).all Sp.octetL) := by
  induction d with
  | zero =>
    intro k i hi hk
    obtain ⟨k, rfl⟩ := kpos hk
    simp only [postriderref05_literal.l0]
    rw [if_neg (by omega), List.drop_eq_nil_of_le (by omega)]
    rfl
  | succ d ih =>
    intro k i hi hk
    obtain ⟨k, rfl⟩ := kpos hk
    have hlt : i < L.length := by omega
    have hln : ((L.map mkL).length : Int) = 4 := by simp [h4]
    simp only [postriderref05_literal.l0]
    rw [if_pos (by omega), if_pos (by omega), if_pos (by omega), rd_map L i hlt, ref_num _ k (by omega), mkL_list, mkL_size, w64s i (by omega), ih k (i + 1) (by omega) (by omega),
      show (L.drop i) = L[i] :: L.drop (i + 1) from List.drop_eq_getElem_cons hlt]
    generalize L[i] = p
    simp only [Option.bind_some, List.all_cons]
    cases hok : Sp.numOk p 3 with
    | false =>
      have : Sp.octetL p = false := by unfold Sp.octetL; rw [hok]; rfl
      rw [this]
      rfl
    | true =>
      have ho : Sp.octetL p = (decide (Sp.numL p < 256) && !(decide (p.length > 1) && p.headD 0 == 48)) := by
        unfold Sp.octetL
        rw [hok, oct_eq p hok, Bool.true_and]
      rw [if_pos rfl]
      dsimp only
      rw [if_pos rfl, ho]
      by_cases hn : Sp.numL p < 256
      · rw [if_neg (by omega), decide_eq_true hn]
        by_cases hl : p.length > 1
        · match p, hl with
          | b :: r, hl =>
            rw [if_pos (by omega), if_pos (by omega), bt_head, decide_eq_true hl]
            by_cases hb : b = 48
            · subst hb
              rw [if_pos (by decide)]
              rfl
            · have hn : ¬ ((b.toNat : Int) = 48) := fun h => hb (UInt8.toNat_inj.1 (by show b.toNat = 48; omega))
              have hb2 : ((b :: r).headD 0 == 48) = false := by
                show (b == 48) = false
                exact beq_false_of_ne hb
              rw [if_neg hn, hb2]
              simp
        · rw [if_neg (by omega), decide_eq_false hl]
          simp
      · rw [if_pos (by omega), decide_eq_false hn]
        simp

theorem ref_lett1 : ∀ n : Fin 256, postriderref05_letter.f ((UInt8.ofNat n.1).toNat : Int) = some (Sp.hosts.contains (UInt8.ofNat n.1) && !(UInt8.ofNat n.1 == 45)) := by decide +kernel
theorem ref_lett (b : UInt8) : postriderref05_letter.f (b.toNat : Int) = some (Sp.hosts.contains b && !(b == 45)) := by
  have h := ref_lett1 ⟨b.toNat, b.toNat_lt⟩
  simpa only [UInt8.ofNat_toNat] using h

def fin (long : Bool) (ps : List (List UInt8)) : Int := if ps.all Sp.labelL then (if long = true ∨ ps.all (fun p => decide (p.length ≤ 63)) = false then 3 else 0) else 5
theorem ite_cong {a b : Prop} [Decidable a] [Decidable b] {x y : Int} (h : a ↔ b) : (if a then x else y) = if b then x else y := by
  by_cases ha : a
  · rw [if_pos ha, if_pos (h.1 ha)]
  · rw [if_neg ha, if_neg (fun hb => ha (h.2 hb))]
theorem fin_cons (long : Bool) (p : List UInt8) (ps : List (List UInt8)) : fin long (p :: ps) = if Sp.labelL p then fin (long || decide (p.length > 63)) ps else 5 := by
  unfold fin
  have hall : (p :: ps).all Sp.labelL = (Sp.labelL p && ps.all Sp.labelL) := rfl
  by_cases hp : Sp.labelL p = true
  · rw [if_pos hp]
    by_cases hq : ps.all Sp.labelL = true
    · have ha : (p :: ps).all Sp.labelL = true := by rw [hall, hp, hq]; rfl
      rw [if_pos ha, if_pos hq]
      have hiff : (long = true ∨ (p :: ps).all (fun p => decide (p.length ≤ 63)) = false) ↔ ((long || decide (p.length > 63)) = true ∨ ps.all (fun p => decide (p.length ≤ 63)) = false) := by
        by_cases h : p.length ≤ 63
        · have h2 : ¬ 63 < p.length := by omega
          simp [List.all_cons, h, h2]
        · have h2 : 63 < p.length := by omega
          simp [h, h2]
      exact ite_cong hiff
    · have ha : ¬ (p :: ps).all Sp.labelL = true := by rw [hall, hp, Bool.true_and]; exact hq
      rw [if_neg ha, if_neg hq]
  · have hp2 : Sp.labelL p = false := by simpa using hp
    have ha : ¬ (p :: ps).all Sp.labelL = true := by rw [hall, hp2, Bool.false_and]; simp
    rw [if_neg hp, if_neg ha]
theorem fin_nil (long : Bool) : fin long [] = if long then 3 else 0 := by
  unfold fin
  cases long <;> rfl
theorem not46 (p : List UInt8) (h : p.all (Sp.hosts.contains ·) = true) : (46 : UInt8) ∉ p := fun hm => by
  have := List.all_eq_true.1 h 46 hm
  revert this
  decide
theorem cur_get0 (l : List UInt8) (f i : Nat) (h : f < i) (hi : i ≤ l.length) : (cur l f i).headD 0 = l[f]'(by omega) := by
  unfold cur
  rw [List.drop_eq_getElem_cons (by omega), show i - f = (i - f - 1) + 1 by omega, List.take_succ_cons]
  rfl
theorem cur_last (l : List UInt8) (f i : Nat) (h : f < i) (hi : i ≤ l.length) : (cur l f i).getLastD 0 = l[i - 1]'(by omega) := by
  obtain ⟨j, rfl⟩ : ∃ j, i = j + 1 := ⟨i - 1, by omega⟩
  rw [cur_snoc l f j (by omega) (by omega)]
  simp
theorem label_cur (l : List UInt8) (f i : Nat) (h : f < i) (hi : i ≤ l.length) (ha : (cur l f i).all (Sp.hosts.contains ·) = true) : Sp.labelL (cur l f i) = (!(l[f]'(by omega) == 45) && !(l[i - 1]'(by omega) == 45)) := by
  unfold Sp.labelL
  rw [ha, cur_get0 l f i h hi, cur_last l f i h hi]
  have he : (cur l f i).isEmpty = false := by
    cases hc : cur l f i with
    | nil => have := cur_len l f i (by omega) hi; rw [hc] at this; simp only [List.length_nil] at this; omega
    | cons b r => rfl
  rw [he]
  simp
theorem eq45 (b : UInt8) : ((b.toNat : Int) = 45) ↔ b = 45 := ⟨fun h => UInt8.toNat_inj.1 (by show b.toNat = 45; omega), fun h => by subst h; rfl⟩
/-- At the end of a label. -/
theorem dom_end (s : ByteArray) (hs : s.size ≤ 1000000) (k f i : Nat) (long : Bool) (NX : Bool → Int) (hf : f ≤ i) (hi : i ≤ s.size) (ha : (cur s.data.toList f i).all (Sp.hosts.contains ·) = true)
    (hn : ∀ lg, postriderref05_Domain.l0 k s lg ((i + 1 : Nat) : Int) ((i + 1 : Nat) : Int) = some (NX lg)) :
    postriderref05_Domain.j2 (k + 2) s long (f : Int) (i : Int) false = some (if Sp.labelL (cur s.data.toList f i) then NX (long || decide ((cur s.data.toList f i).length > 63)) else 5) := by
  have hl := ba_len s
  have hj3 : ∀ b, postriderref05_Domain.j3 (k + 1) s long (f : Int) (i : Int) b = some (if b then 5 else NX (long || decide ((cur s.data.toList f i).length > 63))) := fun b => by
    simp only [postriderref05_Domain.j3]
    cases b with
    | true => rfl
    | false =>
      have hw : wrap64 ((i : Int) - (f : Int)) = ((i - f : Nat) : Int) := by unfold wrap64; omega
      rw [if_neg (by simp), hw, w64s i (by omega), cur_len _ f i hf (by omega)]
      by_cases h : i - f > 63
      · rw [if_pos (by omega), hn, decide_eq_true h, Bool.or_true]; rfl
      · rw [if_neg (by omega), hn, decide_eq_false h, Bool.or_false]; rfl
  simp only [postriderref05_Domain.j2]
  rw [if_neg (by simp)]
  by_cases he : i = f
  · subst he
    rw [if_pos rfl, hj3, cur_nil]
    rfl
  · have hlt : f < i := by omega
    rw [if_neg (by omega), if_pos (by omega), if_pos (by omega), bt_nat s f (by omega), label_cur _ f i hlt (by omega) ha]
    have hw : wrap64 ((i : Int) - 1) = ((i - 1 : Nat) : Int) := by unfold wrap64; omega
    by_cases h1 : (s.data.toList[f]'(by omega)) = 45
    · rw [if_pos ((eq45 _).2 h1), hj3, h1]
      rfl
    · rw [if_neg (fun h => h1 ((eq45 _).1 h)), hw, if_pos (by omega), if_pos (by omega), bt_nat s (i - 1) (by omega), hj3]
      have e1 : ((s.data.toList[f]'(by omega)) == 45) = false := beq_false_of_ne h1
      rw [e1]
      by_cases h2 : (s.data.toList[i - 1]'(by omega)) = 45
      · have e2 : ((s.data.toList[i - 1]'(by omega)) == 45) = true := by rw [h2]; rfl
        have e3 : ((((s.data.toList[i - 1]'(by omega)).toNat : Int)) == 45) = true := by rw [h2]; rfl
        rw [e2, e3]
        rfl
      · have e2 : ((s.data.toList[i - 1]'(by omega)) == 45) = false := beq_false_of_ne h2
        have e3 : ((((s.data.toList[i - 1]'(by omega)).toNat : Int)) == 45) = false := beq_false_of_ne (fun h => h2 ((eq45 _).1 h))
        rw [e2, e3]
        rfl
theorem ref_dom_l (s : ByteArray) (hs : s.size ≤ 1000000) (d : Nat) : ∀ (k i f : Nat) (long : Bool), i + d = s.size → 3 * d + 10 < k → f ≤ i → (cur s.data.toList f i).all (Sp.hosts.contains ·) = true →
    postriderref05_Domain.l0 k s long (f : Int) (i : Int) = some (fin long (Sp.splitL 46 (s.data.toList.drop f))) := by
  have hl := ba_len s
  induction d with
  | zero =>
    intro k i f long hi hk hf ha
    obtain ⟨k, rfl⟩ : ∃ m, k = m + 4 := ⟨k - 4, by omega⟩
    have e : s.data.toList.drop f = cur s.data.toList f i := by rw [cur_split _ f i hf, drop_end s i (by omega), List.append_nil]
    have hnx : ∀ lg, postriderref05_Domain.l0 (k + 1) s lg ((i + 1 : Nat) : Int) ((i + 1 : Nat) : Int) = some (if lg then 3 else 0) := fun lg => by
      simp only [postriderref05_Domain.l0]
      rw [if_neg (by omega)]
      cases lg <;> rfl
    have h := dom_end s hs (k + 1) f i long _ hf (by omega) ha hnx
    rw [postriderref05_Domain.l0]
    rw [if_pos (by omega), if_neg (by omega), h, e, split_free 46 _ (not46 _ ha), fin_cons, fin_nil]
  | succ d ih =>
    intro k i f long hi hk hf ha
    obtain ⟨k, rfl⟩ : ∃ m, k = m + 3 := ⟨k - 3, by omega⟩
    have hlt : i < s.size := by omega
    rw [postriderref05_Domain.l0]
    rw [if_pos (by omega), if_pos (by omega), if_pos (by omega), bt_nat s i hlt]
    have hsp : s.data.toList.drop f = cur s.data.toList f i ++ (s.data.toList[i]'(by omega)) :: s.data.toList.drop (i + 1) := by
      rw [cur_split _ f i hf, drop_cons s i hlt]
    by_cases hb : (s.data.toList[i]'(by omega)) = 46
    · have e1 : ((((s.data.toList[i]'(by omega)).toNat : Int)) != 46) = false := by rw [hb]; rfl
      have hnx : ∀ lg, postriderref05_Domain.l0 k s lg ((i + 1 : Nat) : Int) ((i + 1 : Nat) : Int) = some (fin lg (Sp.splitL 46 (s.data.toList.drop (i + 1)))) := fun lg =>
        ih k (i + 1) (i + 1) lg (by omega) (by omega) (by omega) (by rw [cur_nil]; rfl)
      have h := dom_end s hs k f i long _ hf (by omega) ha hnx
      rw [e1, h, hsp, hb, split_at 46 _ _ (not46 _ ha), fin_cons]
    · have e1 : ((((s.data.toList[i]'(by omega)).toNat : Int)) != 46) = true := by
        rw [bne_iff_ne]
        intro h
        exact hb (UInt8.toNat_inj.1 (by show (s.data.toList[i]'(by omega)).toNat = 46; omega))
      rw [e1, postriderref05_Domain.j2]
      rw [if_pos rfl, if_pos (by omega), if_pos (by omega), bt_nat s i hlt, ref_lett, w64s i (by omega)]
      have hsn := cur_snoc s.data.toList f i hf (by omega)
      generalize hbb : (s.data.toList[i]'(by omega)) = b at hsp hb hsn ⊢
      simp only [Option.bind_some]
      cases hh : Sp.hosts.contains b with
      | true =>
        have hnext := ih (k + 1) (i + 1) f long (by omega) (by omega) (by omega) (by rw [hsn, List.all_append, ha]; simp only [List.all_cons, List.all_nil, hh]; rfl)
        by_cases h45 : b = 45
        · rw [h45]
          rw [if_neg (by decide), if_pos (by decide)]
          exact hnext
        · have : (b == 45) = false := beq_false_of_ne h45
          rw [this, if_pos (by decide)]
          exact hnext
      | false =>
        have h45 : ¬ ((b.toNat : Int) = 45) := fun h => by
          rw [(eq45 b).1 h] at hh
          revert hh
          decide
        rw [if_neg (by simp), if_neg h45]
        obtain ⟨q, qs, h1, h2⟩ := split_pre 46 (cur s.data.toList f i ++ [b]) (s.data.toList.drop (i + 1)) (by
          intro hm
          rcases List.mem_append.1 hm with h | h
          · exact not46 _ ha h
          · exact hb (List.mem_singleton.1 h).symm)
        have h3 : s.data.toList.drop f = (cur s.data.toList f i ++ [b]) ++ s.data.toList.drop (i + 1) := by rw [hsp]; simp
        rw [h3, h2, fin_cons]
        have hlab : Sp.labelL (cur s.data.toList f i ++ [b] ++ q) = false := by
          unfold Sp.labelL
          have : (cur s.data.toList f i ++ [b] ++ q).all (Sp.hosts.contains ·) = false := by
            rw [List.all_append, List.all_append]
            simp only [List.all_cons, hh, Bool.false_and, Bool.and_false]
          rw [this]
          simp
        rw [hlab]
        rfl
theorem ext_mid (s : ByteArray) (b : UInt8) (m : List UInt8) (h : s.data.toList = b :: m) (hm : m ≠ []) : s.extract 1 (((s.size - 1 : Nat) : Int).toNat) = mkL m.dropLast := by
  have hl := ba_len s
  rw [h, List.length_cons] at hl
  rw [Int.toNat_natCast, Lib.extract_eq, h]
  unfold mkL
  rw [List.drop_succ_cons, List.drop_zero, List.dropLast_eq_take, show s.size - 1 - 1 = m.length - 1 by omega]
theorem ref_lit (s : ByteArray) (hs : s.size ≤ 1000000) (k : Nat) (hk : s.size + 60 < k) (m : List UInt8) (h : s.data.toList = 91 :: m) :
    postriderref05_literal.f k s = some (decide (m.getLast? = some 93) && (decide (m.dropLast.count 46 = 3) && (Sp.splitL 46 m.dropLast).all Sp.octetL)) := by
  have hl := ba_len s
  have hl2 : s.size = m.length + 1 := by rw [h, List.length_cons] at hl; omega
  obtain ⟨k, rfl⟩ : ∃ j, k = j + 1 := ⟨k - 1, by omega⟩
  unfold postriderref05_literal.f
  cases hm : m with
  | nil =>
    rw [hm] at hl2
    rw [if_pos (by simp only [List.length_nil] at hl2; omega)]
    rfl
  | cons c r =>
    rw [← hm]
    have hne : m ≠ [] := by rw [hm]; simp
    have hmp : 0 < m.length := List.length_pos_iff.2 hne
    have h0 : bt s 0 = 91 := by
      have e := bt_nat s 0 (by omega)
      have e2 : (s.data.toList[0]'(by omega)) = 91 := by simp only [h, List.getElem_cons_zero]
      rw [e2] at e
      exact e
    have hw : wrap64 ((s.size : Int) - 1) = ((s.size - 1 : Nat) : Int) := by unfold wrap64; omega
    have hlast : (s.data.toList[s.size - 1]'(by omega)) = m.getLast hne := by
      rw [List.getLast_eq_getElem]
      simp only [h]
      rw [List.getElem_cons]
      rw [dif_neg (by omega)]
      congr 1
      omega
    rw [if_neg (by omega), if_pos (by omega), if_pos h0, hw, if_pos (by omega), if_pos (by omega), bt_nat s (s.size - 1) (by omega), hlast]
    simp only [postriderref05_literal.j0]
    rw [List.getLast?_eq_some_getLast hne]
    by_cases h93 : m.getLast hne = 93
    · rw [h93]
      rw [if_neg (by decide), hw, if_pos (by omega), if_pos (by omega), ext_mid s 91 m h hne]
      have hsp := ref_split (mkL m.dropLast) 46 (by rw [mkL_size, List.length_dropLast]; omega) k (by rw [mkL_size, List.length_dropLast]; omega)
      rw [mkL_list] at hsp
      rw [show ((46 : Int)) = (((46 : UInt8).toNat : Nat) : Int) from rfl, hsp]
      simp only [Option.bind_some, decide_true, Bool.true_and]
      have hc := split_count 46 m.dropLast
      by_cases h3 : m.dropLast.count 46 = 3
      · have hlit := ref_lit_l (Sp.splitL 46 m.dropLast) (by omega) 4 k 0 (by omega) (by omega)
        rw [List.drop_zero] at hlit
        rw [if_pos (by rw [List.length_map]; omega), decide_eq_true h3, Bool.true_and]
        exact hlit
      · rw [if_neg (by rw [List.length_map]; omega), decide_eq_false h3, Bool.false_and]
    · have e1 : (((m.getLast hne).toNat : Int) != 93) = true := by
        rw [bne_iff_ne]
        intro e
        exact h93 (UInt8.toNat_inj.1 (by show (m.getLast hne).toNat = 93; omega))
      rw [e1, if_pos rfl, decide_eq_false (by simpa using h93), Bool.false_and]
theorem ref_dom (s : ByteArray) (hs : s.size ≤ 1000000) (k : Nat) (hk : 3 * s.size + 100 < k) : postriderref05_Domain.f k s = some (Sp.domL s.data.toList) := by
  have hl := ba_len s
  obtain ⟨k, rfl⟩ : ∃ j, k = j + 1 := ⟨k - 1, by omega⟩
  unfold postriderref05_Domain.f
  have hplain : (∀ m, s.data.toList ≠ 91 :: m) → postriderref05_Domain.j0 (k + 1) s false = some (Sp.domL s.data.toList) := fun hn => by
    simp only [postriderref05_Domain.j0]
    have h := ref_dom_l s hs s.size k 0 0 (decide ((s.size : Int) > 255)) (by omega) (by omega) (by omega) (by rw [cur_nil]; rfl)
    rw [List.drop_zero] at h
    rw [if_neg (by simp)]
    refine h.trans (congrArg some ?_)
    unfold Sp.domL
    split
    · rename_i m hm
      exact absurd hm (hn m)
    · unfold fin
      by_cases ha : (Sp.splitL 46 s.data.toList).all Sp.labelL = true
      · rw [if_pos ha, if_pos ha]
        have : (decide ((s.size : Int) > 255) = true) ↔ s.data.toList.length > 255 := by rw [decide_eq_true_iff]; omega
        simp only [this]
      · rw [if_neg ha, if_neg ha]
  cases hd : s.data.toList with
  | nil =>
    rw [hd] at hl
    rw [if_neg (by simp only [List.length_nil] at hl; omega), ← hd]
    exact hplain (fun m => by rw [hd]; simp)
  | cons b m =>
    have hpos : 0 < s.size := by rw [hd, List.length_cons] at hl; omega
    have h0 : bt s 0 = (b.toNat : Int) := by
      have e := bt_nat s 0 hpos
      have e2 : (s.data.toList[0]'(by omega)) = b := by simp only [hd, List.getElem_cons_zero]
      rw [e2] at e
      exact e
    rw [if_pos (by omega), if_pos (by omega), h0, ← hd]
    by_cases hb : b = 91
    · subst hb
      have e1 : ((((91 : UInt8).toNat : Int)) == 91) = true := rfl
      rw [e1, postriderref05_Domain.j0, if_pos rfl, ref_lit s hs k (by omega) m hd, hd]
      simp only [Option.bind_some, Sp.domL]
      by_cases h1 : m.getLast? = some 93
      · rw [if_pos h1, decide_eq_true h1, Bool.true_and]
        by_cases h2 : m.dropLast.count 46 = 3
        · rw [decide_eq_true h2, Bool.true_and]
          cases h3 : (Sp.splitL 46 m.dropLast).all Sp.octetL with
          | true => rw [if_pos rfl, if_pos ⟨h2, rfl⟩]
          | false => rw [if_neg (by simp), if_neg (fun h => by cases h.2)]
        · rw [decide_eq_false h2, Bool.false_and, if_neg (by simp), if_neg (fun h => h2 h.1)]
      · rw [if_neg h1, decide_eq_false h1, Bool.false_and, if_neg (by simp)]
    · have e1 : (((b.toNat : Int)) == 91) = false := beq_false_of_ne (fun e => hb (UInt8.toNat_inj.1 (by show b.toNat = 91; omega)))
      rw [e1]
      exact hplain (fun m' => by rw [hd]; intro h; exact hb (List.cons.inj h).1)
end Go.Proofs.YtmhcdigneamgdaaGreatDoor.G

/- Plain: both texts of a path are the same. -/
namespace Go.Proofs.YtmhcdigneamgdaaGreatDoor.G
open Go.RowKit Go.Proofs.YtmhcdigneamgdaaGreatDoorW.PrintWords Go.Proofs.YtmhcdigneamgdaaGreatDoorW.PrintMore Go.Proofs.YtmhcdigneamgdaaGreatDoor.Qa Go.Proofs.YtmhcdigneamgdaaGreatDoor.Qb
set_option linter.unusedVariables false
set_option linter.unusedSimpArgs false
/-- Whether an address may be. -/
def mayL (s t : List UInt8) : Bool := decide (1 ≤ s.length) && decide (s.length ≤ 64) && Sp.plainL s && (Sp.domL t == 0)
def textL (s t : List UInt8) : List UInt8 := if mayL s t then (if Sp.dotAtomL s then s else Sp.quoteL s) ++ [64] ++ t else []
theorem may_prog (s t : ByteArray) (ht : t.size ≤ 1000000) : addr_May.f s t = some (mayL s.data.toList t.data.toList) := by
  have hl := ba_len s
  unfold addr_May.f mayL
  have e0 : s.toList = s.data.toList := ByteArray.toList_eq s
  rw [e0]
  by_cases h0 : s.data.toList = []
  · rw [if_pos h0, h0]
    rfl
  · have hp : 0 < s.data.toList.length := List.length_pos_iff.2 h0
    rw [if_neg h0, decide_eq_true (p := 1 ≤ s.data.toList.length) (by omega), Bool.true_and]
    by_cases h1 : (s.size : Int) ≤ 64
    · rw [if_pos h1, decide_eq_true (p := s.data.toList.length ≤ 64) (by omega), Bool.true_and]
      unfold text_Plain.f
      simp only [Option.bind_some]
      cases Sp.plainL s.data.toList with
      | false => rfl
      | true =>
        rw [if_pos rfl]
        unfold addr_MayDomain.f addr_domain.f
        rw [if_pos (by omega)]
        rfl
    · rw [if_neg h1, decide_eq_false (p := s.data.toList.length ≤ 64) (by omega)]
      rfl
theorem may_ref (s t : ByteArray) (hs : s.size ≤ 1000000) (ht : t.size ≤ 1000000) (k : Nat) (hk : s.size + 3 * t.size + 200 < k) : postriderref05_May.f k s t = some (mayL s.data.toList t.data.toList) := by
  have hl := ba_len s
  unfold postriderref05_May.f mayL
  by_cases h0 : (s.size : Int) ≥ 1
  · rw [if_pos h0, decide_eq_true (p := 1 ≤ s.data.toList.length) (by omega), Bool.true_and]
    by_cases h1 : (s.size : Int) ≤ 64
    · rw [if_pos h1, decide_eq_true (p := s.data.toList.length ≤ 64) (by omega), Bool.true_and, ref_plain s hs k (by omega)]
      simp only [Option.bind_some]
      cases Sp.plainL s.data.toList with
      | false => rfl
      | true => rw [if_pos rfl, ref_dom t ht k (by omega)]; rfl
    · rw [if_neg h1, decide_eq_false (p := s.data.toList.length ≤ 64) (by omega)]
      rfl
  · rw [if_neg h0, decide_eq_false (p := 1 ≤ s.data.toList.length) (by omega)]
    rfl
theorem mkL_eq (s : ByteArray) : s = mkL s.data.toList := by
  unfold mkL
  exact (Lib.mk_data s).symm
theorem app_mk (a b : ByteArray) : a ++ b = mkL (a.data.toList ++ b.data.toList) := by
  apply ByteArray.ext
  rw [ByteArray.data_append]
  apply Array.ext'
  simp [mkL]
theorem quote_len (l : List UInt8) : (Sp.quoteL l).length ≤ 2 * l.length + 2 := by
  unfold Sp.quoteL
  have : (l.flatMap fun b => if b = 34 ∨ b = 92 then [92, b] else [b]).length ≤ 2 * l.length := by
    induction l with
    | nil => simp
    | cons b r ih =>
      rw [List.flatMap_cons, List.length_append, List.length_cons]
      have : (if b = 34 ∨ b = 92 then [92, b] else [b]).length ≤ 2 := by split <;> simp
      omega
  simp only [List.length_cons, List.length_append, List.length_nil]
  omega
theorem text_prog (s t : ByteArray) (hs : s.size ≤ 1000000) (ht : t.size ≤ 1000000) : addr_Text.f s t = some (mkL (textL s.data.toList t.data.toList)) := by
  unfold addr_Text.f textL
  rw [may_prog s t ht]
  simp only [Option.bind_some]
  cases hm : mayL s.data.toList t.data.toList with
  | false => rfl
  | true =>
    have hpl : Sp.plainL s.data.toList = true := by
      unfold mayL at hm
      simp only [Bool.and_eq_true] at hm
      exact hm.1.2
    rw [if_pos rfl, if_pos rfl]
    unfold text_DotAtom.f
    rw [if_pos (by omega)]
    simp only [Option.bind_some]
    cases Sp.dotAtomL s.data.toList with
    | true =>
      rw [if_pos rfl, if_pos rfl, if_pos (by omega), if_pos (by rw [ByteArray.size_append]; show s.size + 1 + t.size ≤ _; omega), app_mk, app_mk s]
      rfl
    | false =>
      rw [if_neg (by simp), if_neg (by simp)]
      unfold text_Quote.f
      rw [if_pos (by omega), hpl]
      simp only [Option.bind_some, if_true]
      have hq := quote_len s.data.toList
      have hl := ba_len s
      have hz : (⟨(Sp.quoteL s.data.toList).toArray⟩ : ByteArray).size = (Sp.quoteL s.data.toList).length := mkL_size _
      rw [if_pos (by omega), if_pos (by rw [ByteArray.size_append, hz]; show _ + 1 + t.size ≤ _; omega), app_mk, app_mk ⟨(Sp.quoteL s.data.toList).toArray⟩]
      rfl
theorem text_ref (s t : ByteArray) (hs : s.size ≤ 1000000) (ht : t.size ≤ 1000000) (k : Nat) (hk : s.size + 3 * t.size + 200 < k) : postriderref05_Text.f k s t = some (mkL (textL s.data.toList t.data.toList)) := by
  unfold postriderref05_Text.f textL
  rw [may_ref s t hs ht k hk]
  simp only [Option.bind_some]
  cases hm : mayL s.data.toList t.data.toList with
  | false => rfl
  | true =>
    have hpl : Sp.plainL s.data.toList = true := by
      unfold mayL at hm
      simp only [Bool.and_eq_true] at hm
      exact hm.1.2
    rw [if_pos rfl, if_pos rfl, ref_dot s hs k (by omega)]
    simp only [Option.bind_some]
    cases Sp.dotAtomL s.data.toList with
    | true =>
      rw [if_pos rfl, if_pos rfl, if_pos (by omega), if_pos (by rw [ByteArray.size_append]; show s.size + 1 + t.size ≤ _; omega), app_mk, app_mk s]
      rfl
    | false =>
      rw [if_neg (by simp), if_neg (by simp), ref_quote s hs k (by omega), hpl]
      simp only [Option.bind_some, if_true]
      have hq := quote_len s.data.toList
      have hl := ba_len s
      have hz : (⟨(Sp.quoteL s.data.toList).toArray⟩ : ByteArray).size = (Sp.quoteL s.data.toList).length := mkL_size _
      rw [if_pos (by omega), if_pos (by rw [ByteArray.size_append, hz]; show _ + 1 + t.size ≤ _; omega), app_mk, app_mk ⟨(Sp.quoteL s.data.toList).toArray⟩]
      rfl
theorem text_len (s t : List UInt8) : (textL s t).length ≤ 2 * s.length + t.length + 3 := by
  unfold textL
  have := quote_len s
  split
  · split <;> simp only [List.length_append, List.length_cons, List.length_nil] <;> omega
  · simp
theorem pure_tells (a b : Bool) (l : List ByteArray) (s t : ByteArray) (hs : s.size ≤ 300) (ht : t.size ≤ 300) : ∃ k r, path_Path_Text.f a b l s t = some r ∧ postriderref06_Text.f k a b l s t = some r := by
  unfold path_Path_Text.f postriderref06_Text.f
  by_cases ha : a = true
  · exact ⟨0, _, if_pos ha, if_pos ha⟩
  · rw [if_neg ha]
    by_cases hb : b = true
    · exact ⟨0, _, if_pos hb, by rw [if_neg ha, if_pos hb]⟩
    · refine ⟨3000, ?_⟩
      rw [if_neg ha, if_neg hb, if_neg hb, may_prog s t (by omega), may_ref s t (by omega) (by omega) 3000 (by omega)]
      simp only [Option.bind_some]
      cases hm : mayL s.data.toList t.data.toList with
      | false => exact ⟨_, rfl, rfl⟩
      | true =>
        rw [if_pos rfl, if_pos rfl, text_prog s t (by omega) (by omega), text_ref s t (by omega) (by omega) 3000 (by omega)]
        simp only [Option.bind_some]
        have hl := ba_len s
        have hl2 := ba_len t
        have hz := mkL_size (textL s.data.toList t.data.toList)
        have hq := text_len s.data.toList t.data.toList
        have hsum : ((⟨#[60]⟩ : ByteArray) ++ mkL (textL s.data.toList t.data.toList)).size + 1 ≤ 9223372036854775807 := by
          rw [ByteArray.size_append, hz]
          show 1 + _ + 1 ≤ _
          omega
        rw [if_pos (by omega), if_pos hsum]
        exact ⟨_, rfl, rfl⟩
end Go.Proofs.YtmhcdigneamgdaaGreatDoor.G
