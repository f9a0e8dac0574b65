/- PathTells: for any path, both texts of it are the same, and the chapter's rows hold. No condition beyond the row's own. -/
import Derived.Test.YtmhcdigneamgdaaGreatDoorT0
import Derived.Test.YtmhcdigneamgdaaGreatDoorCards
import Derived.Test.YtmhcdigneamgdaaGreatDoorTie
import Derived.ProofKit
import Derived.LaidMore
import Derived.OpenShut
import Derived.Stop.Joined
import Derived.Deep.DeepHandedRow
import Derived.Lib.LaidTab
import Derived.Lay
import Derived.Shelf.Vars
import Derived.Laws.IdiomMaps
import Derived.SliceStrings
import Derived.Test.YtmhcdigneamgdaaGreatDoorT15
/- What the rows' list gives: the fact on the package-level variables that the walks lean on; a start that meets the list. -/
namespace Go.Proofs.YtmhcdigneamgdaaGreatDoor.Crd
open Go.ChangeShapes Go.WideShapes Go.ChangeAt Go.WideMaps Go.WideElems Go.RowKit Go.Proofs.YtmhcdigneamgdaaGreatDoor.G

def laidL : List (String × DataW Unit) := Rows.pathTellsRow.laid
theorem one_of {W : World} (h : laidMetH Tryz.prog laidL W) (n : String) (d : DataW Unit) (e : laidL.filter (fun x => x.1 == n) = [(n, d)]) (hd : d.handleName?.isNone = true) : laidMet Tryz.prog [(n, d)] W := by
  have h1 := h.filter (fun x => x.1 == n)
  rw [e, MakeChecks.laidMetH_plain _ _ _ (by simp [hd])] at h1
  exact h1
theorem pow_of {W : World} (h : laidMetH Tryz.prog laidL W) : Lib.TabIs Tryz.prog W "internal/strconv.uint64pow10" .u64 Lib.pow10Tab :=
  Lib.tabIs_of_head (rest := []) gPow10 (by kernel_rfl) Tryz.underlying160 Tryz.underlying111 (by kernel_rfl) (by kernel_rfl) (one_of h "internal/strconv.uint64pow10" (Lib.tabData .u64 Lib.pow10Tab) (by kernel_rfl) (by kernel_rfl))
theorem gAtext : Tryz.prog.globalNamed "postrider/text.atext" = some 4 := by kernel_rfl
theorem atext_of {W : World} (h : laidMetH Tryz.prog laidL W) : Lib.TabIs Tryz.prog W "postrider/text.atext" .u32 [0, 2751442170, 3355443198, 2147483647] :=
  Lib.tabIs_of_head (rest := []) gAtext (by kernel_rfl) Tryz.underlying140 Tryz.underlying108 (by kernel_rfl) (by kernel_rfl) (one_of h "postrider/text.atext" (Lib.tabData .u32 [0, 2751442170, 3355443198, 2147483647]) (by kernel_rfl) (by kernel_rfl))
theorem max_of {W : World} (hs : W.ShapedOpen Tryz.prog) : ∃ m, W.cell? ⟨3, 0, none⟩ = some (.int .i64 m) :=
  cell_of_shapedOpen_int (zero := #[.int .i64 0]) (t := 3) hs (by decide +kernel) (by kernel_rfl) rfl (by kernel_rfl) (by kernel_rfl) Tryz.underlying3
theorem gSays : Tryz.prog.globalNamed "postrider/path.says" = some 0 := by kernel_rfl
theorem tSays : (Tryz.prog.globals[0]?).map (·.type) = some 87 := by kernel_rfl
def bodyN : List UInt8 := [112, 111, 115, 116, 114, 105, 100, 101, 114, 47, 112, 97, 116, 104, 46, 115, 97, 121, 115, 36, 50]
def sizeN : List UInt8 := [112, 111, 115, 116, 114, 105, 100, 101, 114, 47, 112, 97, 116, 104, 46, 115, 97, 121, 115, 36, 49]
theorem ba_ne (a b : ByteArray) (h : a ≠ b) : (a == b) = false := by
  cases hb : a == b with
  | false => rfl
  | true =>
    exfalso
    apply h
    obtain ⟨a⟩ := a
    obtain ⟨b⟩ := b
    have h2 : (a == b) = true := hb
    rw [eq_of_beq h2]
theorem elem_func {P : Program} {w : World} {base : Nat} {sp : Nat → Bool} {n : Nat} {e : TypeId} {ps rs : Array TypeId} {va : Bool} {v : Value} {b : UInt8} {r : List UInt8} {y : DataW (List UInt8) × List MemPlace} {f0 : FuncId}
    (ht : P.underlying e = some (.func ps rs va)) (hone : ((List.range P.funcs.size).filter fun f => (P.funcs[f]?).any (·.name.toUTF8.data.toList == b :: r)) = [f0])
    (h : elemAt (funcToken P) P w base sp true n e v = some y) (hy : y.1 = .held (b :: r)) : v = .func (.func f0) #[] #[] := by
  unfold elemAt at h
  split at h
  · rename_i hf
    have hc : v.cells.toList = [v] := by
      cases v <;> first | rfl | (simp [Value.formed, ht] at hf)
    rw [hc] at h
    obtain ⟨y1, y2⟩ := y
    cases hy
    exact func_of_trod ht hone h
  · cases h
theorem body_one : ((List.range Tryz.prog.funcs.size).filter fun f => (Tryz.prog.funcs[f]?).any (·.name.toUTF8.data.toList == bodyN)) = [160] := by kernel_rfl
theorem size_one : ((List.range Tryz.prog.funcs.size).filter fun f => (Tryz.prog.funcs[f]?).any (·.name.toUTF8.data.toList == sizeN)) = [159] := by kernel_rfl
def saysD : DataW (List UInt8) := .map [(.string [98, 111, 100, 121], .held bodyN), (.string [115, 105, 122, 101], .held sizeN)]
theorem at_other (l : List UInt8) (h1 : l ≠ [98, 111, 100, 121]) (h2 : l ≠ [115, 105, 122, 101]) (z : DataW (List UInt8)) : saysD.atKey (.string l) z = z := by
  simp [saysD, DataW.atKey, Lit.sameKey, Ne.symm h1, Ne.symm h2]
set_option maxRecDepth 100000 in
theorem says_of {W : World} (h : laidMetH Tryz.prog laidL W) : ∃ bm es clock, W.cell? ⟨0, 0, none⟩ = some (.map (some bm)) ∧ W.heap[bm]? = some (.map es clock) ∧ ∀ (W' : World) (s : ByteArray), W'.heap[bm]? = some (.map es clock) → s.size ≤ 9223372036854775807 → (Instr.lookup 87 (.map (some bm)) (.string s) true).run Tryz.prog W' = .ok (.tuple #[sayVal s, .bool (sayHas s)]) W' := by
  obtain ⟨g, t, cs, fuel, p, hg, ht, hv, hd⟩ := h.funcs (n := "postrider/path.says") (d := .map [(.string [98, 111, 100, 121], .iface "func" (.lit (.string bodyN))), (.string [115, 105, 122, 101], .iface "func" (.lit (.string sizeN)))]) (by
    show _ ∈ Rows.pathTellsRow.laid
    exact .tail _ (.tail _ (.tail _ (.tail _ (.tail _ (.head _))))))
  obtain rfl := Option.some.inj (gSays.symm.trans hg)
  obtain rfl := Option.some.inj (tSays.symm.trans ht)
  have hd' : DataW.trod (funcToken Tryz.prog) Tryz.prog W 0 (fun _ => true) true fuel 87 cs.toList = some (.map [(.string [98, 111, 100, 121], .held bodyN), (.string [115, 105, 122, 101], .held sizeN)], p) := hd
  rcases open_map Tryz.underlying87 hd' with ⟨_, hx⟩ | ⟨bm, es, clock, m, rfl, hcs, hb, _, F, hx⟩
  · cases hx
  simp only [Prod.mk.injEq] at hx
  have hcell : W.cell? ⟨0, 0, none⟩ = some (.map (some bm)) := by
    have := World.var?_cell hg hv 0
    rw [Array.eq_one_of_toList hcs] at this
    simpa using this
  refine ⟨bm, es, clock, hcell, hb, fun W' s hb' hs => ?_⟩
  have zero : (zeroValue 85).run Tryz.prog W' = .ok .nilFunc W' := by kernel_rfl
  have law : KeyLaw Tryz.prog 9 := string_law Tryz.underlying9
  rcases fit_lookup_ok (w := W') law Tryz.underlying87 zero hb' F (keyOf_string_mk (s := s) Tryz.underlying9 hs) with ⟨hrun, hat⟩ | ⟨v, y, hrun, hRv, hat, _⟩
  · have h0 : ∀ zd, saysD.atKey (.string s.data.toList) zd = zd := fun zd => by have := hat zd; rw [← hx.1] at this; exact this
    by_cases h1 : s = ⟨#[115, 105, 122, 101]⟩
    · subst h1
      have := h0 .nil
      have e2 : saysD.atKey (.string [115, 105, 122, 101]) .nil = .held sizeN := rfl
      rw [e2] at this
      cases this
    · by_cases h2 : s = ⟨#[98, 111, 100, 121]⟩
      · subst h2
        have := h0 .nil
        have e2 : saysD.atKey (.string [98, 111, 100, 121]) .nil = .held bodyN := rfl
        rw [e2] at this
        cases this
      · have e1 : sayVal s = .nilFunc := by simp [sayVal, h1, h2]
        have e2 : sayHas s = false := by unfold sayHas; rw [ba_ne _ _ h1, ba_ne _ _ h2]; rfl
        rw [e1, e2]
        exact hrun
  · have h0 : ∀ zd, saysD.atKey (.string s.data.toList) zd = y.1 := fun zd => by have := hat zd; rw [← hx.1] at this; exact this
    by_cases h1 : s = ⟨#[115, 105, 122, 101]⟩
    · subst h1
      have e2 : saysD.atKey (.string [115, 105, 122, 101]) .nil = .held sizeN := rfl
      have := elem_func Tryz.underlying85 size_one hRv (((h0 .nil).symm.trans e2))
      subst this
      exact hrun
    · by_cases h2 : s = ⟨#[98, 111, 100, 121]⟩
      · subst h2
        have e2 : saysD.atKey (.string [98, 111, 100, 121]) .nil = .held bodyN := rfl
        have := elem_func Tryz.underlying85 body_one hRv (((h0 .nil).symm.trans e2))
        subst this
        exact hrun
      · have n1 : s.data.toList ≠ [98, 111, 100, 121] := fun e => h2 (by rw [← Lib.mk_data s, e])
        have n2 : s.data.toList ≠ [115, 105, 122, 101] := fun e => h1 (by rw [← Lib.mk_data s, e])
        have a1 := h0 .nil
        have a2 := h0 (.held [])
        rw [at_other _ n1 n2] at a1 a2
        rw [← a1] at a2
        cases a2
/-- What the row's list gives the walks. -/
theorem glob_of {W : World} (h : laidMetH Tryz.prog laidL W) (hs : W.ShapedOpen Tryz.prog) : Glob W where
  maxLen := max_of hs
  pow10 := pow_of h
  pow10b := World.block_lt_of_cell? W _ ((pow_of h).cell gPow10 0 (by decide))
  atext := fun i hi => (atext_of h).cell gAtext i (by simpa using hi)
  says := says_of h
end Go.Proofs.YtmhcdigneamgdaaGreatDoor.Crd

/- A start that meets the rows' list: the heap that the door's own run leaves (the functions by name), the plain data laid over it. -/
namespace Go.Proofs.YtmhcdigneamgdaaGreatDoor.Crd
open Go.ChangeShapes Go.WideShapes Go.ChangeAt Go.WideMaps Go.WideElems Go.RowKit

def plainL : List (String × DataW Unit) := laidL.filter fun x => x.2.handleName?.isNone
def plainN : List String := plainL.map (·.1)
noncomputable def startW (os : Os) : World := (World.doorLaid Tryz.prog 400 os).layVars Tryz.prog plainL
theorem start_os (os : Os) : (startW os).os = os := by
  unfold startW
  rw [World.layVars_os]
  rfl
theorem plain_all : (plainL.filter fun x => plainN.contains x.1) = plainL := by kernel_rfl
theorem plain_none : (plainL.filter fun x => !plainN.contains x.1) = [] := by kernel_rfl
set_option maxRecDepth 100000 in
theorem start_plain (os : Os) : laidMet Tryz.prog plainL (startW os) :=
  laidMet_layVars (w0 := World.doorLaid Tryz.prog 400 os) plainN [] (by rw [plain_all]; rfl) (by rw [plain_all]; kernel_rfl) (by rw [plain_all]; kernel_rfl) (by rw [plain_none]; exact LaidIn.none)
set_option maxRecDepth 100000 in
theorem start_met (os : Os) (args : Array Value) : laidMetH Tryz.prog laidL ((startW os).forCall (fun _ _ => 0) ⟨#[], args, []⟩).memory :=
  laidMetH_of_parts3 (fuel := 8) ((start_plain os).of_heap (by simp [World.memory, World.forCall, Input.heap])) (by kernel_rfl) (by kernel_rfl)
set_option maxRecDepth 100000 in
theorem start_shaped (os : Os) (args : Array Value) : ((startW os).forCall (fun _ _ => 0) ⟨#[], args, []⟩).Shaped Tryz.prog :=
  World.shaped_of_RefB (by kernel_rfl) (by kernel_rfl)
end Go.Proofs.YtmhcdigneamgdaaGreatDoor.Crd

/- Arguments opened: strings, slices of strings, a path by value. -/
namespace Go.Proofs.YtmhcdigneamgdaaGreatDoor.Crd
open Go.ChangeShapes Go.WideShapes Go.ChangeAt Go.RowKit Go.Proofs.YtmhcdigneamgdaaGreatDoorW.PrintWords

theorem laidOut : laidOutB Tryz.prog = true := by kernel_rfl
section
variable {H : Type} {enc : TypeId × Value → H} {w : World} {base : Nat} {sp : Nat → Bool} {held : Bool}
/-- A slice of strings that came in reads as a list. -/
theorem strs_C {P : Program} {t e : TypeId} {fuel : Nat} {v : Value} {x : DataW H × List MemPlace} (ht : P.underlying t = some (.slice e)) (he : P.underlying e = some .string) (hc : P.cellsOf e = 1)
    (h : DataW.trod enc P w base sp held fuel t [v] = some x) : ∃ (A : Option Addr) (c : Nat) (l : List ByteArray), v = .slice A l.length c ∧ Kd.C Kd.string w A l.length l ∧ l.length ≤ c ∧ ∀ s ∈ l, s.size ≤ maxLen := by
  rcases open_strings ht he hc h with ⟨hcs, _⟩ | ⟨a, len, cap, ss, hcs, _, hl, hm, hz, _, hcell, hsz⟩
  · obtain rfl : v = .slice none 0 0 := by simpa using hcs
    exact ⟨none, 0, [], rfl, Kd.C_nil _ w, Nat.le_refl _, fun s hs => by cases hs⟩
  · obtain rfl : v = .slice (some a) len cap := by simpa using hcs
    have hle : len ≤ ss.length := by rw [hz]; split <;> omega
    have hlen : (ss.take len).length = len := by rw [List.length_take]; omega
    refine ⟨some a, cap, ss.take len, by rw [hlen], ?_, by omega, fun s hs => hsz s (List.mem_of_mem_take hs)⟩
    refine Kd.C_of_reads (d := ByteArray.empty) (h1 := fun _ => rfl) ⟨rfl, by unfold maxLen at hm; omega, fun _ => ⟨a, rfl, fun j hj => ?_⟩⟩
    rw [hlen] at hj
    have h2 := hcell j (by omega)
    have e : (ss.take len).getD j ByteArray.empty = ss.getD j ByteArray.empty := by
      simp [List.getD_eq_getElem?_getD, hj]
    rw [e]
    exact h2
set_option maxRecDepth 100000 in
/-- A path by value. -/
theorem open_path {r : Reach} {b0 : Nat} {v : Value} {d : DataW H} {p : List MemPlace} (hv : Value.okWide Tryz.prog w r b0 26 v) (h : DataW.Trod enc Tryz.prog w base sp held 26 v d p) :
    ∃ (a b : Bool) (A : Option Addr) (c : Nat) (l : List ByteArray) (s t : ByteArray), v = .agg #[.bool a, .bool b, .slice A l.length c, .string s, .string t] ∧ Kd.C Kd.string w A l.length l ∧ l.length ≤ c := by
  obtain ⟨cs, rfl, hsz⟩ := okWide_struct Tryz.underlying26 hv
  have hC : Tryz.prog.cellsOf 26 = 5 := by kernel_rfl
  obtain ⟨l⟩ := cs
  match l, hsz.trans hC with
  | [c0, c1, c2, c3, c4], _ =>
    obtain ⟨fuel, hf⟩ := h
    obtain ⟨xs, n, _, hx, _, hlen, hg⟩ := DataW.trod_struct Tryz.underlying26 hf
    match xs, hlen with
    | [y0, y1, y2, y3], _ =>
      have k4 : Tryz.prog.cellsOf 4 = 1 := by kernel_rfl
      have k22 : Tryz.prog.cellsOf 22 = 1 := by kernel_rfl
      have k24 : Tryz.prog.cellsOf 24 = 2 := by kernel_rfl
      have k9 : Tryz.prog.cellsOf 9 = 1 := by kernel_rfl
      have g0 : DataW.trod enc Tryz.prog w base sp held n 4 (([c0, c1, c2, c3, c4].drop 0).take (Tryz.prog.cellsOf 4)) = some y0 := hg 0 _ rfl
      have g1 : DataW.trod enc Tryz.prog w base sp held n 4 (([c0, c1, c2, c3, c4].drop 1).take (Tryz.prog.cellsOf 4)) = some y1 := hg 1 _ rfl
      have g2 : DataW.trod enc Tryz.prog w base sp held n 22 (([c0, c1, c2, c3, c4].drop 2).take (Tryz.prog.cellsOf 22)) = some y2 := hg 2 _ rfl
      have g3 : DataW.trod enc Tryz.prog w base sp held n 24 (([c0, c1, c2, c3, c4].drop 3).take (Tryz.prog.cellsOf 24)) = some y3 := hg 3 _ rfl
      rw [k4] at g0 g1
      rw [k22] at g2
      rw [k24] at g3
      obtain ⟨a, ha, _⟩ := DataW.trod_bool Tryz.underlying4 g0
      obtain ⟨b, hb, _⟩ := DataW.trod_bool Tryz.underlying4 g1
      obtain ⟨A, c, l, hl, hC2, hle, _⟩ := strs_C Tryz.underlying22 Tryz.underlying9 k9 (g2 : DataW.trod enc Tryz.prog w base sp held n 22 [c2] = some y2)
      obtain ⟨xs3, n3, _, hx3, _, hlen3, hg3⟩ := DataW.trod_struct Tryz.underlying24 g3
      match xs3, hlen3 with
      | [z0, z1], _ =>
        have q0 : DataW.trod enc Tryz.prog w base sp held n3 9 (([c3, c4].drop 0).take (Tryz.prog.cellsOf 9)) = some z0 := hg3 0 _ rfl
        have q1 : DataW.trod enc Tryz.prog w base sp held n3 9 (([c3, c4].drop 1).take (Tryz.prog.cellsOf 9)) = some z1 := hg3 1 _ rfl
        rw [k9] at q0 q1
        obtain ⟨s, hs, _⟩ := DataW.trod_string Tryz.underlying9 q0
        obtain ⟨t, ht, _⟩ := DataW.trod_string Tryz.underlying9 q1
        simp only [List.drop_zero, List.drop_succ_cons, List.take_succ_cons, List.take_zero, List.cons.injEq, and_true] at ha hb hs ht
        subst ha hb hs ht hl
        exact ⟨a, b, A, c, l, s, t, rfl, hC2, hle⟩
end
end Go.Proofs.YtmhcdigneamgdaaGreatDoor.Crd

/- PathTells: for any path both texts are the same, and the chapter's rows hold: the row's statement and the card. No condition. -/
namespace Go.Proofs.YtmhcdigneamgdaaGreatDoor.PathTells
open Go.ChangeShapes Go.WideShapes Go.ChangeAt Go.RowKit Go.Proofs.YtmhcdigneamgdaaGreatDoorW.PrintWords Go.Proofs.YtmhcdigneamgdaaGreatDoorW.PrintMore Go.Proofs.YtmhcdigneamgdaaGreatDoor.G Go.Proofs.YtmhcdigneamgdaaGreatDoor.Crd
set_option linter.unusedVariables false
set_option linter.unusedSimpArgs false

theorem own : ownKnob Tryz.prog.godebug = none := by kernel_rfl
theorem mn_size (s : ByteArray) : (s.extract 0 (mn (s.size : Int) 300).toNat).size ≤ 300 := by
  rw [ByteArray.size_extract]
  unfold mn
  split <;> omega
set_option maxRecDepth 100000 in
theorem lifted (os : Os) (started : os.Started) (H : Type) (enc : TypeId × Value → H) (F : Stop.Interp) :
    ReturnsInHanded {} Tryz.checked os 3 .any ((OpenSpec.ofChange Rows.pathTellsSpec).preRow enc Tryz.prog Tryz.f3 Rows.pathTellsRow.domain false Rows.pathTellsRow.laid) (((OpenSpec.ofChange Rows.pathTellsSpec).at F).post enc Tryz.prog Tryz.f3 false true false false) := by
  refine returnsInHanded_of_row (C := Tryz.checked) (s := OpenSpec.ofChange Rows.pathTellsSpec) own started (by kernel_rfl) Tryz.func3
    (ChangeSpec.witness_shaped (s := Rows.pathTellsSpec) (enc := enc) (C := Tryz.checked) (os := os) (X := fun w _ => laidMetH Tryz.prog laidL w) false (startW os) #[.agg #[.bool false, .bool false, .slice none 0 0, .string ⟨#[]⟩, .string ⟨#[]⟩]] 8 (start_os os) (start_shaped os _) (by kernel_rfl) (by kernel_rfl) (by kernel_rfl) (start_met os _)) ?_
  intro W base args ds gs before hval0 hW _ _ _ hL hSh _
  have hval : ∀ (j : Nat) t v, Tryz.f3.params[j]? = some t → args[j]? = some v → Value.okWide Tryz.prog W .any base t v := hval0
  have hW' := hW
  obtain ⟨p, q, hA0, hV, rfl, hfz, hnd⟩ := hW
  have hA : DataW.TrodAll enc Tryz.prog W 0 (fun _ => true) true Tryz.f3.params.toList args.toList ds p := hA0
  rw [Tryz.params3] at hA hval
  obtain ⟨v0, vs0, d0, ds0, p0, q0, hargs, rfl, rfl, h0, r0⟩ := trodAll_cons hA
  obtain ⟨rfl, rfl, rfl⟩ := trodAll_nil r0
  obtain rfl : args = #[v0] := by cases args; simp_all
  obtain ⟨rfl, rfl⟩ := trodVars_none hV
  have k0 := h0
  have lt0 : ∀ x ∈ p0, x.block < W.heap.size := by obtain ⟨m, hm⟩ := k0; exact DataW.trod_lt m _ _ _ hm
  obtain ⟨a, b, A, c, l, s, t, rfl, hC, hc⟩ := open_path (hval 0 26 v0 rfl rfl) h0
  clear hA0 hval0
  have hG := glob_of hL hSh
  obtain ⟨k, r, h1, h2⟩ := pure_tells a b l (s.extract 0 (mn (s.size : Int) 300).toNat) (t.extract 0 (mn (t.size : Int) 300).toNat) (mn_size s) (mn_size t)
  refine (law_tells k a b A c l s t _ _ r W hC hc rfl rfl h1 h2 hG).mono fun e W' ⟨he, bel⟩ => ?_
  subst he
  exact ⟨_, rfl, _, _, _, [], _, [], hW', trodAll_mk1 (shut_bool Tryz.underlying4 _), trodAll_cons_mk (Below.trod laidOut (by kernel_rfl) (of_decide_eq_true (by kernel_rfl)) k0 bel lt0) trodAll_mk0, rfl, bel.frame _, fun h => by cases h⟩

theorem said : Rows.PathTellsSaid :=
  OpenClaim.holds_of_cond 3 Tryz.f3 rfl rfl rfl rfl rfl rfl rfl ⟨rfl, rfl, rfl, rfl, rfl⟩ rfl rfl rfl rfl rfl (by kernel_rfl) Tryz.func3 (by kernel_rfl)
    (of_decide_eq_true (by kernel_rfl)) (by unfold Func.isWrapper; first | (rw [if_pos (by decide +kernel)]; kernel_rfl) | (rw [if_neg (by decide +kernel)]; exact ⟨rfl, rfl⟩))
    (fun os started H enc _ F => by rw [OpenClaim.pre_eq_preRow]; exact lifted os started H enc F)
theorem plain (f : FuncId) (fn : Func) (hf : Tryz.pinned.checked.prog.funcNamed "postrider/postriderlaw06.PathTells" = some f) (hfn : Tryz.pinned.checked.prog.funcs[f]? = some fn) :
    false = Tryz.pinned.checked.prog.looks [] ∧ ∀ (j : Nat) t, fn.params[j]? = some t → Tryz.pinned.checked.prog.wantsStandIn t = false := by
  obtain rfl : f = 3 := Option.some.inj ((show Tryz.prog.funcNamed "postrider/postriderlaw06.PathTells" = some 3 by kernel_rfl).symm.trans hf) |>.symm
  obtain rfl : fn = Tryz.f3 := (Option.some.inj (Tryz.func3.symm.trans hfn)).symm
  refine ⟨by kernel_rfl, fun j t ht => ?_⟩
  rw [Tryz.params3] at ht
  obtain rfl : t = 26 := by simpa using Array.mem_of_getElem? ht
  exact (show Tryz.prog.wantsStandIn 26 = false by kernel_rfl)
end Go.Proofs.YtmhcdigneamgdaaGreatDoor.PathTells
namespace Go.Proofs.YtmhcdigneamgdaaGreatDoor
/-- The tied card. -/
theorem pathTells_holds : Rows.PathTellsCardSaid :=
  Claim7.holds_tied_plain_at .later [] _ _ _ _ PathTells.said (fun _ h => by cases h) (by kernel_rfl) (fun _ h => by cases h) pathTells_row_tie rfl ⟨rfl, rfl⟩ (by kernel_rfl) rfl PathTells.plain (by kernel_rfl)
#print axioms pathTells_holds
end Go.Proofs.YtmhcdigneamgdaaGreatDoor
