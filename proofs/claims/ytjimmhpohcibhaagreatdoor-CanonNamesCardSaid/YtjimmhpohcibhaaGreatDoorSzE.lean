/- A LIBRARY FOR RUNNING A PROGRAM IN THE KERNEL, OVER ABSTRACT VALUES, AND THAT ITS WORD IS THE MODEL'S: part 5 of 5. No condition. -/
import Derived.Test.YtjimmhpohcibhaaGreatDoorSzD
import Derived.Below
import Derived.Lib.LaidTab
import Derived.Lib.LaidU8
import Derived.Lib.Join
set_option linter.unusedVariables false
set_option linter.unusedSimpArgs false
/- Functions that are known from elsewhere; tables that are package variables. No condition. -/
namespace Go.Sy
open Go.RowKit
set_option linter.unusedVariables false
section
variable {P : Program} {G : Cx} {E : Env} {w w' : World} {H : Heap}

theorem below_step (hr : HR E H w) (hb : Below w.heap.size w w') (a : Nat) : HR E H w' ∧ Tr E H w E H w' a a ∧ ∀ {v cv}, VR E w v cv → VR E w' v cv := by
  have hS : Shapes w w' := fun b c e f h => ⟨c, (hb.block b (Array.getElem?_eq_some_iff.1 h).1).trans h, rfl⟩
  have hm : ∀ {v cv}, VR E w v cv → VR E w' v cv := fun hv => VR.mono (E := E) (E' := E) (fun _ h => ⟨h, rfl⟩) (fun b h => ⟨h, hb.block b (hr.zlt b h)⟩) hS hv
  exact ⟨⟨hr.nodup, hr.dom, hr.inj, fun p hp => (hr.obj p hp).mono (hb.block _ (hr.lt hp)) hm, hr.nz, fun b h => Nat.lt_of_lt_of_le (hr.zlt b h) hb.size⟩,
    ⟨Nat.le_refl _, fun _ _ => rfl, fun h => ⟨.inl, fun h => h.elim id fun ⟨x, y⟩ => by omega⟩, fun _ h => h, fun _ h => .inl h, fun p hp => .inl ⟨p, hp, rfl⟩, hb.tape, hb.os, hb.output, hb.size, fun x hx _ => hb.block x hx, hS⟩, hm⟩

/-- A function whose calls leave memory as it was. -/
theorem spec_of {f : FuncId} {fn : Func} {body : Code} (hf : P.funcs[f]? = some fn) (hb : fn.body = some body) (hn : (fn.name == "runtime.NumGoroutine") = false) {g : List AV → Option AV}
    (h : ∀ args v, g args = some v → ∀ (E : Env) (H : Heap) (w : World) (cargs : Array Value), HR E H w → VRs E w args cargs.toList → Calls P f cargs w fun e w' => ∃ cv, e = .returned cv ∧ Below w.heap.size w w' ∧ VR E w v cv) (call : Call) :
    CallOK P G fun f' args H nx => if f' = f then (match g args with | some v => some (v, H, nx) | none => none) else none := by
  intro f' args H nx v H' nx' he
  simp only at he
  split at he
  · rename_i hff
    subst hff
    split at he
    · rename_i v' hv
      cases he
      refine ⟨⟨fn, body, hf, hb, hn⟩, Nat.le_refl _, fun E w cargs hr hva hg hfr => ?_⟩
      refine (h args v hv E H w cargs hr hva).mono fun e w' h1 => ?_
      obtain ⟨cv, rfl, h2, h3⟩ := h1
      obtain ⟨k1, k2, k3⟩ := below_step hr h2 nx
      exact ⟨cv, E, rfl, k1, k2, k3 h3⟩
    · cases he
  · cases he

theorem var_block {n : String} {g : Nat} {cs : Array Value} (hg : P.globalNamed n = some g) (h : w.var? P n = some cs) : ∃ t f, w.heap[g]? = some (.cells cs t f) := by
  unfold World.var? at h
  rw [hg] at h
  simp only [Option.bind_some] at h
  split at h
  · rename_i c t f hc
    cases h
    exact ⟨t, f, hc⟩
  · cases h

def inRange (k : IntKind) (z : Int) : Bool := decide (k.min ≤ z) && decide (z ≤ k.max)
/-- A table of numbers that is a package variable. -/
theorem glob_tab {l : List (String × DataW Unit)} {W : World} (hL : laidMet P l W) {n : String} {zs : List Int} {k : IntKind} (hm : (n, Lib.tabData k zs) ∈ l) {g : Nat} (hg : P.globalNamed n = some g)
    {t e : TypeId} {len : Nat} (hgt : (P.globals[g]?).map (·.type) = some t) (ht : P.underlying t = some (.array len e)) (he : P.underlying e = some (.int k)) (hce : P.cellsOf e = 1) (hct : P.cellsOf t = len)
    (hr : zs.all (inRange k) = true) : VR (Env.still W) W (.eptr (.agg (zs.map fun z => .int k z)) 0) (.pointer (some ⟨g, 0, none⟩)) := by
  obtain ⟨g', t', cs, fuel, p, h1, h2, h3, h4⟩ := Lib.laidMet.reads hL hm
  rw [hg] at h1
  cases h1
  rw [hgt] at h2
  cases h2
  obtain ⟨ty, f, hblk⟩ := var_block hg h3
  have hc := Lib.cells_of_tab ht he hce hct h4
  have hlt : g < W.heap.size := (Array.getElem?_eq_some_iff.1 hblk).1
  have := VR.eptr (E := Env.still W) (w := W) (.agg (zs.map fun z => .int k z)) 0 g 0 (.agg cs) rfl hlt ?_ fun j c hj => ?_
  · simpa using this
  · refine VR.mk_agg ?_ fun v hv => ?_
    · rw [hc]
      refine ⟨by simp, fun i x v hx hv => ?_⟩
      rw [List.getElem?_map] at hx hv
      cases hz : zs[i]? with
      | none => rw [hz] at hx; cases hx
      | some z =>
        rw [hz] at hx hv
        cases hx; cases hv
        have h5 := List.all_eq_true.1 hr z (List.mem_of_getElem? hz)
        simp only [inRange, Bool.and_eq_true, decide_eq_true_eq] at h5
        exact .int k z h5
    · rw [hc] at hv
      obtain ⟨z, _, rfl⟩ := List.mem_map.1 hv
      rfl
  · have hj' : cs[j]? = some c := hj
    simp only [World.cell?, hblk, Nat.zero_add]
    simpa using hj'
end
end Go.Sy

/- Functions of Go's library that are known, and not run. No condition. -/
namespace Go.Sy
open Go.RowKit
set_option linter.unusedVariables false
noncomputable section
variable {P : Program} {G : Cx} {E : Env} {w w' : World} {H : Heap}

def known (g : List AV → Heap → Option AV) : FunC := fun _ args H nx => match g args H with
  | some v => fAV v fun v => some (v, H, nx)
  | none => none

/-- A function whose calls leave memory as it was: its contract is enough. -/
theorem spec_ofH {f : FuncId} {fn : Func} {body : Code} (hf : P.funcs[f]? = some fn) (hb : fn.body = some body) (hn : (fn.name == "runtime.NumGoroutine") = false) {g : List AV → Heap → Option AV}
    (h : ∀ args H v, g args H = some v → ∀ (E : Env) (w : World) (cargs : Array Value), HR E H w → VRs E w args cargs.toList → Calls P f cargs w fun e w' => ∃ cv, e = .returned cv ∧ Below w.heap.size w w' ∧ VR E w v cv) (call : Call) :
    CallOK P G fun f' args H nx => if f' = f then known g call args H nx else none := by
  intro f' args H nx v H' nx' he
  simp only [known] at he
  split at he
  · rename_i hff
    subst hff
    split at he
    · rename_i v' hv
      rw [fAV_eq] at he
      cases he
      refine ⟨⟨fn, body, hf, hb, hn⟩, Nat.le_refl _, fun E w cargs hr hva hg hfr => ?_⟩
      refine (h args H v hv E w cargs hr hva).mono fun e w' h1 => ?_
      obtain ⟨cv, rfl, h2, h3⟩ := h1
      obtain ⟨k1, k2, k3⟩ := below_step hr h2 nx
      exact ⟨cv, E, rfl, k1, k2, k3 h3⟩
    · cases he
  · cases he

def cloneA : List AV → Heap → Option AV
  | [.str s], _ => match Nat.ble s.length 281474976710656 with
    | true => some (.str s)
    | false => none
  | _, _ => none
theorem clone_known {f : FuncId} (h0 : ∀ (s : ByteArray) (w : World), s.size ≤ 281474976710656 → Calls P f #[.string s] w fun e w' => e = .returned (.string s) ∧ Below w.heap.size w w') :
    ∀ args H v, cloneA args H = some v → ∀ (E : Env) (w : World) (cargs : Array Value), HR E H w → VRs E w args cargs.toList → Calls P f cargs w fun e w' => ∃ cv, e = .returned cv ∧ Below w.heap.size w w' ∧ VR E w v cv := by
  intro args H v h E w cargs hr hv
  unfold cloneA at h
  split at h
  · split at h
    · rename_i s hle
      cases h
      obtain ⟨c, cr, hc, hvc, hrest⟩ := hv.of_cons
      have hcr := hrest.of_nil
      subst hcr
      have hca : cargs = #[c] := by apply Array.toList_inj.1; simpa using hc
      subst hca
      cases hvc with
      | str l s' h hl =>
        have hsz : s'.size ≤ 281474976710656 := by
          have h2 := Nat.le_of_ble_eq_true hle
          rw [← h, List.length_map, Array.length_toList] at h2
          exact h2
        exact (h0 s' w hsz).mono fun e w' ⟨k1, k2⟩ => ⟨_, k1, k2, .str _ _ h hl⟩
    · cases h
  · cases h

def joinN (sep : List Nat) : List (List Nat) → List Nat
  | [] => []
  | x :: r => x ++ (r.map (sep ++ ·)).flatten
theorem joinN_eq (xs : List (List UInt8)) (sep : List UInt8) : (Lib.join xs sep).map UInt8.toNat = joinN (sep.map UInt8.toNat) (xs.map (·.map UInt8.toNat)) := by
  cases xs with
  | nil => rfl
  | cons x r =>
    rw [Lib.join_cons]
    simp [joinN, Lib.joinTail, List.map_flatten, Function.comp_def]
def strs : List AV → Option (List (List Nat))
  | [] => some []
  | .str s :: r => match strs r with
    | some x => some (s :: x)
    | none => none
  | _ :: _ => none
theorem strs_sound : ∀ {ys : List AV} {vs : List Value} {ls : List (List Nat)}, VRs E w ys vs → strs ys = some ls → ∃ xs : List ByteArray, vs = xs.map .string ∧ ls = xs.map (fun x => x.data.toList.map UInt8.toNat)
  | [], vs, ls, hv, h => by cases h; rw [hv.of_nil]; exact ⟨[], rfl, rfl⟩
  | y :: r, vs, ls, hv, h => by
    obtain ⟨c, cr, rfl, hc, hr⟩ := hv.of_cons
    unfold strs at h
    split at h
    · rename_i heq; cases heq
    · rename_i s r' heq
      cases heq
      split at h
      · rename_i x hx
        cases h
        obtain ⟨xs, rfl, rfl⟩ := strs_sound hr hx
        cases hc with
        | str l s' h hl => exact ⟨s' :: xs, rfl, by simp [h]⟩
      · cases h
    · cases h
def isSl : AV → Bool
  | .nilslice => true
  | .lst _ _ => true
  | .row .. => true
  | _ => false
def joinA : List AV → Heap → Option AV
  | [y, .str sep], H => match isSl y with
    | false => none
    | true => match content H 1 y with
      | none => none
      | some (n, cs) => match strs cs with
        | none => none
        | some xs => match Nat.ble n 140737488355328 && Nat.ble (joinN sep xs).length 140737488355328 with
          | true => some (.str (joinN sep xs))
          | false => none
  | _, _ => none
theorem VR.slice_cap {y : AV} {a : Option Addr} {n c : Nat} (hy : isSl y = true) (h : VR E w y (.slice a n c)) : n ≤ c ∧ ∀ ad, a = some ad → n ≠ 0 → ad.spot = none := by
  cases h <;> simp_all
theorem join_known {f : FuncId} (h0 : ∀ (a : Option Addr) (c : Nat) (sep : ByteArray) (w : World), Calls P f #[.slice a 0 c, .string sep] w fun e w' => e = .returned (.string ⟨#[]⟩) ∧ w' = w)
    (h1 : ∀ (bk o c : Nat) (xs : List ByteArray) (sep : ByteArray) (w : World), (∀ (j : Nat) x, xs[j]? = some x → w.cell? ⟨bk, o + j, none⟩ = some (.string x)) → bk < w.heap.size → xs.length ≤ 140737488355328 → xs.length ≤ c →
      (Lib.join (xs.map (·.data.toList)) sep.data.toList).length ≤ 140737488355328 →
      Calls P f #[.slice (some ⟨bk, o, none⟩) xs.length c, .string sep] w fun e w' => e = .returned (.string ⟨(Lib.join (xs.map (·.data.toList)) sep.data.toList).toArray⟩) ∧ Below w.heap.size w w') :
    ∀ args H v, joinA args H = some v → ∀ (E : Env) (w : World) (cargs : Array Value), HR E H w → VRs E w args cargs.toList → Calls P f cargs w fun e w' => ∃ cv, e = .returned cv ∧ Below w.heap.size w w' ∧ VR E w v cv := by
  intro args H v h E w cargs hr hv
  unfold joinA at h
  split at h
  · rename_i y sep H'
    split at h
    · cases h
    · rename_i hsl
      split at h
      · cases h
      · rename_i n cs hcont
        split at h
        · cases h
        · rename_i ls hls
          split at h
          · rename_i hle
            cases h
            obtain ⟨cy, cr, hc, hy, hrest⟩ := hv.of_cons
            obtain ⟨cp, cr', hc', hp, hrest'⟩ := hrest.of_cons
            have hcr := hrest'.of_nil
            subst hcr; subst hc'
            have hca : cargs = #[cy, cp] := by apply Array.toList_inj.1; simpa using hc
            subst hca
            rw [Bool.and_eq_true] at hle
            have l1 := Nat.le_of_ble_eq_true hle.1
            have l2 := Nat.le_of_ble_eq_true hle.2
            obtain ⟨vs, k1, k2, k3, k4, k5, k6, k7⟩ := content_sound (P := P) hr hy hcont
            obtain ⟨xs, rfl, rfl⟩ := strs_sound k1 hls
            cases hp with
            | str l sp h hl =>
              subst h
              have hj : joinN (sp.data.toList.map UInt8.toNat) (xs.map fun x => x.data.toList.map UInt8.toNat) = (Lib.join (xs.map (·.data.toList)) sp.data.toList).map UInt8.toNat := by
                rw [joinN_eq, List.map_map]; rfl
              rw [hj] at l2
              rw [List.length_map] at l2
              have hlen : xs.length = n := by simpa using k3
              have res : VR E w (.str (joinN (sp.data.toList.map UInt8.toNat) (xs.map fun x => x.data.toList.map UInt8.toNat))) (.string ⟨(Lib.join (xs.map (·.data.toList)) sp.data.toList).toArray⟩) :=
                .str _ _ (by rw [hj]) (by rw [hj, List.length_map]; unfold maxStr; omega)
              rcases k7 with ⟨a, c, rfl, k7⟩ | ⟨s, rfl, _⟩
              · obtain ⟨hcap, hspot⟩ := VR.slice_cap hsl hy
                by_cases hn0 : n = 0
                · subst hn0
                  have hx0 : xs = [] := List.eq_nil_of_length_eq_zero hlen
                  subst hx0
                  refine (h0 a c sp w).mono fun e w' ⟨e1, e2⟩ => ⟨_, e1, e2 ▸ Below.refl _ _, res⟩
                · obtain ⟨ad, rfl, hcell⟩ := k7 (by omega)
                  have hs := hspot ad rfl hn0
                  obtain ⟨bk, o, sp'⟩ := ad
                  simp only at hs
                  subst hs
                  have hcells : ∀ (j : Nat) x, xs[j]? = some x → w.cell? ⟨bk, o + j, none⟩ = some (.string x) := fun j x hx => by
                    have := hcell j (.string x) (by rw [List.getElem?_map, hx]; rfl)
                    by_cases hj0 : j = 0
                    · subst hj0; simpa [Addr.add] using this
                    · simpa [Addr.add, hj0] using this
                  have hbk : bk < w.heap.size := by
                    cases xs with
                    | nil => simp at hlen; omega
                    | cons x r =>
                      have hc0 := hcells 0 x rfl
                      unfold World.cell? at hc0
                      split at hc0
                      · rename_i hh; exact (Array.getElem?_eq_some_iff.1 hh).1
                      · cases hc0
                  subst hlen
                  exact (h1 bk o c xs sp w hcells hbk l1 hcap l2).mono fun e w' ⟨e1, e2⟩ => ⟨_, e1, e2, res⟩
              · cases hy; cases hsl
          · cases h
  · cases h
end
end Go.Sy
