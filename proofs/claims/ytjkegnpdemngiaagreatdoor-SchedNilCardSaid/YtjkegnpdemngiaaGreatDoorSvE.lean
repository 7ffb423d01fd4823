/- A LIBRARY FOR RUNNING A PROGRAM IN THE KERNEL, OVER ABSTRACT VALUES, AND THAT ITS WORD IS THE MODEL'S: part 5 of 5. No condition. -/
import Derived.Test.YtjkegnpdemngiaaGreatDoorSvD
import Derived.Below
import Derived.Lib.LaidTab
import Derived.Lib.LaidU8
import Derived.Lib.Join
import Derived.Stop.LaidErr
import Derived.Carry
import Derived.WideShapes
import Derived.Lib.Repeat
import Derived.Sort.Walk0
import Derived.Sort.KeysCollected
import Derived.Shelf.SlIter.Nil
import Derived.Defers
import Derived.Lib.IndexMore
set_option linter.unusedVariables false
set_option linter.unusedSimpArgs false
/- Functions that are known from elsewhere; tables that are package variables. No condition. -/
namespace Go.Sy
open Go.RowKit
set_option linter.unusedVariables false
section
variable {P : Program} {G : Cx} {E : Env} {w w' : World} {H : Heap}

theorem below_step (hr : HR E H w) (hb : Below w.heap.size w w') (a : Nat) : HR E H w' ∧ Tr E H w E H w' a a ∧ ∀ {v cv}, VR E w v cv → VR E w' v cv := by
  have hS : Shapes w w' := fun b c e f h => ⟨c, f, (hb.block b (Array.getElem?_eq_some_iff.1 h).1).trans h, rfl⟩
  have hm : ∀ {v cv}, VR E w v cv → VR E w' v cv := fun hv => VR.mono (E := E) (E' := E) (fun _ h => ⟨h, rfl⟩) (fun b h => ⟨h, hb.block b (hr.zlt b h)⟩) hS hv
  exact ⟨⟨hr.nodup, hr.dom, hr.inj, fun p hp => (hr.obj p hp).mono (hb.block _ (hr.lt hp)) hm, hr.nz, fun b h => Nat.lt_of_lt_of_le (hr.zlt b h) hb.size⟩,
    ⟨Nat.le_refl _, fun _ _ => rfl, fun h => ⟨.inl, fun h => h.elim id fun ⟨x, y⟩ => by omega⟩, fun _ h => h, fun _ h => .inl h, fun p hp => .inl ⟨p, hp, rfl⟩, hb.tape, hb.os, hb.output, hb.size, fun x hx _ => hb.block x hx, hS, rfl⟩, hm⟩

/-- A function whose calls leave memory as it was. -/
theorem spec_of {f : FuncId} {fn : Func} {body : Code} (hf : P.funcs[f]? = some fn) (hb : fn.body = some body) (hn : (fn.name == "runtime.NumGoroutine") = false) {g : List AV → Option AV}
    (h : ∀ args v, g args = some v → ∀ (E : Env) (H : Heap) (w : World) (cargs : Array Value), HR E H w → VRs E w args cargs.toList → Calls P f cargs w fun e w' => ∃ cv, e = .returned cv ∧ Below w.heap.size w w' ∧ VR E w v cv) (call : Call) :
    CallOK P G fun f' args H nx => if f' = f then (match g args with | some v => some (v, H, nx) | none => none) else none := by
  intro f' args H nx v H' nx' he
  simp only at he
  split at he
  · rename_i hff
    subst hff
    split at he
    · rename_i v' hv
      cases he
      refine ⟨⟨fn, body, hf, hb, hn⟩, Nat.le_refl _, fun E w cargs hr hva hg hfr => ?_⟩
      refine (h args v hv E H w cargs hr hva).mono fun e w' h1 => ?_
      obtain ⟨cv, rfl, h2, h3⟩ := h1
      obtain ⟨k1, k2, k3⟩ := below_step hr h2 nx
      exact ⟨cv, E, rfl, k1, k2, k3 h3⟩
    · cases he
  · cases he

theorem var_block {n : String} {g : Nat} {cs : Array Value} (hg : P.globalNamed n = some g) (h : w.var? P n = some cs) : ∃ t f, w.heap[g]? = some (.cells cs t f) := by
  unfold World.var? at h
  rw [hg] at h
  simp only [Option.bind_some] at h
  split at h
  · rename_i c t f hc
    cases h
    exact ⟨t, f, hc⟩
  · cases h

def inRange (k : IntKind) (z : Int) : Bool := decide (k.min ≤ z) && decide (z ≤ k.max)
/-- A table of numbers that is a package variable. -/
theorem glob_tab {l : List (String × DataW Unit)} {W : World} {σ : Nat → Value} (hL : laidMet P l W) {n : String} {zs : List Int} {k : IntKind} (hm : (n, Lib.tabData k zs) ∈ l) {g : Nat} (hg : P.globalNamed n = some g)
    {t e : TypeId} {len : Nat} (hgt : (P.globals[g]?).map (·.type) = some t) (ht : P.underlying t = some (.array len e)) (he : P.underlying e = some (.int k)) (hce : P.cellsOf e = 1) (hct : P.cellsOf t = len)
    (hr : zs.all (inRange k) = true) : VR (Env.still W σ) W (.eptr (.agg (zs.map fun z => .int k z)) 0) (.pointer (some ⟨g, 0, none⟩)) := by
  obtain ⟨g', t', cs, fuel, p, h1, h2, h3, h4⟩ := Lib.laidMet.reads hL hm
  rw [hg] at h1
  cases h1
  rw [hgt] at h2
  cases h2
  obtain ⟨ty, f, hblk⟩ := var_block hg h3
  have hc := Lib.cells_of_tab ht he hce hct h4
  have hlt : g < W.heap.size := (Array.getElem?_eq_some_iff.1 hblk).1
  have := VR.eptr (E := Env.still W σ) (w := W) (.agg (zs.map fun z => .int k z)) 0 g 0 (.agg cs) rfl hlt ?_ fun j c hj => ?_
  · simpa using this
  · refine VR.mk_agg ?_ fun v hv => ?_
    · rw [hc]
      refine ⟨by simp, fun i x v hx hv => ?_⟩
      rw [List.getElem?_map] at hx hv
      cases hz : zs[i]? with
      | none => rw [hz] at hx; cases hx
      | some z =>
        rw [hz] at hx hv
        cases hx; cases hv
        have h5 := List.all_eq_true.1 hr z (List.mem_of_getElem? hz)
        simp only [inRange, Bool.and_eq_true, decide_eq_true_eq] at h5
        exact .int k z h5
    · rw [hc] at hv
      obtain ⟨z, _, rfl⟩ := List.mem_map.1 hv
      rfl
  · have hj' : cs[j]? = some c := hj
    simp only [World.cell?, hblk, Nat.zero_add]
    simpa using hj'
end
end Go.Sy

/- Functions of Go's library that are known, and not run. No condition. -/
namespace Go.Sy
open Go.RowKit
set_option linter.unusedVariables false
noncomputable section
variable {P : Program} {G : Cx} {E : Env} {w w' : World} {H : Heap}

def known (g : List AV → Heap → Option AV) : FunC := fun _ args H nx => match g args H with
  | some v => fAV v fun v => some (v, H, nx)
  | none => none

/-- A function whose calls leave memory as it was: its contract is enough. -/
theorem spec_ofH {f : FuncId} {fn : Func} {body : Code} (hf : P.funcs[f]? = some fn) (hb : fn.body = some body) (hn : (fn.name == "runtime.NumGoroutine") = false) {g : List AV → Heap → Option AV}
    (h : ∀ args H v, g args H = some v → ∀ (E : Env) (w : World) (cargs : Array Value), HR E H w → VRs E w args cargs.toList → Calls P f cargs w fun e w' => ∃ cv, e = .returned cv ∧ Below w.heap.size w w' ∧ VR E w v cv) (call : Call) :
    CallOK P G fun f' args H nx => if f' = f then known g call args H nx else none := by
  intro f' args H nx v H' nx' he
  simp only [known] at he
  split at he
  · rename_i hff
    subst hff
    split at he
    · rename_i v' hv
      rw [fAV_eq] at he
      cases he
      refine ⟨⟨fn, body, hf, hb, hn⟩, Nat.le_refl _, fun E w cargs hr hva hg hfr => ?_⟩
      refine (h args H v hv E w cargs hr hva).mono fun e w' h1 => ?_
      obtain ⟨cv, rfl, h2, h3⟩ := h1
      obtain ⟨k1, k2, k3⟩ := below_step hr h2 nx
      exact ⟨cv, E, rfl, k1, k2, k3 h3⟩
    · cases he
  · cases he

def cloneA : List AV → Heap → Option AV
  | [.str s], _ => match Nat.ble s.length 281474976710656 with
    | true => some (.str s)
    | false => none
  | _, _ => none
theorem clone_known {f : FuncId} (h0 : ∀ (s : ByteArray) (w : World), s.size ≤ 281474976710656 → Calls P f #[.string s] w fun e w' => e = .returned (.string s) ∧ Below w.heap.size w w') :
    ∀ args H v, cloneA args H = some v → ∀ (E : Env) (w : World) (cargs : Array Value), HR E H w → VRs E w args cargs.toList → Calls P f cargs w fun e w' => ∃ cv, e = .returned cv ∧ Below w.heap.size w w' ∧ VR E w v cv := by
  intro args H v h E w cargs hr hv
  unfold cloneA at h
  split at h
  · split at h
    · rename_i s hle
      cases h
      obtain ⟨c, cr, hc, hvc, hrest⟩ := hv.of_cons
      have hcr := hrest.of_nil
      subst hcr
      have hca : cargs = #[c] := by apply Array.toList_inj.1; simpa using hc
      subst hca
      cases hvc with
      | str l s' h hl =>
        have hsz : s'.size ≤ 281474976710656 := by
          have h2 := Nat.le_of_ble_eq_true hle
          rw [← h, List.length_map, Array.length_toList] at h2
          exact h2
        exact (h0 s' w hsz).mono fun e w' ⟨k1, k2⟩ => ⟨_, k1, k2, .str _ _ h hl⟩
    · cases h
  · cases h

def joinN (sep : List Nat) : List (List Nat) → List Nat
  | [] => []
  | x :: r => x ++ (r.map (sep ++ ·)).flatten
theorem joinN_eq (xs : List (List UInt8)) (sep : List UInt8) : (Lib.join xs sep).map UInt8.toNat = joinN (sep.map UInt8.toNat) (xs.map (·.map UInt8.toNat)) := by
  cases xs with
  | nil => rfl
  | cons x r =>
    rw [Lib.join_cons]
    simp [joinN, Lib.joinTail, List.map_flatten, Function.comp_def]
def strs : List AV → Option (List (List Nat))
  | [] => some []
  | .str s :: r => match strs r with
    | some x => some (s :: x)
    | none => none
  | _ :: _ => none
theorem strs_sound : ∀ {ys : List AV} {vs : List Value} {ls : List (List Nat)}, VRs E w ys vs → strs ys = some ls → ∃ xs : List ByteArray, vs = xs.map .string ∧ ls = xs.map (fun x => x.data.toList.map UInt8.toNat)
  | [], vs, ls, hv, h => by cases h; rw [hv.of_nil]; exact ⟨[], rfl, rfl⟩
  | y :: r, vs, ls, hv, h => by
    obtain ⟨c, cr, rfl, hc, hr⟩ := hv.of_cons
    unfold strs at h
    split at h
    · rename_i heq; cases heq
    · rename_i s r' heq
      cases heq
      split at h
      · rename_i x hx
        cases h
        obtain ⟨xs, rfl, rfl⟩ := strs_sound hr hx
        cases hc with
        | str l s' h hl => exact ⟨s' :: xs, rfl, by simp [h]⟩
      · cases h
    · cases h
def isSl : AV → Bool
  | .nilslice => true
  | .lst _ _ => true
  | .row .. => true
  | _ => false
def joinA : List AV → Heap → Option AV
  | [y, .str sep], H => match isSl y with
    | false => none
    | true => match content H 1 y with
      | none => none
      | some (n, cs) => match strs cs with
        | none => none
        | some xs => match Nat.ble n 140737488355328 && Nat.ble (joinN sep xs).length 140737488355328 with
          | true => some (.str (joinN sep xs))
          | false => none
  | _, _ => none
theorem VR.slice_cap {y : AV} {a : Option Addr} {n c : Nat} (hy : isSl y = true) (h : VR E w y (.slice a n c)) : n ≤ c ∧ ∀ ad, a = some ad → n ≠ 0 → ad.spot = none := by
  cases h <;> first | (simp [isSl] at hy; done) | simp_all
theorem join_known {f : FuncId} (h0 : ∀ (a : Option Addr) (c : Nat) (sep : ByteArray) (w : World), Calls P f #[.slice a 0 c, .string sep] w fun e w' => e = .returned (.string ⟨#[]⟩) ∧ w' = w)
    (h1 : ∀ (bk o c : Nat) (xs : List ByteArray) (sep : ByteArray) (w : World), (∀ (j : Nat) x, xs[j]? = some x → w.cell? ⟨bk, o + j, none⟩ = some (.string x)) → bk < w.heap.size → xs.length ≤ 140737488355328 → xs.length ≤ c →
      (Lib.join (xs.map (·.data.toList)) sep.data.toList).length ≤ 140737488355328 →
      Calls P f #[.slice (some ⟨bk, o, none⟩) xs.length c, .string sep] w fun e w' => e = .returned (.string ⟨(Lib.join (xs.map (·.data.toList)) sep.data.toList).toArray⟩) ∧ Below w.heap.size w w') :
    ∀ args H v, joinA args H = some v → ∀ (E : Env) (w : World) (cargs : Array Value), HR E H w → VRs E w args cargs.toList → Calls P f cargs w fun e w' => ∃ cv, e = .returned cv ∧ Below w.heap.size w w' ∧ VR E w v cv := by
  intro args H v h E w cargs hr hv
  unfold joinA at h
  split at h
  · rename_i y sep H'
    split at h
    · cases h
    · rename_i hsl
      split at h
      · cases h
      · rename_i n cs hcont
        split at h
        · cases h
        · rename_i ls hls
          split at h
          · rename_i hle
            cases h
            obtain ⟨cy, cr, hc, hy, hrest⟩ := hv.of_cons
            obtain ⟨cp, cr', hc', hp, hrest'⟩ := hrest.of_cons
            have hcr := hrest'.of_nil
            subst hcr; subst hc'
            have hca : cargs = #[cy, cp] := by apply Array.toList_inj.1; simpa using hc
            subst hca
            rw [Bool.and_eq_true] at hle
            have l1 := Nat.le_of_ble_eq_true hle.1
            have l2 := Nat.le_of_ble_eq_true hle.2
            obtain ⟨vs, k1, k2, k3, k4, k5, k6, k7⟩ := content_sound (P := P) hr hy hcont
            obtain ⟨xs, rfl, rfl⟩ := strs_sound k1 hls
            cases hp with
            | str l sp h hl =>
              subst h
              have hj : joinN (sp.data.toList.map UInt8.toNat) (xs.map fun x => x.data.toList.map UInt8.toNat) = (Lib.join (xs.map (·.data.toList)) sp.data.toList).map UInt8.toNat := by
                rw [joinN_eq, List.map_map]; rfl
              rw [hj] at l2
              rw [List.length_map] at l2
              have hlen : xs.length = n := by simpa using k3
              have res : VR E w (.str (joinN (sp.data.toList.map UInt8.toNat) (xs.map fun x => x.data.toList.map UInt8.toNat))) (.string ⟨(Lib.join (xs.map (·.data.toList)) sp.data.toList).toArray⟩) :=
                .str _ _ (by rw [hj]) (by rw [hj, List.length_map]; unfold maxStr; omega)
              rcases k7 with ⟨a, c, rfl, k7⟩ | ⟨s, rfl, _⟩
              · obtain ⟨hcap, hspot⟩ := VR.slice_cap hsl hy
                by_cases hn0 : n = 0
                · subst hn0
                  have hx0 : xs = [] := List.eq_nil_of_length_eq_zero hlen
                  subst hx0
                  refine (h0 a c sp w).mono fun e w' ⟨e1, e2⟩ => ⟨_, e1, e2 ▸ Below.refl _ _, res⟩
                · obtain ⟨ad, rfl, hcell⟩ := k7 (by omega)
                  have hs := hspot ad rfl hn0
                  obtain ⟨bk, o, sp'⟩ := ad
                  simp only at hs
                  subst hs
                  have hcells : ∀ (j : Nat) x, xs[j]? = some x → w.cell? ⟨bk, o + j, none⟩ = some (.string x) := fun j x hx => by
                    have := hcell j (.string x) (by rw [List.getElem?_map, hx]; rfl)
                    by_cases hj0 : j = 0
                    · subst hj0; simpa [Addr.add] using this
                    · simpa [Addr.add, hj0] using this
                  have hbk : bk < w.heap.size := by
                    cases xs with
                    | nil => simp at hlen; omega
                    | cons x r =>
                      have hc0 := hcells 0 x rfl
                      unfold World.cell? at hc0
                      split at hc0
                      · rename_i hh; exact (Array.getElem?_eq_some_iff.1 hh).1
                      · cases hc0
                  subst hlen
                  exact (h1 bk o c xs sp w hcells hbk l1 hcap l2).mono fun e w' ⟨e1, e2⟩ => ⟨_, e1, e2, res⟩
              · cases hy <;> simp [isSl] at hsl
          · cases h
  · cases h
end
end Go.Sy

/- Package variables that hold an error of package errors. No condition. -/
namespace Go.Sy
open Go.RowKit
set_option linter.unusedVariables false
section
variable {P : Program}
/-- An error variable that is listed: its cell, and the address has no spot. -/
theorem sent_cell {l : List (String × DataW Unit)} {W : World} (hL : laidMet P l W) {n nm : String} {text : List UInt8} {g : Nat} {ti tp te ts : TypeId} {ms : Array (String × TypeId)} {f : Field} (hm : (n, (.iface nm (.ptr (.agg [.lit (.string text)])) : DataW Unit)) ∈ l)
    (hg : P.globalNamed n = some g) (ht : (P.globals[g]?).map (·.type) = some ti) (hi : P.underlying ti = some (.interface ms)) (hrow : ∀ u, P.typeName? 3 u = some nm → u = tp)
    (hp : P.underlying tp = some (.pointer te)) (he : P.underlying te = some (.struct #[f])) (hft : f.type = ts) (hfo : f.offset = 0) (hs : P.underlying ts = some .string) (hc : P.cellsOf te = 1) (hcs : P.cellsOf ts = 1) :
    ∃ (a : Addr) (s : ByteArray), W.var? P n = some #[.iface tp (.pointer (some a))] ∧ a.spot = none ∧ W.cell? a = some (.string s) ∧ s.data.toList = text ∧ s.size ≤ maxLen := by
  induction l with
  | nil => cases hm
  | cons x r ih =>
    rcases List.mem_cons.1 hm with e | e
    · subst e
      obtain ⟨a, s, h1, h2, h3, h4⟩ := laid_sentinel hL hg ht hi hrow hp he hft hfo hs hc hcs
      refine ⟨a, s, h1, ?_, h2, h3, h4⟩
      obtain ⟨ps, ⟨g0, t0, cs0, f0, p0, q0, hg0, ht0, hv0, hd0, _, e0⟩, _, hrows⟩ := hL
      obtain rfl := Option.some.inj (hg.symm.trans hg0)
      subst e0
      have hcs0 : cs0 = #[.iface tp (.pointer (some a))] := Option.some.inj (hv0.symm.trans h1)
      subst hcs0
      have ok := (hrows g 0 (by simp [MemPlace.row])).2 tp (.pointer (some a)) (by simpa using World.var?_cell hg0 h1 0)
      unfold Value.okWide at ok
      simp only [hp] at ok
      unfold Cell.okWide at ok
      simp only [Cell.ok, hp] at ok
      exact ok.2.1
    · exact ih hL.tail e
theorem glob_sent {l : List (String × DataW Unit)} {W : World} {σ : Nat → Value} (hL : laidMet P l W) {n nm : String} {text : List UInt8} {g : Nat} {ti tp te ts : TypeId} {ms : Array (String × TypeId)} {f : Field} (hm : (n, (.iface nm (.ptr (.agg [.lit (.string text)])) : DataW Unit)) ∈ l)
    (hg : P.globalNamed n = some g) (ht : (P.globals[g]?).map (·.type) = some ti) (hi : P.underlying ti = some (.interface ms)) (hrow : ∀ u, P.typeName? 3 u = some nm → u = tp)
    (hp : P.underlying tp = some (.pointer te)) (he : P.underlying te = some (.struct #[f])) (hft : f.type = ts) (hfo : f.offset = 0) (hs : P.underlying ts = some .string) (hc : P.cellsOf te = 1) (hcs : P.cellsOf ts = 1) :
    VR (Env.still W σ) W (.eptr (.agg [.iface tp (.eptr (.agg [.str (text.map UInt8.toNat)]) 0)]) 0) (.pointer (some ⟨g, 0, none⟩)) := by
  obtain ⟨⟨b, o, sp⟩, s, h1, h2, h3, h4, h5⟩ := sent_cell hL hm hg ht hi hrow hp he hft hfo hs hc hcs
  simp only at h2
  subst h2
  obtain ⟨ty, fz, hblk⟩ := var_block hg h1
  have hlt : g < W.heap.size := (Array.getElem?_eq_some_iff.1 hblk).1
  have hb : b < W.heap.size := by
    unfold World.cell? at h3
    split at h3
    · rename_i hh; exact (Array.getElem?_eq_some_iff.1 hh).1
    · cases h3
  have inner : VR (Env.still W σ) W (.eptr (.agg [.str (text.map UInt8.toNat)]) 0) (.pointer (some ⟨b, o, none⟩)) := by
    have := VR.eptr (E := Env.still W σ) (w := W) (.agg [.str (text.map UInt8.toNat)]) 0 b o (.agg #[.string s]) rfl hb ?_ fun j c hj => ?_
    · simpa using this
    · refine VR.mk_agg (VRs.cons (.str _ s (by rw [h4]) (by rw [List.length_map, ← h4, Array.length_toList]; unfold maxLen at h5; unfold maxStr; exact h5)) VRs.nil) fun v hv => ?_
      simp at hv; subst hv; rfl
    · cases j with
      | zero =>
        have e : c = .string s := (Option.some.inj hj).symm
        rw [e]; exact h3
      | succ j => simp [Value.cells] at hj
  have := VR.eptr (E := Env.still W σ) (w := W) (.agg [.iface tp (.eptr (.agg [.str (text.map UInt8.toNat)]) 0)]) 0 g 0 (.agg #[.iface tp (.pointer (some ⟨b, o, none⟩))]) rfl hlt ?_ fun j c hj => ?_
  · simpa using this
  · refine VR.mk_agg (VRs.cons (.iface _ _ _ inner) VRs.nil) fun v hv => ?_
    simp at hv; subst hv; rfl
  · cases j with
    | zero =>
      have e : c = .iface tp (.pointer (some ⟨b, o, none⟩)) := (Option.some.inj hj).symm
      rw [e]; simp [World.cell?, hblk]
    | succ j => simp [Value.cells] at hj
end
end Go.Sy

/- Calls that are known from an earlier run; functions that the slow machine runs, on the part of the heap that they reach. No condition. -/
namespace Go.Sy
set_option linter.unusedVariables false
set_option linter.unusedSimpArgs false

/-- Values in which no handle stands. -/
def pureV : Nat → AV → Bool
  | 0, _ => false
  | d + 1, v => match v with
    | .bool _ | .int _ _ | .str _ | .nilptr | .nilslice | .nilmap | .nilfunc | .niliface | .sym _ => true
    | .eptr e _ => pureV d e
    | .lst _ es => es.all (pureV d)
    | .func _ a b => a.all (pureV d) && b.all (pureV d)
    | .iface _ v => pureV d v
    | .agg cs => cs.all (pureV d)
    | .tup cs => cs.all (pureV d)
    | _ => false

section
variable {P : Program} {G : Cx} {E E' : Env} {w w' : World} {H : Heap}

theorem all_get {p : AV → Bool} {l : List AV} (h : l.all p = true) {i : Nat} {x : AV} (hx : l[i]? = some x) : p x = true :=
  List.all_eq_true.1 h x (List.mem_of_getElem? hx)

theorem VR.unhold (hZ : ∀ b, E.Z b → E'.Z b) (hσ : E'.σ = E.σ) {v : AV} {cv : Value} (h : VR E w v cv) : ∀ d, pureV d v = true → VR E' w v cv := by
  induction h with
  | bool b => intro d _; exact .bool b
  | int k n h => intro d _; exact .int k n h
  | str l s h hl => intro d _; exact .str l s h hl
  | nilptr => intro d _; exact .nilptr
  | ptr h off hd => intro d hp; cases d <;> simp [pureV] at hp
  | eptr e off b o cv hfl hz _ hc ih =>
    intro d hp
    cases d with
    | zero => simp [pureV] at hp
    | succ d => exact .eptr e off b o cv hfl (hZ b hz) (ih d (by simpa [pureV] using hp)) hc
  | nilslice => intro d _; exact .nilslice
  | lst0 sz a c hc => intro d _; exact .lst0 sz a c hc
  | lst es b o cap sz f hz hcap hcm hfl _ hc ih =>
    intro d hp
    cases d with
    | zero => simp [pureV] at hp
    | succ d => 
      have hp' : es.all (pureV d) = true := hp
      exact .lst es b o cap sz f (hZ b hz) hcap hcm hfl (fun i e he => ih i e he d (all_get hp' he)) hc
  | row h off len sz cp cap ex hd hlen hcap hsz hcp hex hb => intro d hp; cases d <;> simp [pureV] at hp
  | row0 h off sz ex a => intro d hp; cases d <;> simp [pureV] at hp
  | nilmap => intro d _; exact .nilmap
  | map h hd => intro d hp; cases d <;> simp [pureV] at hp
  | nilfunc => intro d _; exact .nilfunc
  | func fn f c vf vc hf hc _ _ rf rc =>
    intro d hp
    cases d with
    | zero => simp [pureV] at hp
    | succ d =>
      have hp' : (f.all (pureV d) && c.all (pureV d)) = true := hp
      rw [Bool.and_eq_true] at hp'
      exact .func fn f c vf vc hf hc (fun i x v hx hv => rf i x v hx hv d (all_get hp'.1 hx)) (fun i x v hx hv => rc i x v hx hv d (all_get hp'.2 hx))
  | niliface => intro d _; exact .niliface
  | iface t v cv _ ih =>
    intro d hp
    cases d with
    | zero => simp [pureV] at hp
    | succ d => exact .iface t v cv (ih d (by simpa [pureV] using hp))
  | agg cs vs hl _ h1 ih =>
    intro d hp
    cases d with
    | zero => simp [pureV] at hp
    | succ d =>
      have hp' : cs.all (pureV d) = true := hp
      exact .agg cs vs hl (fun i x v hx hv => ih i x v hx hv d (all_get hp' hx)) h1
  | tup cs vs hl _ ih =>
    intro d hp
    cases d with
    | zero => simp [pureV] at hp
    | succ d =>
      have hp' : cs.all (pureV d) = true := hp
      exact .tup cs vs hl (fun i x v hx hv => ih i x v hx hv d (all_get hp' hx))
  | sym i cv he h1 => intro d _; exact .sym i cv (he.trans (congrFun hσ i).symm) h1

/-- The package variables hold no handles. -/
def PureG (G : Cx) : Prop := ∀ g v, G.glob g = some v → pureV 20 v = true

/-- A call whose arguments and result hold no handles, and that leaves nothing behind: the same in any heap. -/
theorem fn_anywhere {f : FuncId} {args : List AV} {v : AV} {n : Nat} (hG : PureG G) (ha : args.all (pureV 40) = true) (hv : pureV 40 v = true) (ht : FnT P G f args [] 0 v [] n) (H : Heap) (nx : Nat) : FnT P G f args H nx v H nx := by
  intro E w cargs hr hva hg hfr
  have hr0 : HR ⟨E.ρ, fun _ => False, E.Z, E.σ⟩ [] w := ⟨.nil, fun p hp => by simp at hp, fun p hp => by simp at hp, fun p hp => by simp at hp, fun p hp => by simp at hp, hr.zlt⟩
  have hva0 : VRs ⟨E.ρ, fun _ => False, E.Z, E.σ⟩ w args cargs.toList := ⟨hva.1, fun i x u hx hu => VR.unhold (E := E) (E' := ⟨E.ρ, fun _ => False, E.Z, E.σ⟩) (fun _ h => h) rfl (hva.2 i x u hx hu) 40 (all_get ha hx)⟩
  have hg0 : GR G ⟨E.ρ, fun _ => False, E.Z, E.σ⟩ w := fun g u h => VR.unhold (E := E) (E' := ⟨E.ρ, fun _ => False, E.Z, E.σ⟩) (fun _ h => h) rfl (hg g u h) 20 (hG g u h)
  refine (ht _ w cargs hr0 hva0 hg0 fun _ _ _ h => h).mono fun e w' h => ?_
  obtain ⟨cv, E1, rfl, h1, h2, h3⟩ := h
  have hold : ∀ x, x < w.heap.size → w'.heap[x]? = w.heap[x]? := fun x hx => h2.old x hx fun p hp => by simp at hp
  have hZ : ∀ x, E1.Z x → E.Z x ∨ w.heap.size ≤ x := fun x hx => (h2.znew x hx).imp id fun h => h.elim (fun ⟨p, hp, _⟩ => by simp at hp) id
  have hm : ∀ {u cu}, VR E w u cu → VR ⟨E.ρ, E.D, E1.Z, E.σ⟩ w' u cu := fun hu => VR.mono (E := E) (E' := ⟨E.ρ, E.D, E1.Z, E.σ⟩) (fun _ h => ⟨h, rfl⟩) (fun b hb => ⟨h2.zmono b hb, hold b (hr.zlt b hb)⟩) h2.shapes hu rfl
  refine ⟨cv, ⟨E.ρ, E.D, E1.Z, E.σ⟩, rfl, ⟨hr.nodup, hr.dom, hr.inj, fun p hp => (hr.obj p hp).mono (hold _ (hr.lt hp)) hm, fun p hp hz => ?_, h1.zlt⟩,
    ⟨Nat.le_refl _, fun _ _ => rfl, fun h => ⟨.inl, fun h => h.elim id fun ⟨x, y⟩ => by omega⟩, h2.zmono, fun x hx => (hZ x hx).imp id .inr, fun p hp => .inl ⟨p, hp, rfl⟩, h2.tape, h2.os, h2.output, h2.size, fun x hx _ => hold x hx, h2.shapes, rfl⟩, ?_⟩
  · rcases hZ _ hz with h | h
    · exact hr.nz p hp h
    · have h1 := hr.lt hp
      have h2 : w.heap.size ≤ E.ρ p.1 := h
      omega
  · exact VR.unhold (E := E1) (E' := ⟨E.ρ, E.D, E1.Z, E.σ⟩) (fun _ h => h) h2.sig.symm h3 40 hv

/-- What is known of a call: with no handles, anywhere; or just so. -/
inductive ME where
  | any (args : List AV) (v : AV)
  | just (args : List AV) (H : Heap) (nx : Nat) (v : AV) (H' : Heap) (nx' : Nat)
def ME.ok (P : Program) (G : Cx) (f : FuncId) : ME → Prop
  | .any args v => Enters P f ∧ ∀ H nx, FnT P G f args H nx v H nx
  | .just args H nx v H' nx' => Enters P f ∧ nx ≤ nx' ∧ FnT P G f args H nx v H' nx'
noncomputable def memoF (args : List AV) (H : Heap) (nx : Nat) (d : Unit → Option Out) : List ME → Option Out
  | [] => d ()
  | .any a v :: r => match allb (aeq 40) args a with
    | true => fAV v fun v => some (v, H, nx)
    | false => memoF args H nx d r
  | .just a H0 n0 v H' n' :: r => match Nat.beq nx n0 && allb (aeq 40) args a && hEq H H0 with
    | true => fAV v fun v => fH H' fun H' => fN n' fun n' => some (v, H', n')
    | false => memoF args H nx d r
theorem memoF_ok {f : FuncId} {args : List AV} {H : Heap} {nx : Nat} {d : Unit → Option Out} {v : AV} {H' : Heap} {nx' : Nat} : ∀ {l : List ME}, (∀ m ∈ l, m.ok P G f) → (d () = some (v, H', nx') → Enters P f ∧ nx ≤ nx' ∧ FnT P G f args H nx v H' nx') →
    memoF args H nx d l = some (v, H', nx') → Enters P f ∧ nx ≤ nx' ∧ FnT P G f args H nx v H' nx'
  | [], _, hd, h => hd h
  | .any a u :: r, hl, hd, h => by
    simp only [memoF] at h
    split at h
    · rename_i e
      rw [fAV_eq] at h
      cases h
      have := hl _ (.head _)
      rw [aeqs_eq e]
      exact ⟨this.1, Nat.le_refl _, this.2 _ _⟩
    · exact memoF_ok (fun m hm => hl m (.tail _ hm)) hd h
  | .just a H0 n0 u H1 n1 :: r, hl, hd, h => by
    simp only [memoF] at h
    split at h
    · rename_i e
      rw [fAV_eq, fH_eq, fN_eq] at h
      cases h
      rw [Bool.and_eq_true, Bool.and_eq_true] at e
      have := hl _ (.head _)
      rw [nbeq_true e.1.1, aeqs_eq e.1.2, hEq_eq e.2]
      exact this
    · exact memoF_ok (fun m hm => hl m (.tail _ hm)) hd h

noncomputable section
def MemoOK (P : Program) (G : Cx) (M : Nat → Option (List ME)) : Prop := ∀ f l, M f = some l → ∀ m ∈ l, m.ok P G f
def noMemo : Nat → Option (List ME) := fun _ => none
theorem noMemo_ok : MemoOK P G noMemo := fun f l h => by cases h
def entM (M : Nat → Option (List ME)) (S : Nat → Option FunC) (F : Nat → Option (XF × Pol)) (G : Cx) (lf f : Nat) : Box FunC := match S f with
  | some g => .mk g
  | none => match F f with
    | none => .mk noFun
    | some (xf, pol) => match M f with
      | none => funC G lf xf pol
      | some l => bx (funC G lf xf pol) fun g => .mk fun call args H nx => memoF args H nx (fun _ => g call args H nx) l
/-- Calls, as the kernel runs them, where some are known. -/
def enterM (M : Nat → Option (List ME)) (S : Nat → Option FunC) (F : Nat → Option (XF × Pol)) (G : Cx) (lf : Nat) (d : Nat) : Call := Nat.rec (motive := fun _ => Call) (fun _ _ _ _ => none) (fun _ ih f args H nx => Box.rec (motive := fun _ => Option Out) (fun g => g ih args H nx) (entM M S F G lf f)) d
theorem enterM_sound {M : Nat → Option (List ME)} {S : Nat → Option FunC} {F : Nat → Option (XF × Pol)} (hM : MemoOK P G M) (hS : SpecOK P G S) (hF : TableOK P F) (hm : MethOK P G) (hmix : P.follows .mixedOrders = true) (lf : Nat) : ∀ d, CallOK P G (enterM M S F G lf d)
  | 0 => fun _ _ _ _ _ _ _ h => by cases h
  | d + 1 => by
    intro f args H nx v H' nx' h
    have ih := enterM_sound hM hS hF hm hmix lf d
    have h' : (entM M S F G lf f).un (enterM M S F G lf d) args H nx = some (v, H', nx') := by
      rw [← h]
      show _ = Box.rec (motive := fun _ => Option Out) (fun g => g (enterM M S F G lf d) args H nx) (entM M S F G lf f)
      cases entM M S F G lf f; rfl
    unfold entM at h'
    split at h'
    · rename_i g hg
      exact hS f g hg _ ih f args H nx v H' nx' (by show (if f = f then _ else _) = _; rw [if_pos rfl]; exact h')
    · split at h'
      · cases h'
      · rename_i xf pol hf
        have body : (funC G lf xf pol).un (enterM M S F G lf d) args H nx = some (v, H', nx') → Enters P f ∧ nx ≤ nx' ∧ FnT P G f args H nx v H' nx' := fun h =>
          enter1_sound hF hm hmix lf ih f args H nx v H' nx' (funC_ok hf lf _ _ _ _ _ h)
        split at h'
        · exact body h'
        · rename_i l hl
          rw [bx_eq] at h'
          exact memoF_ok (P := P) (G := G) (d := fun _ => (funC G lf xf pol).un (enterM M S F G lf d) args H nx) (hM f l hl) body h'
/-- A call that was run says what it gives. -/
theorem any_of_run {M : Nat → Option (List ME)} {S : Nat → Option FunC} {F : Nat → Option (XF × Pol)} {lf d f n : Nat} {args : List AV} {v : AV} (hM : MemoOK P G M) (hS : SpecOK P G S) (hF : TableOK P F) (hm : MethOK P G) (hmix : P.follows .mixedOrders = true) (hG : PureG G)
    (ha : args.all (pureV 40) = true) (hv : pureV 40 v = true) (h : enterM M S F G lf d f args [] 0 = some (v, [], n)) : (ME.any args v).ok P G f := by
  obtain ⟨h1, _, h2⟩ := enterM_sound hM hS hF hm hmix lf d _ _ _ _ _ _ _ h
  exact ⟨h1, fn_anywhere hG ha hv h2⟩
theorem just_of_run {M : Nat → Option (List ME)} {S : Nat → Option FunC} {F : Nat → Option (XF × Pol)} {lf d f nx n : Nat} {args : List AV} {v : AV} {H H' : Heap} (hM : MemoOK P G M) (hS : SpecOK P G S) (hF : TableOK P F) (hm : MethOK P G) (hmix : P.follows .mixedOrders = true)
    (h : enterM M S F G lf d f args H nx = some (v, H', n)) : (ME.just args H nx v H' n).ok P G f :=
  enterM_sound hM hS hF hm hmix lf d _ _ _ _ _ _ _ h
theorem calls_runM {M : Nat → Option (List ME)} {S : Nat → Option FunC} {F : Nat → Option (XF × Pol)} {lf d : Nat} {f : FuncId} {args : List AV} {cargs : Array Value} {W : World} {σ : Nat → Value} (hM : MemoOK P G M) (hS : SpecOK P G S) (hF : TableOK P F) (hm : MethOK P G) (hmix : P.follows .mixedOrders = true)
    (h : saysTrue (enterM M S F G lf d f args [] 0) = true) (hv : VRs (Env.still W σ) W args cargs.toList) (hg : GR G (Env.still W σ) W) : Calls P f cargs W fun e W' => e = .returned (.bool true) ∧ Kept W W' := by
  obtain ⟨H1, n, h1⟩ := saysTrue_spec h
  exact calls_true (enterM_sound hM hS hF hm hmix lf d _ _ _ _ _ _ _ h1).2.2 hv hg

def collectM (f : Nat) : List (Nat × ME) → List ME
  | [] => []
  | (g, m) :: r => match Nat.beq g f with
    | true => m :: collectM f r
    | false => collectM f r
def tabM (L : List (Nat × ME)) (f : Nat) : Option (List ME) := match collectM f L with
  | [] => none
  | m :: r => some (m :: r)
def OKL (P : Program) (G : Cx) (L : List (Nat × ME)) : Prop := ∀ p ∈ L, p.2.ok P G p.1
theorem okNil : OKL P G [] := fun p h => by cases h
theorem okCons {p : Nat × ME} {L : List (Nat × ME)} (h : p.2.ok P G p.1) (k : OKL P G L) : OKL P G (p :: L) := fun q hq => by
  rcases List.mem_cons.1 hq with e | e
  · rw [e]; exact h
  · exact k q e
theorem collectM_mem {f : Nat} {m : ME} : ∀ {L : List (Nat × ME)}, m ∈ collectM f L → (f, m) ∈ L
  | [], h => by cases h
  | (g, u) :: r, h => by
    simp only [collectM] at h
    split at h
    · rename_i e
      rw [nbeq_true e]
      rcases List.mem_cons.1 h with h | h
      · rw [h]; exact .head _
      · exact .tail _ (collectM_mem h)
    · exact .tail _ (collectM_mem h)
theorem tabM_ok {L : List (Nat × ME)} (h : OKL P G L) : MemoOK P G (tabM L) := by
  intro f l hl m hm
  unfold tabM at hl
  split at hl
  · cases hl
  · rename_i u r e
    cases hl
    rw [← e] at hm
    exact h _ (collectM_mem hm)

/-- The run gives just that value, and leaves nothing. -/
def givesV (v : AV) (r : Option Out) : Bool := match r with
  | some (u, [], _) => aeq 40 u v
  | _ => false
theorem givesV_spec {v : AV} {r : Option Out} (h : givesV v r = true) : ∃ n, r = some (v, [], n) := by
  unfold givesV at h
  split at h
  · rename_i u n
    rw [aeq_sound 40 _ _ h]
    exact ⟨n, rfl⟩
  · cases h
theorem any_of_gives {M : Nat → Option (List ME)} {S : Nat → Option FunC} {F : Nat → Option (XF × Pol)} {lf d f : Nat} {args : List AV} {v : AV} (hM : MemoOK P G M) (hS : SpecOK P G S) (hF : TableOK P F) (hm : MethOK P G) (hmix : P.follows .mixedOrders = true) (hG : PureG G)
    (ha : (args.all (pureV 40) && pureV 40 v) = true) (h : givesV v (fAVs args fun a => enterM M S F G lf d f a [] 0) = true) : (ME.any args v).ok P G f := by
  rw [fAVs_eq] at h
  obtain ⟨n, h1⟩ := givesV_spec h
  rw [Bool.and_eq_true] at ha
  exact any_of_run hM hS hF hm hmix hG ha.1 ha.2 h1

/- The slow machine on a part of the heap. -/
theorem CallOK.framed {g : Call} (hg : CallOK P G g) (cut : List AV → Heap → Heap × Heap) (hcut : ∀ args H, (cut args H).1 ++ (cut args H).2 = H ∨ ((cut args H).1 ++ (cut args H).2).Perm H) :
    CallOK P G fun f args H nx => match g f args (cut args H).1 nx with | some (v, A, n) => some (v, A ++ (cut args H).2, n) | none => none := by
  intro f args H nx v H' nx' h
  simp only at h
  split at h
  · rename_i v1 A n hc
    cases h
    obtain ⟨h1, h2, h3⟩ := hg _ _ _ _ _ _ _ hc
    have hp : ((cut args H).1 ++ (cut args H).2).Perm H := (hcut args H).elim (fun e => by rw [e]) id
    refine ⟨h1, h2, fun E w cargs hr hva hgr hfr => ?_⟩
    have hr' := hr.perm hp.symm
    refine (h3 E w cargs (hr'.sub (List.sublist_append_left _ _)) hva hgr hfr).mono fun e w' hh => ?_
    obtain ⟨cv, E', rfl, k1, k2, k3⟩ := hh
    obtain ⟨f1, f2⟩ := Tr.frame hr' k1 k2
    exact ⟨cv, E', rfl, f1, f2.perm hp (.refl _), k3⟩
  · cases h

/-- Handles in a value. -/
def hsV : Nat → AV → List Nat → List Nat
  | 0, _, l => l
  | d + 1, v, l => match v with
    | .ptr h _ => h :: l
    | .row h _ _ _ _ _ => h :: l
    | .map h => h :: l
    | .eptr e _ => hsV d e l
    | .lst _ es => es.foldr (hsV d) l
    | .func _ a b => a.foldr (hsV d) (b.foldr (hsV d) l)
    | .iface _ v => hsV d v l
    | .agg cs => cs.foldr (hsV d) l
    | .tup cs => cs.foldr (hsV d) l
    | _ => l
def hsO : HO → List Nat → List Nat
  | .cells _ cs, l => cs.foldr (hsV 40) l
  | .map es, l => es.foldr (fun p l => hsV 40 p.1 (hsV 40 p.2 l)) l
  | .siter _ _, l => l
/-- Objects to which a handle of l points go over to A. -/
def cutGo (l : List Nat) : Heap → Heap × Heap
  | [] => ([], [])
  | (h, o) :: r => match inN h l with
    | true => ((h, o) :: (cutGo l r).1, (cutGo l r).2)
    | false => ((cutGo l r).1, (h, o) :: (cutGo l r).2)
theorem cutGo_perm (l : List Nat) : ∀ H : Heap, ((cutGo l H).1 ++ (cutGo l H).2).Perm H
  | [] => .nil
  | (h, o) :: r => by
    simp only [cutGo]
    split
    · exact (cutGo_perm l r).cons _
    · exact List.perm_middle.trans ((cutGo_perm l r).cons _)
def reach (H : Heap) : Nat → List Nat → List Nat
  | 0, l => l
  | d + 1, l => reach H d (H.foldr (fun p a => match inN p.1 l with | true => p.1 :: hsO p.2 a | false => a) l)
def cutR (args : List AV) (H : Heap) : Heap × Heap := cutGo (reach H 3 (args.foldr (hsV 40) [])) H
theorem cutR_perm (args : List AV) (H : Heap) : ((cutR args H).1 ++ (cutR args H).2).Perm H := cutGo_perm _ H
def forceO (o : Option Out) : Option Out := match o with
  | some (v, H, n) => fAV v fun v => fH H fun H => fN n fun n => some (v, H, n)
  | none => none
theorem forceO_eq (o : Option Out) : forceO o = o := by
  match o with
  | some (v, H, n) => simp only [forceO, fAV_eq, fH_eq, fN_eq]
  | none => rfl
/-- A function that the slow machine runs. -/
def slowS (F : Nat → Option (XF × Pol)) (G : Cx) (lf f : Nat) : FunC := fun call args H nx => forceO (match enter1 F G lf call f args (cutR args H).1 nx with | some (v, A, n) => some (v, A ++ (cutR args H).2, n) | none => none)
theorem slowS_ok {F : Nat → Option (XF × Pol)} (hF : TableOK P F) (hm : MethOK P G) (hmix : P.follows .mixedOrders = true) (lf f : Nat) (call : Call) (hc : CallOK P G call) : CallOK P G fun f' args H nx => if f' = f then slowS F G lf f call args H nx else none := by
  intro f' args H nx v H' nx' h
  simp only at h
  split at h
  · rename_i e
    subst e
    unfold slowS at h
    rw [forceO_eq] at h
    exact CallOK.framed (enter1_sound hF hm hmix lf hc) cutR (fun a H => .inr (cutR_perm a H)) f' args H nx v H' nx' h
  · cases h
end
end
end Go.Sy

/- Arguments that are not looked at: cells of which nothing is known. No condition. -/
namespace Go.Sy
open Go.ChangeShapes Go.RowKit
set_option linter.unusedVariables false
section
variable {P : Program} {w : World} {r : Reach} {b : Nat} {t : TypeId} {v : Value}
theorem okCell_one (h : Cell.ok P w r b t v) : v.oneCell' = true := by
  unfold Cell.ok at h
  split at h <;> first | rfl | exact h.elim
theorem okWideCell_one (h : Cell.okWide P w r b t v) : v.oneCell' = true := by
  unfold Cell.okWide at h
  split at h <;> first | rfl | exact okCell_one h
/-- A struct's cells, none of which is a struct. -/
theorem okWide_cells {fs : Array Field} (ht : P.underlying t = some (.struct fs)) (h : Value.okWide P w r b t v) : ∃ cs : Array Value, v = .agg cs ∧ cs.size = P.cellsOf t ∧ ∀ c ∈ cs.toList, c.oneCell' = true := by
  unfold Value.okWide at h
  rw [ht] at h
  obtain ⟨cs, rfl, h1, ts, h2, h3, h4⟩ := h
  refine ⟨cs, rfl, h1, fun c hc => ?_⟩
  obtain ⟨i, hi⟩ := List.getElem?_of_mem hc
  obtain ⟨u, _, hu⟩ := h4 i c (by simpa using hi)
  exact okWideCell_one hu
def syms (n : Nat) : List AV := (List.range n).map .sym
theorem agg_syms {W : World} {cs : Array Value} (h1 : ∀ c ∈ cs.toList, c.oneCell' = true) : VR (Env.still W fun i => cs.getD i (.bool true)) W (.agg (syms cs.size)) (.agg cs) := by
  refine VR.mk_agg ⟨by simp [syms], fun i x u hx hu => ?_⟩ h1
  have hi : i < cs.size := by have := (List.getElem?_eq_some_iff.1 hu).1; simpa using this
  unfold syms at hx
  rw [List.getElem?_map, List.getElem?_range hi] at hx
  cases hx
  refine .sym i u ?_ (h1 u (List.mem_of_getElem? hu))
  have e : cs[i]? = some u := by simpa using hu
  show u = cs.getD i (.bool true)
  simp [e]

def symsAt (o n : Nat) : List AV := (List.range n).map fun i => .sym (o + i)
/-- A struct's cells, each unknown, from a number on. -/
theorem agg_symsAt {W : World} {σ : Nat → Value} {o n : Nat} {cs : Array Value} (hn : cs.size = n) (h1 : ∀ c ∈ cs.toList, c.oneCell' = true) (hσ : ∀ (i : Nat) c, cs[i]? = some c → σ (o + i) = c) : VR (Env.still W σ) W (.agg (symsAt o n)) (.agg cs) := by
  refine VR.mk_agg ⟨by simp [symsAt, hn], fun i x u hx hu => ?_⟩ h1
  have hi : i < n := by have := (List.getElem?_eq_some_iff.1 hu).1; rw [← hn]; simpa using this
  unfold symsAt at hx
  rw [List.getElem?_map, List.getElem?_range hi] at hx
  cases hx
  have e : cs[i]? = some u := by simpa using hu
  exact .sym _ u (hσ i u e).symm (h1 u (List.mem_of_getElem? hu))
theorem cell_sym {W : World} {σ : Nat → Value} {o : Nat} {v : Value} (h1 : v.oneCell' = true) (hσ : σ o = v) : VR (Env.still W σ) W (.sym o) v := .sym _ v hσ.symm h1
theorem okWide_one {P : Program} {w : World} {r : Reach} {b : Nat} {t : TypeId} {v : Value} (h : Value.okWide P w r b t v) (hs : ∀ fs, P.underlying t ≠ some (.struct fs)) (ha : ∀ n e, P.underlying t ≠ some (.array n e)) : v.oneCell' = true := by
  unfold Value.okWide at h
  split at h
  · rename_i fs e; exact absurd e (hs fs)
  · rename_i n x e; exact absurd e (ha n x)
  · exact okWideCell_one h

/-- What a call keeps, told of a row: its arguments read as before. -/
theorem trod_kept {H : Type} {enc : TypeId × Value → H} {P : Program} {t : TypeId} (hl : laidOutB P = true) (hr : P.readableRec t = true) (hrow : t < P.types.size) {W W' : World} {v : Value} {d : DataW H} {ps : List MemPlace} {sp : Nat → Bool}
    (h : DataW.Trod enc P W 0 (fun _ => true) true t v d ps) (hb : Kept W W') (hlt : ∀ x ∈ ps, x.block < W.heap.size) (hs : ∀ x ∈ ps, sp x.block = true) : DataW.Trod enc P W' 0 sp true t v d ps :=
  WideElems.Trod_stays hl hr hrow h (fun x hx => hb.below.same (hlt x hx)) hs
end
end Go.Sy

/- More functions of Go's library that are known: strings.Repeat; slices.Sorted of a map's keys. No condition. -/
namespace Go.Sy
open Go.RowKit
set_option linter.unusedVariables false
set_option linter.unusedSimpArgs false
section
variable {P : Program} {G : Cx} {E : Env} {w w' : World} {H : Heap}

/-- A new block that a call has left: owned from now on. -/
theorem below_new {nx g : Nat} {ho : HO} (hr : HR E H w) (hb : Below w.heap.size w w') (ha : ¬ E.D nx) (hg : w.heap.size ≤ g) (hlt : g < w'.heap.size)
    (hob : (∀ {v cv}, VR E w v cv → VR (E.add nx g) w' v cv) → OR (E.add nx g) w' g ho) :
    HR (E.add nx g) ((nx, ho) :: H) w' ∧ Tr E H w (E.add nx g) ((nx, ho) :: H) w' nx (nx + 1) ∧ ∀ {v cv}, VR E w v cv → VR (E.add nx g) w' v cv := by
  have hne : ∀ {h}, E.D h → h ≠ nx := fun h e => ha (e ▸ h)
  have hS : Shapes w w' := fun b c e f h => ⟨c, f, (hb.block b (Array.getElem?_eq_some_iff.1 h).1).trans h, rfl⟩
  have hm : ∀ {v cv}, VR E w v cv → VR (E.add nx g) w' v cv := fun h =>
    h.mono (fun x hx => ⟨Or.inl hx, Env.add_ρ_old (hne hx)⟩) (fun b hb' => ⟨hb', hb.block b (hr.zlt b hb')⟩) hS
  have hρ : ∀ p ∈ H, (E.add nx g).ρ p.1 = E.ρ p.1 := fun p hp => Env.add_ρ_old (hne (hr.dom p hp))
  refine ⟨⟨?_, ?_, ?_, ?_, ?_, ?_⟩, ⟨by omega, fun h hh => Env.add_ρ_old (hne hh), ?_, fun _ h => h, fun _ h => .inl h, ?_, hb.tape, hb.os, hb.output, hb.size, fun x hx _ => hb.block x hx, hS, rfl⟩, hm⟩
  · show (nx :: Heap.keys H).Nodup
    refine List.nodup_cons.2 ⟨fun hm => ?_, hr.nodup⟩
    obtain ⟨p, hp, e⟩ := List.mem_map.1 hm
    exact hne (hr.dom p hp) e
  · intro p hp
    cases hp with
    | head => exact .inr rfl
    | tail _ hp => exact .inl (hr.dom p hp)
  · intro p hp q hq e
    cases hp with
    | head =>
      cases hq with
      | head => rfl
      | tail _ hq =>
        rw [hρ q hq, Env.add_ρ_new] at e
        have := hr.lt hq
        omega
    | tail _ hp =>
      cases hq with
      | head =>
        rw [hρ p hp, Env.add_ρ_new] at e
        have := hr.lt hp
        omega
      | tail _ hq =>
        rw [hρ p hp, hρ q hq] at e
        exact hr.inj p hp q hq e
  · intro p hp
    cases hp with
    | head => rw [Env.add_ρ_new]; exact hob hm
    | tail _ hp => rw [hρ p hp]; exact (hr.obj p hp).mono (hb.block _ (hr.lt hp)) hm
  · intro p hp hz
    cases hp with
    | head =>
      rw [Env.add_ρ_new] at hz
      have := hr.zlt g hz
      omega
    | tail _ hp => rw [hρ p hp] at hz; exact hr.nz p hp hz
  · intro b hz
    exact Nat.lt_of_lt_of_le (hr.zlt b hz) hb.size
  · intro h
    show E.D h ∨ h = nx ↔ _
    constructor
    · rintro (h1 | h1)
      · exact .inl h1
      · exact .inr ⟨by omega, by omega⟩
    · rintro (h1 | h1)
      · exact .inl h1
      · exact .inr (by omega)
  · intro p hp
    cases hp with
    | head => rw [Env.add_ρ_new]; exact .inr hg
    | tail _ hp => exact .inl ⟨p, hp, (hρ p hp).symm⟩

def repN (s : List Nat) : Nat → List Nat
  | 0 => []
  | c + 1 => s ++ repN s c
theorem repN_eq (l : List UInt8) : ∀ c, (Lib.repeatL l c).map UInt8.toNat = repN (l.map UInt8.toNat) c
  | 0 => rfl
  | c + 1 => by simp only [Lib.repeatL, repN, List.map_append, repN_eq l c]
def repeatA : List AV → Heap → Option AV
  | [.str s, .int .i64 (.ofNat c)], _ => match Nat.ble 2 c && Nat.ble c 9223372036854775807 && Nat.ble (s.length * c) 140737488355328 && Nat.ble 1 s.length with
    | true => some (.str (repN s c))
    | false => match Nat.beq c 0 with
      | true => some (.str [])
      | false => match Nat.beq c 1 with
        | true => some (.str s)
        | false => none
  | _, _ => none
theorem repeat_known {f : FuncId} (h2 : ∀ (s : ByteArray) (c : Nat) (w : World), 2 ≤ c → c ≤ 9223372036854775807 → s.size * c ≤ 140737488355328 → 0 < s.size →
      Calls P f #[.string s, .int .i64 c] w fun e w' => e = .returned (.string ⟨(Lib.repeatL s.data.toList c).toArray⟩) ∧ Below w.heap.size w w')
    (h0 : ∀ (s : ByteArray) (w : World), Calls P f #[.string s, .int .i64 0] w fun e w' => e = .returned (.string ⟨#[]⟩) ∧ w' = w)
    (h1 : ∀ (s : ByteArray) (w : World), Calls P f #[.string s, .int .i64 1] w fun e w' => e = .returned (.string s) ∧ w' = w) :
    ∀ args H v, repeatA args H = some v → ∀ (E : Env) (w : World) (cargs : Array Value), HR E H w → VRs E w args cargs.toList → Calls P f cargs w fun e w' => ∃ cv, e = .returned cv ∧ Below w.heap.size w w' ∧ VR E w v cv := by
  intro args H v h E w cargs hr hv
  unfold repeatA at h
  split at h
  rotate_left
  · cases h
  rename_i s c
  obtain ⟨cy, cr, hc, hy, hrest⟩ := hv.of_cons
  obtain ⟨cp, cr', hc', hp, hrest'⟩ := hrest.of_cons
  have hcr := hrest'.of_nil
  subst hcr; subst hc'
  have hca : cargs = #[cy, cp] := by apply Array.toList_inj.1; simpa using hc
  subst hca
  obtain ⟨bs, rfl, hbs, hl⟩ := hy.of_str
  obtain ⟨rfl, _⟩ := hp.of_int
  subst hbs
  split at h
  · rename_i hle
    cases h
    simp only [Bool.and_eq_true] at hle
    obtain ⟨⟨⟨a1, a2⟩, a3⟩, a4⟩ := hle
    have b1 := Nat.le_of_ble_eq_true a1
    have b2 := Nat.le_of_ble_eq_true a2
    have b3 := Nat.le_of_ble_eq_true a3
    have b4 := Nat.le_of_ble_eq_true a4
    have hsz : (bs.data.toList.map UInt8.toNat).length = bs.size := by rw [List.length_map, Array.length_toList]; rfl
    rw [hsz] at b3 b4
    refine (h2 bs c w b1 b2 b3 (by omega)).mono fun e w' ⟨e1, e2⟩ => ⟨_, e1, e2, ?_⟩
    refine .str _ _ (by rw [← repN_eq]) ?_
    rw [← repN_eq, List.length_map, Lib.repeatL_length, Array.length_toList]
    have : bs.data.size = bs.size := rfl
    rw [this, Nat.mul_comm]
    unfold maxStr
    omega
  · split at h
    · rename_i e0
      cases h
      have e0 := nbeq_true e0
      subst e0
      exact (h0 bs w).mono fun e w' ⟨e1, e2⟩ => ⟨_, e1, e2 ▸ Below.refl _ _, .str _ _ rfl (Nat.zero_le _)⟩
    · split at h
      · rename_i e0
        cases h
        have e0 := nbeq_true e0
        subst e0
        exact (h1 bs w).mono fun e w' ⟨e1, e2⟩ => ⟨_, e1, e2 ▸ Below.refl _ _, .str _ _ rfl hl⟩
      · cases h

/- slices.Sorted of a map's keys that are strings. -/
def insN (a : List Nat) : List (List Nat) → List (List Nat)
  | [] => [a]
  | b :: r => match slt b a with
    | true => b :: insN a r
    | false => a :: b :: r
def sortN : List (List Nat) → List (List Nat)
  | [] => []
  | a :: r => insN a (sortN r)
def memS (a : List Nat) : List (List Nat) → Bool
  | [] => false
  | b :: r => match seqb a b with
    | true => true
    | false => memS a r
def nodupS : List (List Nat) → Bool
  | [] => true
  | a :: r => match memS a r with
    | true => false
    | false => nodupS r
def keysN : List (AV × AV) → Option (List (List Nat))
  | [] => some []
  | (.str s, _) :: r => match keysN r with
    | some x => some (s :: x)
    | none => none
  | _ :: _ => none
def sortedA (g : Nat) (args : List AV) (H : Heap) (nx : Nat) : Option Out := match args with
  | [.func (.func g') [] [.ptr h 0]] => match Nat.beq g' g with
    | false => none
    | true => match H.get h with
      | some (.cells _ [.map hm]) => match H.get hm with
        | some (.map es) => match keysN es with
          | none => none
          | some ks => match nodupS ks && Nat.ble ks.length 1000000 with
            | false => none
            | true => match ks with
              | [] => some (.nilslice, H, nx)
              | _ :: _ => some (.row nx 0 ks.length 1 ks.length false, (nx, .cells false ((sortN ks).map .str)) :: H, nx + 1)
        | _ => none
      | _ => none
  | _ => none

def insB (a : List UInt8) : List (List UInt8) → List (List UInt8)
  | [] => [a]
  | b :: r => match decide (b < a) with
    | true => b :: insB a r
    | false => a :: b :: r
def sortB : List (List UInt8) → List (List UInt8)
  | [] => []
  | a :: r => insB a (sortB r)
theorem insN_map (a : List UInt8) : ∀ l : List (List UInt8), insN (a.map UInt8.toNat) (l.map (·.map UInt8.toNat)) = (insB a l).map (·.map UInt8.toNat)
  | [] => rfl
  | b :: r => by
    simp only [List.map_cons, insN, insB, slt_map, Go.Proofs.bytesLess_eq]
    split
    · simp only [List.map_cons, insN_map a r]
    · rfl
theorem sortN_map : ∀ l : List (List UInt8), sortN (l.map (·.map UInt8.toNat)) = (sortB l).map (·.map UInt8.toNat)
  | [] => rfl
  | a :: r => by simp only [List.map_cons, sortN, sortB, sortN_map r, insN_map]
theorem insB_perm (a : List UInt8) : ∀ l, (insB a l).Perm (a :: l)
  | [] => .refl _
  | b :: r => by
    simp only [insB]
    split
    · exact ((insB_perm a r).cons b).trans (.swap a b r)
    · exact .refl _
theorem sortB_perm : ∀ l, (sortB l).Perm l
  | [] => .refl _
  | a :: r => (insB_perm a _).trans ((sortB_perm r).cons a)
theorem insB_sorted (a : List UInt8) : ∀ l, l.Pairwise (fun x y => leB x y = true) → (insB a l).Pairwise (fun x y => leB x y = true)
  | [], _ => by simp [insB]
  | b :: r, h => by
    obtain ⟨h1, h2⟩ := List.pairwise_cons.1 h
    simp only [insB]
    split
    · rename_i hb
      have hb' : b < a := by simpa using hb
      refine List.pairwise_cons.2 ⟨fun x hx => ?_, insB_sorted a r h2⟩
      rcases List.mem_cons.1 ((insB_perm a r).mem_iff.1 hx) with rfl | hx
      · simp only [leB, decide_eq_true_eq]; exact List.le_of_lt hb'
      · exact h1 x hx
    · rename_i hb
      have hb' : ¬ b < a := by simpa using hb
      have hab : a ≤ b := List.not_lt.1 hb'
      refine List.pairwise_cons.2 ⟨fun x hx => ?_, h⟩
      rcases List.mem_cons.1 hx with rfl | hx
      · simp only [leB, decide_eq_true_eq]; exact hab
      · have := h1 x hx
        simp only [leB, decide_eq_true_eq] at this ⊢
        exact List.le_trans hab this
theorem sortB_sorted : ∀ l, (sortB l).Pairwise (fun x y => leB x y = true)
  | [] => .nil
  | a :: r => insB_sorted a _ (sortB_sorted r)
theorem sortB_eq (l : List (List UInt8)) : sortB l = l.mergeSort leB := by
  have tr : ∀ a b c : List UInt8, leB a b = true → leB b c = true → leB a c = true := fun a b c h1 h2 => by simp only [leB, decide_eq_true_eq] at *; exact List.le_trans h1 h2
  have to : ∀ a b : List UInt8, (leB a b || leB b a) = true := fun a b => by simp only [leB, Bool.or_eq_true, decide_eq_true_eq]; exact List.le_total a b
  refine List.Perm.eq_of_pairwise (le := fun a b => leB a b = true) (fun a b _ _ h1 h2 => ?_) (sortB_sorted l) (List.pairwise_mergeSort tr to l) ((sortB_perm l).trans (List.mergeSort_perm l leB).symm)
  simp only [leB, decide_eq_true_eq] at h1 h2
  exact List.le_antisymm h1 h2

/-- What slices.Sorted gives of a map's keys. -/
def SortedKeys (P : Program) (f g : FuncId) (T : TypeId) : Prop := ∀ (Bm b : Nat) (es : Array MapEntry) (clock : Nat) (w : World) (kss : List (List UInt8)), Bm < w.heap.size → w.cell? ⟨Bm, 0, none⟩ = some (.map (some b)) → w.heap[b]? = some (.map es clock) →
  MapKept.Stamped es clock → es.toList.map (·.key) = kss.map Go.Proofs.encStr → (∀ k ∈ kss, k.length ≤ maxLen) → kss.length ≤ 1000000 →
  Calls P f #[.func (.func g) #[] #[.pointer (some ⟨Bm, 0, none⟩)]] w fun e w' => ∃ v : Value, e = .returned v ∧ w'.ownsRow w.heap.size T 1 v kss.length ((kss.mergeSort leB).map Go.Proofs.encStr) ∧ (v = .slice none 0 0 ↔ kss = []) ∧ Below w.heap.size w w'

theorem sortedKeys_of {ρk ρs : Shelf.Ren} (Lk : Go.Proofs.SlLaysZ.n10 P ρk) (hT : P.underlying (ρk.t 26) = some .string) (Ls : Go.Proofs.SlLaysZ.n6 P ρs) (hsort : ∀ m, Go.Proofs.AnyZ.SortsIn P ρs Fence.wide m)
    (e9 : ∀ args w, (callFunc (ρs.f 9) args).run P w = .ok (.enter (ρs.f 9) args) w) (eg : ∀ args w, (callFunc (ρk.f 10) args).run P w = .ok (.enter (ρk.f 10) args) w) : SortedKeys P (ρs.f 6) (ρk.f 10) (ρs.t 26) := by
  intro Bm b es clock w kss hBm hm hb hst hks hlen hn
  have hkey : ∀ x ∈ es.toList, ∃ k ∈ kss, x.key = Go.Proofs.encStr k ∧ keyOf P (ρk.t 26) x.key = some (.string k) := fun x hx => by
    have h1 : x.key ∈ kss.map Go.Proofs.encStr := hks ▸ List.mem_map_of_mem hx
    obtain ⟨k, hk, e⟩ := List.mem_map.1 h1
    refine ⟨k, hk, e.symm, ?_⟩
    rw [← e]
    have h2 : (⟨k.toArray⟩ : ByteArray).size ≤ maxLen := hlen k hk
    simp [keyOf, hT, mapKey, h2]
  have hsz : es.toList.length = kss.length := by have := congrArg List.length hks; simpa using this
  let R : Value → Option (DataW Unit × List MemPlace) := fun _ => some (.lit (.bool true), [])
  have hrd : ∀ x ∈ es.toList, ∃ k ∈ kss, x.key = Go.Proofs.encStr k ∧ WideElems.rd P (ρk.t 26) R x = some (.string k, .lit (.bool true)) := fun x hx => by
    obtain ⟨k, h1, h2, h3⟩ := hkey x hx
    exact ⟨k, h1, h2, by simp [WideElems.rd, h3, R]⟩
  have hfit : WideElems.Fit P (ρk.t 26) R es clock := ⟨by rw [← Array.length_toList, hsz]; unfold maxLen; omega, hst, fun x hx => let ⟨k, _, _, h⟩ := hrd x hx; ⟨_, h⟩⟩
  have hown : w.ownsMap P (ρk.t 26) R b es.size (.map ((es.toList.map (WideElems.rg P (ρk.t 26) R)).foldr DataW.insert [])) := ⟨es, clock, hb, hfit, Nat.le_refl _, rfl⟩
  have hsize : Maps.size (.map ((es.toList.map (WideElems.rg P (ρk.t 26) R)).foldr DataW.insert []) : DataW Unit) = kss.length := by
    rw [Maps.size_eq, (WideShapes.sorted_perm _).length_eq, List.length_map, hsz]
  have hperm : (strKeys (.map ((es.toList.map (WideElems.rg P (ρk.t 26) R)).foldr DataW.insert []) : DataW Unit)).Perm kss := by
    have h1 : (strKeys (.map ((es.toList.map (WideElems.rg P (ρk.t 26) R)).foldr DataW.insert []) : DataW Unit)).Perm ((es.toList.map (WideElems.rg P (ρk.t 26) R)).map fun p => strOf p.1) := (WideShapes.sorted_perm _).map _
    refine h1.trans ?_
    have h2 : ((es.toList.map (WideElems.rg P (ρk.t 26) R)).map fun p => strOf p.1) = kss := by
      rw [List.map_map]
      have h3 : (es.toList.map fun x => Go.Proofs.encStr (strOf (WideElems.rg P (ρk.t 26) R x).1)) = kss.map Go.Proofs.encStr := by
        rw [← hks]
        refine List.map_congr_left fun x hx => ?_
        obtain ⟨k, _, h4, h5⟩ := hrd x hx
        simp only [WideElems.rg, h5, Option.getD_some, strOf]
        exact h4.symm
      have h4 : ((es.toList.map fun x => strOf (WideElems.rg P (ρk.t 26) R x).1).map Go.Proofs.encStr) = kss.map Go.Proofs.encStr := by rw [List.map_map]; exact h3
      exact (List.map_inj_right (fun x y h => encStr_inj h)).1 h4
    rw [h2]
  have hseq := Go.Proofs.AnyZ.keys_gives Lk Fence.wide 2 trivial rfl (by omega) Bm b es.size _ w hBm hm hown
  have hcall := Go.Proofs.AnyZ.sorted_in Ls Fence.wide 5 trivial trivial trivial trivial rfl (by omega) (hsort _) e9 (ρk.f 10) _ trivial eg _ _ (by rw [hsize]; unfold maxLen; omega) (by rw [hsize]; omega) w hseq
  refine (callsIn_wide.1 hcall).mono fun e w' h => ?_
  obtain ⟨v, ss, rfl, hS, hrow, hnil, hbl⟩ := h
  have hp := hS.trans hperm
  have hms : ss.mergeSort leB = kss.mergeSort leB := mergeSort_of_perm hp
  refine ⟨v, rfl, ?_, hnil.trans ⟨fun h => by subst h; exact hp.symm.eq_nil, fun h => by subst h; exact hp.eq_nil⟩, hbl⟩
  have hrow' : w'.ownsRow w.heap.size (ρs.t 26) 1 v ss.length ((ss.mergeSort leB).map Go.Proofs.encStr) := hrow
  rw [hms, hp.length_eq] at hrow'
  exact hrow'

def keyB : Value → List UInt8
  | .string s => s.data.toList
  | _ => []
theorem memS_mem {a : List Nat} : ∀ {l : List (List Nat)}, memS a l = false → a ∉ l
  | [], _, h => by cases h
  | b :: r, h, hm => by
    simp only [memS] at h
    split at h
    · cases h
    · rename_i e
      rcases List.mem_cons.1 hm with rfl | hm
      · have : seqb a a = true := by
          have : ∀ l : List Nat, seqb l l = true := fun l => by
            induction l with
            | nil => rfl
            | cons x l ih => simp [seqb, ih]
          exact this a
        rw [this] at e; cases e
      · exact memS_mem h hm
theorem nodupS_nodup : ∀ {l : List (List Nat)}, nodupS l = true → l.Nodup
  | [], _ => .nil
  | a :: r, h => by
    simp only [nodupS] at h
    split at h
    · cases h
    · rename_i e
      exact List.nodup_cons.2 ⟨memS_mem e, nodupS_nodup h⟩
theorem keysN_get : ∀ {es : List (AV × AV)} {ks : List (List Nat)}, keysN es = some ks → ks.length = es.length ∧ ∀ (i : Nat) k x, es[i]? = some (k, x) → ∃ s, ks[i]? = some s ∧ k = .str s
  | [], ks, h => by cases h; exact ⟨rfl, fun i k x hx => by simp at hx⟩
  | (k0, x0) :: r, ks, h => by
    unfold keysN at h
    split at h
    · rename_i e; cases e
    · rename_i s x r' e
      cases e
      split at h
      · rename_i ys hys
        cases h
        obtain ⟨h1, h2⟩ := keysN_get hys
        refine ⟨by simp [h1], fun i k x hx => ?_⟩
        cases i with
        | zero => simp at hx; exact ⟨s, rfl, hx.1.symm⟩
        | succ i => exact h2 i k x (by simpa using hx)
      · cases h
    · cases h

/-- slices.Sorted at what maps.Keys gives. -/
theorem sorted_known {f g : FuncId} {T : TypeId} {fn : Func} {body : Code} (hfn : P.funcs[f]? = some fn) (hbd : fn.body = some body) (hnm : (fn.name == "runtime.NumGoroutine") = false) (hK : SortedKeys P f g T) (call : Call) :
    CallOK P G fun f' args H nx => if f' = f then sortedA g args H nx else none := by
  intro f' args H nx v H' nx' h
  simp only at h
  split at h
  rotate_left
  · cases h
  rename_i hff
  subst hff
  unfold sortedA at h
  split at h
  rotate_left
  · cases h
  rename_i g' hd
  split at h
  · cases h
  rename_i hg
  have hg := nbeq_true hg
  subst hg
  split at h
  rotate_left
  · cases h
  rename_i st hm hget
  split at h
  rotate_left
  · cases h
  rename_i es hgm
  split at h
  · cases h
  rename_i ks hks
  split at h
  · cases h
  rename_i hok
  rw [Bool.and_eq_true] at hok
  obtain ⟨hnd, hle⟩ := hok
  have hnd := nodupS_nodup hnd
  have hle := Nat.le_of_ble_eq_true hle
  have ent : Enters P f' := ⟨fn, body, hfn, hbd, hnm⟩
  -- the call, whatever the world
  have key : ∀ (E : Env) (w : World) (cargs : Array Value), HR E H w → VRs E w [.func (.func g') [] [.ptr hd 0]] cargs.toList →
      Calls P f' cargs w fun e w' => ∃ (v : Value) (kss : List (List UInt8)), e = .returned v ∧ ks = kss.map (·.map UInt8.toNat) ∧ (∀ k ∈ kss, k.length ≤ maxStr) ∧ w'.ownsRow w.heap.size T 1 v kss.length ((kss.mergeSort leB).map Go.Proofs.encStr) ∧ (v = .slice none 0 0 ↔ kss = []) ∧ Below w.heap.size w w' := by
    intro E w cargs hr hv
    obtain ⟨cy, cr, hc, hy, hrest⟩ := hv.of_cons
    have hcr := hrest.of_nil
    subst hcr
    have hca : cargs = #[cy] := by apply Array.toList_inj.1; simpa using hc
    subst hca
    cases hy with
    | func _ _ _ vf vc hf1 hc1 rf rc =>
      have e1 : vf = #[] := Array.eq_empty_of_size_eq_zero (by simpa using hf1.symm)
      subst e1
      obtain ⟨p, rfl⟩ : ∃ p, vc = #[p] := by
        rcases vc with ⟨l⟩
        match l, hc1 with
        | [p], _ => exact ⟨p, rfl⟩
      have hp := rc 0 _ p rfl rfl
      obtain ⟨rfl, hD⟩ := hp.of_ptr
      obtain ⟨c, e, fz, o1, o2, o3, o4⟩ := hr.obj _ (Heap.mem_of_get hget)
      obtain ⟨v0, q1, q2, q3⟩ := o4 0 (.map hm) rfl
      obtain ⟨rfl, hDm⟩ := q3.of_map
      obtain ⟨mc, clock, m1, m2, m3, m4⟩ := hr.obj _ (Heap.mem_of_get hgm)
      obtain ⟨n1, n2⟩ := keysN_get hks
      have hent : ∀ (i : Nat) m, mc[i]? = some m → ∃ s : ByteArray, m.key = .string s ∧ ks[i]? = some (s.data.toList.map UInt8.toNat) ∧ s.size ≤ maxStr ∧ m.born < clock := fun i m him => by
        have hi : i < es.length := by rw [m2]; exact (Array.getElem?_eq_some_iff.1 him).1
        have hei : es[i]? = some (es[i]) := List.getElem?_eq_getElem hi
        obtain ⟨m', b1, b2, b3, b4⟩ := m3 i _ _ (show es[i]? = some (es[i].1, es[i].2) from hei)
        rw [him] at b1
        cases b1
        obtain ⟨s, c1, c2⟩ := n2 i _ _ (show es[i]? = some (es[i].1, es[i].2) from hei)
        rw [c2] at b2
        obtain ⟨bs, d1, d2, d3⟩ := b2.of_str
        refine ⟨bs, d1, by rw [c1, d2], ?_, b4⟩
        rw [← d2, List.length_map, Array.length_toList] at d3
        exact d3
      have hkeys : mc.toList.map (·.key) = (mc.toList.map fun m => keyB m.key).map Go.Proofs.encStr := by
        rw [List.map_map]
        refine List.map_congr_left fun m hm' => ?_
        obtain ⟨i, hi⟩ := List.getElem?_of_mem hm'
        obtain ⟨s, a1, _⟩ := hent i m (by simpa using hi)
        simp [a1, keyB]
      have hks2 : ks = (mc.toList.map fun m => keyB m.key).map (·.map UInt8.toNat) := by
        apply List.ext_getElem?
        intro i
        rw [List.getElem?_map, List.getElem?_map]
        cases hi : mc.toList[i]? with
        | none =>
          have : ks.length ≤ i := by
            have := List.getElem?_eq_none_iff.1 hi
            rw [n1, m2]; simpa using this
          simp [this]
        | some m =>
          obtain ⟨s, a1, a2, _⟩ := hent i m (by simpa using hi)
          simp [a2, a1, keyB]
      have hst : MapKept.Stamped mc clock := by
        refine ⟨fun x hx => ?_, ?_, ?_⟩
        · obtain ⟨i, hi⟩ := List.getElem?_of_mem hx
          obtain ⟨_, _, _, _, h⟩ := hent i x (by simpa using hi)
          exact h
        · rw [List.nodup_iff_pairwise_ne, List.pairwise_iff_getElem]
          intro i j hi hj hij e
          simp only [List.getElem_map] at e
          have := m4 i j _ _ (by simp at hi; simp) (by simp at hj; simp) e
          omega
        · have h1 : ((mc.toList.map fun m => keyB m.key).map (·.map UInt8.toNat)).Nodup := hks2 ▸ hnd
          rw [hkeys]
          rw [List.nodup_iff_pairwise_ne] at h1 ⊢
          exact List.pairwise_map.2 ((List.pairwise_map.1 h1).imp fun hne e => hne (by rw [encStr_inj e]))
      have hlk : ∀ k ∈ (mc.toList.map fun m => keyB m.key), k.length ≤ maxStr := fun k hk => by
        obtain ⟨m, hm', rfl⟩ := List.mem_map.1 hk
        obtain ⟨i, hi⟩ := List.getElem?_of_mem hm'
        obtain ⟨s, a1, _, a3, _⟩ := hent i m (by simpa using hi)
        rw [a1]
        simpa [keyB] using a3
      have hcall := hK (E.ρ hd) (E.ρ hm) mc clock w (mc.toList.map fun m => keyB m.key) (hr.lt (Heap.mem_of_get hget)) (by rw [cell_at o1]; exact q1) m1 hst hkeys (fun k hk => by have := hlk k hk; unfold maxStr at this; unfold maxLen; exact this)
        (by have : ks.length = (mc.toList.map fun m => keyB m.key).length := by rw [hks2]; simp
            omega)
      refine hcall.mono fun e w' h => ?_
      obtain ⟨v, h1, h2, h3, h4⟩ := h
      exact ⟨v, _, h1, hks2, hlk, h2, h3, h4⟩
  split at h
  · rename_i hnil
    cases h
    refine ⟨ent, Nat.le_refl _, fun E w cargs hr hv hgr hfr => (key E w cargs hr hv).mono fun e w' hh => ?_⟩
    obtain ⟨v, kss, rfl, k1, k2, k3, k4, k5⟩ := hh
    have : kss = [] := by cases kss with | nil => rfl | cons a r => simp at k1
    have hv0 := k4.2 this
    subst hv0
    obtain ⟨s1, s2, s3⟩ := below_step hr k5 nx
    exact ⟨_, E, rfl, s1, s2, .nilslice⟩
  · rename_i a r _ _
    cases h
    refine ⟨ent, Nat.le_succ _, fun E w cargs hr hv hgr hfr => (key E w cargs hr hv).mono fun e w' hh => ?_⟩
    obtain ⟨v, kss, rfl, k1, k2, k3, k4, k5⟩ := hh
    rcases k3.2 with ⟨rfl, hz⟩ | ⟨gb, cap, cur, rfl, hbase, hgb, r1, r2, r3, r4⟩
    · have := List.eq_nil_of_length_eq_zero hz
      subst this
      simp at k1
    have ha : ¬ E.D nx := hfr nx (Nat.le_refl _) (Nat.lt_succ_self _)
    have hlen : (a :: r).length = kss.length := by rw [k1]; simp
    have hsl : sortN (a :: r) = (kss.mergeSort leB).map (·.map UInt8.toNat) := by rw [k1, sortN_map, sortB_eq]
    have hcur : ∀ (i : Nat) k, (kss.mergeSort leB)[i]? = some k → cur[i]? = some (Go.Proofs.encStr k) := fun i k hk => by
      have h1 : ((kss.mergeSort leB).map Go.Proofs.encStr)[i]? = some (Go.Proofs.encStr k) := by rw [List.getElem?_map, hk]; rfl
      rw [← r4, List.getElem?_take] at h1
      split at h1
      · simpa using h1
      · cases h1
    obtain ⟨s1, s2, s3⟩ := below_new (ho := .cells false ((sortN (a :: r)).map .str)) hr k5 ha hbase (Array.getElem?_eq_some_iff.1 hgb).1 fun hm => by
      refine ⟨cur, T, (0, 0), hgb, ?_, .inl rfl, fun i x hx => ?_⟩
      · rw [hsl]
        simp only [List.length_map, List.length_mergeSort]
        omega
      · rw [hsl, List.getElem?_map, List.getElem?_map] at hx
        cases hk : (kss.mergeSort leB)[i]? with
        | none => rw [hk] at hx; cases hx
        | some k =>
          rw [hk] at hx
          cases hx
          refine ⟨_, hcur i k hk, rfl, .str _ _ (by simp) ?_⟩
          rw [List.length_map]
          have : k ∈ kss := (List.mergeSort_perm kss leB).mem_iff.1 (List.mem_of_getElem? hk)
          exact k2 k this
    refine ⟨_, _, rfl, s1, s2, ?_⟩
    rw [hlen]
    exact newrow hgb (Nat.one_pos) r1 (by unfold maxLen at r2; unfold maxStr; exact r2) (by rw [r3]; exact Nat.le_refl _) r1 (fun h => by cases h)
end
end Go.Sy

/- The checksum of bytes, known. No condition. -/
namespace Go.Sy
open Go.RowKit
set_option linter.unusedVariables false
set_option linter.unusedSimpArgs false
section
variable {P : Program} {G : Cx} {E : Env} {w w' : World} {H : Heap}
def stepN (s : Nat) : Nat := if s % 2 = 1 then (s / 2) ^^^ 3988292384 else s / 2
def stepsN : Nat → Nat → Nat
  | 0, s => s
  | k + 1, s => stepN (stepsN k s)
def foldN (s : Nat) (xs : List Nat) : Nat := xs.foldl (fun s c => stepsN 8 (s ^^^ c)) s
noncomputable def stepF {α : Type} (s : Nat) (k : Nat → α) : α := fN (Bool.rec (motive := fun _ => Nat) (Nat.shiftRight s 1) (Nat.xor (Nat.shiftRight s 1) 3988292384) (Nat.beq (Nat.land s 1) 1)) k
theorem stepF_eq {α : Type} (s : Nat) (k : Nat → α) : stepF s k = k (stepN s) := by
  unfold stepF stepN
  rw [fN_eq]
  congr 1
  have h1 : Nat.land s 1 = s % 2 := Nat.and_one_is_mod s
  have h2 : Nat.shiftRight s 1 = s / 2 := rfl
  rw [h1, h2]
  by_cases h : s % 2 = 1
  · rw [if_pos h, h]; rfl
  · rw [if_neg h]
    have : Nat.beq (s % 2) 1 = false := by
      cases hb : Nat.beq (s % 2) 1 with
      | false => rfl
      | true => exact absurd (nbeq_true hb) h
    rw [this]
noncomputable def foldF (xs : List Nat) : Nat → Nat := List.rec (motive := fun _ => Nat → Nat) (fun s => s) (fun c _ ih s => stepF (Nat.xor s c) fun s => stepF s fun s => stepF s fun s => stepF s fun s => stepF s fun s => stepF s fun s => stepF s fun s => stepF s fun s => ih s) xs
theorem foldF_eq : ∀ (xs : List Nat) (s : Nat), foldF xs s = foldN s xs
  | [], s => rfl
  | c :: r, s => by
    show stepF (Nat.xor s c) (fun s => stepF s fun s => stepF s fun s => stepF s fun s => stepF s fun s => stepF s fun s => stepF s fun s => stepF s fun s => foldF r s) = _
    simp only [stepF_eq]
    rw [foldF_eq r]
    rfl
noncomputable def moreA : List AV → Heap → Option AV
  | [.int .u32 (.ofNat s), y], H => match isSl y with
    | false => none
    | true => match content H 1 y with
      | none => none
      | some (n, cs) => match toBytes cs with
        | none => none
        | some bs => match Nat.ble n 1000000 with
          | true => fN (foldF bs (Nat.xor 4294967295 s)) fun x => some (.int .u32 (.ofNat (Nat.xor 4294967295 x)))
          | false => none
  | _, _ => none
theorem bytes_sound : ∀ {ys : List AV} {vs : List Value} {ls : List Nat}, VRs E w ys vs → toBytes ys = some ls → vs = ls.map (fun b : Nat => Value.int .u8 (b : Int)) ∧ ∀ b ∈ ls, b < 256
  | [], vs, ls, hv, h => by cases h; rw [hv.of_nil]; exact ⟨rfl, fun b hb => by cases hb⟩
  | y :: r, vs, ls, hv, h => by
    obtain ⟨v, vs', rfl, h1, h2⟩ := hv.of_cons
    unfold toBytes at h
    split at h
    · rename_i e; cases e
    · rename_i b r' e
      cases e
      split at h
      · rename_i s hs
        cases h
        obtain ⟨rfl, k2⟩ := bytes_sound h2 hs
        obtain ⟨rfl, hb⟩ := h1.of_int
        refine ⟨rfl, fun x hx => ?_⟩
        rcases List.mem_cons.1 hx with rfl | hx
        · have h3 : (Int.ofNat x) ≤ 255 := hb.2
          have h4 : (x : Int) ≤ 255 := h3
          omega
        · exact k2 x hx
      · cases h
    · cases h
theorem more_known {f : FuncId} (h0 : ∀ (s c : Nat) (a : Option Addr) (w : World), s < 4294967296 → Calls P f #[.int .u32 s, .slice a 0 c] w fun e w' => e = .returned (.int .u32 (4294967295 ^^^ (4294967295 ^^^ s) : Nat)) ∧ w' = w)
    (h1 : ∀ (s bk o cap : Nat) (xs : List Nat) (w : World), s < 4294967296 → (∀ x ∈ xs, x < 256) → (∀ (j : Nat) x, xs[j]? = some x → w.cell? ⟨bk, o + j, none⟩ = some (.int .u8 (x : Int))) → xs.length < 4611686018427387904 →
      Calls P f #[.int .u32 s, .slice (some ⟨bk, o, none⟩) xs.length cap] w fun e w' => e = .returned (.int .u32 (4294967295 ^^^ foldN (4294967295 ^^^ s) xs : Nat)) ∧ w' = w)
    (hlt : ∀ (xs : List Nat) (s : Nat), s < 4294967296 → (∀ x ∈ xs, x < 256) → foldN s xs < 4294967296) :
    ∀ args H v, moreA args H = some v → ∀ (E : Env) (w : World) (cargs : Array Value), HR E H w → VRs E w args cargs.toList → Calls P f cargs w fun e w' => ∃ cv, e = .returned cv ∧ Below w.heap.size w w' ∧ VR E w v cv := by
  intro args H v h E w cargs hr hv
  unfold moreA at h
  split at h
  rotate_left
  · cases h
  rename_i H' s y
  split at h
  · cases h
  rename_i hsl
  split at h
  · cases h
  rename_i n cs hcont
  split at h
  · cases h
  rename_i bs hbs
  split at h
  rotate_left
  · cases h
  rename_i hle
  rw [fN_eq, foldF_eq] at h
  cases h
  have hle := Nat.le_of_ble_eq_true hle
  obtain ⟨cs0, cr, hc, hs, hrest⟩ := hv.of_cons
  obtain ⟨cy, cr', hc', hy, hrest'⟩ := hrest.of_cons
  have hcr := hrest'.of_nil
  subst hcr; subst hc'
  have hca : cargs = #[cs0, cy] := by apply Array.toList_inj.1; simpa using hc
  subst hca
  obtain ⟨rfl, hsr⟩ := hs.of_int
  have hs32 : s < 4294967296 := by
    have h3 : (Int.ofNat s) ≤ 4294967295 := hsr.2
    have h4 : (s : Int) ≤ 4294967295 := h3
    omega
  have hx1 : 4294967295 ^^^ s < 4294967296 := Nat.xor_lt_two_pow (n := 32) (by omega) (by omega)
  obtain ⟨vs, k1, k2, k3, k4, k5, k6, k7⟩ := content_sound (P := P) hr hy hcont
  obtain ⟨rfl, hb⟩ := bytes_sound k1 hbs
  have hlen : bs.length = n := by simpa using k3
  have hfl := hlt bs _ hx1 hb
  have hx2 : 4294967295 ^^^ foldN (4294967295 ^^^ s) bs < 4294967296 := Nat.xor_lt_two_pow (n := 32) (by omega) (by omega)
  have res : VR E w (.int .u32 (.ofNat (Nat.xor 4294967295 (foldN (Nat.xor 4294967295 s) bs)))) (.int .u32 ((4294967295 ^^^ foldN (4294967295 ^^^ s) bs : Nat) : Int)) := by
    refine .int _ _ ⟨?_, ?_⟩
    · show (0 : Int) ≤ _
      exact Int.natCast_nonneg _
    · show _ ≤ (4294967295 : Int)
      show ((4294967295 ^^^ foldN (4294967295 ^^^ s) bs : Nat) : Int) ≤ 4294967295
      omega
  rcases k7 with ⟨a, c, rfl, k7⟩ | ⟨t, rfl, _⟩
  rotate_left
  · cases hy <;> simp [isSl] at hsl
  obtain ⟨hcap, hspot⟩ := VR.slice_cap hsl hy
  by_cases hn0 : n = 0
  · subst hn0
    have hx0 : bs = [] := List.eq_nil_of_length_eq_zero hlen
    subst hx0
    exact (h0 s c a w hs32).mono fun e w' ⟨e1, e2⟩ => ⟨_, e1, e2 ▸ Below.refl _ _, res⟩
  · obtain ⟨ad, rfl, hcell⟩ := k7 (by omega)
    have hsp := hspot ad rfl hn0
    obtain ⟨bk, o, sp'⟩ := ad
    simp only at hsp
    subst hsp
    have hcells : ∀ (j : Nat) x, bs[j]? = some x → w.cell? ⟨bk, o + j, none⟩ = some (.int .u8 (x : Int)) := fun j x hx => by
      have := hcell j (.int .u8 (x : Int)) (by rw [List.getElem?_map, hx]; rfl)
      by_cases hj0 : j = 0
      · subst hj0; simpa [Addr.add] using this
      · simpa [Addr.add, hj0] using this
    subst hlen
    exact (h1 s bk o c bs w hs32 hb hcells (by omega)).mono fun e w' ⟨e1, e2⟩ => ⟨_, e1, e2 ▸ Below.refl _ _, res⟩
/-- The same, for the kernel's run. -/
noncomputable def byteK (a : AV) (k : Nat → R) : R := AV.rec (motive_1 := fun _ => R) (motive_2 := fun _ => R) (fun _ => .fail) (fun ki z => IntKind.rec (motive := fun _ => R) .fail .fail .fail .fail (Int.rec (motive := fun _ => R) (fun n => k n) (fun _ => .fail) z) .fail .fail .fail ki) (fun _ => .fail) .fail (fun _ _ => .fail) (fun _ _ _ => .fail) .fail (fun _ _ _ => .fail) (fun _ _ _ _ _ _ => .fail) .fail (fun _ => .fail) .fail (fun _ _ _ _ _ => .fail) .fail (fun _ _ _ => .fail) (fun _ _ => .fail) (fun _ _ => .fail) (fun _ => .fail) .fail (fun _ _ _ _ => .fail) a
noncomputable def foldK (xs : List AV) : Nat → (Nat → R) → R := List.rec (motive := fun _ => Nat → (Nat → R) → R) (fun s k => k s) (fun a _ ih s k => byteK a fun c => stepF (Nat.xor s c) fun s => stepF s fun s => stepF s fun s => stepF s fun s => stepF s fun s => stepF s fun s => stepF s fun s => stepF s fun s => ih s k) xs
theorem byteK_eq (a : AV) (k : Nat → R) : byteK a k = match a with | .int .u8 (.ofNat n) => k n | _ => .fail := by
  cases a with
  | int ki z =>
    cases ki with
    | u8 => cases z <;> rfl
    | _ => rfl
  | _ => rfl
theorem foldK_eq : ∀ (xs : List AV) (s : Nat) (k : Nat → R), foldK xs s k = match toBytes xs with | some bs => k (foldN s bs) | none => .fail
  | [], s, k => rfl
  | a :: r, s, k => by
    show byteK a (fun c => stepF (Nat.xor s c) fun s => stepF s fun s => stepF s fun s => stepF s fun s => stepF s fun s => stepF s fun s => stepF s fun s => stepF s fun s => foldK r s k) = _
    rw [byteK_eq]
    have e : toBytes (a :: r) = match a with | .int .u8 (.ofNat n) => (match toBytes r with | some s => some (n :: s) | none => none) | _ => none := by
      cases a with
      | int ki z =>
        cases ki with
        | u8 => cases z <;> rfl
        | _ => rfl
      | _ => rfl
    rw [e]
    cases a with
    | int ki z =>
      cases ki with
      | u8 =>
        cases z with
        | ofNat n =>
          simp only [stepF_eq]
          rw [foldK_eq r]
          cases toBytes r <;> rfl
        | negSucc n => rfl
      | _ => rfl
    | _ => rfl
noncomputable def moreF : FunC := fun call args H nx => match args with
  | [.int .u32 (.ofNat s), .row h off len sz cp ex] => match Nat.beq 1 sz && Nat.ble len 1000000 with
    | true => toOut (getH H h fun o => HO.rec (motive := fun _ => R) (fun _ cs => dropF off cs fun r => takeF len r fun l => foldK l (Nat.xor 4294967295 s) fun x => fN (Nat.xor 4294967295 x) fun x => .out (.int .u32 (.ofNat x)) H nx) (fun _ => .fail) (fun _ _ => .fail) o)
    | false => none
  | args => known moreA call args H nx
theorem moreF_known {call : Call} {args : List AV} {H : Heap} {nx : Nat} {o : Out} (h : moreF call args H nx = some o) : known moreA call args H nx = some o := by
  unfold moreF at h
  split at h
  rotate_left
  · exact h
  rename_i s hd off len sz cp ex
  split at h
  rotate_left
  · cases h
  rename_i hc
  rw [Bool.and_eq_true] at hc
  have hsz : 1 = sz := nbeq_true hc.1
  subst hsz
  rw [getH_eq] at h
  split at h
  rotate_left
  · cases h
  rename_i ob hob
  cases ob with
  | map es => cases h
  | siter a b => cases h
  | cells st cs =>
    have h : toOut (dropF off cs fun r => takeF len r fun l => foldK l (Nat.xor 4294967295 s) fun x => fN (Nat.xor 4294967295 x) fun x => .out (.int .u32 (.ofNat x)) H nx) = some o := h
    rw [dropF_eq] at h
    split at h
    rotate_left
    · cases h
    rename_i hd1
    rw [takeF_eq] at h
    split at h
    rotate_left
    · cases h
    rename_i hd2
    rw [foldK_eq] at h
    split at h
    rotate_left
    · cases h
    rename_i bs hbs
    rw [fN_eq] at h
    have hle : Nat.ble (off + len * 1) cs.length = true := by
      rw [List.length_drop] at hd2
      rw [Nat.ble_eq]; omega
    have e : moreA [.int .u32 (.ofNat s), .row hd off len 1 cp ex] H = some (.int .u32 (.ofNat (Nat.xor 4294967295 (foldN (Nat.xor 4294967295 s) bs)))) := by
      have hc1 : content H 1 (.row hd off len 1 cp ex) = some (len, (cs.drop off).take len) := by
        rw [Nat.mul_one] at hle
        simp only [content, hob, hle, Nat.mul_one, show Nat.beq 1 1 = true from rfl]
      simp only [moreA, isSl, hc1, hbs, hc.2, foldF_eq, fN_eq]
    simp only [known, e, fAV_eq]
    exact h
theorem more_fast {f : FuncId} (h : ∀ (call : Call), CallOK P G fun f' args H nx => if f' = f then known moreA call args H nx else none) (call : Call) : CallOK P G fun f' args H nx => if f' = f then moreF call args H nx else none := by
  intro f' args H nx v H' nx' he
  refine h call f' args H nx v H' nx' ?_
  simp only at he ⊢
  split at he
  · rename_i hf
    rw [if_pos hf]
    exact moreF_known he
  · cases he
end
end Go.Sy

/- Functions that defer one call, at the top of their bodies. No condition. -/
namespace Go.Sy
set_option linter.unusedVariables false
set_option linter.unusedSimpArgs false
section
variable {P : Program} {G : Cx}

/-- The frame in which a call begins. -/
theorem frame0 {E : Env} {w : World} {args : List AV} {cargs : Array Value} {nt : Nat} {dl : List Deferred} (hv : VRs E w args cargs.toList) (hle : args.length ≤ nt) :
    FrR E w (slots 0 (pad nt args)) { tmps := cargs ++ Array.replicate (nt - cargs.size) undef, defers := dl } nt := by
  have hsz : cargs.size = args.length := by rw [hv.1]; simp
  refine ⟨?_, fun t u ht => ?_⟩
  · simp; omega
  · obtain ⟨i, rfl, hi⟩ := slots_get ht
    rcases pad_get hi with hi | ⟨hj, rfl⟩
    rotate_left
    · simp only [Nat.zero_add]
      have hle : cargs.size ≤ i := by
        rw [hsz]
        rcases Nat.lt_or_ge i args.length with h1 | h1
        · rw [List.getElem?_eq_getElem h1] at hj; cases hj
        · exact h1
      rw [Array.getD_eq_getD_getElem?, Array.getElem?_append_right hle]
      have hu : ∀ m j, ((Array.replicate m undef)[j]?).getD undef = undef := fun m j => by
        rw [Array.getElem?_replicate]; split <;> rfl
      rw [hu]
      exact VR.mk_tup (vs := #[]) VRs.nil
    obtain ⟨cv, h1, h2⟩ := hv.getElem? hi
    have h3 : cargs[i]? = some cv := by simpa using h1
    have h4 := (Array.getElem?_eq_some_iff.1 h3).1
    simp only [Nat.zero_add]
    rw [Array.getD_eq_getD_getElem?, Array.getElem?_append_left h4, h3]
    exact h2

/-- The body of a function that is run, ahead of how it is left. -/
theorem enter1_wp {F : Nat → Option (XF × Pol)} (hF : TableOK P F) (hm : MethOK P G) (hmix : P.follows .mixedOrders = true) (lf : Nat) {call : Call} (hcall : CallOK P G call) {f : Nat} {args : List AV} {H : Heap} {nx : Nat} {v : AV} {H' : Heap} {nx' : Nat}
    (h : enter1 F G lf call f args H nx = some (v, H', nx')) :
    ∃ fn body, P.funcs[f]? = some fn ∧ fn.body = some body ∧ (fn.name == "runtime.NumGoroutine") = false ∧ nx ≤ nx' ∧
      ∀ (E : Env) (w : World) (cargs : Array Value), HR E H w → VRs E w args cargs.toList → GR G E w → Fresh E nx nx' →
        body.wp P (bodyPost P fn fun e w' => ∃ cv E', e = .returned cv ∧ HR E' H' w' ∧ Tr E H w E' H' w' nx nx' ∧ VR E' w' v cv) { tmps := cargs ++ Array.replicate (fn.ntmps - cargs.size) undef, defers := [] } w := by
    simp only [enter1] at h
    split at h
    · cases h
    rename_i xf pol hff
    split at h
    · cases h
    rename_i hlen
    have hlen := nbeq_true hlen
    obtain ⟨fn, hfn, hcf, hname⟩ := hF f xf pol hff
    unfold compF at hcf
    obtain ⟨body, hbody, hcf⟩ := obind_some hcf
    obtain ⟨xc, hxc, hcf⟩ := obind_some hcf
    obtain ⟨rs, hrs, hcf⟩ := obind_some hcf
    split at hcf
    rotate_left
    · cases hcf
    rename_i hok
    rw [Bool.and_eq_true] at hok
    cases hcf
    have hnp : fn.params.size + fn.nfree ≤ fn.ntmps := Nat.le_of_ble_eq_true hok.2
    simp only at hlen h
    split at h
    · cases h
    · rename_i x fr1 H1 n1 hne hrun
      split at h
      · rename_i vs hvs
        obtain ⟨l1, r1⟩ := top_sound hcall hm hmix lf body hxc hok.1 hrun
        have hn : nx' = n1 := by
          unfold finish at h
          cases pol with
          | keep => cases h; rfl
          | drop => cases h; rfl
          | shut =>
            simp only at h
            split at h
            · cases h; rfl
            · cases h
        subst hn
        refine ⟨fn, body, hfn, hbody, hname, l1, fun E w cargs hr hv hg hfr => ?_⟩
        have hsz : cargs.size = args.length := by rw [hv.1]; simp
        refine r1 E w _ _ _ hr (frame0 hv (by omega)) hg hfr rfl fun E' w' a' k1 k2 k3 k4 => ?_
        obtain ⟨cv, e1, e2⟩ := results_sound k1 k3 hrs hvs
        obtain ⟨_, E2, m1, m2, m3⟩ := finish_sound P k1 k2 e2 h
        have post : a'.defers = [] ∧ ∃ v_1, (results fn a'.tmps).run P w' = .ok v_1 w' ∧ ∃ cv E', (Ending.returned v_1) = .returned cv ∧ HR E' H' w' ∧ Tr E H w E' H' w' nx nx' ∧ VR E' w' v cv :=
          ⟨k4, cv, e1, cv, E2, rfl, m1, m2, m3⟩
        cases x with
        | normal => exact post
        | ret => exact post
        | exit i => exact (hne i rfl).elim
      · cases h
    · cases h

/-- A region that makes a function and defers its call. -/
def compDef (P : Program) : Code → Option (XOper × Nat)
  | .region _ ops false => match ops.toList with
    | [o0, o1] => match o1.op, o1.dst, o1.guard with
      | .defer ⟨.value (.tmp t), ars, _⟩, none, none => match ars.toList with
        | [] => some (compOper P ops o0, t)
        | _ => none
      | _, _, _ => none
    | _ => none
  | _ => none
def splitD (P : Program) (ct : Code → Option XC) : Code → Option (List XC × XOper × Nat × XC)
  | .seq a b => match compDef P a with
    | some (d, t) => obind (ct b) fun r => some ([], d, t, r)
    | none => obind (ct a) fun x => obind (splitD P ct b) fun q => some (x :: q.1, q.2)
  | _ => none
def runL (G : Cx) (call : Call) (lf : Nat) : List XC → St → Option (Ext × St)
  | [], s => some (.normal, s)
  | x :: r, s => match run G call lf x s with
    | some (.normal, s') => runL G call lf r s'
    | o => o

theorem pre_sound {call : Call} {nt : Nat} (hcall : CallOK P G call) (hm : MethOK P G) (hmix : P.follows .mixedOrders = true) (lf : Nat) : ∀ (c : Code) {l : List XC} {d : XOper} {t : Nat} {r : XC}, splitD P (compTop P) c = some (l, d, t, r) →
    ∃ dc rest, compDef P dc = some (d, t) ∧ compTop P rest = some r ∧ ((l.all (dstOk nt)) = true → ∀ {s s' : St} {x : Ext}, runL G call lf l s = some (x, s') →
      s.2.2 ≤ s'.2.2 ∧ ∀ (E : Env) (w : World) (a : Act) (Q : Exit → Act → World → Prop) (dl : List Deferred), HR E s.2.1 w → FrR E w s.1 a nt → GR G E w → Fresh E s.2.2 s'.2.2 → a.defers = dl →
        (∀ E' w' a', HR E' s'.2.1 w' → Tr E s.2.1 w E' s'.2.1 w' s.2.2 s'.2.2 → FrR E' w' s'.1 a' nt → a'.defers = dl → match x with
          | .normal => (Code.seq dc rest).wp P Q a' w'
          | x => Q (exitOf x) a' w') → c.wp P Q a w) := by
  intro c
  induction c with
  | seq a b iha ihb =>
    intro l d t r h
    simp only [splitD] at h
    split at h
    · rename_i d' t' hd
      obtain ⟨r', hr', h⟩ := obind_some h
      cases h
      refine ⟨a, b, hd, hr', fun _ s s' x hx => ?_⟩
      simp only [runL, Option.some.injEq, Prod.mk.injEq] at hx
      obtain ⟨rfl, rfl⟩ := hx
      exact ⟨Nat.le_refl _, fun E w a Q dl hr hf hg _ hd hQ => hQ E w a hr (.refl _) hf hd⟩
    · obtain ⟨x0, hx0, h⟩ := obind_some h
      obtain ⟨q, hq, h⟩ := obind_some h
      obtain ⟨l', d', t', r'⟩ := q
      cases h
      obtain ⟨dc, rest, k1, k2, k3⟩ := ihb hq
      refine ⟨dc, rest, k1, k2, fun hall s s' x hx => ?_⟩
      rw [List.all_cons, Bool.and_eq_true] at hall
      have k3 := @k3 hall.2
      simp only [runL] at hx
      split at hx
      · rename_i s1 hs
        obtain ⟨l1, r1⟩ := top_sound hcall hm hmix lf a hx0 hall.1 hs
        obtain ⟨l2, r2⟩ := k3 hx
        refine ⟨Nat.le_trans l1 l2, fun E w a Q dl hr hf hg hfr hdf hQ => ?_⟩
        refine wp_seq (r1 E w a _ _ hr hf hg (hfr.left l2) hdf fun E1 w1 a1 h1 h2 h3 h4 => ?_)
        exact r2 E1 w1 a1 Q _ h1 h3 (hg.step hr h2) (hfr.right h2) h4 fun E' w' a' k1 k2 k3 k4 => hQ E' w' a' k1 (h2.trans h1 k2) k3 k4
      · rename_i hne
        have hx' : x ≠ .normal := fun e => hne s' (by rw [← e]; exact hx)
        obtain ⟨l1, r1⟩ := top_sound hcall hm hmix lf a hx0 hall.1 hx
        refine ⟨l1, fun E w a Q dl hr hf hg hfr hdf hQ => ?_⟩
        refine wp_seq (r1 E w a _ _ hr hf hg hfr hdf fun E1 w1 a1 h1 h2 h3 h4 => ?_)
        have := hQ E1 w1 a1 h1 h2 h3 h4
        cases x <;> first | exact absurd rfl hx' | exact this
  | _ => intro l d t r h; simp [splitD] at h

structure DX where
  np : Nat
  nt : Nat
  pre : List XC
  d0 : XOper
  t : Nat
  rest : XC
  rs : List XR
def compD (P : Program) (ct : Code → Option XC) (fn : Func) : Option DX :=
  obind fn.body fun b => obind (splitD P ct b) fun q => obind (compRess P fn.results.toList) fun rs =>
  match (q.1.all (dstOk fn.ntmps)) && dstOk fn.ntmps q.2.2.2 && (match q.2.1.dst with | some d => Nat.blt d fn.ntmps | none => true) && Nat.ble (fn.params.size + fn.nfree) fn.ntmps with
  | true => some ⟨fn.params.size + fn.nfree, fn.ntmps, q.1, q.2.1, q.2.2.1, q.2.2.2, rs⟩
  | false => none

/-- Such a function's call. -/
def enterD (x : DX) (F : Nat → Option (XF × Pol)) (G : Cx) (lf : Nat) (call : Call) (args : List AV) (H : Heap) (nx : Nat) : Option Out :=
  match Nat.beq args.length x.np with
  | false => none
  | true => match runL G call lf x.pre (slots 0 (pad x.nt args), H, nx) with
    | some (.ret, fr, H', nx') => match ress H' fr x.rs with
      | some vs => some (oneOr vs, H', nx')
      | none => none
    | some (.normal, fr, H1, n1) => match runOps G call [x.d0] fr H1 n1 with
      | some (fr1, H2, n2) => match fr1.get x.t with
        | some (.func (.func g) first caps) => match run G call lf x.rest (fr1, H2, n2) with
          | some (.exit _, _) => none
          | some (_, fr3, H3, n3) => match enter1 F G lf call g (first ++ caps) H3 n3 with
            | some (_, H4, n4) => match ress H4 fr3 x.rs with
              | some vs => some (oneOr vs, H4, n4)
              | none => none
            | none => none
          | none => none
        | _ => none
      | none => none
    | _ => none
theorem FrR.step {E E' : Env} {w w' : World} {H H' : Heap} {fr : Fr} {a : Act} {nt x y : Nat} (hr : HR E H w) (hf : FrR E w fr a nt) (t : Tr E H w E' H' w' x y) : FrR E' w' fr a nt := ⟨hf.size, fun n u h => t.vr hr (hf.get n u h)⟩

theorem enterD_sound {F : Nat → Option (XF × Pol)} (hF : TableOK P F) (hm : MethOK P G) (hmix : P.follows .mixedOrders = true) (lf : Nat) {call : Call} (hcall : CallOK P G call) {f : Nat} {fn : Func} {x : DX} (hfn : P.funcs[f]? = some fn) (hname : (fn.name == "runtime.NumGoroutine") = false) (hx : compD P (compTop P) fn = some x) :
    CallOK P G fun f' args H nx => if f' = f then enterD x F G lf call args H nx else none := by
  intro f' args H nx v H' nx' h
  simp only at h
  split at h
  rotate_left
  · cases h
  rename_i hff
  subst hff
  unfold compD at hx
  obtain ⟨body, hbody, hx⟩ := obind_some hx
  obtain ⟨⟨l, d, t, r⟩, hsp, hx⟩ := obind_some hx
  obtain ⟨rs, hrs, hx⟩ := obind_some hx
  simp only at hx
  split at hx
  rotate_left
  · cases hx
  rename_i hok
  cases hx
  rw [Bool.and_eq_true, Bool.and_eq_true, Bool.and_eq_true] at hok
  obtain ⟨⟨⟨ok1, ok2⟩, ok3⟩, ok4⟩ := hok
  have hnp : fn.params.size + fn.nfree ≤ fn.ntmps := Nat.le_of_ble_eq_true ok4
  obtain ⟨dc, rest, q1, q2, q3⟩ := pre_sound (nt := fn.ntmps) hcall hm hmix lf body hsp
  have q3 := @q3 ok1
  simp only [enterD] at h
  split at h
  · cases h
  rename_i hlen
  have hlen := nbeq_true hlen
  have ent : Enters P f' := ⟨fn, body, hfn, hbody, hname⟩
  split at h
  · -- left ahead of the deferred call
    rename_i fr1 H1 n1 hrun
    split at h
    rotate_left
    · cases h
    rename_i vs hvs
    cases h
    obtain ⟨l1, r1⟩ := q3 hrun
    refine ⟨ent, l1, fun E w cargs hr hv hg hfr => ?_⟩
    refine calls_of_wp_defers hfn hbody (r1 E w _ _ _ hr (frame0 hv (by omega)) hg hfr rfl fun E' w' a' k1 k2 k3 k4 => ?_)
    obtain ⟨cv, e1, e2⟩ := results_sound k1 k3 hrs hvs
    show Leaves P fn a'.tmps _ a'.defers .returning w'
    rw [k4]
    exact ⟨cv, e1, cv, E', rfl, k1, k2, e2⟩
  · rename_i fr1 H1 n1 hrun
    split at h
    rotate_left
    · cases h
    rename_i fr2 H2 n2 hops
    split at h
    rotate_left
    · cases h
    rename_i g first caps hfv
    split at h
    · cases h
    · rename_i x3 fr3 H3 n3 hne hrest
      split at h
      rotate_left
      · cases h
      rename_i v4 H4 n4 hcl
      split at h
      rotate_left
      · cases h
      rename_i vs hvs
      cases h
      obtain ⟨l1, r1⟩ := q3 hrun
      -- the region
      unfold compDef at q1
      split at q1
      rotate_left
      · cases q1
      rename_i id ops q3
      split at q1
      rotate_left
      · cases q1
      rename_i o0 o1 hol
      split at q1
      rotate_left
      · cases q1
      rename_i t' ars ts ho1 hod hog
      split at q1
      rotate_left
      · cases q1
      rename_i has
      cases q1
      have hops0 : ops = #[o0, o1] := by apply Array.toList_inj.1; simpa using hol
      have has0 : ars = #[] := by apply Array.toList_inj.1; simpa using has
      subst has0
      have hg0 : ∀ j o, [o0][j]? = some o → ops[0 + j]? = some o := fun j o hj => by
        cases j with
        | zero => simpa [hops0] using hj
        | succ j => simp at hj
      have hd0 : ∀ o ∈ [o0], ∀ d, o.dst = some d → d < fn.ntmps := fun o ho d hd => by
        have : o = o0 := by simpa using ho
        subst this
        rw [compOper_dst, hd] at ok3
        simpa [Nat.blt_eq] using ok3
      have lo := (ops_prefix (Q := fun _ _ _ => True) (nt := fn.ntmps) hcall hm [1] [o0] 0 hg0 hd0 (by simpa using hops)).1
      obtain ⟨l3, r3⟩ := top_sound hcall hm hmix lf rest q2 ok2 hrest
      obtain ⟨fnC, bodyC, c1, c2, c3, l4, c4⟩ := enter1_wp hF hm hmix lf hcall hcl
      simp only at l1 l3 lo
      refine ⟨ent, by omega, fun E w cargs hr hv hg hfr => ?_⟩
      refine calls_of_wp_defers hfn hbody (r1 E w _ _ _ hr (frame0 hv (by omega)) hg (hfr.left (by first | omega | (simp only; omega))) rfl fun E1 w1 a1 h1 h2 h3 h4 => ?_)
      have hg1 := hg.step hr h2
      have hfr1 := hfr.right h2
      refine wp_seq (wp_region ?_)
      have hrange : List.range ops.size = List.range' 0 [o0].length ++ [1] := by rw [hops0]; rfl
      rw [hrange]
      refine (ops_prefix hcall hm [1] [o0] 0 hg0 hd0 (by simpa using hops)).2 E1 w1 a1 _ h1 h3 hg1 (hfr1.left (by first | omega | (simp only; omega))) h4 fun E2 w2 a2 m1 m2 m3 m4 => ?_
      have hg2 := hg1.step h1 m2
      have hfr2 := hfr1.right m2
      rw [wpOps_cons]
      have hi1 : ops[1]? = some o1 := by rw [hops0]; rfl
      have hv2 := m3.get t _ hfv
      generalize hcf : a2.tmps.getD t undef = cf at hv2
      cases hv2 with
      | func _ _ _ vf vc hf1 hc1 rf rc =>
        have hA : VRs E2 w2 (first ++ caps) (vf.toList ++ vc.toList) := VRs.append ⟨by simpa using hf1, fun i x v hx hv => rf i x v hx (by simpa using hv)⟩ ⟨by simpa using hc1, fun i x v hx hv => rc i x v hx (by simpa using hv)⟩
        have hrun1 : (execOp a2.eval o1).run P w2 = .ok (.defer { target := .fn (.func g) vc, args := vf }) w2 := by
          have hev : a2.eval (.tmp t) = .func (.func g) vf vc := hcf
          simp [execOp, ho1, resolve, Sem.run_bind, Deferred.ofValue, Sem.run_pure, Result.andThen_ok, hev]
        unfold wpOp
        rw [hi1]
        simp only [Region.wanted, hog]
        rw [if_pos trivial]
        refine .inl ?_
        unfold Oper.wp
        rw [hrun1, Oper.upon_defer, hod]
        refine r3 E2 w2 _ _ [_] m1 ⟨m3.size, m3.get⟩ hg2 (hfr2.left (by first | omega | (simp only; omega))) (by show _ :: a2.defers = _; rw [m4]) fun E3 w3 a3 n1 n2 n3 n4 => ?_
        have hA3 := hA.mono fun h => n2.vr m1 h
        have hg3 := hg2.step m1 n2
        have hfr3 := hfr2.right n2
        have leave : Leaves P fn a3.tmps (fun e w' => ∃ cv E', e = .returned cv ∧ HR E' H' w' ∧ Tr E H w E' H' w' nx nx' ∧ VR E' w' (oneOr vs) cv) a3.defers .returning w3 := by
          rw [n4]
          refine leaves_cons (f := g) (args := vf ++ vc) (by simp) ?_ ((callsD_of_wp c1 c2 (c4 E3 w3 (vf ++ vc) n1 (by simpa using hA3) hg3 hfr3)).mono ?_)
          · simp only [invoke]
            exact run_callFunc ⟨fnC, bodyC, c1, c2, c3⟩
          · rintro e u' w4 ⟨rfl, cv, E4, rfl, p1, p2, p3⟩
            show Leaves P fn a3.tmps _ [] .returning w4
            obtain ⟨cw, e1, e2⟩ := results_sound p1 (n3.step n1 p2) hrs hvs
            exact ⟨cw, e1, cw, E4, rfl, p1, (((h2.trans h1 m2).trans m1 n2).trans n1 p2), e2⟩
        cases x3 with
        | normal => exact leave
        | ret => exact leave
        | exit i => exact (hne i rfl).elim
    · cases h
  · cases h

/-- In the kernel's run: on the part of the heap that it reaches. -/
noncomputable def deferS (x : Option DX) (F : Nat → Option (XF × Pol)) (G : Cx) (lf : Nat) : FunC := fun call args H nx => match x with
  | some x => forceO (match enterD x F G lf call args (cutR args H).1 nx with | some (v, A, n) => some (v, A ++ (cutR args H).2, n) | none => none)
  | none => none
theorem deferS_ok {F : Nat → Option (XF × Pol)} (hF : TableOK P F) (hm : MethOK P G) (hmix : P.follows .mixedOrders = true) (lf : Nat) {f : Nat} {fn : Func} (hfn : P.funcs[f]? = some fn) (hname : (fn.name == "runtime.NumGoroutine") = false) (call : Call) (hc : CallOK P G call) :
    CallOK P G fun f' args H nx => if f' = f then deferS (compD P (compTopF P) fn) F G lf call args H nx else none := by
  intro f' args H nx v H' nx' h
  have hct : compTopF P = compTop P := by funext c; exact compTopF_eq P c
  rw [hct] at h
  simp only at h
  split at h
  · rename_i e
    subst e
    unfold deferS at h
    split at h
    · rename_i x hx
      rw [forceO_eq] at h
      have := CallOK.framed (enterD_sound hF hm hmix lf hc hfn hname hx) cutR (fun a H => .inr (cutR_perm a H)) f' args H nx v H' nx'
      simp only [if_pos] at this
      exact this h
    · cases h
  · cases h
end
end Go.Sy

/- strings.Cut, known. No condition. -/
namespace Go.Sy
open Go.RowKit
set_option linter.unusedVariables false
set_option linter.unusedSimpArgs false
section
variable {P : Program} {G : Cx} {E : Env} {w w' : World} {H : Heap}
def prefN : List Nat → List Nat → Option (List Nat)
  | [], s => some s
  | _ :: _, [] => none
  | a :: p, b :: s => match Nat.beq a b with
    | true => prefN p s
    | false => none
def cutN (sep : List Nat) : List Nat → Option (List Nat × List Nat)
  | [] => match sep with
    | [] => some ([], [])
    | _ :: _ => none
  | b :: l => match prefN sep (b :: l) with
    | some r => some ([], r)
    | none => match cutN sep l with
      | some (x, y) => some (b :: x, y)
      | none => none
theorem prefN_eq : ∀ (p l : List UInt8), prefN (p.map UInt8.toNat) (l.map UInt8.toNat) = if p.isPrefixOf l then some ((l.drop p.length).map UInt8.toNat) else none
  | [], l => by simp [prefN]
  | a :: p, [] => by simp [prefN]
  | a :: p, b :: l => by
    simp only [List.map_cons, prefN, List.isPrefixOf_cons_cons, List.length_cons, List.drop_succ_cons]
    by_cases e : a = b
    · subst e
      have : Nat.beq a.toNat a.toNat = true := Nat.beq_refl _
      simp only [this, prefN_eq p l, beq_self_eq_true, Bool.true_and]
    · have h1 : Nat.beq a.toNat b.toNat = false := by
        cases h : Nat.beq a.toNat b.toNat with
        | false => rfl
        | true => exact absurd (UInt8.toNat_inj.1 (nbeq_true h)) e
      have h2 : (a == b) = false := by simpa using e
      simp [h1, h2]
theorem cutN_eq (sep : List UInt8) : ∀ (s : List UInt8), cutN (sep.map UInt8.toNat) (s.map UInt8.toNat) = if 0 ≤ Lib.index s sep then some ((s.take (Lib.index s sep).toNat).map UInt8.toNat, (s.drop ((Lib.index s sep).toNat + sep.length)).map UInt8.toNat) else none
  | [] => by
    cases sep with
    | nil => simp [cutN, Lib.index]
    | cons a r => simp [cutN, Lib.index]
  | b :: l => by
    have hp := prefN_eq sep (b :: l)
    simp only [List.map_cons] at hp ⊢
    unfold cutN
    rw [hp]
    unfold Lib.index
    by_cases h1 : sep.isPrefixOf (b :: l) = true
    · simp [h1]
    · simp only [h1, Bool.false_eq_true, if_false]
      rw [cutN_eq sep l]
      by_cases h2 : Lib.index l sep = -1
      · simp [h2]
      · have h3 := Lib.index_ge l sep
        have h4 : 0 ≤ Lib.index l sep := by omega
        have h5 : 0 ≤ Lib.index l sep + 1 := by omega
        have h6 : (Lib.index l sep + 1).toNat = (Lib.index l sep).toNat + 1 := by omega
        have h7 : (Lib.index l sep == -1) = false := by simpa using h2
        simp only [h7, Bool.false_eq_true, if_false, h4, h5, if_true, h6, List.take_succ_cons, List.map_cons]
        congr 3
        rw [Nat.add_right_comm, List.drop_succ_cons]
def cutA : List AV → Heap → Option AV
  | [.str s, .str sep], _ => match Nat.ble s.length 4294967280 with
    | true => match cutN sep s with
      | some (x, y) => some (.tup [.str x, .str y, .bool true])
      | none => some (.tup [.str s, .str [], .bool false])
    | false => none
  | _, _ => none
theorem cut_known {f : FuncId} {g : Nat} {m : Int} (hG : G.glob g = some (.eptr (.int .i64 m) 0))
    (h0 : ∀ (s sep : ByteArray) (m : Int) (w : World), s.size < 4294967281 → w.cell? ⟨g, 0, none⟩ = some (.int .i64 m) →
      Calls P f #[.string s, .string sep] w fun e w' => e = .returned (.tuple #[.string ⟨(Lib.cut s.data.toList sep.data.toList).1.toArray⟩, .string ⟨(Lib.cut s.data.toList sep.data.toList).2.1.toArray⟩, .bool (Lib.cut s.data.toList sep.data.toList).2.2]) ∧ ∃ n, w' = w.drewN n) {fn : Func} {body : Code} (hf : P.funcs[f]? = some fn) (hb : fn.body = some body) (hn : (fn.name == "runtime.NumGoroutine") = false) (call : Call) :
    CallOK P G fun f' args H nx => if f' = f then known cutA call args H nx else none := by
  intro f' args H nx v H' nx' he
  simp only [known] at he
  split at he
  rotate_left
  · cases he
  rename_i hff
  subst hff
  split at he
  rotate_left
  · cases he
  rename_i v' hv
  rw [fAV_eq] at he
  cases he
  refine ⟨⟨fn, body, hf, hb, hn⟩, Nat.le_refl _, fun E w cargs hr hva hg hfr => ?_⟩
  unfold cutA at hv
  split at hv
  rotate_left
  · cases hv
  rename_i H0 s sep
  split at hv
  rotate_left
  · cases hv
  rename_i hle
  obtain ⟨c0, cr, hc, hs, hrest⟩ := hva.of_cons
  obtain ⟨c1, cr', hc', hs', hrest'⟩ := hrest.of_cons
  have hcr := hrest'.of_nil
  subst hcr; subst hc'
  have hca : cargs = #[c0, c1] := by apply Array.toList_inj.1; simpa using hc
  subst hca
  have hcell : w.cell? ⟨g, 0, none⟩ = some (.int .i64 m) := by
    have := hg g _ hG
    generalize hpp : Value.pointer (some ⟨g, 0, none⟩) = pv at this
    cases this with
    | eptr e off b o cv hfl hz hvv hcc =>
      have e1 : g = b ∧ 0 = o + 0 := by
        have h1 := Option.some.inj (Value.pointer.inj hpp)
        exact ⟨congrArg Addr.block h1, congrArg Addr.off h1⟩
      obtain ⟨e1, e2⟩ := e1
      obtain ⟨rfl, _⟩ := hvv.of_int
      have h2 := hcc 0 _ rfl
      have e3 : o = 0 := by omega
      subst e3
      rw [e1]
      exact h2
  obtain ⟨s0, rfl, hs1, hs2⟩ : ∃ s0 : ByteArray, c0 = .string s0 ∧ s0.data.toList.map UInt8.toNat = s ∧ s.length ≤ maxStr := by
    cases hs with
    | str l s' h hl => exact ⟨s', rfl, h, hl⟩
  obtain ⟨p0, rfl, hp1, hp2⟩ : ∃ s0 : ByteArray, c1 = .string s0 ∧ s0.data.toList.map UInt8.toNat = sep ∧ sep.length ≤ maxStr := by
    cases hs' with
    | str l s' h hl => exact ⟨s', rfl, h, hl⟩
  have hsz : s0.size < 4294967281 := by
    have h2 := Nat.le_of_ble_eq_true hle
    rw [← hs1, List.length_map, Array.length_toList] at h2
    have : s0.size = s0.data.size := rfl
    omega
  have hstr : ∀ (l : List UInt8), l.length ≤ s.length → VR E w (.str (l.map UInt8.toNat)) (.string ⟨l.toArray⟩) := fun l h => .str _ _ (by simp) (by rw [List.length_map]; omega)
  refine (h0 s0 p0 m w hsz hcell).mono fun e w' h1 => ?_
  obtain ⟨rfl, n, rfl⟩ := h1
  have hbl : Below w.heap.size w (w.drewN n) := by exact ⟨rfl, rfl, rfl, Nat.le_refl _, fun _ _ => rfl⟩
  obtain ⟨k1, k2, k3⟩ := below_step hr hbl nx
  refine ⟨_, E, rfl, k1, k2, k3 ?_⟩
  have hcn := cutN_eq p0.data.toList s0.data.toList
  rw [hs1, hp1] at hcn
  have hl0 : s0.data.toList.length = s.length := by rw [← hs1, List.length_map]
  unfold Lib.cut
  by_cases hi : 0 ≤ Lib.index s0.data.toList p0.data.toList
  · rw [if_pos hi] at hcn
    rw [hcn] at hv
    simp only [Option.some.injEq] at hv
    subst hv
    rw [if_pos hi]
    exact VR.mk_tup (.cons (hstr _ (by rw [List.length_take]; omega)) (.cons (hstr _ (by rw [List.length_drop]; omega)) (.cons (.bool true) .nil)))
  · rw [if_neg hi] at hcn
    rw [hcn] at hv
    simp only [Option.some.injEq] at hv
    subst hv
    rw [if_neg hi]
    refine VR.mk_tup (.cons ?_ (.cons (hstr [] (by simp)) (.cons (.bool false) .nil)))
    rw [← hs1]
    exact hstr _ (by omega)
/-- A package variable that holds a number. -/
theorem glob_int {W : World} {σ : Nat → Value} {g : Nat} {m : Int} (h : W.cell? ⟨g, 0, none⟩ = some (.int .i64 m)) (hr : has .i64 m) : VR (Env.still W σ) W (.eptr (.int .i64 m) 0) (.pointer (some ⟨g, 0, none⟩)) := by
  have hlt : g < W.heap.size := by
    rcases Nat.lt_or_ge g W.heap.size with h1 | h1
    · exact h1
    · have h2 : W.heap[g]? = none := Array.getElem?_eq_none h1
      simp [World.cell?, h2] at h
  refine VR.eptr (.int .i64 m) 0 g 0 (.int .i64 m) rfl hlt (.int _ _ hr) fun j c hj => ?_
  cases j with
  | zero => cases hj; exact h
  | succ j => simp [Value.cells] at hj
theorem shaped_int {g t u : Nat} {zero : Array Value} {W : World} {m : Int} (h : W.ShapedOpen P) (hg : g < P.globals.size) (h0 : ((begin P (fun _ _ => 0) default).world.heap[g]?).bind Obj.row? = some (zero, t)) (hb : P.buildable t = true)
    (hu : P.cellTypes P.depth t = some [u]) (hk : P.underlying u = some (.int .i64)) (hm : W.cell? ⟨g, 0, none⟩ = some (.int .i64 m)) : has .i64 m := by
  obtain ⟨cs, hcs, _, hrow⟩ := h.1 g zero t hg h0
  obtain ⟨ts, h1, _, h3⟩ := hrow hb
  rw [hu] at h1
  cases h1
  have hc : cs[0]? = some (.int .i64 m) := by
    simpa [World.cell?, hcs] using hm
  obtain ⟨v, hv, hok⟩ := h3 0 _ hc
  have hv' : v = u := by simpa using hv.symm
  subst hv'
  unfold Cell.ok at hok
  rw [hk] at hok
  exact hok.2
end
end Go.Sy
