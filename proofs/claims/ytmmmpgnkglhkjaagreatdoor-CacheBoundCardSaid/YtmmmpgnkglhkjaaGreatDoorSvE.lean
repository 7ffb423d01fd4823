/- A LIBRARY FOR RUNNING A PROGRAM IN THE KERNEL, OVER ABSTRACT VALUES, AND THAT ITS WORD IS THE MODEL'S: part 5 of 5. No condition. -/
import Derived.Test.YtmmmpgnkglhkjaaGreatDoorSvD
import Derived.Below
import Derived.Lib.LaidTab
import Derived.Lib.LaidU8
import Derived.Lib.Join
import Derived.Stop.LaidErr
import Derived.Carry
import Derived.WideShapes
set_option linter.unusedVariables false
set_option linter.unusedSimpArgs false
/- Functions that are known from elsewhere; tables that are package variables. No condition. -/
namespace Go.Sy
open Go.RowKit
set_option linter.unusedVariables false
section
variable {P : Program} {G : Cx} {E : Env} {w w' : World} {H : Heap}

theorem below_step (hr : HR E H w) (hb : Below w.heap.size w w') (a : Nat) : HR E H w' ∧ Tr E H w E H w' a a ∧ ∀ {v cv}, VR E w v cv → VR E w' v cv := by
  have hS : Shapes w w' := fun b c e f h => ⟨c, f, (hb.block b (Array.getElem?_eq_some_iff.1 h).1).trans h, rfl⟩
  have hm : ∀ {v cv}, VR E w v cv → VR E w' v cv := fun hv => VR.mono (E := E) (E' := E) (fun _ h => ⟨h, rfl⟩) (fun b h => ⟨h, hb.block b (hr.zlt b h)⟩) hS hv
  exact ⟨⟨hr.nodup, hr.dom, hr.inj, fun p hp => (hr.obj p hp).mono (hb.block _ (hr.lt hp)) hm, hr.nz, fun b h => Nat.lt_of_lt_of_le (hr.zlt b h) hb.size⟩,
    ⟨Nat.le_refl _, fun _ _ => rfl, fun h => ⟨.inl, fun h => h.elim id fun ⟨x, y⟩ => by omega⟩, fun _ h => h, fun _ h => .inl h, fun p hp => .inl ⟨p, hp, rfl⟩, hb.tape, hb.os, hb.output, hb.size, fun x hx _ => hb.block x hx, hS, rfl⟩, hm⟩

/-- A function whose calls leave memory as it was. -/
theorem spec_of {f : FuncId} {fn : Func} {body : Code} (hf : P.funcs[f]? = some fn) (hb : fn.body = some body) (hn : (fn.name == "runtime.NumGoroutine") = false) {g : List AV → Option AV}
    (h : ∀ args v, g args = some v → ∀ (E : Env) (H : Heap) (w : World) (cargs : Array Value), HR E H w → VRs E w args cargs.toList → Calls P f cargs w fun e w' => ∃ cv, e = .returned cv ∧ Below w.heap.size w w' ∧ VR E w v cv) (call : Call) :
    CallOK P G fun f' args H nx => if f' = f then (match g args with | some v => some (v, H, nx) | none => none) else none := by
  intro f' args H nx v H' nx' he
  simp only at he
  split at he
  · rename_i hff
    subst hff
    split at he
    · rename_i v' hv
      cases he
      refine ⟨⟨fn, body, hf, hb, hn⟩, Nat.le_refl _, fun E w cargs hr hva hg hfr => ?_⟩
      refine (h args v hv E H w cargs hr hva).mono fun e w' h1 => ?_
      obtain ⟨cv, rfl, h2, h3⟩ := h1
      obtain ⟨k1, k2, k3⟩ := below_step hr h2 nx
      exact ⟨cv, E, rfl, k1, k2, k3 h3⟩
    · cases he
  · cases he

theorem var_block {n : String} {g : Nat} {cs : Array Value} (hg : P.globalNamed n = some g) (h : w.var? P n = some cs) : ∃ t f, w.heap[g]? = some (.cells cs t f) := by
  unfold World.var? at h
  rw [hg] at h
  simp only [Option.bind_some] at h
  split at h
  · rename_i c t f hc
    cases h
    exact ⟨t, f, hc⟩
  · cases h

def inRange (k : IntKind) (z : Int) : Bool := decide (k.min ≤ z) && decide (z ≤ k.max)
/-- A table of numbers that is a package variable. -/
theorem glob_tab {l : List (String × DataW Unit)} {W : World} {σ : Nat → Value} (hL : laidMet P l W) {n : String} {zs : List Int} {k : IntKind} (hm : (n, Lib.tabData k zs) ∈ l) {g : Nat} (hg : P.globalNamed n = some g)
    {t e : TypeId} {len : Nat} (hgt : (P.globals[g]?).map (·.type) = some t) (ht : P.underlying t = some (.array len e)) (he : P.underlying e = some (.int k)) (hce : P.cellsOf e = 1) (hct : P.cellsOf t = len)
    (hr : zs.all (inRange k) = true) : VR (Env.still W σ) W (.eptr (.agg (zs.map fun z => .int k z)) 0) (.pointer (some ⟨g, 0, none⟩)) := by
  obtain ⟨g', t', cs, fuel, p, h1, h2, h3, h4⟩ := Lib.laidMet.reads hL hm
  rw [hg] at h1
  cases h1
  rw [hgt] at h2
  cases h2
  obtain ⟨ty, f, hblk⟩ := var_block hg h3
  have hc := Lib.cells_of_tab ht he hce hct h4
  have hlt : g < W.heap.size := (Array.getElem?_eq_some_iff.1 hblk).1
  have := VR.eptr (E := Env.still W σ) (w := W) (.agg (zs.map fun z => .int k z)) 0 g 0 (.agg cs) rfl hlt ?_ fun j c hj => ?_
  · simpa using this
  · refine VR.mk_agg ?_ fun v hv => ?_
    · rw [hc]
      refine ⟨by simp, fun i x v hx hv => ?_⟩
      rw [List.getElem?_map] at hx hv
      cases hz : zs[i]? with
      | none => rw [hz] at hx; cases hx
      | some z =>
        rw [hz] at hx hv
        cases hx; cases hv
        have h5 := List.all_eq_true.1 hr z (List.mem_of_getElem? hz)
        simp only [inRange, Bool.and_eq_true, decide_eq_true_eq] at h5
        exact .int k z h5
    · rw [hc] at hv
      obtain ⟨z, _, rfl⟩ := List.mem_map.1 hv
      rfl
  · have hj' : cs[j]? = some c := hj
    simp only [World.cell?, hblk, Nat.zero_add]
    simpa using hj'
end
end Go.Sy

/- Functions of Go's library that are known, and not run. No condition. -/
namespace Go.Sy
open Go.RowKit
set_option linter.unusedVariables false
noncomputable section
variable {P : Program} {G : Cx} {E : Env} {w w' : World} {H : Heap}

def known (g : List AV → Heap → Option AV) : FunC := fun _ args H nx => match g args H with
  | some v => fAV v fun v => some (v, H, nx)
  | none => none

/-- A function whose calls leave memory as it was: its contract is enough. -/
theorem spec_ofH {f : FuncId} {fn : Func} {body : Code} (hf : P.funcs[f]? = some fn) (hb : fn.body = some body) (hn : (fn.name == "runtime.NumGoroutine") = false) {g : List AV → Heap → Option AV}
    (h : ∀ args H v, g args H = some v → ∀ (E : Env) (w : World) (cargs : Array Value), HR E H w → VRs E w args cargs.toList → Calls P f cargs w fun e w' => ∃ cv, e = .returned cv ∧ Below w.heap.size w w' ∧ VR E w v cv) (call : Call) :
    CallOK P G fun f' args H nx => if f' = f then known g call args H nx else none := by
  intro f' args H nx v H' nx' he
  simp only [known] at he
  split at he
  · rename_i hff
    subst hff
    split at he
    · rename_i v' hv
      rw [fAV_eq] at he
      cases he
      refine ⟨⟨fn, body, hf, hb, hn⟩, Nat.le_refl _, fun E w cargs hr hva hg hfr => ?_⟩
      refine (h args H v hv E w cargs hr hva).mono fun e w' h1 => ?_
      obtain ⟨cv, rfl, h2, h3⟩ := h1
      obtain ⟨k1, k2, k3⟩ := below_step hr h2 nx
      exact ⟨cv, E, rfl, k1, k2, k3 h3⟩
    · cases he
  · cases he

def cloneA : List AV → Heap → Option AV
  | [.str s], _ => match Nat.ble s.length 281474976710656 with
    | true => some (.str s)
    | false => none
  | _, _ => none
theorem clone_known {f : FuncId} (h0 : ∀ (s : ByteArray) (w : World), s.size ≤ 281474976710656 → Calls P f #[.string s] w fun e w' => e = .returned (.string s) ∧ Below w.heap.size w w') :
    ∀ args H v, cloneA args H = some v → ∀ (E : Env) (w : World) (cargs : Array Value), HR E H w → VRs E w args cargs.toList → Calls P f cargs w fun e w' => ∃ cv, e = .returned cv ∧ Below w.heap.size w w' ∧ VR E w v cv := by
  intro args H v h E w cargs hr hv
  unfold cloneA at h
  split at h
  · split at h
    · rename_i s hle
      cases h
      obtain ⟨c, cr, hc, hvc, hrest⟩ := hv.of_cons
      have hcr := hrest.of_nil
      subst hcr
      have hca : cargs = #[c] := by apply Array.toList_inj.1; simpa using hc
      subst hca
      cases hvc with
      | str l s' h hl =>
        have hsz : s'.size ≤ 281474976710656 := by
          have h2 := Nat.le_of_ble_eq_true hle
          rw [← h, List.length_map, Array.length_toList] at h2
          exact h2
        exact (h0 s' w hsz).mono fun e w' ⟨k1, k2⟩ => ⟨_, k1, k2, .str _ _ h hl⟩
    · cases h
  · cases h

def joinN (sep : List Nat) : List (List Nat) → List Nat
  | [] => []
  | x :: r => x ++ (r.map (sep ++ ·)).flatten
theorem joinN_eq (xs : List (List UInt8)) (sep : List UInt8) : (Lib.join xs sep).map UInt8.toNat = joinN (sep.map UInt8.toNat) (xs.map (·.map UInt8.toNat)) := by
  cases xs with
  | nil => rfl
  | cons x r =>
    rw [Lib.join_cons]
    simp [joinN, Lib.joinTail, List.map_flatten, Function.comp_def]
def strs : List AV → Option (List (List Nat))
  | [] => some []
  | .str s :: r => match strs r with
    | some x => some (s :: x)
    | none => none
  | _ :: _ => none
theorem strs_sound : ∀ {ys : List AV} {vs : List Value} {ls : List (List Nat)}, VRs E w ys vs → strs ys = some ls → ∃ xs : List ByteArray, vs = xs.map .string ∧ ls = xs.map (fun x => x.data.toList.map UInt8.toNat)
  | [], vs, ls, hv, h => by cases h; rw [hv.of_nil]; exact ⟨[], rfl, rfl⟩
  | y :: r, vs, ls, hv, h => by
    obtain ⟨c, cr, rfl, hc, hr⟩ := hv.of_cons
    unfold strs at h
    split at h
    · rename_i heq; cases heq
    · rename_i s r' heq
      cases heq
      split at h
      · rename_i x hx
        cases h
        obtain ⟨xs, rfl, rfl⟩ := strs_sound hr hx
        cases hc with
        | str l s' h hl => exact ⟨s' :: xs, rfl, by simp [h]⟩
      · cases h
    · cases h
def isSl : AV → Bool
  | .nilslice => true
  | .lst _ _ => true
  | .row .. => true
  | _ => false
def joinA : List AV → Heap → Option AV
  | [y, .str sep], H => match isSl y with
    | false => none
    | true => match content H 1 y with
      | none => none
      | some (n, cs) => match strs cs with
        | none => none
        | some xs => match Nat.ble n 140737488355328 && Nat.ble (joinN sep xs).length 140737488355328 with
          | true => some (.str (joinN sep xs))
          | false => none
  | _, _ => none
theorem VR.slice_cap {y : AV} {a : Option Addr} {n c : Nat} (hy : isSl y = true) (h : VR E w y (.slice a n c)) : n ≤ c ∧ ∀ ad, a = some ad → n ≠ 0 → ad.spot = none := by
  cases h <;> first | (simp [isSl] at hy; done) | simp_all
theorem join_known {f : FuncId} (h0 : ∀ (a : Option Addr) (c : Nat) (sep : ByteArray) (w : World), Calls P f #[.slice a 0 c, .string sep] w fun e w' => e = .returned (.string ⟨#[]⟩) ∧ w' = w)
    (h1 : ∀ (bk o c : Nat) (xs : List ByteArray) (sep : ByteArray) (w : World), (∀ (j : Nat) x, xs[j]? = some x → w.cell? ⟨bk, o + j, none⟩ = some (.string x)) → bk < w.heap.size → xs.length ≤ 140737488355328 → xs.length ≤ c →
      (Lib.join (xs.map (·.data.toList)) sep.data.toList).length ≤ 140737488355328 →
      Calls P f #[.slice (some ⟨bk, o, none⟩) xs.length c, .string sep] w fun e w' => e = .returned (.string ⟨(Lib.join (xs.map (·.data.toList)) sep.data.toList).toArray⟩) ∧ Below w.heap.size w w') :
    ∀ args H v, joinA args H = some v → ∀ (E : Env) (w : World) (cargs : Array Value), HR E H w → VRs E w args cargs.toList → Calls P f cargs w fun e w' => ∃ cv, e = .returned cv ∧ Below w.heap.size w w' ∧ VR E w v cv := by
  intro args H v h E w cargs hr hv
  unfold joinA at h
  split at h
  · rename_i y sep H'
    split at h
    · cases h
    · rename_i hsl
      split at h
      · cases h
      · rename_i n cs hcont
        split at h
        · cases h
        · rename_i ls hls
          split at h
          · rename_i hle
            cases h
            obtain ⟨cy, cr, hc, hy, hrest⟩ := hv.of_cons
            obtain ⟨cp, cr', hc', hp, hrest'⟩ := hrest.of_cons
            have hcr := hrest'.of_nil
            subst hcr; subst hc'
            have hca : cargs = #[cy, cp] := by apply Array.toList_inj.1; simpa using hc
            subst hca
            rw [Bool.and_eq_true] at hle
            have l1 := Nat.le_of_ble_eq_true hle.1
            have l2 := Nat.le_of_ble_eq_true hle.2
            obtain ⟨vs, k1, k2, k3, k4, k5, k6, k7⟩ := content_sound (P := P) hr hy hcont
            obtain ⟨xs, rfl, rfl⟩ := strs_sound k1 hls
            cases hp with
            | str l sp h hl =>
              subst h
              have hj : joinN (sp.data.toList.map UInt8.toNat) (xs.map fun x => x.data.toList.map UInt8.toNat) = (Lib.join (xs.map (·.data.toList)) sp.data.toList).map UInt8.toNat := by
                rw [joinN_eq, List.map_map]; rfl
              rw [hj] at l2
              rw [List.length_map] at l2
              have hlen : xs.length = n := by simpa using k3
              have res : VR E w (.str (joinN (sp.data.toList.map UInt8.toNat) (xs.map fun x => x.data.toList.map UInt8.toNat))) (.string ⟨(Lib.join (xs.map (·.data.toList)) sp.data.toList).toArray⟩) :=
                .str _ _ (by rw [hj]) (by rw [hj, List.length_map]; unfold maxStr; omega)
              rcases k7 with ⟨a, c, rfl, k7⟩ | ⟨s, rfl, _⟩
              · obtain ⟨hcap, hspot⟩ := VR.slice_cap hsl hy
                by_cases hn0 : n = 0
                · subst hn0
                  have hx0 : xs = [] := List.eq_nil_of_length_eq_zero hlen
                  subst hx0
                  refine (h0 a c sp w).mono fun e w' ⟨e1, e2⟩ => ⟨_, e1, e2 ▸ Below.refl _ _, res⟩
                · obtain ⟨ad, rfl, hcell⟩ := k7 (by omega)
                  have hs := hspot ad rfl hn0
                  obtain ⟨bk, o, sp'⟩ := ad
                  simp only at hs
                  subst hs
                  have hcells : ∀ (j : Nat) x, xs[j]? = some x → w.cell? ⟨bk, o + j, none⟩ = some (.string x) := fun j x hx => by
                    have := hcell j (.string x) (by rw [List.getElem?_map, hx]; rfl)
                    by_cases hj0 : j = 0
                    · subst hj0; simpa [Addr.add] using this
                    · simpa [Addr.add, hj0] using this
                  have hbk : bk < w.heap.size := by
                    cases xs with
                    | nil => simp at hlen; omega
                    | cons x r =>
                      have hc0 := hcells 0 x rfl
                      unfold World.cell? at hc0
                      split at hc0
                      · rename_i hh; exact (Array.getElem?_eq_some_iff.1 hh).1
                      · cases hc0
                  subst hlen
                  exact (h1 bk o c xs sp w hcells hbk l1 hcap l2).mono fun e w' ⟨e1, e2⟩ => ⟨_, e1, e2, res⟩
              · cases hy <;> simp [isSl] at hsl
          · cases h
  · cases h
end
end Go.Sy

/- Package variables that hold an error of package errors. No condition. -/
namespace Go.Sy
open Go.RowKit
set_option linter.unusedVariables false
section
variable {P : Program}
/-- An error variable that is listed: its cell, and the address has no spot. -/
theorem sent_cell {l : List (String × DataW Unit)} {W : World} (hL : laidMet P l W) {n nm : String} {text : List UInt8} {g : Nat} {ti tp te ts : TypeId} {ms : Array (String × TypeId)} {f : Field} (hm : (n, (.iface nm (.ptr (.agg [.lit (.string text)])) : DataW Unit)) ∈ l)
    (hg : P.globalNamed n = some g) (ht : (P.globals[g]?).map (·.type) = some ti) (hi : P.underlying ti = some (.interface ms)) (hrow : ∀ u, P.typeName? 3 u = some nm → u = tp)
    (hp : P.underlying tp = some (.pointer te)) (he : P.underlying te = some (.struct #[f])) (hft : f.type = ts) (hfo : f.offset = 0) (hs : P.underlying ts = some .string) (hc : P.cellsOf te = 1) (hcs : P.cellsOf ts = 1) :
    ∃ (a : Addr) (s : ByteArray), W.var? P n = some #[.iface tp (.pointer (some a))] ∧ a.spot = none ∧ W.cell? a = some (.string s) ∧ s.data.toList = text ∧ s.size ≤ maxLen := by
  induction l with
  | nil => cases hm
  | cons x r ih =>
    rcases List.mem_cons.1 hm with e | e
    · subst e
      obtain ⟨a, s, h1, h2, h3, h4⟩ := laid_sentinel hL hg ht hi hrow hp he hft hfo hs hc hcs
      refine ⟨a, s, h1, ?_, h2, h3, h4⟩
      obtain ⟨ps, ⟨g0, t0, cs0, f0, p0, q0, hg0, ht0, hv0, hd0, _, e0⟩, _, hrows⟩ := hL
      obtain rfl := Option.some.inj (hg.symm.trans hg0)
      subst e0
      have hcs0 : cs0 = #[.iface tp (.pointer (some a))] := Option.some.inj (hv0.symm.trans h1)
      subst hcs0
      have ok := (hrows g 0 (by simp [MemPlace.row])).2 tp (.pointer (some a)) (by simpa using World.var?_cell hg0 h1 0)
      unfold Value.okWide at ok
      simp only [hp] at ok
      unfold Cell.okWide at ok
      simp only [Cell.ok, hp] at ok
      exact ok.2.1
    · exact ih hL.tail e
theorem glob_sent {l : List (String × DataW Unit)} {W : World} {σ : Nat → Value} (hL : laidMet P l W) {n nm : String} {text : List UInt8} {g : Nat} {ti tp te ts : TypeId} {ms : Array (String × TypeId)} {f : Field} (hm : (n, (.iface nm (.ptr (.agg [.lit (.string text)])) : DataW Unit)) ∈ l)
    (hg : P.globalNamed n = some g) (ht : (P.globals[g]?).map (·.type) = some ti) (hi : P.underlying ti = some (.interface ms)) (hrow : ∀ u, P.typeName? 3 u = some nm → u = tp)
    (hp : P.underlying tp = some (.pointer te)) (he : P.underlying te = some (.struct #[f])) (hft : f.type = ts) (hfo : f.offset = 0) (hs : P.underlying ts = some .string) (hc : P.cellsOf te = 1) (hcs : P.cellsOf ts = 1) :
    VR (Env.still W σ) W (.eptr (.agg [.iface tp (.eptr (.agg [.str (text.map UInt8.toNat)]) 0)]) 0) (.pointer (some ⟨g, 0, none⟩)) := by
  obtain ⟨⟨b, o, sp⟩, s, h1, h2, h3, h4, h5⟩ := sent_cell hL hm hg ht hi hrow hp he hft hfo hs hc hcs
  simp only at h2
  subst h2
  obtain ⟨ty, fz, hblk⟩ := var_block hg h1
  have hlt : g < W.heap.size := (Array.getElem?_eq_some_iff.1 hblk).1
  have hb : b < W.heap.size := by
    unfold World.cell? at h3
    split at h3
    · rename_i hh; exact (Array.getElem?_eq_some_iff.1 hh).1
    · cases h3
  have inner : VR (Env.still W σ) W (.eptr (.agg [.str (text.map UInt8.toNat)]) 0) (.pointer (some ⟨b, o, none⟩)) := by
    have := VR.eptr (E := Env.still W σ) (w := W) (.agg [.str (text.map UInt8.toNat)]) 0 b o (.agg #[.string s]) rfl hb ?_ fun j c hj => ?_
    · simpa using this
    · refine VR.mk_agg (VRs.cons (.str _ s (by rw [h4]) (by rw [List.length_map, ← h4, Array.length_toList]; unfold maxLen at h5; unfold maxStr; exact h5)) VRs.nil) fun v hv => ?_
      simp at hv; subst hv; rfl
    · cases j with
      | zero =>
        have e : c = .string s := (Option.some.inj hj).symm
        rw [e]; exact h3
      | succ j => simp [Value.cells] at hj
  have := VR.eptr (E := Env.still W σ) (w := W) (.agg [.iface tp (.eptr (.agg [.str (text.map UInt8.toNat)]) 0)]) 0 g 0 (.agg #[.iface tp (.pointer (some ⟨b, o, none⟩))]) rfl hlt ?_ fun j c hj => ?_
  · simpa using this
  · refine VR.mk_agg (VRs.cons (.iface _ _ _ inner) VRs.nil) fun v hv => ?_
    simp at hv; subst hv; rfl
  · cases j with
    | zero =>
      have e : c = .iface tp (.pointer (some ⟨b, o, none⟩)) := (Option.some.inj hj).symm
      rw [e]; simp [World.cell?, hblk]
    | succ j => simp [Value.cells] at hj
end
end Go.Sy

/- Calls that are known from an earlier run; functions that the slow machine runs, on the part of the heap that they reach. No condition. -/
namespace Go.Sy
set_option linter.unusedVariables false
set_option linter.unusedSimpArgs false

/-- Values in which no handle stands. -/
def pureV : Nat → AV → Bool
  | 0, _ => false
  | d + 1, v => match v with
    | .bool _ | .int _ _ | .str _ | .nilptr | .nilslice | .nilmap | .nilfunc | .niliface | .sym _ => true
    | .eptr e _ => pureV d e
    | .lst _ es => es.all (pureV d)
    | .func _ a b => a.all (pureV d) && b.all (pureV d)
    | .iface _ v => pureV d v
    | .agg cs => cs.all (pureV d)
    | .tup cs => cs.all (pureV d)
    | _ => false

section
variable {P : Program} {G : Cx} {E E' : Env} {w w' : World} {H : Heap}

theorem all_get {p : AV → Bool} {l : List AV} (h : l.all p = true) {i : Nat} {x : AV} (hx : l[i]? = some x) : p x = true :=
  List.all_eq_true.1 h x (List.mem_of_getElem? hx)

theorem VR.unhold (hZ : ∀ b, E.Z b → E'.Z b) (hσ : E'.σ = E.σ) {v : AV} {cv : Value} (h : VR E w v cv) : ∀ d, pureV d v = true → VR E' w v cv := by
  induction h with
  | bool b => intro d _; exact .bool b
  | int k n h => intro d _; exact .int k n h
  | str l s h hl => intro d _; exact .str l s h hl
  | nilptr => intro d _; exact .nilptr
  | ptr h off hd => intro d hp; cases d <;> simp [pureV] at hp
  | eptr e off b o cv hfl hz _ hc ih =>
    intro d hp
    cases d with
    | zero => simp [pureV] at hp
    | succ d => exact .eptr e off b o cv hfl (hZ b hz) (ih d (by simpa [pureV] using hp)) hc
  | nilslice => intro d _; exact .nilslice
  | lst0 sz a c hc => intro d _; exact .lst0 sz a c hc
  | lst es b o cap sz f hz hcap hcm hfl _ hc ih =>
    intro d hp
    cases d with
    | zero => simp [pureV] at hp
    | succ d => 
      have hp' : es.all (pureV d) = true := hp
      exact .lst es b o cap sz f (hZ b hz) hcap hcm hfl (fun i e he => ih i e he d (all_get hp' he)) hc
  | row h off len sz cp cap ex hd hlen hcap hsz hcp hex hb => intro d hp; cases d <;> simp [pureV] at hp
  | row0 h off sz ex a => intro d hp; cases d <;> simp [pureV] at hp
  | nilmap => intro d _; exact .nilmap
  | map h hd => intro d hp; cases d <;> simp [pureV] at hp
  | nilfunc => intro d _; exact .nilfunc
  | func fn f c vf vc hf hc _ _ rf rc =>
    intro d hp
    cases d with
    | zero => simp [pureV] at hp
    | succ d =>
      have hp' : (f.all (pureV d) && c.all (pureV d)) = true := hp
      rw [Bool.and_eq_true] at hp'
      exact .func fn f c vf vc hf hc (fun i x v hx hv => rf i x v hx hv d (all_get hp'.1 hx)) (fun i x v hx hv => rc i x v hx hv d (all_get hp'.2 hx))
  | niliface => intro d _; exact .niliface
  | iface t v cv _ ih =>
    intro d hp
    cases d with
    | zero => simp [pureV] at hp
    | succ d => exact .iface t v cv (ih d (by simpa [pureV] using hp))
  | agg cs vs hl _ h1 ih =>
    intro d hp
    cases d with
    | zero => simp [pureV] at hp
    | succ d =>
      have hp' : cs.all (pureV d) = true := hp
      exact .agg cs vs hl (fun i x v hx hv => ih i x v hx hv d (all_get hp' hx)) h1
  | tup cs vs hl _ ih =>
    intro d hp
    cases d with
    | zero => simp [pureV] at hp
    | succ d =>
      have hp' : cs.all (pureV d) = true := hp
      exact .tup cs vs hl (fun i x v hx hv => ih i x v hx hv d (all_get hp' hx))
  | sym i cv he h1 => intro d _; exact .sym i cv (he.trans (congrFun hσ i).symm) h1

/-- The package variables hold no handles. -/
def PureG (G : Cx) : Prop := ∀ g v, G.glob g = some v → pureV 20 v = true

/-- A call whose arguments and result hold no handles, and that leaves nothing behind: the same in any heap. -/
theorem fn_anywhere {f : FuncId} {args : List AV} {v : AV} {n : Nat} (hG : PureG G) (ha : args.all (pureV 40) = true) (hv : pureV 40 v = true) (ht : FnT P G f args [] 0 v [] n) (H : Heap) (nx : Nat) : FnT P G f args H nx v H nx := by
  intro E w cargs hr hva hg hfr
  have hr0 : HR ⟨E.ρ, fun _ => False, E.Z, E.σ⟩ [] w := ⟨.nil, fun p hp => by simp at hp, fun p hp => by simp at hp, fun p hp => by simp at hp, fun p hp => by simp at hp, hr.zlt⟩
  have hva0 : VRs ⟨E.ρ, fun _ => False, E.Z, E.σ⟩ w args cargs.toList := ⟨hva.1, fun i x u hx hu => VR.unhold (E := E) (E' := ⟨E.ρ, fun _ => False, E.Z, E.σ⟩) (fun _ h => h) rfl (hva.2 i x u hx hu) 40 (all_get ha hx)⟩
  have hg0 : GR G ⟨E.ρ, fun _ => False, E.Z, E.σ⟩ w := fun g u h => VR.unhold (E := E) (E' := ⟨E.ρ, fun _ => False, E.Z, E.σ⟩) (fun _ h => h) rfl (hg g u h) 20 (hG g u h)
  refine (ht _ w cargs hr0 hva0 hg0 fun _ _ _ h => h).mono fun e w' h => ?_
  obtain ⟨cv, E1, rfl, h1, h2, h3⟩ := h
  have hold : ∀ x, x < w.heap.size → w'.heap[x]? = w.heap[x]? := fun x hx => h2.old x hx fun p hp => by simp at hp
  have hZ : ∀ x, E1.Z x → E.Z x ∨ w.heap.size ≤ x := fun x hx => (h2.znew x hx).imp id fun h => h.elim (fun ⟨p, hp, _⟩ => by simp at hp) id
  have hm : ∀ {u cu}, VR E w u cu → VR ⟨E.ρ, E.D, E1.Z, E.σ⟩ w' u cu := fun hu => VR.mono (E := E) (E' := ⟨E.ρ, E.D, E1.Z, E.σ⟩) (fun _ h => ⟨h, rfl⟩) (fun b hb => ⟨h2.zmono b hb, hold b (hr.zlt b hb)⟩) h2.shapes hu rfl
  refine ⟨cv, ⟨E.ρ, E.D, E1.Z, E.σ⟩, rfl, ⟨hr.nodup, hr.dom, hr.inj, fun p hp => (hr.obj p hp).mono (hold _ (hr.lt hp)) hm, fun p hp hz => ?_, h1.zlt⟩,
    ⟨Nat.le_refl _, fun _ _ => rfl, fun h => ⟨.inl, fun h => h.elim id fun ⟨x, y⟩ => by omega⟩, h2.zmono, fun x hx => (hZ x hx).imp id .inr, fun p hp => .inl ⟨p, hp, rfl⟩, h2.tape, h2.os, h2.output, h2.size, fun x hx _ => hold x hx, h2.shapes, rfl⟩, ?_⟩
  · rcases hZ _ hz with h | h
    · exact hr.nz p hp h
    · have h1 := hr.lt hp
      have h2 : w.heap.size ≤ E.ρ p.1 := h
      omega
  · exact VR.unhold (E := E1) (E' := ⟨E.ρ, E.D, E1.Z, E.σ⟩) (fun _ h => h) h2.sig.symm h3 40 hv

/-- What is known of a call: with no handles, anywhere; or just so. -/
inductive ME where
  | any (args : List AV) (v : AV)
  | just (args : List AV) (H : Heap) (nx : Nat) (v : AV) (H' : Heap) (nx' : Nat)
def ME.ok (P : Program) (G : Cx) (f : FuncId) : ME → Prop
  | .any args v => Enters P f ∧ ∀ H nx, FnT P G f args H nx v H nx
  | .just args H nx v H' nx' => Enters P f ∧ nx ≤ nx' ∧ FnT P G f args H nx v H' nx'
noncomputable def memoF (args : List AV) (H : Heap) (nx : Nat) (d : Unit → Option Out) : List ME → Option Out
  | [] => d ()
  | .any a v :: r => match allb (aeq 40) args a with
    | true => fAV v fun v => some (v, H, nx)
    | false => memoF args H nx d r
  | .just a H0 n0 v H' n' :: r => match Nat.beq nx n0 && allb (aeq 40) args a && hEq H H0 with
    | true => fAV v fun v => fH H' fun H' => fN n' fun n' => some (v, H', n')
    | false => memoF args H nx d r
theorem memoF_ok {f : FuncId} {args : List AV} {H : Heap} {nx : Nat} {d : Unit → Option Out} {v : AV} {H' : Heap} {nx' : Nat} : ∀ {l : List ME}, (∀ m ∈ l, m.ok P G f) → (d () = some (v, H', nx') → Enters P f ∧ nx ≤ nx' ∧ FnT P G f args H nx v H' nx') →
    memoF args H nx d l = some (v, H', nx') → Enters P f ∧ nx ≤ nx' ∧ FnT P G f args H nx v H' nx'
  | [], _, hd, h => hd h
  | .any a u :: r, hl, hd, h => by
    simp only [memoF] at h
    split at h
    · rename_i e
      rw [fAV_eq] at h
      cases h
      have := hl _ (.head _)
      rw [aeqs_eq e]
      exact ⟨this.1, Nat.le_refl _, this.2 _ _⟩
    · exact memoF_ok (fun m hm => hl m (.tail _ hm)) hd h
  | .just a H0 n0 u H1 n1 :: r, hl, hd, h => by
    simp only [memoF] at h
    split at h
    · rename_i e
      rw [fAV_eq, fH_eq, fN_eq] at h
      cases h
      rw [Bool.and_eq_true, Bool.and_eq_true] at e
      have := hl _ (.head _)
      rw [nbeq_true e.1.1, aeqs_eq e.1.2, hEq_eq e.2]
      exact this
    · exact memoF_ok (fun m hm => hl m (.tail _ hm)) hd h

noncomputable section
def MemoOK (P : Program) (G : Cx) (M : Nat → Option (List ME)) : Prop := ∀ f l, M f = some l → ∀ m ∈ l, m.ok P G f
def noMemo : Nat → Option (List ME) := fun _ => none
theorem noMemo_ok : MemoOK P G noMemo := fun f l h => by cases h
def entM (M : Nat → Option (List ME)) (S : Nat → Option FunC) (F : Nat → Option (XF × Pol)) (G : Cx) (lf f : Nat) : Box FunC := match S f with
  | some g => .mk g
  | none => match F f with
    | none => .mk noFun
    | some (xf, pol) => match M f with
      | none => funC G lf xf pol
      | some l => bx (funC G lf xf pol) fun g => .mk fun call args H nx => memoF args H nx (fun _ => g call args H nx) l
/-- Calls, as the kernel runs them, where some are known. -/
def enterM (M : Nat → Option (List ME)) (S : Nat → Option FunC) (F : Nat → Option (XF × Pol)) (G : Cx) (lf : Nat) (d : Nat) : Call := Nat.rec (motive := fun _ => Call) (fun _ _ _ _ => none) (fun _ ih f args H nx => Box.rec (motive := fun _ => Option Out) (fun g => g ih args H nx) (entM M S F G lf f)) d
theorem enterM_sound {M : Nat → Option (List ME)} {S : Nat → Option FunC} {F : Nat → Option (XF × Pol)} (hM : MemoOK P G M) (hS : SpecOK P G S) (hF : TableOK P F) (hm : MethOK P G) (hmix : P.follows .mixedOrders = true) (lf : Nat) : ∀ d, CallOK P G (enterM M S F G lf d)
  | 0 => fun _ _ _ _ _ _ _ h => by cases h
  | d + 1 => by
    intro f args H nx v H' nx' h
    have ih := enterM_sound hM hS hF hm hmix lf d
    have h' : (entM M S F G lf f).un (enterM M S F G lf d) args H nx = some (v, H', nx') := by
      rw [← h]
      show _ = Box.rec (motive := fun _ => Option Out) (fun g => g (enterM M S F G lf d) args H nx) (entM M S F G lf f)
      cases entM M S F G lf f; rfl
    unfold entM at h'
    split at h'
    · rename_i g hg
      exact hS f g hg _ ih f args H nx v H' nx' (by show (if f = f then _ else _) = _; rw [if_pos rfl]; exact h')
    · split at h'
      · cases h'
      · rename_i xf pol hf
        have body : (funC G lf xf pol).un (enterM M S F G lf d) args H nx = some (v, H', nx') → Enters P f ∧ nx ≤ nx' ∧ FnT P G f args H nx v H' nx' := fun h =>
          enter1_sound hF hm hmix lf ih f args H nx v H' nx' (funC_ok hf lf _ _ _ _ _ h)
        split at h'
        · exact body h'
        · rename_i l hl
          rw [bx_eq] at h'
          exact memoF_ok (P := P) (G := G) (d := fun _ => (funC G lf xf pol).un (enterM M S F G lf d) args H nx) (hM f l hl) body h'
/-- A call that was run says what it gives. -/
theorem any_of_run {M : Nat → Option (List ME)} {S : Nat → Option FunC} {F : Nat → Option (XF × Pol)} {lf d f n : Nat} {args : List AV} {v : AV} (hM : MemoOK P G M) (hS : SpecOK P G S) (hF : TableOK P F) (hm : MethOK P G) (hmix : P.follows .mixedOrders = true) (hG : PureG G)
    (ha : args.all (pureV 40) = true) (hv : pureV 40 v = true) (h : enterM M S F G lf d f args [] 0 = some (v, [], n)) : (ME.any args v).ok P G f := by
  obtain ⟨h1, _, h2⟩ := enterM_sound hM hS hF hm hmix lf d _ _ _ _ _ _ _ h
  exact ⟨h1, fn_anywhere hG ha hv h2⟩
theorem just_of_run {M : Nat → Option (List ME)} {S : Nat → Option FunC} {F : Nat → Option (XF × Pol)} {lf d f nx n : Nat} {args : List AV} {v : AV} {H H' : Heap} (hM : MemoOK P G M) (hS : SpecOK P G S) (hF : TableOK P F) (hm : MethOK P G) (hmix : P.follows .mixedOrders = true)
    (h : enterM M S F G lf d f args H nx = some (v, H', n)) : (ME.just args H nx v H' n).ok P G f :=
  enterM_sound hM hS hF hm hmix lf d _ _ _ _ _ _ _ h
theorem calls_runM {M : Nat → Option (List ME)} {S : Nat → Option FunC} {F : Nat → Option (XF × Pol)} {lf d : Nat} {f : FuncId} {args : List AV} {cargs : Array Value} {W : World} {σ : Nat → Value} (hM : MemoOK P G M) (hS : SpecOK P G S) (hF : TableOK P F) (hm : MethOK P G) (hmix : P.follows .mixedOrders = true)
    (h : saysTrue (enterM M S F G lf d f args [] 0) = true) (hv : VRs (Env.still W σ) W args cargs.toList) (hg : GR G (Env.still W σ) W) : Calls P f cargs W fun e W' => e = .returned (.bool true) ∧ Kept W W' := by
  obtain ⟨H1, n, h1⟩ := saysTrue_spec h
  exact calls_true (enterM_sound hM hS hF hm hmix lf d _ _ _ _ _ _ _ h1).2.2 hv hg

def collectM (f : Nat) : List (Nat × ME) → List ME
  | [] => []
  | (g, m) :: r => match Nat.beq g f with
    | true => m :: collectM f r
    | false => collectM f r
def tabM (L : List (Nat × ME)) (f : Nat) : Option (List ME) := match collectM f L with
  | [] => none
  | m :: r => some (m :: r)
def OKL (P : Program) (G : Cx) (L : List (Nat × ME)) : Prop := ∀ p ∈ L, p.2.ok P G p.1
theorem okNil : OKL P G [] := fun p h => by cases h
theorem okCons {p : Nat × ME} {L : List (Nat × ME)} (h : p.2.ok P G p.1) (k : OKL P G L) : OKL P G (p :: L) := fun q hq => by
  rcases List.mem_cons.1 hq with e | e
  · rw [e]; exact h
  · exact k q e
theorem collectM_mem {f : Nat} {m : ME} : ∀ {L : List (Nat × ME)}, m ∈ collectM f L → (f, m) ∈ L
  | [], h => by cases h
  | (g, u) :: r, h => by
    simp only [collectM] at h
    split at h
    · rename_i e
      rw [nbeq_true e]
      rcases List.mem_cons.1 h with h | h
      · rw [h]; exact .head _
      · exact .tail _ (collectM_mem h)
    · exact .tail _ (collectM_mem h)
theorem tabM_ok {L : List (Nat × ME)} (h : OKL P G L) : MemoOK P G (tabM L) := by
  intro f l hl m hm
  unfold tabM at hl
  split at hl
  · cases hl
  · rename_i u r e
    cases hl
    rw [← e] at hm
    exact h _ (collectM_mem hm)

/-- The run gives just that value, and leaves nothing. -/
def givesV (v : AV) (r : Option Out) : Bool := match r with
  | some (u, [], _) => aeq 40 u v
  | _ => false
theorem givesV_spec {v : AV} {r : Option Out} (h : givesV v r = true) : ∃ n, r = some (v, [], n) := by
  unfold givesV at h
  split at h
  · rename_i u n
    rw [aeq_sound 40 _ _ h]
    exact ⟨n, rfl⟩
  · cases h
theorem any_of_gives {M : Nat → Option (List ME)} {S : Nat → Option FunC} {F : Nat → Option (XF × Pol)} {lf d f : Nat} {args : List AV} {v : AV} (hM : MemoOK P G M) (hS : SpecOK P G S) (hF : TableOK P F) (hm : MethOK P G) (hmix : P.follows .mixedOrders = true) (hG : PureG G)
    (ha : (args.all (pureV 40) && pureV 40 v) = true) (h : givesV v (fAVs args fun a => enterM M S F G lf d f a [] 0) = true) : (ME.any args v).ok P G f := by
  rw [fAVs_eq] at h
  obtain ⟨n, h1⟩ := givesV_spec h
  rw [Bool.and_eq_true] at ha
  exact any_of_run hM hS hF hm hmix hG ha.1 ha.2 h1

/- The slow machine on a part of the heap. -/
theorem CallOK.framed {g : Call} (hg : CallOK P G g) (cut : List AV → Heap → Heap × Heap) (hcut : ∀ args H, (cut args H).1 ++ (cut args H).2 = H ∨ ((cut args H).1 ++ (cut args H).2).Perm H) :
    CallOK P G fun f args H nx => match g f args (cut args H).1 nx with | some (v, A, n) => some (v, A ++ (cut args H).2, n) | none => none := by
  intro f args H nx v H' nx' h
  simp only at h
  split at h
  · rename_i v1 A n hc
    cases h
    obtain ⟨h1, h2, h3⟩ := hg _ _ _ _ _ _ _ hc
    have hp : ((cut args H).1 ++ (cut args H).2).Perm H := (hcut args H).elim (fun e => by rw [e]) id
    refine ⟨h1, h2, fun E w cargs hr hva hgr hfr => ?_⟩
    have hr' := hr.perm hp.symm
    refine (h3 E w cargs (hr'.sub (List.sublist_append_left _ _)) hva hgr hfr).mono fun e w' hh => ?_
    obtain ⟨cv, E', rfl, k1, k2, k3⟩ := hh
    obtain ⟨f1, f2⟩ := Tr.frame hr' k1 k2
    exact ⟨cv, E', rfl, f1, f2.perm hp (.refl _), k3⟩
  · cases h

/-- Handles in a value. -/
def hsV : Nat → AV → List Nat → List Nat
  | 0, _, l => l
  | d + 1, v, l => match v with
    | .ptr h _ => h :: l
    | .row h _ _ _ _ _ => h :: l
    | .map h => h :: l
    | .eptr e _ => hsV d e l
    | .lst _ es => es.foldr (hsV d) l
    | .func _ a b => a.foldr (hsV d) (b.foldr (hsV d) l)
    | .iface _ v => hsV d v l
    | .agg cs => cs.foldr (hsV d) l
    | .tup cs => cs.foldr (hsV d) l
    | _ => l
def hsO : HO → List Nat → List Nat
  | .cells _ cs, l => cs.foldr (hsV 40) l
  | .map es, l => es.foldr (fun p l => hsV 40 p.1 (hsV 40 p.2 l)) l
  | .siter _ _, l => l
/-- Objects to which a handle of l points go over to A. -/
def cutGo (l : List Nat) : Heap → Heap × Heap
  | [] => ([], [])
  | (h, o) :: r => match inN h l with
    | true => ((h, o) :: (cutGo l r).1, (cutGo l r).2)
    | false => ((cutGo l r).1, (h, o) :: (cutGo l r).2)
theorem cutGo_perm (l : List Nat) : ∀ H : Heap, ((cutGo l H).1 ++ (cutGo l H).2).Perm H
  | [] => .nil
  | (h, o) :: r => by
    simp only [cutGo]
    split
    · exact (cutGo_perm l r).cons _
    · exact List.perm_middle.trans ((cutGo_perm l r).cons _)
def reach (H : Heap) : Nat → List Nat → List Nat
  | 0, l => l
  | d + 1, l => reach H d (H.foldr (fun p a => match inN p.1 l with | true => p.1 :: hsO p.2 a | false => a) l)
def cutR (args : List AV) (H : Heap) : Heap × Heap := cutGo (reach H 3 (args.foldr (hsV 40) [])) H
theorem cutR_perm (args : List AV) (H : Heap) : ((cutR args H).1 ++ (cutR args H).2).Perm H := cutGo_perm _ H
def forceO (o : Option Out) : Option Out := match o with
  | some (v, H, n) => fAV v fun v => fH H fun H => fN n fun n => some (v, H, n)
  | none => none
theorem forceO_eq (o : Option Out) : forceO o = o := by
  match o with
  | some (v, H, n) => simp only [forceO, fAV_eq, fH_eq, fN_eq]
  | none => rfl
/-- A function that the slow machine runs. -/
def slowS (F : Nat → Option (XF × Pol)) (G : Cx) (lf f : Nat) : FunC := fun call args H nx => forceO (match enter1 F G lf call f args (cutR args H).1 nx with | some (v, A, n) => some (v, A ++ (cutR args H).2, n) | none => none)
theorem slowS_ok {F : Nat → Option (XF × Pol)} (hF : TableOK P F) (hm : MethOK P G) (hmix : P.follows .mixedOrders = true) (lf f : Nat) (call : Call) (hc : CallOK P G call) : CallOK P G fun f' args H nx => if f' = f then slowS F G lf f call args H nx else none := by
  intro f' args H nx v H' nx' h
  simp only at h
  split at h
  · rename_i e
    subst e
    unfold slowS at h
    rw [forceO_eq] at h
    exact CallOK.framed (enter1_sound hF hm hmix lf hc) cutR (fun a H => .inr (cutR_perm a H)) f' args H nx v H' nx' h
  · cases h
end
end
end Go.Sy

/- Arguments that are not looked at: cells of which nothing is known. No condition. -/
namespace Go.Sy
open Go.ChangeShapes Go.RowKit
set_option linter.unusedVariables false
section
variable {P : Program} {w : World} {r : Reach} {b : Nat} {t : TypeId} {v : Value}
theorem okCell_one (h : Cell.ok P w r b t v) : v.oneCell' = true := by
  unfold Cell.ok at h
  split at h <;> first | rfl | exact h.elim
theorem okWideCell_one (h : Cell.okWide P w r b t v) : v.oneCell' = true := by
  unfold Cell.okWide at h
  split at h <;> first | rfl | exact okCell_one h
/-- A struct's cells, none of which is a struct. -/
theorem okWide_cells {fs : Array Field} (ht : P.underlying t = some (.struct fs)) (h : Value.okWide P w r b t v) : ∃ cs : Array Value, v = .agg cs ∧ cs.size = P.cellsOf t ∧ ∀ c ∈ cs.toList, c.oneCell' = true := by
  unfold Value.okWide at h
  rw [ht] at h
  obtain ⟨cs, rfl, h1, ts, h2, h3, h4⟩ := h
  refine ⟨cs, rfl, h1, fun c hc => ?_⟩
  obtain ⟨i, hi⟩ := List.getElem?_of_mem hc
  obtain ⟨u, _, hu⟩ := h4 i c (by simpa using hi)
  exact okWideCell_one hu
def syms (n : Nat) : List AV := (List.range n).map .sym
theorem agg_syms {W : World} {cs : Array Value} (h1 : ∀ c ∈ cs.toList, c.oneCell' = true) : VR (Env.still W fun i => cs.getD i (.bool true)) W (.agg (syms cs.size)) (.agg cs) := by
  refine VR.mk_agg ⟨by simp [syms], fun i x u hx hu => ?_⟩ h1
  have hi : i < cs.size := by have := (List.getElem?_eq_some_iff.1 hu).1; simpa using this
  unfold syms at hx
  rw [List.getElem?_map, List.getElem?_range hi] at hx
  cases hx
  refine .sym i u ?_ (h1 u (List.mem_of_getElem? hu))
  have e : cs[i]? = some u := by simpa using hu
  show u = cs.getD i (.bool true)
  simp [e]

def symsAt (o n : Nat) : List AV := (List.range n).map fun i => .sym (o + i)
/-- A struct's cells, each unknown, from a number on. -/
theorem agg_symsAt {W : World} {σ : Nat → Value} {o n : Nat} {cs : Array Value} (hn : cs.size = n) (h1 : ∀ c ∈ cs.toList, c.oneCell' = true) (hσ : ∀ (i : Nat) c, cs[i]? = some c → σ (o + i) = c) : VR (Env.still W σ) W (.agg (symsAt o n)) (.agg cs) := by
  refine VR.mk_agg ⟨by simp [symsAt, hn], fun i x u hx hu => ?_⟩ h1
  have hi : i < n := by have := (List.getElem?_eq_some_iff.1 hu).1; rw [← hn]; simpa using this
  unfold symsAt at hx
  rw [List.getElem?_map, List.getElem?_range hi] at hx
  cases hx
  have e : cs[i]? = some u := by simpa using hu
  exact .sym _ u (hσ i u e).symm (h1 u (List.mem_of_getElem? hu))
theorem cell_sym {W : World} {σ : Nat → Value} {o : Nat} {v : Value} (h1 : v.oneCell' = true) (hσ : σ o = v) : VR (Env.still W σ) W (.sym o) v := .sym _ v hσ.symm h1
theorem okWide_one {P : Program} {w : World} {r : Reach} {b : Nat} {t : TypeId} {v : Value} (h : Value.okWide P w r b t v) (hs : ∀ fs, P.underlying t ≠ some (.struct fs)) (ha : ∀ n e, P.underlying t ≠ some (.array n e)) : v.oneCell' = true := by
  unfold Value.okWide at h
  split at h
  · rename_i fs e; exact absurd e (hs fs)
  · rename_i n x e; exact absurd e (ha n x)
  · exact okWideCell_one h

/-- What a call keeps, told of a row: its arguments read as before. -/
theorem trod_kept {H : Type} {enc : TypeId × Value → H} {P : Program} {t : TypeId} (hl : laidOutB P = true) (hr : P.readableRec t = true) (hrow : t < P.types.size) {W W' : World} {v : Value} {d : DataW H} {ps : List MemPlace} {sp : Nat → Bool}
    (h : DataW.Trod enc P W 0 (fun _ => true) true t v d ps) (hb : Kept W W') (hlt : ∀ x ∈ ps, x.block < W.heap.size) (hs : ∀ x ∈ ps, sp x.block = true) : DataW.Trod enc P W' 0 sp true t v d ps :=
  WideElems.Trod_stays hl hr hrow h (fun x hx => hb.below.same (hlt x hx)) hs
end
end Go.Sy

/- Runs over unknown values: what holds behind a piece of code. No condition. -/
namespace Go.Sy
set_option linter.unusedVariables false
set_option linter.unusedSimpArgs false

/- More rounds do no harm. -/
theorem iter_mono {f g : St → Option (Ext × St)} (h : ∀ s r, f s = some r → g s = some r) : ∀ {n m : Nat} {s : St} {r : Ext × St}, iter f n s = some r → n ≤ m → iter g m s = some r
  | 0, _, s, r, h1, _ => by simp [iter] at h1
  | n + 1, 0, s, r, _, hm => by omega
  | n + 1, m + 1, s, r, h1, hm => by
    simp only [iter] at h1 ⊢
    split at h1
    · rename_i s' hs
      rw [h _ _ hs]
      exact iter_mono h h1 (by omega)
    · rename_i hne
      rw [h _ _ h1]
      obtain ⟨x, s'⟩ := r
      cases x with
      | normal => exact absurd h1 (hne s')
      | _ => rfl
theorem mapS_mono {f g : St → Option St} (h : ∀ s r, f s = some r → g s = some r) : ∀ {l r : List St}, mapS f l = some r → mapS g l = some r
  | [], r, h1 => h1
  | s :: l, r, h1 => by
    simp only [mapS] at h1 ⊢
    split at h1
    · rename_i t ht
      rw [h _ _ ht]
      split at h1
      · rename_i ts hts
        rw [mapS_mono h hts]
        exact h1
      · cases h1
    · cases h1
theorem mgrow_mono {f g : AV × AV → St → Option St} (h : ∀ e s r, f e s = some r → g e s = some r) : ∀ {l : List (AV × AV)} {T r : List St}, mgrow f l T = some r → mgrow g l T = some r
  | [], T, r, h1 => h1
  | e :: l, T, r, h1 => by
    simp only [mgrow] at h1 ⊢
    split at h1
    · rename_i T' hT
      rw [mapS_mono (h e) hT]
      exact mgrow_mono h h1
    · cases h1
theorem mchk1_mono {f g : AV × AV → St → Option St} (h : ∀ e s r, f e s = some r → g e s = some r) {T : List St} {top M : Nat} : ∀ {l : List (AV × AV)} {i : Nat}, mchk1 f T top M i l = true → mchk1 g T top M i l = true
  | [], i, h1 => rfl
  | e :: l, i, h1 => by
    simp only [mchk1, Bool.and_eq_true] at h1 ⊢
    refine ⟨?_, mchk1_mono h h1.2⟩
    have h2 := h1.1
    cases hb : M.testBit i with
    | true => rfl
    | false =>
      rw [hb] at h2
      simp only at h2 ⊢
      cases ha : T[M]? with
      | none => rw [ha] at h2; cases h2
      | some a =>
        cases hc : T[M ||| 2 ^ i]? with
        | none => rw [ha, hc] at h2; cases h2
        | some b =>
          rw [ha, hc] at h2
          simp only at h2 ⊢
          cases he : f e a with
          | none => rw [he] at h2; cases h2
          | some c =>
            rw [he] at h2
            rw [h _ _ _ he]
            exact h2
theorem mchk_mono {f g : AV × AV → St → Option St} (h : ∀ e s r, f e s = some r → g e s = some r) {es : List (AV × AV)} {T : List St} {top : Nat} : ∀ {n : Nat}, mchk f es T top n = true → mchk g es T top n = true
  | 0, h1 => rfl
  | n + 1, h1 => by
    simp only [mchk, Bool.and_eq_true] at h1 ⊢
    exact ⟨mchk1_mono h h1.1, mchk_mono h h1.2⟩
theorem mstep_mono {f g : St → Option (Ext × St)} (h : ∀ s r, f s = some r → g s = some r) {it : Nat} {D : List Nat} {en W id1 hit : Nat} (e : AV × AV) (s r : St) (h1 : mstep f it D en W id1 hit e s = some r) : mstep g it D en W id1 hit e s = some r := by
  simp only [mstep] at h1 ⊢
  split at h1
  · rename_i x fr H n hb
    rw [h _ _ hb]
    exact h1
  · cases h1
theorem runM_mono {G : Cx} {f g : St → Option (Ext × St)} (h : ∀ s r, f s = some r → g s = some r) {m : XV} {it : Nat} {D : List Nat} {en W id1 : Nat} {s r : St} (h1 : runM G f m it D en W id1 s = some r) : runM G g m it D en W id1 s = some r := by
  simp only [runM] at h1 ⊢
  split at h1
  · exact h1
  · rename_i hh hm
    split at h1
    · rename_i es hes
      split at h1
      · rename_i T hT
        rw [mgrow_mono (fun e s r => mstep_mono h e s r) hT]
        simp only
        split at h1
        · rename_i f' hf
          split at h1
          · rename_i hc
            rw [mchk_mono (fun e s r => mstep_mono h e s r) hc]
            exact h1
          · cases h1
        · cases h1
      · cases h1
    · cases h1
  · cases h1
theorem run_mono {G : Cx} {call : Call} {lf lg : Nat} (hle : lf ≤ lg) : ∀ (c : XC) {s : St} {r : Ext × St}, run G call lf c s = some r → run G call lg c s = some r
  | .skip, s, r, h => h
  | .reg ops, s, r, h => h
  | .draw ops ds, s, r, h => h
  | .seq a b, s, r, h => by
    simp only [run] at h ⊢
    split at h
    · rename_i s' hs
      rw [run_mono hle a hs]
      exact run_mono hle b h
    · rename_i hne
      rw [run_mono hle a h]
      obtain ⟨x, s'⟩ := r
      cases x with
      | normal => exact absurd h (hne s')
      | _ => rfl
  | .cond c a b, s, r, h => by
    simp only [run] at h ⊢
    split at h
    · exact run_mono hle a h
    · exact run_mono hle b h
    · cases h
  | .block id b, s, r, h => by
    simp only [run] at h ⊢
    split at h
    · rename_i i s' hs
      rw [run_mono hle b hs]
      exact h
    · rename_i hne
      rw [run_mono hle b h]
      obtain ⟨x, s'⟩ := r
      cases x with
      | exit i => exact absurd h (hne i s')
      | _ => rfl
  | .loop b, s, r, h => by
    simp only [run] at h ⊢
    exact iter_mono (fun s r => run_mono hle b) h hle
  | .exit id, s, r, h => h
  | .ret, s, r, h => h
  | .mrange m it D en W id1 rest body, s, r, h => by
    simp only [run] at h ⊢
    split at h
    · rename_i s' hs
      rw [runM_mono (fun s r hr => ?_) hs]
      · exact h
      · split at hr
        · rename_i s2 hs2
          exact run_mono hle body hr
        · cases hr
    · cases h

section
variable {G : Cx} {call : Call}

/-- What holds behind a piece of code, however it is left. -/
def W (G : Cx) (call : Call) (c : XC) (Q : Ext → Fr → Heap → Nat → Prop) (fr : Fr) (H : Heap) (nx : Nat) : Prop :=
  ∃ lf x fr' H' nx', run G call lf c (fr, H, nx) = some (x, fr', H', nx') ∧ Q x fr' H' nx'
/-- What comes of an operation, handed on. -/
def WX (x : Option Out) (K : AV → Heap → Nat → Prop) : Prop := match x with
  | some (v, H, nx) => K v H nx
  | none => False
/-- A test: what holds on each side. -/
def condK (o : Option AV) (A B : Prop) : Prop := match o with
  | some (.bool true) => A
  | some (.bool false) => B
  | _ => False
def condG (o : Option AV) (want : Bool) (A B : Prop) : Prop := match o with
  | some (.bool c) => (c = want → A) ∧ (c = !want → B)
  | some (.tup []) => B
  | _ => False
def WO (G : Cx) (call : Call) : List XOper → (Fr → Heap → Nat → Prop) → Fr → Heap → Nat → Prop
  | [], Q, fr, H, nx => Q fr H nx
  | o :: r, Q, fr, H, nx => match o.guard with
    | none => WX (xoS G call fr H nx o.op) fun v H nx => WO G call r Q (putd fr o.dst v) H nx
    | some (t, b) => condG (fr.get t) b (WX (xoS G call fr H nx o.op) fun v H nx => WO G call r Q (putd fr o.dst v) H nx) (WO G call r Q (putd fr o.dst (.tup [])) H nx)

theorem WX_some {v : AV} {H : Heap} {nx : Nat} {K : AV → Heap → Nat → Prop} : WX (some (v, H, nx)) K = K v H nx := rfl
theorem condK_bool (b : Bool) {A B : Prop} : condK (some (.bool b)) A B = ((b = true → A) ∧ (b = false → B)) := by cases b <;> simp [condK]
theorem condG_bool (b want : Bool) {A B : Prop} : condG (some (.bool b)) want A B = ((b = want → A) ∧ (b = !want → B)) := rfl
theorem condG_tup (want : Bool) {A B : Prop} : condG (some (.tup [])) want A B = B := rfl
theorem condG_true {A B : Prop} : condG (some (.bool true)) true A B = A := by simp [condG]
theorem condG_false {A B : Prop} : condG (some (.bool false)) false A B = A := by simp [condG]
theorem condG_not1 {A B : Prop} : condG (some (.bool true)) false A B = B := by simp [condG]
theorem condG_not2 {A B : Prop} : condG (some (.bool false)) true A B = B := by simp [condG]

theorem WX_elim {x : Option Out} {K : AV → Heap → Nat → Prop} (h : WX x K) : ∃ v H nx, x = some (v, H, nx) ∧ K v H nx := by
  unfold WX at h
  split at h
  · exact ⟨_, _, _, rfl, h⟩
  · exact h.elim
theorem WO_run : ∀ {ops : List XOper} {Q : Fr → Heap → Nat → Prop} {fr : Fr} {H : Heap} {nx : Nat}, WO G call ops Q fr H nx → ∃ fr' H' nx', runOps G call ops fr H nx = some (fr', H', nx') ∧ Q fr' H' nx'
  | [], Q, fr, H, nx, h => ⟨fr, H, nx, rfl, h⟩
  | o :: r, Q, fr, H, nx, h => by
    unfold WO at h
    simp only [runOps]
    split at h
    · rename_i hg
      rw [hg]
      simp only [wantx, xo_eq]
      obtain ⟨v, H1, n1, e, h⟩ := WX_elim h
      rw [e]
      exact WO_run h
    · rename_i t b hg
      rw [hg]
      simp only [wantx, xo_eq]
      unfold condG at h
      split at h
      · rename_i c hc
        rw [hc]
        obtain ⟨h1, h2⟩ := h
        cases c <;> cases b
        · obtain ⟨v, H1, n1, e, h⟩ := WX_elim (h1 rfl)
          simp only [e]
          exact WO_run h
        · exact WO_run (h2 rfl)
        · exact WO_run (h2 rfl)
        · obtain ⟨v, H1, n1, e, h⟩ := WX_elim (h1 rfl)
          simp only [e]
          exact WO_run h
      · rename_i hc
        rw [hc]
        exact WO_run h
      · exact h.elim

variable {Q Q' : Ext → Fr → Heap → Nat → Prop} {fr : Fr} {H : Heap} {nx : Nat}
theorem W_mono {c : XC} (h : W G call c Q fr H nx) (hq : ∀ x fr H nx, Q x fr H nx → Q' x fr H nx) : W G call c Q' fr H nx :=
  let ⟨lf, x, a, b, d, e, q⟩ := h
  ⟨lf, x, a, b, d, e, hq _ _ _ _ q⟩
theorem W_skip (h : Q .normal fr H nx) : W G call .skip Q fr H nx := ⟨0, _, _, _, _, rfl, h⟩
theorem W_ret (h : Q .ret fr H nx) : W G call .ret Q fr H nx := ⟨0, _, _, _, _, rfl, h⟩
theorem W_exit {i : Nat} (h : Q (.exit i) fr H nx) : W G call (.exit i) Q fr H nx := ⟨0, _, _, _, _, rfl, h⟩
theorem W_reg {ops : List XOper} (h : WO G call ops (Q .normal) fr H nx) : W G call (.reg ops) Q fr H nx := by
  obtain ⟨fr', H', nx', e, q⟩ := WO_run h
  exact ⟨0, _, _, _, _, by simp only [run, e], q⟩
def WD (x : Option St) (K : Fr → Heap → Nat → Prop) : Prop := match x with
  | some (fr, H, nx) => K fr H nx
  | none => False
theorem WD_some {fr : Fr} {H : Heap} {nx : Nat} {K : Fr → Heap → Nat → Prop} : WD (some (fr, H, nx)) K = K fr H nx := rfl
theorem W_draw {ops : List XOper} {ds : List XD} (h : WD (runDraw G call ops ds (fr, H, nx)) (Q .normal)) : W G call (.draw ops ds) Q fr H nx := by
  unfold WD at h
  split at h
  · rename_i fr' H' nx' e
    exact ⟨0, _, _, _, _, by simp only [run, e], h⟩
  · exact h.elim
def thenQ (Q : Ext → Fr → Heap → Nat → Prop) (K : Fr → Heap → Nat → Prop) : Ext → Fr → Heap → Nat → Prop
  | .normal => K
  | x => Q x
theorem W_seq {a b : XC} (h : W G call a (thenQ Q (W G call b Q)) fr H nx) : W G call (.seq a b) Q fr H nx := by
  obtain ⟨l1, x, f1, H1, n1, e1, q⟩ := h
  cases x with
  | normal =>
    obtain ⟨l2, x, f2, H2, n2, e2, q⟩ := q
    refine ⟨l1 + l2, x, f2, H2, n2, ?_, q⟩
    simp only [run]
    rw [run_mono (Nat.le_add_right l1 l2) a e1]
    exact run_mono (Nat.le_add_left l2 l1) b e2
  | exit i =>
    refine ⟨l1, _, _, _, _, ?_, q⟩
    simp only [run, e1]
  | ret =>
    refine ⟨l1, _, _, _, _, ?_, q⟩
    simp only [run, e1]
theorem W_cond {c : XV} {a b : XC} (h : condK (c.ev G fr) (W G call a Q fr H nx) (W G call b Q fr H nx)) : W G call (.cond c a b) Q fr H nx := by
  unfold condK at h
  split at h
  · rename_i hc
    obtain ⟨lf, x, f1, H1, n1, e1, q⟩ := h
    exact ⟨lf, _, _, _, _, by simp only [run, hc, e1], q⟩
  · rename_i hc
    obtain ⟨lf, x, f1, H1, n1, e1, q⟩ := h
    exact ⟨lf, _, _, _, _, by simp only [run, hc, e1], q⟩
  · exact h.elim
def blockQ (id : Nat) (Q : Ext → Fr → Heap → Nat → Prop) : Ext → Fr → Heap → Nat → Prop
  | .exit i => match Nat.beq i id with
    | true => Q .normal
    | false => Q (.exit i)
  | x => Q x
theorem W_block {id : Nat} {b : XC} (h : W G call b (blockQ id Q) fr H nx) : W G call (.block id b) Q fr H nx := by
  obtain ⟨lf, x, f1, H1, n1, e1, q⟩ := h
  cases x with
  | normal => exact ⟨lf, _, _, _, _, by simp only [run, e1], q⟩
  | ret => exact ⟨lf, _, _, _, _, by simp only [run, e1], q⟩
  | exit i =>
    cases hb : Nat.beq i id with
    | true => simp only [blockQ, hb] at q; exact ⟨lf, _, _, _, _, by simp only [run, e1, hb], q⟩
    | false => simp only [blockQ, hb] at q; exact ⟨lf, _, _, _, _, by simp only [run, e1, hb], q⟩
def loopQ (Q : Ext → Fr → Heap → Nat → Prop) (I : Nat → Fr → Heap → Nat → Prop) (n : Nat) : Ext → Fr → Heap → Nat → Prop
  | .normal, fr, H, nx => ∃ m, m < n ∧ I m fr H nx
  | x, fr, H, nx => Q x fr H nx
/-- A loop: what holds ahead of each round, with a number that falls. -/
theorem W_loop {b : XC} (I : Nat → Fr → Heap → Nat → Prop) (hI : ∀ n fr H nx, I n fr H nx → W G call b (loopQ Q I n) fr H nx) : ∀ (n : Nat) {fr : Fr} {H : Heap} {nx : Nat}, I n fr H nx → W G call (.loop b) Q fr H nx := by
  have key : ∀ (k n : Nat), n ≤ k → ∀ {fr : Fr} {H : Heap} {nx : Nat}, I n fr H nx → W G call (.loop b) Q fr H nx := by
    intro k
    induction k with
    | zero =>
      intro n hn fr H nx h
      obtain ⟨lf, x, f1, H1, n1, e1, q⟩ := hI n fr H nx h
      cases x with
      | normal => obtain ⟨m, hm, _⟩ := q; omega
      | exit i => exact ⟨lf + 1, _, _, _, _, by simp only [run, iter, run_mono (Nat.le_add_right lf 1) b e1], q⟩
      | ret => exact ⟨lf + 1, _, _, _, _, by simp only [run, iter, run_mono (Nat.le_add_right lf 1) b e1], q⟩
    | succ k ih =>
      intro n hn fr H nx h
      obtain ⟨lf, x, f1, H1, n1, e1, q⟩ := hI n fr H nx h
      cases x with
      | normal =>
        obtain ⟨m, hm, hi⟩ := q
        obtain ⟨lg, x, f2, H2, n2, e2, q2⟩ := ih m (by omega) hi
        refine ⟨lf + lg + 1, x, f2, H2, n2, ?_, q2⟩
        simp only [run] at e2 ⊢
        simp only [iter, run_mono (show lf ≤ lf + lg + 1 by omega) b e1]
        exact iter_mono (fun s r => run_mono (show lg ≤ lf + lg + 1 by omega) b) e2 (by omega)
      | exit i => exact ⟨lf + 1, _, _, _, _, by simp only [run, iter, run_mono (Nat.le_add_right lf 1) b e1], q⟩
      | ret => exact ⟨lf + 1, _, _, _, _, by simp only [run, iter, run_mono (Nat.le_add_right lf 1) b e1], q⟩
  exact fun n => key n n (Nat.le_refl n)
end

section
variable {P : Program} {G : Cx}
/-- How a function's run ends. -/
def endQ (res : List XR) (R : AV → Heap → Nat → Prop) : Ext → Fr → Heap → Nat → Prop
  | .exit _, _, _, _ => False
  | _, fr, H, nx => match ress H fr res with
    | some vs => R (oneOr vs) H nx
    | none => False
theorem endQ_some {res : List XR} {R : AV → Heap → Nat → Prop} {x : Ext} {fr : Fr} {H : Heap} {nx : Nat} (h : endQ res R x fr H nx) : (∀ i, x ≠ .exit i) ∧ ∃ vs, ress H fr res = some vs ∧ R (oneOr vs) H nx := by
  cases x with
  | exit i => exact h.elim
  | normal =>
    refine ⟨fun i e => (by cases e), ?_⟩
    cases hv : ress H fr res with
    | none => simp only [endQ, hv] at h
    | some vs => simp only [endQ, hv] at h; exact ⟨vs, rfl, h⟩
  | ret =>
    refine ⟨fun i e => (by cases e), ?_⟩
    cases hv : ress H fr res with
    | none => simp only [endQ, hv] at h
    | some vs => simp only [endQ, hv] at h; exact ⟨vs, rfl, h⟩
theorem endQ_mk {res : List XR} {R : AV → Heap → Nat → Prop} {x : Ext} {fr : Fr} {H : Heap} {nx : Nat} {vs : List AV} (hne : ∀ i, x ≠ .exit i) (hv : ress H fr res = some vs) (h : R (oneOr vs) H nx) : endQ res R x fr H nx := by
  cases x with
  | exit i => exact absurd rfl (hne i)
  | normal => simp only [endQ, hv]; exact h
  | ret => simp only [endQ, hv]; exact h

/-- A function, compiled. -/
structure FnX (P : Program) (f : Nat) (xf : XF) : Prop where
  ok : ∃ fn, P.funcs[f]? = some fn ∧ compF P fn = some xf ∧ (fn.name == "runtime.NumGoroutine") = false
def oneF1 (f : Nat) (xf : XF) (pol : Pol) : Nat → Option (XF × Pol) := fun n => match Nat.beq n f with
  | true => some (xf, pol)
  | false => none
theorem FnX.table {f : Nat} {xf : XF} (h : FnX P f xf) (pol : Pol) : TableOK P (oneF1 f xf pol) := by
  intro n x p hn
  simp only [oneF1] at hn
  split at hn
  · rename_i e
    cases hn
    rw [nbeq_true e]
    exact h.ok
  · cases hn
/-- What a function's run gives is what its call gives. -/
theorem fn_run {call : Call} {f : Nat} {xf : XF} (hx : FnX P f xf) (hm : MethOK P G) (hmix : P.follows .mixedOrders = true) (hcall : CallOK P G call) (pol : Pol) {args : List AV} {H : Heap} {nx : Nat} (hlen : args.length = xf.np) {v : AV} {H' : Heap} {nx' : Nat}
    (h : W G call xf.body (endQ xf.res fun u A n => finish pol nx u A n = some (v, H', nx')) (slots 0 (pad xf.nt args)) H nx) : Enters P f ∧ nx ≤ nx' ∧ FnT P G f args H nx v H' nx' := by
  obtain ⟨lf, x, fr', A, n, e, q⟩ := h
  obtain ⟨hne, vs, hv, hfin⟩ := endQ_some q
  refine enter1_sound (hx.table pol) hm hmix lf hcall f args H nx v H' nx' ?_
  have hb : Nat.beq f f = true := Nat.beq_refl f
  have hl : Nat.beq args.length xf.np = true := by rw [hlen]; exact Nat.beq_refl _
  simp only [enter1, oneF1, hb, hl, e]
  cases x with
  | exit i => exact absurd rfl (hne i)
  | _ => simp only [hv, hfin]
theorem dropW_zero : ∀ H : Heap, dropW 0 H = []
  | [] => rfl
  | (h, o) :: r => by simp only [dropW, Nat.blt, Nat.ble]; exact dropW_zero r
/-- A function of values without handles, that leaves nothing behind. -/
def PureOK (P : Program) (G : Cx) (f : Nat) (g : List AV → Option AV) : Prop := ∀ args v, g args = some v → Enters P f ∧ ∀ H nx, FnT P G f args H nx v H nx
theorem fn_pure {call : Call} {f : Nat} {xf : XF} (hx : FnX P f xf) (hG : PureG G) (hm : MethOK P G) (hmix : P.follows .mixedOrders = true) (hcall : CallOK P G call) {args : List AV} {v : AV} (hlen : args.length = xf.np) (ha : args.all (pureV 40) = true) (hv : pureV 40 v = true)
    (h : W G call xf.body (endQ xf.res fun u _ _ => u = v) (slots 0 (pad xf.nt args)) [] 0) : Enters P f ∧ ∀ H nx, FnT P G f args H nx v H nx := by
  obtain ⟨lf, x, fr', A, n, e, q⟩ := h
  obtain ⟨hne, vs, hvs, hq⟩ := endQ_some q
  have := fn_run hx hm hmix hcall .drop (H := []) (nx := 0) hlen (v := v) (H' := []) (nx' := n) ⟨lf, x, fr', A, n, e, endQ_mk hne hvs (by simp only [finish, dropW_zero, hq])⟩
  exact ⟨this.1, fun H nx => fn_anywhere hG ha hv this.2.2 H nx⟩

/-- Known functions of values. -/
abbrev Tbl := List (Nat × (List AV → Option AV))
def callP : Tbl → Call
  | [] => noCall
  | s :: r => fun f args H nx => match Nat.beq f s.1 with
    | true => match s.2 args with
      | some v => some (v, H, nx)
      | none => none
    | false => callP r f args H nx
theorem callP_nil {G : Cx} : CallOK P G (callP []) := fun _ _ _ _ _ _ _ h => by cases h
theorem callP_cons {f : Nat} {g : List AV → Option AV} {r : Tbl} (h : PureOK P G f g) (hr : CallOK P G (callP r)) : CallOK P G (callP ((f, g) :: r)) := by
  intro f' args H nx v H' nx' e
  simp only [callP] at e
  split at e
  · rename_i hf
    rw [nbeq_true hf]
    split at e
    · rename_i u hu
      cases e
      obtain ⟨h1, h2⟩ := h _ _ hu
      exact ⟨h1, Nat.le_refl _, h2 _ _⟩
    · cases e
  · exact hr _ _ _ _ _ _ _ e
end

/-- The same, spelled out: loops alone are left as they are. -/
def WC (G : Cx) (call : Call) : XC → (Ext → Fr → Heap → Nat → Prop) → Fr → Heap → Nat → Prop
  | .skip, Q, fr, H, nx => Q .normal fr H nx
  | .reg ops, Q, fr, H, nx => WO G call ops (Q .normal) fr H nx
  | .draw ops ds, Q, fr, H, nx => WD (runDraw G call ops ds (fr, H, nx)) (Q .normal)
  | .seq a b, Q, fr, H, nx => WC G call a (thenQ Q (WC G call b Q)) fr H nx
  | .cond c a b, Q, fr, H, nx => condK (c.ev G fr) (WC G call a Q fr H nx) (WC G call b Q fr H nx)
  | .block id b, Q, fr, H, nx => WC G call b (blockQ id Q) fr H nx
  | .loop b, Q, fr, H, nx => W G call (.loop b) Q fr H nx
  | .exit i, Q, fr, H, nx => Q (.exit i) fr H nx
  | .ret, Q, fr, H, nx => Q .ret fr H nx
  | .mrange .., _, _, _, _ => False
theorem WC_W {G : Cx} {call : Call} : ∀ (c : XC) {Q : Ext → Fr → Heap → Nat → Prop} {fr : Fr} {H : Heap} {nx : Nat}, WC G call c Q fr H nx → W G call c Q fr H nx
  | .skip, Q, fr, H, nx, h => W_skip h
  | .reg ops, Q, fr, H, nx, h => W_reg h
  | .draw ops ds, Q, fr, H, nx, h => W_draw h
  | .seq a b, Q, fr, H, nx, h => by
    refine W_seq (W_mono (WC_W a h) fun x fr H nx q => ?_)
    cases x with
    | normal => exact WC_W b q
    | exit i => exact q
    | ret => exact q
  | .cond c a b, Q, fr, H, nx, h => by
    refine W_cond ?_
    have h : condK (c.ev G fr) (WC G call a Q fr H nx) (WC G call b Q fr H nx) := h
    unfold condK at h ⊢
    split at h
    · exact WC_W a h
    · exact WC_W b h
    · exact h.elim
  | .block id b, Q, fr, H, nx, h => W_block (WC_W b h)
  | .loop b, Q, fr, H, nx, h => h
  | .exit i, Q, fr, H, nx, h => W_exit h
  | .ret, Q, fr, H, nx, h => W_ret h
  | .mrange .., _, _, _, _, h => h.elim
theorem WC_loop {G : Cx} {call : Call} {b : XC} {Q : Ext → Fr → Heap → Nat → Prop} (I : Nat → Fr → Heap → Nat → Prop) (n : Nat) {fr : Fr} {H : Heap} {nx : Nat} (h0 : I n fr H nx) (hI : ∀ n fr H nx, I n fr H nx → WC G call b (loopQ Q I n) fr H nx) : W G call (.loop b) Q fr H nx :=
  W_loop I (fun n fr H nx h => WC_W b (hI n fr H nx h)) n h0

/- Small numbers. -/
theorem wrapx_i64 {m : Nat} (h : m ≤ 9223372036854775807) : wrapx .i64 (.ofNat m) = .ofNat m := by
  have : Nat.ble m 9223372036854775807 = true := by rw [Nat.ble_eq]; exact h
  simp only [wrapx, this, cond_true]
theorem ofNat_add (m n : Nat) : Int.ofNat m + Int.ofNat n = Int.ofNat (m + n) := rfl
theorem ofNat_add1 (m : Nat) : Int.ofNat m + 1 = Int.ofNat (m + 1) := rfl
theorem seqb_dec : ∀ (a b : List Nat), seqb a b = decide (a = b)
  | [], [] => by simp [seqb]
  | [], _ :: _ => by simp [seqb]
  | _ :: _, [] => by simp [seqb]
  | a :: x, b :: y => by
    simp only [seqb]
    by_cases h : a = b
    · subst h
      have : Nat.beq a a = true := Nat.beq_refl a
      simp [this, seqb_dec x y]
    · have : Nat.beq a b = false := by
        cases hb : Nat.beq a b with
        | false => rfl
        | true => exact absurd (nbeq_true hb) h
      simp [this, h]

/- One step at a time: what stands behind a test is not looked at yet. -/
section
variable {G : Cx} {call : Call} {Q : Ext → Fr → Heap → Nat → Prop} {K : Fr → Heap → Nat → Prop} {fr : Fr} {H : Heap} {nx : Nat}
def WOs (G : Cx) (call : Call) (r : List XOper) (K : Fr → Heap → Nat → Prop) (fr : Fr) (H : Heap) (nx : Nat) : Prop := WO G call r K fr H nx
def WG (G : Cx) (call : Call) (d : Option Nat) (op : XO) (r : List XOper) (K : Fr → Heap → Nat → Prop) (fr : Fr) (H : Heap) (nx : Nat) : Prop := WX (xoS G call fr H nx op) fun v H nx => WO G call r K (putd fr d v) H nx
def WCs (G : Cx) (call : Call) (c : XC) (Q : Ext → Fr → Heap → Nat → Prop) (fr : Fr) (H : Heap) (nx : Nat) : Prop := WC G call c Q fr H nx
theorem WO_nil : WO G call [] K fr H nx = K fr H nx := rfl
theorem WO_op {d : Option Nat} {op : XO} {r : List XOper} : WO G call (⟨d, op, none⟩ :: r) K fr H nx = WX (xoS G call fr H nx op) fun v H nx => WO G call r K (putd fr d v) H nx := rfl
theorem WO_gd {d : Option Nat} {op : XO} {t : Nat} {b : Bool} {r : List XOper} : WO G call (⟨d, op, some (t, b)⟩ :: r) K fr H nx = condG (fr.get t) b (WG G call d op r K fr H nx) (WOs G call r K (putd fr d (.tup [])) H nx) := rfl
theorem WC_skip : WC G call .skip Q fr H nx = Q .normal fr H nx := rfl
theorem WC_reg {ops : List XOper} : WC G call (.reg ops) Q fr H nx = WO G call ops (Q .normal) fr H nx := rfl
theorem WC_draw {ops : List XOper} {ds : List XD} : WC G call (.draw ops ds) Q fr H nx = WD (runDraw G call ops ds (fr, H, nx)) (Q .normal) := rfl
theorem WC_seq {a b : XC} : WC G call (.seq a b) Q fr H nx = WC G call a (thenQ Q (WC G call b Q)) fr H nx := rfl
theorem WC_cond {c : XV} {a b : XC} : WC G call (.cond c a b) Q fr H nx = condK (c.ev G fr) (WCs G call a Q fr H nx) (WCs G call b Q fr H nx) := rfl
theorem WC_block {id : Nat} {b : XC} : WC G call (.block id b) Q fr H nx = WC G call b (blockQ id Q) fr H nx := rfl
theorem WC_lp {b : XC} : WC G call (.loop b) Q fr H nx = W G call (.loop b) Q fr H nx := rfl
theorem WC_exit {i : Nat} : WC G call (.exit i) Q fr H nx = Q (.exit i) fr H nx := rfl
theorem WC_ret : WC G call .ret Q fr H nx = Q .ret fr H nx := rfl
theorem thenQ_n {K : Fr → Heap → Nat → Prop} : thenQ Q K .normal fr H nx = K fr H nx := rfl
theorem thenQ_r {K : Fr → Heap → Nat → Prop} : thenQ Q K .ret fr H nx = Q .ret fr H nx := rfl
theorem thenQ_e {K : Fr → Heap → Nat → Prop} {i : Nat} : thenQ Q K (.exit i) fr H nx = Q (.exit i) fr H nx := rfl
theorem blockQ_n {id : Nat} : blockQ id Q .normal fr H nx = Q .normal fr H nx := rfl
theorem blockQ_r {id : Nat} : blockQ id Q .ret fr H nx = Q .ret fr H nx := rfl
theorem blockQ_e {id i : Nat} : blockQ id Q (.exit i) fr H nx = if i = id then Q .normal fr H nx else Q (.exit i) fr H nx := by
  simp only [blockQ]
  by_cases h : i = id
  · subst h
    have : Nat.beq i i = true := Nat.beq_refl i
    simp only [this, if_true]
  · have : Nat.beq i id = false := by
      cases hb : Nat.beq i id with
      | false => rfl
      | true => exact absurd (nbeq_true hb) h
    simp only [this, h, if_false]
theorem loopQ_n {I : Nat → Fr → Heap → Nat → Prop} {n : Nat} : loopQ Q I n .normal fr H nx = ∃ m, m < n ∧ I m fr H nx := rfl
theorem loopQ_r {I : Nat → Fr → Heap → Nat → Prop} {n : Nat} : loopQ Q I n .ret fr H nx = Q .ret fr H nx := rfl
theorem loopQ_e {I : Nat → Fr → Heap → Nat → Prop} {n i : Nat} : loopQ Q I n (.exit i) fr H nx = Q (.exit i) fr H nx := rfl
def WE (o : Option (List AV)) (R : AV → Heap → Nat → Prop) (H : Heap) (nx : Nat) : Prop := match o with
  | some vs => R (oneOr vs) H nx
  | none => False
theorem WE_some {vs : List AV} {R : AV → Heap → Nat → Prop} : WE (some vs) R H nx = R (oneOr vs) H nx := rfl
theorem endQ_n {res : List XR} {R : AV → Heap → Nat → Prop} : endQ res R .normal fr H nx = WE (ress H fr res) R H nx := by
  unfold WE; cases h : ress H fr res <;> simp only [endQ, h]
theorem endQ_r {res : List XR} {R : AV → Heap → Nat → Prop} : endQ res R .ret fr H nx = WE (ress H fr res) R H nx := by
  unfold WE; cases h : ress H fr res <;> simp only [endQ, h]
theorem ress_nil : ress H fr [] = some [] := rfl
theorem putd_some {n : Nat} {v : AV} : putd fr (some n) v = fr.put n v := rfl
theorem putd_none {v : AV} : putd fr none v = fr := rfl
end
end Go.Sy

/- Typed arguments as the machine's values. No condition. -/
namespace Go.Sy
open Go.ChangeShapes Go.RowKit
set_option linter.unusedVariables false
section
variable {P : Program} {w : World} {r : Reach} {b : Nat} {t u : TypeId} {v : Value} {E : Env}
theorem cell_str (hu : P.underlying u = some .string) (h : Cell.okWide P w r b u v) : ∃ s : ByteArray, v = .string s ∧ s.size ≤ maxStr := by
  unfold Cell.okWide at h
  rw [hu] at h
  have h : Cell.ok P w r b u v := by
    cases v <;> exact h
  unfold Cell.ok at h
  rw [hu] at h
  cases v with
  | string s =>
    refine ⟨s, rfl, ?_⟩
    have h1 : (s.size : Int) ≤ 9223372036854775807 := h
    have h2 : maxStr = 9223372036854775807 := rfl
    omega
  | _ => exact h.elim
theorem cell_int {k : IntKind} (hu : P.underlying u = some (.int k)) (h : Cell.okWide P w r b u v) : ∃ n : Int, v = .int k n ∧ has k n := by
  unfold Cell.okWide at h
  rw [hu] at h
  have h : Cell.ok P w r b u v := by
    cases v <;> exact h
  unfold Cell.ok at h
  rw [hu] at h
  cases v with
  | int k' n =>
    obtain ⟨rfl, h2⟩ := h
    exact ⟨n, rfl, h2⟩
  | _ => exact h.elim
theorem cell_bool (hu : P.underlying u = some .bool) (h : Cell.okWide P w r b u v) : ∃ n : Bool, v = .bool n := by
  unfold Cell.okWide at h
  rw [hu] at h
  have h : Cell.ok P w r b u v := by
    cases v <;> exact h
  unfold Cell.ok at h
  rw [hu] at h
  cases v with
  | bool n => exact ⟨n, rfl⟩
  | _ => exact h.elim
theorem okWide_cell (hs : ∀ fs, P.underlying t ≠ some (.struct fs)) (ha : ∀ n e, P.underlying t ≠ some (.array n e)) (h : Value.okWide P w r b t v) : Cell.okWide P w r b t v := by
  unfold Value.okWide at h
  split at h
  · rename_i fs e; exact absurd e (hs fs)
  · rename_i n x e; exact absurd e (ha n x)
  · exact h
theorem okWide_rows {fs : Array Field} {ts : List TypeId} (ht : P.underlying t = some (.struct fs)) (hts : P.cellTypes P.depth t = some ts) (h : Value.okWide P w r b t v) :
    ∃ cs : Array Value, v = .agg cs ∧ cs.size = P.cellsOf t ∧ ∀ i c, cs[i]? = some c → ∃ u, ts[i % ts.length]? = some u ∧ Cell.okWide P w r b u c := by
  unfold Value.okWide at h
  rw [ht] at h
  obtain ⟨cs, rfl, h1, ts', h2, h3, h4⟩ := h
  rw [hts] at h2
  cases h2
  exact ⟨cs, rfl, h1, h4⟩
/-- A string's letters. -/
def lets (s : ByteArray) : List Nat := s.data.toList.map UInt8.toNat
theorem VR.lets {s : ByteArray} (h : s.size ≤ maxStr) : VR E w (.str (Sy.lets s)) (.string s) := .str _ s rfl (by
  have : (Sy.lets s).length = s.size := by
    unfold Sy.lets
    rw [List.length_map, Array.length_toList]
    rfl
  omega)
theorem lets_lt {s : ByteArray} : ∀ b ∈ lets s, b < 256 := by
  intro b hb
  obtain ⟨x, _, rfl⟩ := List.mem_map.1 hb
  exact UInt8.toNat_lt x

/-- What a call gives by its contract, of values. -/
theorem pure_of_calls {G : Cx} {f : FuncId} {fn : Func} {body : Code} (hf : P.funcs[f]? = some fn) (hb : fn.body = some body) (hn : (fn.name == "runtime.NumGoroutine") = false) {g : List AV → Option AV}
    (h : ∀ args v, g args = some v → ∀ (E : Env) (w : World) (cargs : Array Value), HR E [] w → VRs E w args cargs.toList → GR G E w → Calls P f cargs w fun e w' => ∃ cv, e = .returned cv ∧ Below w.heap.size w w' ∧ VR E w v cv) (hp : ∀ args v, g args = some v → args.all (pureV 40) = true ∧ pureV 40 v = true) (hG : PureG G) : PureOK P G f g := by
  intro args v hv
  refine ⟨⟨fn, body, hf, hb, hn⟩, fn_anywhere hG (hp _ _ hv).1 (hp _ _ hv).2 (n := 0) ?_⟩
  intro E w cargs hr hva hg _
  refine (h args v hv E w cargs hr hva hg).mono fun e w' h1 => ?_
  obtain ⟨cv, rfl, h2, h3⟩ := h1
  obtain ⟨k1, k2, k3⟩ := below_step hr h2 0
  exact ⟨cv, E, rfl, k1, k2, k3 h3⟩
end
end Go.Sy

/- One operation at a time, by its rule. No condition. -/
namespace Go.Sy
set_option linter.unusedVariables false
set_option linter.unusedSimpArgs false
def notStr : AV → Bool
  | .str _ => false
  | _ => true
section
variable {G : Cx} {call : Call} {Q : Ext → Fr → Heap → Nat → Prop} {K : Fr → Heap → Nat → Prop} {fr : Fr} {H : Heap} {nx : Nat}
/-- The same, shut: nothing but the rules below looks into them. -/
structure OO (G : Cx) (call : Call) (r : List XOper) (K : Fr → Heap → Nat → Prop) (fr : Fr) (H : Heap) (nx : Nat) : Prop where
  out : WO G call r K fr H nx
structure CC (G : Cx) (call : Call) (c : XC) (Q : Ext → Fr → Heap → Nat → Prop) (fr : Fr) (H : Heap) (nx : Nat) : Prop where
  out : WC G call c Q fr H nx
structure EE (res : List XR) (R : AV → Heap → Nat → Prop) (fr : Fr) (H : Heap) (nx : Nat) : Prop where
  out : WE (ress H fr res) R H nx
structure Here (p : Prop) : Prop where
  out : p
structure Again (I : Nat → Fr → Heap → Nat → Prop) (n : Nat) (fr : Fr) (H : Heap) (nx : Nat) : Prop where
  out : ∃ m, m < n ∧ I m fr H nx
theorem WO_mono {K K' : Fr → Heap → Nat → Prop} (h : ∀ fr H nx, K fr H nx → K' fr H nx) : ∀ {ops : List XOper} {fr : Fr} {H : Heap} {nx : Nat}, WO G call ops K fr H nx → WO G call ops K' fr H nx
  | [], fr, H, nx, k => h _ _ _ k
  | o :: r, fr, H, nx, k => by
    have hx : ∀ {x : Option Out}, WX x (fun v H nx => WO G call r K (putd fr o.dst v) H nx) → WX x fun v H nx => WO G call r K' (putd fr o.dst v) H nx := fun {x} k => by
      obtain ⟨v, H1, n1, e, q⟩ := WX_elim k
      subst e
      exact WO_mono h q
    unfold WO at k ⊢
    split at k
    · exact hx k
    · rename_i t b hg
      unfold condG at k ⊢
      split at k
      · exact ⟨fun e => hx (k.1 e), fun e => WO_mono h (k.2 e)⟩
      · exact WO_mono h k
      · exact k.elim
theorem WC_mono {Q Q' : Ext → Fr → Heap → Nat → Prop} (h : ∀ x fr H nx, Q x fr H nx → Q' x fr H nx) : ∀ (c : XC) {fr : Fr} {H : Heap} {nx : Nat}, WC G call c Q fr H nx → WC G call c Q' fr H nx := by
  intro c
  induction c generalizing Q Q' with
  | skip => intro fr H nx k; exact h _ _ _ _ k
  | reg ops => intro fr H nx k; exact WO_mono (h _) k
  | draw ops ds =>
    intro fr H nx k
    rw [WC_draw] at k ⊢
    unfold WD at k ⊢
    split at k
    · exact h _ _ _ _ k
    · exact k.elim
  | seq a b iha ihb =>
    intro fr H nx k
    rw [WC_seq] at k ⊢
    refine iha (fun x fr H nx q => ?_) k
    cases x with
    | normal => exact ihb h q
    | exit i => exact h _ _ _ _ q
    | ret => exact h _ _ _ _ q
  | cond c a b iha ihb =>
    intro fr H nx k
    have k : condK (c.ev G fr) (WC G call a Q fr H nx) (WC G call b Q fr H nx) := k
    show condK (c.ev G fr) (WC G call a Q' fr H nx) (WC G call b Q' fr H nx)
    unfold condK at k ⊢
    split at k
    · exact iha h k
    · exact ihb h k
    · exact k.elim
  | block id b ih =>
    intro fr H nx k
    rw [WC_block] at k ⊢
    refine ih (fun x fr H nx q => ?_) k
    cases x with
    | normal => exact h _ _ _ _ q
    | exit i =>
      simp only [blockQ] at q ⊢
      cases hb : Nat.beq i id with
      | true => simp only [hb] at q ⊢; exact h _ _ _ _ q
      | false => simp only [hb] at q ⊢; exact h _ _ _ _ q
    | ret => exact h _ _ _ _ q
  | loop b ih => intro fr H nx k; exact W_mono k h
  | exit i => intro fr H nx k; exact h _ _ _ _ k
  | ret => intro fr H nx k; exact h _ _ _ _ k
  | mrange => intro fr H nx k; exact k.elim
theorem S_mov {d : Option Nat} {r : List XOper} {x : XV} {v : AV} (hx : x.ev G fr = some v) (k : OO G call r K (putd fr d (v)) (H) (nx)) : OO G call (⟨d, .mov x, none⟩ :: r) K fr H nx := by
  refine ⟨?_⟩
  rw [WO_op]
  simp only [xoS, hx, WX_some]
  exact k.out
theorem S_pickT {d : Option Nat} {r : List XOper} {c a b : XV} {v : AV} (hc : c.ev G fr = some (.bool true)) (ha : a.ev G fr = some v) (k : OO G call r K (putd fr d (v)) (H) (nx)) : OO G call (⟨d, .pick c a b, none⟩ :: r) K fr H nx := by
  refine ⟨?_⟩
  rw [WO_op]
  simp only [xoS, hc, ha, WX_some]
  exact k.out
theorem S_pickF {d : Option Nat} {r : List XOper} {c a b : XV} {v : AV} (hc : c.ev G fr = some (.bool false)) (ha : b.ev G fr = some v) (k : OO G call r K (putd fr d (v)) (H) (nx)) : OO G call (⟨d, .pick c a b, none⟩ :: r) K fr H nx := by
  refine ⟨?_⟩
  rw [WO_op]
  simp only [xoS, hc, ha, WX_some]
  exact k.out
theorem S_bin {d : Option Nat} {r : List XOper} {op : BinOp} {x y : XV} {a b v : AV} (hx : x.ev G fr = some a) (hy : y.ev G fr = some b) (h : xbin op a b = some v) (k : OO G call r K (putd fr d (v)) (H) (nx)) : OO G call (⟨d, .bin op x y, none⟩ :: r) K fr H nx := by
  refine ⟨?_⟩
  rw [WO_op]
  simp only [xoS, hx, hy, h, WX_some]
  exact k.out
theorem S_un {d : Option Nat} {r : List XOper} {op : UnOp} {x : XV} {a v : AV} (hx : x.ev G fr = some a) (h : xun op a = some v) (k : OO G call r K (putd fr d (v)) (H) (nx)) : OO G call (⟨d, .un op x, none⟩ :: r) K fr H nx := by
  refine ⟨?_⟩
  rw [WO_op]
  simp only [xoS, hx, h, WX_some]
  exact k.out
theorem S_beq {d : Option Nat} {r : List XOper} {neg : Bool} {x y : XV} {a b : Bool} (hx : x.ev G fr = some (.bool a)) (hy : y.ev G fr = some (.bool b)) (k : OO G call r K (putd fr d (bneg neg (a == b))) (H) (nx)) : OO G call (⟨d, .beq neg x y, none⟩ :: r) K fr H nx := by
  refine ⟨?_⟩
  rw [WO_op]
  simp only [xoS, hx, hy, WX_some]
  exact k.out
theorem S_peq {d : Option Nat} {r : List XOper} {neg : Bool} {x y : XV} {a b : AV} {v : Bool} (hx : x.ev G fr = some a) (hy : y.ev G fr = some b) (h : xpeq H a b = some v) (k : OO G call r K (putd fr d (bneg neg v)) (H) (nx)) : OO G call (⟨d, .peq neg x y, none⟩ :: r) K fr H nx := by
  refine ⟨?_⟩
  rw [WO_op]
  simp only [xoS, hx, hy, h, WX_some]
  exact k.out
theorem S_aeq {d : Option Nat} {r : List XOper} {neg : Bool} {ks : List Kd} {x y : XV} {a b : List AV} {v : Bool} (hx : x.ev G fr = some (.agg a)) (hy : y.ev G fr = some (.agg b)) (h : eqs ks a b = some v) (k : OO G call r K (putd fr d (bneg neg v)) (H) (nx)) : OO G call (⟨d, .aeq neg ks x y, none⟩ :: r) K fr H nx := by
  refine ⟨?_⟩
  rw [WO_op]
  simp only [xoS, hx, hy, h, WX_some]
  exact k.out
theorem S_ieq {d : Option Nat} {r : List XOper} {neg lit : Bool} {kt : Nat → Option Kd} {x y : XV} {a b : AV} {v : Bool} (hx : x.ev G fr = some a) (hy : y.ev G fr = some b) (h : xieq lit kt a b = some v) (k : OO G call r K (putd fr d (bneg neg v)) (H) (nx)) : OO G call (⟨d, .ieq neg lit kt x y, none⟩ :: r) K fr H nx := by
  refine ⟨?_⟩
  rw [WO_op]
  simp only [xoS, hx, hy, h, WX_some]
  exact k.out
theorem S_seq {d : Option Nat} {r : List XOper} {neg : Bool} {x y : XV} {a b : AV} {v : Bool} (hx : x.ev G fr = some a) (hy : y.ev G fr = some b) (h : xseq a b = some v) (k : OO G call r K (putd fr d (bneg neg v)) (H) (nx)) : OO G call (⟨d, .seq neg x y, none⟩ :: r) K fr H nx := by
  refine ⟨?_⟩
  rw [WO_op]
  simp only [xoS, hx, hy, h, WX_some]
  exact k.out
theorem S_conv {d : Option Nat} {r : List XOper} {q q' : IntKind} {x : XV} {n : Int} (hx : x.ev G fr = some (.int q' n)) (k : OO G call r K (putd fr d (.int q (wrapx q n))) (H) (nx)) : OO G call (⟨d, .conv q x, none⟩ :: r) K fr H nx := by
  refine ⟨?_⟩
  rw [WO_op]
  simp only [xoS, hx, WX_some]
  exact k.out
theorem S_s2b {d : Option Nat} {r : List XOper} {x : XV} {s : List Nat} (hx : x.ev G fr = some (.str s)) (k : OO G call r K (putd fr d (.row nx 0 s.length 1 s.length false)) ((nx, .cells true (s.map fun b => .int .u8 (.ofNat b))) :: H) (nx + 1)) : OO G call (⟨d, .s2b x, none⟩ :: r) K fr H nx := by
  refine ⟨?_⟩
  rw [WO_op]
  simp only [xoS, hx, WX_some]
  exact k.out
theorem S_b2s {d : Option Nat} {r : List XOper} {x : XV} {v : AV} {n : Nat} {cs : List AV} {s : List Nat} (hx : x.ev G fr = some v) (hn : notStr v = true) (hc : content H 1 v = some (n, cs)) (hb : toBytes cs = some s) (k : OO G call r K (putd fr d (.str s)) (H) (nx)) : OO G call (⟨d, .b2s x, none⟩ :: r) K fr H nx := by
  refine ⟨?_⟩
  rw [WO_op]
  cases v with
  | str s => simp [notStr] at hn
  | _ => simp only [xoS, hx, hc, hb, WX_some]; exact k.out

theorem S_s2s {d : Option Nat} {r : List XOper} {x : XV} {s : List Nat} (hx : x.ev G fr = some (.str s)) (k : OO G call r K (putd fr d (.str s)) (H) (nx)) : OO G call (⟨d, .s2s x, none⟩ :: r) K fr H nx := by
  refine ⟨?_⟩
  rw [WO_op]
  simp only [xoS, hx, WX_some]
  exact k.out
theorem S_idxb {d : Option Nat} {r : List XOper} {x c : XV} {s : List Nat} {b : Nat} (hx : x.ev G fr = some (.str s)) (hc : c.ev G fr = some (.int .u8 (.ofNat b))) (k : OO G call r K (putd fr d (.int .i64 (bidx b 0 s))) (H) (nx)) : OO G call (⟨d, .idxb x c, none⟩ :: r) K fr H nx := by
  refine ⟨?_⟩
  rw [WO_op]
  simp only [xoS, hx, hc, WX_some]
  exact k.out
theorem S_fld {d : Option Nat} {r : List XOper} {x : XV} {off sz : Nat} {ag : Bool} {cs : List AV} {v : AV} (hx : x.ev G fr = some (.agg cs)) (h : part cs off sz ag = some v) (k : OO G call r K (putd fr d (v)) (H) (nx)) : OO G call (⟨d, .fld x off sz ag, none⟩ :: r) K fr H nx := by
  refine ⟨?_⟩
  rw [WO_op]
  simp only [xoS, hx, h, WX_some]
  exact k.out
theorem S_ext {d : Option Nat} {r : List XOper} {x : XV} {i : Nat} {vs : List AV} {v : AV} (hx : x.ev G fr = some (.tup vs)) (h : vs[i]? = some v) (k : OO G call r K (putd fr d (v)) (H) (nx)) : OO G call (⟨d, .ext x i, none⟩ :: r) K fr H nx := by
  refine ⟨?_⟩
  rw [WO_op]
  simp only [xoS, hx, h, WX_some]
  exact k.out
theorem S_idxS {d : Option Nat} {r : List XOper} {x i : XV} {s : List Nat} {q : IntKind} {n b : Nat} (hx : x.ev G fr = some (.str s)) (hi : i.ev G fr = some (.int q (.ofNat n))) (h : s[n]? = some b) (k : OO G call r K (putd fr d (.int .u8 (.ofNat b))) (H) (nx)) : OO G call (⟨d, .idxS x i, none⟩ :: r) K fr H nx := by
  refine ⟨?_⟩
  rw [WO_op]
  simp only [xoS, hx, hi, h, WX_some]
  exact k.out
theorem S_box {d : Option Nat} {r : List XOper} {x : XV} {sz : Nat} {v : AV} {cs : List AV} (hx : x.ev G fr = some v) (h : cellsOf v sz = some cs) (k : OO G call r K (putd fr d (.ptr nx 0)) ((nx, .cells false cs) :: H) (nx + 1)) : OO G call (⟨d, .box x sz, none⟩ :: r) K fr H nx := by
  refine ⟨?_⟩
  rw [WO_op]
  simp only [xoS, hx, h, WX_some]
  exact k.out
theorem S_alloc {d : Option Nat} {r : List XOper} {z : List AV}  (k : OO G call r K (putd fr d (.ptr nx 0)) ((nx, .cells false z) :: H) (nx + 1)) : OO G call (⟨d, .alloc z, none⟩ :: r) K fr H nx := by
  refine ⟨?_⟩
  rw [WO_op]
  simp only [xoS, WX_some]
  exact k.out
theorem S_build {d : Option Nat} {r : List XOper} {z cs : List AV} {ps : List (Nat × Nat × XV)} (h : fillx G fr z ps = some cs) (k : OO G call r K (putd fr d (.agg cs)) (H) (nx)) : OO G call (⟨d, .build z ps, none⟩ :: r) K fr H nx := by
  refine ⟨?_⟩
  rw [WO_op]
  simp only [xoS, h, WX_some]
  exact k.out
theorem S_bslice {d : Option Nat} {r : List XOper} {len sz : Nat} {z cs : List AV} {ps : List (Nat × Nat × XV)} (h : fillx G fr z ps = some cs) (k : OO G call r K (putd fr d (.row nx 0 len sz len true)) ((nx, .cells false cs) :: H) (nx + 1)) : OO G call (⟨d, .bslice len sz z ps, none⟩ :: r) K fr H nx := by
  refine ⟨?_⟩
  rw [WO_op]
  simp only [xoS, h, WX_some]
  exact k.out
theorem S_load {d : Option Nat} {r : List XOper} {x : XV} {sz : Nat} {ag : Bool} {a v : AV} (hx : x.ev G fr = some a) (h : xload H sz ag a = some v) (k : OO G call r K (putd fr d (v)) (H) (nx)) : OO G call (⟨d, .load x sz ag, none⟩ :: r) K fr H nx := by
  refine ⟨?_⟩
  rw [WO_op]
  simp only [xoS, hx, h, WX_some]
  exact k.out
theorem S_store {d : Option Nat} {r : List XOper} {a x : XV} {sz h off : Nat} {v : AV} {str : Bool} {cs new : List AV} {H' : Heap} (ha : a.ev G fr = some (.ptr h off)) (hx : x.ev G fr = some v) (hh : H.get h = some (.cells str cs)) (hn : cellsOf v sz = some new) (hl : Nat.ble (off + sz) cs.length = true) (hp : H.put h (.cells str (splice cs off new)) = H') (k : OO G call r K (putd fr d (.tup [])) (H') (nx)) : OO G call (⟨d, .store a x sz, none⟩ :: r) K fr H nx := by
  refine ⟨?_⟩
  rw [WO_op]
  simp only [xoS, ha, hx, hh, hn, hl, hp, WX_some]
  exact k.out
theorem S_nilchkP {d : Option Nat} {r : List XOper} {x : XV} {h o : Nat} (hx : x.ev G fr = some (.ptr h o)) (k : OO G call r K (putd fr d (.ptr h o)) (H) (nx)) : OO G call (⟨d, .nilchk x, none⟩ :: r) K fr H nx := by
  refine ⟨?_⟩
  rw [WO_op]
  simp only [xoS, hx, WX_some]
  exact k.out
theorem S_nilchkE {d : Option Nat} {r : List XOper} {x : XV} {e : AV} {o : Nat} (hx : x.ev G fr = some (.eptr e o)) (k : OO G call r K (putd fr d (.eptr e o)) (H) (nx)) : OO G call (⟨d, .nilchk x, none⟩ :: r) K fr H nx := by
  refine ⟨?_⟩
  rw [WO_op]
  simp only [xoS, hx, WX_some]
  exact k.out
theorem S_nilchkI {d : Option Nat} {r : List XOper} {x : XV} {t : Nat} {v : AV} (hx : x.ev G fr = some (.iface t v)) (k : OO G call r K (putd fr d (.iface t v)) (H) (nx)) : OO G call (⟨d, .nilchk x, none⟩ :: r) K fr H nx := by
  refine ⟨?_⟩
  rw [WO_op]
  simp only [xoS, hx, WX_some]
  exact k.out
theorem S_nilchkF {d : Option Nat} {r : List XOper} {x : XV} {f : Nat} {a b : List AV} (hx : x.ev G fr = some (.func (.func f) a b)) (k : OO G call r K (putd fr d (.func (.func f) a b)) (H) (nx)) : OO G call (⟨d, .nilchk x, none⟩ :: r) K fr H nx := by
  refine ⟨?_⟩
  rw [WO_op]
  simp only [xoS, hx, WX_some]
  exact k.out
theorem S_faddrP {d : Option Nat} {r : List XOper} {x : XV} {off h o : Nat} (hx : x.ev G fr = some (.ptr h o)) (k : OO G call r K (putd fr d (.ptr h (o + off))) (H) (nx)) : OO G call (⟨d, .faddr x off, none⟩ :: r) K fr H nx := by
  refine ⟨?_⟩
  rw [WO_op]
  simp only [xoS, hx, WX_some]
  exact k.out
theorem S_faddrE {d : Option Nat} {r : List XOper} {x : XV} {off o : Nat} {e : AV} (hx : x.ev G fr = some (.eptr e o)) (k : OO G call r K (putd fr d (.eptr e (o + off))) (H) (nx)) : OO G call (⟨d, .faddr x off, none⟩ :: r) K fr H nx := by
  refine ⟨?_⟩
  rw [WO_op]
  simp only [xoS, hx, WX_some]
  exact k.out
theorem S_iaddrL {d : Option Nat} {r : List XOper} {x i : XV} {sz n : Nat} {es : List AV} {q : IntKind} {e : AV} (hx : x.ev G fr = some (.lst sz es)) (hi : i.ev G fr = some (.int q (.ofNat n))) (h : es[n]? = some e) (k : OO G call r K (putd fr d (.eptr e 0)) (H) (nx)) : OO G call (⟨d, .iaddrS x i sz, none⟩ :: r) K fr H nx := by
  refine ⟨?_⟩
  rw [WO_op]
  have hb : Nat.beq sz sz = true := Nat.beq_refl sz
  simp only [xoS, hx, hi, hb, idx, h, WX_some]
  exact k.out
theorem S_iaddrR {d : Option Nat} {r : List XOper} {x i : XV} {sz n h off len cp : Nat} {ex : Bool} {q : IntKind} (hx : x.ev G fr = some (.row h off len sz cp ex)) (hi : i.ev G fr = some (.int q (.ofNat n))) (hl : n < len) (k : OO G call r K (putd fr d (.ptr h (off + n * sz))) (H) (nx)) : OO G call (⟨d, .iaddrS x i sz, none⟩ :: r) K fr H nx := by
  refine ⟨?_⟩
  rw [WO_op]
  have hb : Nat.beq sz sz = true := Nat.beq_refl sz
  have hb2 : Nat.blt n len = true := by rw [Nat.blt_eq]; exact hl
  simp only [xoS, hx, hi, hb, idxLt, hb2, WX_some]
  exact k.out
theorem S_slcS {d : Option Nat} {r : List XOper} {x : XV} {lo hi : Option XV} {s : List Nat} {l u : Option AV} {p q : Nat} (hx : x.ev G fr = some (.str s)) (hlo : evo G fr lo = some l) (hhi : evo G fr hi = some u) (h1 : bnd u s.length s.length = some q) (h2 : bnd l 0 q = some p) (k : OO G call r K (putd fr d (.str ((s.take q).drop p))) (H) (nx)) : OO G call (⟨d, .slcS x lo hi, none⟩ :: r) K fr H nx := by
  refine ⟨?_⟩
  rw [WO_op]
  simp only [xoS, hx, hlo, hhi, h1, h2, WX_some]
  exact k.out
theorem S_slcL {d : Option Nat} {r : List XOper} {x : XV} {lo hi mx : Option XV} {sz : Nat} {v v' : AV} {l u m : Option AV} (hx : x.ev G fr = some v) (hlo : evo G fr lo = some l) (hhi : evo G fr hi = some u) (hm : evo G fr mx = some m) (h : xslice sz l u m v = some v') (k : OO G call r K (putd fr d (v')) (H) (nx)) : OO G call (⟨d, .slcL x lo hi mx sz, none⟩ :: r) K fr H nx := by
  refine ⟨?_⟩
  rw [WO_op]
  simp only [xoS, hx, hlo, hhi, hm, h, WX_some]
  exact k.out
theorem S_lenS {d : Option Nat} {r : List XOper} {x : XV} {s : List Nat} (hx : x.ev G fr = some (.str s)) (k : OO G call r K (putd fr d (.int .i64 (.ofNat s.length))) (H) (nx)) : OO G call (⟨d, .lenS x, none⟩ :: r) K fr H nx := by
  refine ⟨?_⟩
  rw [WO_op]
  simp only [xoS, hx, WX_some]
  exact k.out
theorem S_lenL0 {d : Option Nat} {r : List XOper} {x : XV} (hx : x.ev G fr = some .nilslice) (k : OO G call r K (putd fr d (.int .i64 (.ofNat 0))) (H) (nx)) : OO G call (⟨d, .lenL x, none⟩ :: r) K fr H nx := by
  refine ⟨?_⟩
  rw [WO_op]
  simp only [xoS, hx, WX_some]
  exact k.out
theorem S_lenL1 {d : Option Nat} {r : List XOper} {x : XV} {z : Nat} {es : List AV} (hx : x.ev G fr = some (.lst z es)) (k : OO G call r K (putd fr d (.int .i64 (.ofNat es.length))) (H) (nx)) : OO G call (⟨d, .lenL x, none⟩ :: r) K fr H nx := by
  refine ⟨?_⟩
  rw [WO_op]
  simp only [xoS, hx, WX_some]
  exact k.out
theorem S_lenL2 {d : Option Nat} {r : List XOper} {x : XV} {h o len z c : Nat} {e : Bool} (hx : x.ev G fr = some (.row h o len z c e)) (k : OO G call r K (putd fr d (.int .i64 (.ofNat len))) (H) (nx)) : OO G call (⟨d, .lenL x, none⟩ :: r) K fr H nx := by
  refine ⟨?_⟩
  rw [WO_op]
  simp only [xoS, hx, WX_some]
  exact k.out
theorem S_lenM {d : Option Nat} {r : List XOper} {x : XV} {h : Nat} {es : List (AV × AV)} (hx : x.ev G fr = some (.map h)) (hh : H.get h = some (.map es)) (hl : es.length ≤ maxStr) (k : OO G call r K (putd fr d (.int .i64 (.ofNat es.length))) (H) (nx)) : OO G call (⟨d, .lenM x, none⟩ :: r) K fr H nx := by
  refine ⟨?_⟩
  rw [WO_op]
  have hb : Nat.ble es.length maxStr = true := by rw [Nat.ble_eq]; exact hl
  simp only [xoS, hx, hh, hb, WX_some]
  exact k.out
theorem S_append {d : Option Nat} {r : List XOper} {x y : XV} {sz bytes nx' : Nat} {s u v : AV} {H' : Heap} (hx : x.ev G fr = some s) (hy : y.ev G fr = some u) (h : xappend H nx s u sz bytes = some (v, H', nx')) (k : OO G call r K (putd fr d (v)) (H') (nx')) : OO G call (⟨d, .append x y sz bytes, none⟩ :: r) K fr H nx := by
  refine ⟨?_⟩
  rw [WO_op]
  simp only [xoS, hx, hy, h, WX_some]
  exact k.out
theorem S_min {d : Option Nat} {r : List XOper} {x y : XV} {q : IntKind} {a b : Int} (hx : x.ev G fr = some (.int q a)) (hy : y.ev G fr = some (.int q b)) (k : OO G call r K (putd fr d (.int q (if b < a then b else a))) (H) (nx)) : OO G call (⟨d, .min x y, none⟩ :: r) K fr H nx := by
  refine ⟨?_⟩
  rw [WO_op]
  have hk : ksame q q = true := by cases q <;> rfl
  simp only [xoS, hx, hy, hk, WX_some]
  exact k.out
theorem S_max {d : Option Nat} {r : List XOper} {x y : XV} {q : IntKind} {a b : Int} (hx : x.ev G fr = some (.int q a)) (hy : y.ev G fr = some (.int q b)) (k : OO G call r K (putd fr d (.int q (if b > a then b else a))) (H) (nx)) : OO G call (⟨d, .max x y, none⟩ :: r) K fr H nx := by
  refine ⟨?_⟩
  rw [WO_op]
  have hk : ksame q q = true := by cases q <;> rfl
  simp only [xoS, hx, hy, hk, WX_some]
  exact k.out
theorem S_mkmap {d : Option Nat} {r : List XOper}   (k : OO G call r K (putd fr d (.map nx)) ((nx, .map []) :: H) (nx + 1)) : OO G call (⟨d, .mkmap, none⟩ :: r) K fr H nx := by
  refine ⟨?_⟩
  rw [WO_op]
  simp only [xoS, WX_some]
  exact k.out
theorem S_lookupS {d : Option Nat} {r : List XOper} {ag : Bool} {ks : List Kd} {m kx : XV} {z kv v : AV} {h : Nat} {es : List (AV × AV)} (hm : m.ev G fr = some (.map h)) (hk : kx.ev G fr = some kv) (ho : keyOk ag ks kv = true) (hh : H.get h = some (.map es)) (hf : mfind ag ks kv es = some (some v)) (k : OO G call r K (putd fr d (v)) (H) (nx)) : OO G call (⟨d, .lookup ag ks m kx z false, none⟩ :: r) K fr H nx := by
  refine ⟨?_⟩
  rw [WO_op]
  simp only [xoS, hm, hk, ho, hh, hf, WX_some]
  exact k.out
theorem S_lookupN {d : Option Nat} {r : List XOper} {ag : Bool} {ks : List Kd} {m kx : XV} {z kv : AV} {h : Nat} {es : List (AV × AV)} (hm : m.ev G fr = some (.map h)) (hk : kx.ev G fr = some kv) (ho : keyOk ag ks kv = true) (hh : H.get h = some (.map es)) (hf : mfind ag ks kv es = some none) (k : OO G call r K (putd fr d (z)) (H) (nx)) : OO G call (⟨d, .lookup ag ks m kx z false, none⟩ :: r) K fr H nx := by
  refine ⟨?_⟩
  rw [WO_op]
  simp only [xoS, hm, hk, ho, hh, hf, WX_some]
  exact k.out
theorem S_mupd {d : Option Nat} {r : List XOper} {ag : Bool} {ks : List Kd} {m kx v : XV} {kv vv : AV} {h : Nat} {es es' : List (AV × AV)} (hm : m.ev G fr = some (.map h)) (hk : kx.ev G fr = some kv) (hv : v.ev G fr = some vv) (ho : keyOk ag ks kv = true) (hh : H.get h = some (.map es)) (hp : mput ag ks kv vv es = some es') (k : OO G call r K (putd fr d (.tup [])) (H.put h (.map es')) (nx)) : OO G call (⟨d, .mupd ag ks m kx v, none⟩ :: r) K fr H nx := by
  refine ⟨?_⟩
  rw [WO_op]
  simp only [xoS, hm, hk, hv, ho, hh, hp, WX_some]
  exact k.out
theorem S_del {d : Option Nat} {r : List XOper} {ag : Bool} {ks : List Kd} {m kx : XV} {kv : AV} {h : Nat} {es es' : List (AV × AV)} (hm : m.ev G fr = some (.map h)) (hk : kx.ev G fr = some kv) (ho : keyOk ag ks kv = true) (hh : H.get h = some (.map es)) (hp : mdel ag ks kv es = some es') (k : OO G call r K (putd fr d (.tup [])) (H.put h (.map es')) (nx)) : OO G call (⟨d, .del ag ks m kx, none⟩ :: r) K fr H nx := by
  refine ⟨?_⟩
  rw [WO_op]
  simp only [xoS, hm, hk, ho, hh, hp, WX_some]
  exact k.out
theorem S_mkfunc {d : Option Nat} {r : List XOper} {fn : Fn} {first caps : List XV} {a b : List AV} (ha : evs G fr first = some a) (hb : evs G fr caps = some b) (k : OO G call r K (putd fr d (.func fn a b)) (H) (nx)) : OO G call (⟨d, .mkfunc fn first caps, none⟩ :: r) K fr H nx := by
  refine ⟨?_⟩
  rw [WO_op]
  simp only [xoS, ha, hb, WX_some]
  exact k.out
theorem S_mkif {d : Option Nat} {r : List XOper} {t : Nat} {x : XV} {v : AV} (hx : x.ev G fr = some v) (k : OO G call r K (putd fr d (.iface t v)) (H) (nx)) : OO G call (⟨d, .mkif t x, none⟩ :: r) K fr H nx := by
  refine ⟨?_⟩
  rw [WO_op]
  simp only [xoS, hx, WX_some]
  exact k.out
theorem S_call {d : Option Nat} {r : List XOper} {f nx' : Nat} {args : List XV} {vs : List AV} {v : AV} {H' : Heap} (ha : evs G fr args = some vs) (h : call f vs H nx = some (v, H', nx')) (k : OO G call r K (putd fr d (v)) (H') (nx')) : OO G call (⟨d, .call f args, none⟩ :: r) K fr H nx := by
  refine ⟨?_⟩
  rw [WO_op]
  simp only [xoS, ha, h, WX_some]
  exact k.out
theorem S_callv {d : Option Nat} {r : List XOper} {nx' : Nat} {f : XV} {args : List XV} {vs : List AV} {v fv : AV} {H' : Heap} (hf : f.ev G fr = some fv) (ha : evs G fr args = some vs) (h : applyf call H nx vs fv = some (v, H', nx')) (k : OO G call r K (putd fr d (v)) (H') (nx')) : OO G call (⟨d, .callv f args, none⟩ :: r) K fr H nx := by
  refine ⟨?_⟩
  rw [WO_op]
  simp only [xoS, hf, ha, h, WX_some]
  exact k.out
theorem X_mov {x : XV} {v : AV} (hx : x.ev G fr = some v) : xoS G call fr H nx (.mov x) = some (v, H, nx) := by
  simp only [xoS, hx]
theorem X_pickT {c a b : XV} {v : AV} (hc : c.ev G fr = some (.bool true)) (ha : a.ev G fr = some v) : xoS G call fr H nx (.pick c a b) = some (v, H, nx) := by
  simp only [xoS, hc, ha]
theorem X_pickF {c a b : XV} {v : AV} (hc : c.ev G fr = some (.bool false)) (ha : b.ev G fr = some v) : xoS G call fr H nx (.pick c a b) = some (v, H, nx) := by
  simp only [xoS, hc, ha]
theorem X_bin {op : BinOp} {x y : XV} {a b v : AV} (hx : x.ev G fr = some a) (hy : y.ev G fr = some b) (h : xbin op a b = some v) : xoS G call fr H nx (.bin op x y) = some (v, H, nx) := by
  simp only [xoS, hx, hy, h]
theorem X_un {op : UnOp} {x : XV} {a v : AV} (hx : x.ev G fr = some a) (h : xun op a = some v) : xoS G call fr H nx (.un op x) = some (v, H, nx) := by
  simp only [xoS, hx, h]
theorem X_beq {neg : Bool} {x y : XV} {a b : Bool} (hx : x.ev G fr = some (.bool a)) (hy : y.ev G fr = some (.bool b)) : xoS G call fr H nx (.beq neg x y) = some (bneg neg (a == b), H, nx) := by
  simp only [xoS, hx, hy]
theorem X_peq {neg : Bool} {x y : XV} {a b : AV} {v : Bool} (hx : x.ev G fr = some a) (hy : y.ev G fr = some b) (h : xpeq H a b = some v) : xoS G call fr H nx (.peq neg x y) = some (bneg neg v, H, nx) := by
  simp only [xoS, hx, hy, h]
theorem X_aeq {neg : Bool} {ks : List Kd} {x y : XV} {a b : List AV} {v : Bool} (hx : x.ev G fr = some (.agg a)) (hy : y.ev G fr = some (.agg b)) (h : eqs ks a b = some v) : xoS G call fr H nx (.aeq neg ks x y) = some (bneg neg v, H, nx) := by
  simp only [xoS, hx, hy, h]
theorem X_ieq {neg lit : Bool} {kt : Nat → Option Kd} {x y : XV} {a b : AV} {v : Bool} (hx : x.ev G fr = some a) (hy : y.ev G fr = some b) (h : xieq lit kt a b = some v) : xoS G call fr H nx (.ieq neg lit kt x y) = some (bneg neg v, H, nx) := by
  simp only [xoS, hx, hy, h]
theorem X_seq {neg : Bool} {x y : XV} {a b : AV} {v : Bool} (hx : x.ev G fr = some a) (hy : y.ev G fr = some b) (h : xseq a b = some v) : xoS G call fr H nx (.seq neg x y) = some (bneg neg v, H, nx) := by
  simp only [xoS, hx, hy, h]
theorem X_conv {q q' : IntKind} {x : XV} {n : Int} (hx : x.ev G fr = some (.int q' n)) : xoS G call fr H nx (.conv q x) = some (.int q (wrapx q n), H, nx) := by
  simp only [xoS, hx]
theorem X_b2s {x : XV} {v : AV} {n : Nat} {cs : List AV} {s : List Nat} (hx : x.ev G fr = some v) (hn : notStr v = true) (hc : content H 1 v = some (n, cs)) (hb : toBytes cs = some s) : xoS G call fr H nx (.b2s x) = some (.str s, H, nx) := by
  cases v with
  | str s => simp [notStr] at hn
  | _ => simp only [xoS, hx, hc, hb]
theorem X_s2s {x : XV} {s : List Nat} (hx : x.ev G fr = some (.str s)) : xoS G call fr H nx (.s2s x) = some (.str s, H, nx) := by
  simp only [xoS, hx]
theorem X_idxb {x c : XV} {s : List Nat} {b : Nat} (hx : x.ev G fr = some (.str s)) (hc : c.ev G fr = some (.int .u8 (.ofNat b))) : xoS G call fr H nx (.idxb x c) = some (.int .i64 (bidx b 0 s), H, nx) := by
  simp only [xoS, hx, hc]
theorem X_fld {x : XV} {off sz : Nat} {ag : Bool} {cs : List AV} {v : AV} (hx : x.ev G fr = some (.agg cs)) (h : part cs off sz ag = some v) : xoS G call fr H nx (.fld x off sz ag) = some (v, H, nx) := by
  simp only [xoS, hx, h]
theorem X_ext {x : XV} {i : Nat} {vs : List AV} {v : AV} (hx : x.ev G fr = some (.tup vs)) (h : vs[i]? = some v) : xoS G call fr H nx (.ext x i) = some (v, H, nx) := by
  simp only [xoS, hx, h]
theorem X_idxS {x i : XV} {s : List Nat} {q : IntKind} {n b : Nat} (hx : x.ev G fr = some (.str s)) (hi : i.ev G fr = some (.int q (.ofNat n))) (h : s[n]? = some b) : xoS G call fr H nx (.idxS x i) = some (.int .u8 (.ofNat b), H, nx) := by
  simp only [xoS, hx, hi, h]
theorem X_build {z cs : List AV} {ps : List (Nat × Nat × XV)} (h : fillx G fr z ps = some cs) : xoS G call fr H nx (.build z ps) = some (.agg cs, H, nx) := by
  simp only [xoS, h]
theorem X_load {x : XV} {sz : Nat} {ag : Bool} {a v : AV} (hx : x.ev G fr = some a) (h : xload H sz ag a = some v) : xoS G call fr H nx (.load x sz ag) = some (v, H, nx) := by
  simp only [xoS, hx, h]
theorem X_nilchkP {x : XV} {h o : Nat} (hx : x.ev G fr = some (.ptr h o)) : xoS G call fr H nx (.nilchk x) = some (.ptr h o, H, nx) := by
  simp only [xoS, hx]
theorem X_nilchkE {x : XV} {e : AV} {o : Nat} (hx : x.ev G fr = some (.eptr e o)) : xoS G call fr H nx (.nilchk x) = some (.eptr e o, H, nx) := by
  simp only [xoS, hx]
theorem X_nilchkI {x : XV} {t : Nat} {v : AV} (hx : x.ev G fr = some (.iface t v)) : xoS G call fr H nx (.nilchk x) = some (.iface t v, H, nx) := by
  simp only [xoS, hx]
theorem X_nilchkF {x : XV} {f : Nat} {a b : List AV} (hx : x.ev G fr = some (.func (.func f) a b)) : xoS G call fr H nx (.nilchk x) = some (.func (.func f) a b, H, nx) := by
  simp only [xoS, hx]
theorem X_faddrP {x : XV} {off h o : Nat} (hx : x.ev G fr = some (.ptr h o)) : xoS G call fr H nx (.faddr x off) = some (.ptr h (o + off), H, nx) := by
  simp only [xoS, hx]
theorem X_faddrE {x : XV} {off o : Nat} {e : AV} (hx : x.ev G fr = some (.eptr e o)) : xoS G call fr H nx (.faddr x off) = some (.eptr e (o + off), H, nx) := by
  simp only [xoS, hx]
theorem X_iaddrL {x i : XV} {sz n : Nat} {es : List AV} {q : IntKind} {e : AV} (hx : x.ev G fr = some (.lst sz es)) (hi : i.ev G fr = some (.int q (.ofNat n))) (h : es[n]? = some e) : xoS G call fr H nx (.iaddrS x i sz) = some (.eptr e 0, H, nx) := by
  have hb : Nat.beq sz sz = true := Nat.beq_refl sz
  simp only [xoS, hx, hi, hb, idx, h]
theorem X_iaddrR {x i : XV} {sz n h off len cp : Nat} {ex : Bool} {q : IntKind} (hx : x.ev G fr = some (.row h off len sz cp ex)) (hi : i.ev G fr = some (.int q (.ofNat n))) (hl : n < len) : xoS G call fr H nx (.iaddrS x i sz) = some (.ptr h (off + n * sz), H, nx) := by
  have hb : Nat.beq sz sz = true := Nat.beq_refl sz
  have hb2 : Nat.blt n len = true := by rw [Nat.blt_eq]; exact hl
  simp only [xoS, hx, hi, hb, idxLt, hb2]
theorem X_slcS {x : XV} {lo hi : Option XV} {s : List Nat} {l u : Option AV} {p q : Nat} (hx : x.ev G fr = some (.str s)) (hlo : evo G fr lo = some l) (hhi : evo G fr hi = some u) (h1 : bnd u s.length s.length = some q) (h2 : bnd l 0 q = some p) : xoS G call fr H nx (.slcS x lo hi) = some (.str ((s.take q).drop p), H, nx) := by
  simp only [xoS, hx, hlo, hhi, h1, h2]
theorem X_slcL {x : XV} {lo hi mx : Option XV} {sz : Nat} {v v' : AV} {l u m : Option AV} (hx : x.ev G fr = some v) (hlo : evo G fr lo = some l) (hhi : evo G fr hi = some u) (hm : evo G fr mx = some m) (h : xslice sz l u m v = some v') : xoS G call fr H nx (.slcL x lo hi mx sz) = some (v', H, nx) := by
  simp only [xoS, hx, hlo, hhi, hm, h]
theorem X_lenS {x : XV} {s : List Nat} (hx : x.ev G fr = some (.str s)) : xoS G call fr H nx (.lenS x) = some (.int .i64 (.ofNat s.length), H, nx) := by
  simp only [xoS, hx]
theorem X_lenL0 {x : XV} (hx : x.ev G fr = some .nilslice) : xoS G call fr H nx (.lenL x) = some (.int .i64 (.ofNat 0), H, nx) := by
  simp only [xoS, hx]
theorem X_lenL1 {x : XV} {z : Nat} {es : List AV} (hx : x.ev G fr = some (.lst z es)) : xoS G call fr H nx (.lenL x) = some (.int .i64 (.ofNat es.length), H, nx) := by
  simp only [xoS, hx]
theorem X_lenL2 {x : XV} {h o len z c : Nat} {e : Bool} (hx : x.ev G fr = some (.row h o len z c e)) : xoS G call fr H nx (.lenL x) = some (.int .i64 (.ofNat len), H, nx) := by
  simp only [xoS, hx]
theorem X_lenM {x : XV} {h : Nat} {es : List (AV × AV)} (hx : x.ev G fr = some (.map h)) (hh : H.get h = some (.map es)) (hl : es.length ≤ maxStr) : xoS G call fr H nx (.lenM x) = some (.int .i64 (.ofNat es.length), H, nx) := by
  have hb : Nat.ble es.length maxStr = true := by rw [Nat.ble_eq]; exact hl
  simp only [xoS, hx, hh, hb]
theorem X_min {x y : XV} {q : IntKind} {a b : Int} (hx : x.ev G fr = some (.int q a)) (hy : y.ev G fr = some (.int q b)) : xoS G call fr H nx (.min x y) = some (.int q (if b < a then b else a), H, nx) := by
  have hk : ksame q q = true := by cases q <;> rfl
  simp only [xoS, hx, hy, hk]
theorem X_max {x y : XV} {q : IntKind} {a b : Int} (hx : x.ev G fr = some (.int q a)) (hy : y.ev G fr = some (.int q b)) : xoS G call fr H nx (.max x y) = some (.int q (if b > a then b else a), H, nx) := by
  have hk : ksame q q = true := by cases q <;> rfl
  simp only [xoS, hx, hy, hk]
theorem X_lookupS {ag : Bool} {ks : List Kd} {m kx : XV} {z kv v : AV} {h : Nat} {es : List (AV × AV)} (hm : m.ev G fr = some (.map h)) (hk : kx.ev G fr = some kv) (ho : keyOk ag ks kv = true) (hh : H.get h = some (.map es)) (hf : mfind ag ks kv es = some (some v)) : xoS G call fr H nx (.lookup ag ks m kx z false) = some (v, H, nx) := by
  simp only [xoS, hm, hk, ho, hh, hf]
theorem X_lookupN {ag : Bool} {ks : List Kd} {m kx : XV} {z kv : AV} {h : Nat} {es : List (AV × AV)} (hm : m.ev G fr = some (.map h)) (hk : kx.ev G fr = some kv) (ho : keyOk ag ks kv = true) (hh : H.get h = some (.map es)) (hf : mfind ag ks kv es = some none) : xoS G call fr H nx (.lookup ag ks m kx z false) = some (z, H, nx) := by
  simp only [xoS, hm, hk, ho, hh, hf]
theorem X_mkfunc {fn : Fn} {first caps : List XV} {a b : List AV} (ha : evs G fr first = some a) (hb : evs G fr caps = some b) : xoS G call fr H nx (.mkfunc fn first caps) = some (.func fn a b, H, nx) := by
  simp only [xoS, ha, hb]
theorem X_mkif {t : Nat} {x : XV} {v : AV} (hx : x.ev G fr = some v) : xoS G call fr H nx (.mkif t x) = some (.iface t v, H, nx) := by
  simp only [xoS, hx]
theorem X_call {f : Nat} {args : List XV} {vs : List AV} {v : AV} (ha : evs G fr args = some vs) (h : call f vs H nx = some (v, H, nx)) : xoS G call fr H nx (.call f args) = some (v, H, nx) := by
  simp only [xoS, ha, h]
theorem xbin_add1 {m : Nat} (h : m + 1 ≤ 9223372036854775807) : xbin .add (.int .i64 (.ofNat m)) (.int .i64 1) = some (.int .i64 (.ofNat (m + 1))) := by
  show some (AV.int .i64 (wrapx .i64 (.ofNat m + 1))) = _
  rw [ofNat_add1, wrapx_i64 h]
theorem xbin_cat {a b : List Nat} (h : a.length + b.length ≤ maxStr) : xbin .add (.str a) (.str b) = some (.str (a ++ b)) := by
  have hb : Nat.ble (a.length + b.length) maxStr = true := by rw [Nat.ble_eq]; exact h
  simp only [xbin, hb]
theorem nbeq_lit (a b : Nat) : Nat.beq a b = (a == b) := by
  cases h : Nat.beq a b with
  | true => rw [nbeq_true h]; simp
  | false => simp [nbeq_false h]
theorem nble_lit (a b : Nat) : Nat.ble a b = decide (a ≤ b) := by
  by_cases h : a ≤ b
  · rw [decide_eq_true h, Nat.ble_eq]; exact h
  · rw [decide_eq_false h, Bool.eq_false_iff, ne_eq, Nat.ble_eq]; exact h
theorem S_gdT {d : Option Nat} {op : XO} {t : Nat} {b : Bool} {r : List XOper} (hg : fr.get t = some (.bool b)) (k : OO G call (⟨d, op, none⟩ :: r) K fr H nx) : OO G call (⟨d, op, some (t, b)⟩ :: r) K fr H nx := by
  refine ⟨?_⟩
  rw [WO_gd, hg, condG_bool]
  exact ⟨fun _ => k.out, fun h => by cases b <;> cases h⟩
theorem S_gdF {d : Option Nat} {op : XO} {t : Nat} {r : List XOper} (hg : fr.get t = some (.bool true)) (k : OO G call r K (putd fr d (.tup [])) H nx) : OO G call (⟨d, op, some (t, false)⟩ :: r) K fr H nx := by
  refine ⟨?_⟩
  rw [WO_gd, hg, condG_not1]; exact k.out
theorem S_gdN {d : Option Nat} {op : XO} {t : Nat} {r : List XOper} (hg : fr.get t = some (.bool false)) (k : OO G call r K (putd fr d (.tup [])) H nx) : OO G call (⟨d, op, some (t, true)⟩ :: r) K fr H nx := by
  refine ⟨?_⟩
  rw [WO_gd, hg, condG_not2]; exact k.out
theorem S_gdU {d : Option Nat} {op : XO} {t : Nat} {b : Bool} {r : List XOper} (hg : fr.get t = some (.tup [])) (k : OO G call r K (putd fr d (.tup [])) H nx) : OO G call (⟨d, op, some (t, b)⟩ :: r) K fr H nx := by
  refine ⟨?_⟩
  rw [WO_gd, hg, condG_tup]; exact k.out
/-- A test of which nothing is known yet: both ways. -/
theorem S_gd2f {d : Option Nat} {op : XO} {t : Nat} {c : Bool} {r : List XOper} (hg : fr.get t = some (.bool c)) (k1 : c = false → OO G call (⟨d, op, none⟩ :: r) K fr H nx) (k2 : c = true → OO G call r K (putd fr d (.tup [])) H nx) : OO G call (⟨d, op, some (t, false)⟩ :: r) K fr H nx := by
  refine ⟨?_⟩
  rw [WO_gd, hg, condG_bool]; exact ⟨fun h => (k1 h).out, fun h => (k2 h).out⟩
theorem S_gd2t {d : Option Nat} {op : XO} {t : Nat} {c : Bool} {r : List XOper} (hg : fr.get t = some (.bool c)) (k1 : c = true → OO G call (⟨d, op, none⟩ :: r) K fr H nx) (k2 : c = false → OO G call r K (putd fr d (.tup [])) H nx) : OO G call (⟨d, op, some (t, true)⟩ :: r) K fr H nx := by
  refine ⟨?_⟩
  rw [WO_gd, hg, condG_bool]; exact ⟨fun h => (k1 h).out, fun h => (k2 h).out⟩
theorem S_pick2 {d : Option Nat} {c a b : XV} {q : Bool} {r : List XOper} (hc : c.ev G fr = some (.bool q)) (k1 : q = true → OO G call (⟨d, .mov a, none⟩ :: r) K fr H nx) (k2 : q = false → OO G call (⟨d, .mov b, none⟩ :: r) K fr H nx) : OO G call (⟨d, .pick c a b, none⟩ :: r) K fr H nx := by
  refine ⟨?_⟩
  cases q with
  | true => have := (k1 rfl).out; rw [WO_op] at this ⊢; simp only [xoS, hc]; exact this
  | false => have := (k2 rfl).out; rw [WO_op] at this ⊢; simp only [xoS, hc]; exact this
theorem C_skip (k : Q .normal fr H nx) : CC G call .skip Q fr H nx := ⟨k⟩
theorem C_reg {ops : List XOper} (k : OO G call ops (Q .normal) fr H nx) : CC G call (.reg ops) Q fr H nx := ⟨k.out⟩
theorem C_seq {a b : XC} (k : CC G call a (thenQ Q (CC G call b Q)) fr H nx) : CC G call (.seq a b) Q fr H nx := ⟨by
  rw [WC_seq]
  refine WC_mono (fun x fr H nx h => ?_) _ k.out
  cases x with
  | normal => exact CC.out h
  | exit i => exact h
  | ret => exact h⟩
theorem C_condT {c : XV} {a b : XC} (hc : c.ev G fr = some (.bool true)) (k : CC G call a Q fr H nx) : CC G call (.cond c a b) Q fr H nx := ⟨by rw [WC_cond, hc]; exact k.out⟩
theorem C_condF {c : XV} {a b : XC} (hc : c.ev G fr = some (.bool false)) (k : CC G call b Q fr H nx) : CC G call (.cond c a b) Q fr H nx := ⟨by rw [WC_cond, hc]; exact k.out⟩
theorem C_cond2 {c : XV} {a b : XC} {q : Bool} (hc : c.ev G fr = some (.bool q)) (k1 : q = true → CC G call a Q fr H nx) (k2 : q = false → CC G call b Q fr H nx) : CC G call (.cond c a b) Q fr H nx := ⟨by rw [WC_cond, hc, condK_bool]; exact ⟨fun h => (k1 h).out, fun h => (k2 h).out⟩⟩
theorem C_block {id : Nat} {b : XC} (k : CC G call b (blockQ id Q) fr H nx) : CC G call (.block id b) Q fr H nx := ⟨k.out⟩
theorem C_exit {i : Nat} (k : Q (.exit i) fr H nx) : CC G call (.exit i) Q fr H nx := ⟨k⟩
theorem C_ret (k : Q .ret fr H nx) : CC G call .ret Q fr H nx := ⟨k⟩
theorem C_loop {b : XC} (I : Nat → Fr → Heap → Nat → Prop) (n : Nat) (h0 : I n fr H nx) (hI : ∀ n fr H nx, I n fr H nx → CC G call b (loopQ Q I n) fr H nx) : CC G call (.loop b) Q fr H nx := ⟨WC_loop I n h0 fun n fr H nx h => (hI n fr H nx h).out⟩
theorem C_draw {ops : List XOper} {ds : List XD} {s : St} (h : runDraw G call ops ds (fr, H, nx) = some s) (k : Q .normal s.1 s.2.1 s.2.2) : CC G call (.draw ops ds) Q fr H nx := ⟨by rw [WC_draw, h]; exact k⟩
theorem O_cut {ops : List XOper} (K' : Fr → Heap → Nat → Prop) (k : OO G call ops (fun fr H nx => Here (K' fr H nx)) fr H nx) (h : ∀ fr H nx, K' fr H nx → K fr H nx) : OO G call ops K fr H nx := ⟨WO_mono (fun fr H nx q => h fr H nx q.out) k.out⟩
theorem O_nil (k : K fr H nx) : OO G call [] K fr H nx := ⟨k⟩
theorem T_n {L : Fr → Heap → Nat → Prop} (k : L fr H nx) : thenQ Q L .normal fr H nx := k
theorem T_r {L : Fr → Heap → Nat → Prop} (k : Q .ret fr H nx) : thenQ Q L .ret fr H nx := k
theorem T_e {L : Fr → Heap → Nat → Prop} {i : Nat} (k : Q (.exit i) fr H nx) : thenQ Q L (.exit i) fr H nx := k
theorem B_n {id : Nat} (k : Q .normal fr H nx) : blockQ id Q .normal fr H nx := k
theorem B_r {id : Nat} (k : Q .ret fr H nx) : blockQ id Q .ret fr H nx := k
theorem B_e {id : Nat} (k : Q .normal fr H nx) : blockQ id Q (.exit id) fr H nx := by rw [blockQ_e, if_pos rfl]; exact k
theorem B_o {id i : Nat} (hne : Nat.beq i id = false) (k : Q (.exit i) fr H nx) : blockQ id Q (.exit i) fr H nx := by rw [blockQ_e, if_neg (nbeq_false hne)]; exact k
theorem L_r {I : Nat → Fr → Heap → Nat → Prop} {n : Nat} (k : Q .ret fr H nx) : loopQ Q I n .ret fr H nx := k
theorem L_e {I : Nat → Fr → Heap → Nat → Prop} {n i : Nat} (k : Q (.exit i) fr H nx) : loopQ Q I n (.exit i) fr H nx := k
theorem L_n {I : Nat → Fr → Heap → Nat → Prop} {n : Nat} (k : Again I n fr H nx) : loopQ Q I n .normal fr H nx := k.out
theorem E_n {res : List XR} {R : AV → Heap → Nat → Prop} (k : EE res R fr H nx) : endQ res R .normal fr H nx := by rw [endQ_n]; exact k.out
theorem E_r {res : List XR} {R : AV → Heap → Nat → Prop} (k : EE res R fr H nx) : endQ res R .ret fr H nx := by rw [endQ_r]; exact k.out
theorem E_mk {res : List XR} {R : AV → Heap → Nat → Prop} {vs : List AV} (h : ress H fr res = some vs) (k : Here (R (oneOr vs) H nx)) : EE res R fr H nx := ⟨by rw [h]; exact k.out⟩
end
end Go.Sy

/- Regions that draw their order, where nothing is written: they run as they stand. No condition. -/
namespace Go.Sy
set_option linter.unusedVariables false
set_option linter.unusedSimpArgs false
/-- Values of at most so many layers. -/
def deepB : Nat → AV → Bool
  | 0, _ => false
  | d + 1, v => match v with
    | .bool _ | .int _ _ | .str _ | .nilptr | .ptr _ _ | .nilslice | .row _ _ _ _ _ _ | .nilmap | .map _ | .nilfunc | .niliface | .sym _ => true
    | .eptr e _ => deepB d e
    | .lst _ es => es.all (deepB d)
    | .func (.func _) a b => a.all (deepB d) && b.all (deepB d)
    | .iface _ v => deepB d v
    | .agg cs => cs.all (deepB d)
    | .tup cs => cs.all (deepB d)
    | _ => false
theorem seqb_refl (a : List Nat) : seqb a a = true := by rw [seqb_dec]; simp
theorem allb_refl {d : Nat} (h : ∀ v, deepB d v = true → aeq d v v = true) : ∀ l : List AV, l.all (deepB d) = true → allb (aeq d) l l = true
  | [], _ => rfl
  | a :: r, hl => by
    rw [List.all_cons, Bool.and_eq_true] at hl
    simp only [allb, h a hl.1]
    exact allb_refl h r hl.2
theorem aeq_refl : ∀ (d : Nat) (v : AV), deepB d v = true → aeq d v v = true := by
  intro d
  induction d with
  | zero => intro v h; cases h
  | succ d ih =>
    intro v h
    have hn : ∀ n : Nat, Nat.beq n n = true := Nat.beq_refl
    cases v with
    | bool b => cases b <;> rfl
    | int k n =>
      have : ksame k k = true := by cases k <;> rfl
      simp [aeq, this]
    | str s => exact seqb_refl s
    | nilptr => rfl
    | ptr h o => simp [aeq, hn]
    | eptr e o =>
      have := ih e h
      simp [aeq, hn, this]
    | nilslice => rfl
    | lst z es =>
      have := allb_refl ih es h
      simp [aeq, hn, this]
    | row a b c e f g => simp [aeq, hn]
    | nilmap => rfl
    | map h => simp [aeq, hn]
    | nilfunc => rfl
    | func f a b =>
      cases f with
      | func f =>
        have h : (a.all (deepB d) && b.all (deepB d)) = true := h
        rw [Bool.and_eq_true] at h
        simp [aeq, hn, allb_refl ih a h.1, allb_refl ih b h.2]
      | _ => simp [deepB] at h
    | niliface => rfl
    | iface t v =>
      have := ih v h
      simp [aeq, hn, this]
    | agg cs => exact allb_refl ih cs h
    | tup cs => exact allb_refl ih cs h
    | sym i => simp [aeq, hn]
section
variable {G : Cx} {call : Call} {fr : Fr} {H : Heap} {nx : Nat}
theorem xo_zero {o : XO} (hk : kindOf o = 0) : xoS G call fr H nx o = match xoS G noCall fr [] nx o with | some (v, _, n) => some (v, H, n) | none => none := by
  cases o <;> first | (simp [kindOf] at hk; done) | (simp only [xoS]; repeat' split) <;> first | rfl | simp_all
theorem xo_one {o : XO} (hk : kindOf o = 1) : xoS G call fr H nx o = xoS G noCall fr H nx o := by
  cases o <;> first | (simp [kindOf] at hk; done) | rfl
/-- A call that leaves memory as it is. -/
def Calm (call : Call) : Prop := ∀ f args H nx v H' nx', call f args H nx = some (v, H', nx') → H' = H ∧ nx' = nx
theorem callP_calm : ∀ t : Tbl, Calm (callP t)
  | [], f, args, H, nx, v, H', nx', h => by cases h
  | s :: r, f, args, H, nx, v, H', nx', h => by
    simp only [callP] at h
    split at h
    · split at h
      · cases h; exact ⟨rfl, rfl⟩
      · cases h
    · exact callP_calm r _ _ _ _ _ _ _ h
/-- One after the other; nothing is written. -/
def WS (G : Cx) (call : Call) : List XOper → (Fr → Prop) → Fr → Heap → Nat → Prop
  | [], K, fr, H, nx => K fr
  | o :: r, K, fr, H, nx => o.guard = none ∧ ∃ v, xoS G call fr H nx o.op = some (v, H, nx) ∧ deepB 40 v = true ∧ WS G call r K (putd fr o.dst v) H nx
def isCall : XO → Bool
  | .call _ _ => true
  | _ => false
def coverB : List XOper → List XD → Bool
  | [], _ => true
  | o :: r, d :: ds => (tmpsX o.op.opnds).all (fun t => inN t d.looks) && (Nat.ble (kindOf o.op) 1 || isCall o.op) && coverB r ds
  | _ :: _, [] => false
def chainB : Nat → List Nat → List XOper → List XD → Bool
  | _, _, [], _ => true
  | i, ch, o :: r, d :: ds => match isCall o.op with
    | false => chainB (i + 1) ch r ds
    | true => ch.all (fun c => d.preds.testBit c) && chainB (i + 1) (i :: ch) r ds
  | _, _, _ :: _, [] => false
theorem only_none : ∀ {ts : List Nat} {t : Nat}, fr.get t = none → (only ts fr).get t = none
  | [], t, h => rfl
  | a :: ts, t, h => by
    simp only [only]
    split
    · rename_i v hv
      simp only [Fr.get]
      have : Nat.beq a t = false := by
        cases hb : Nat.beq a t with
        | false => rfl
        | true => rw [nbeq_true hb, h] at hv; cases hv
      rw [this]
      exact only_none h
    · exact only_none h
theorem only_some : ∀ {ts : List Nat} {t : Nat} {v : AV}, inN t ts = true → fr.get t = some v → (only ts fr).get t = some v
  | [], t, v, h, _ => by cases h
  | a :: ts, t, v, h, hv => by
    simp only [only]
    by_cases e : t = a
    · subst e
      have hb : Nat.beq t t = true := Nat.beq_refl t
      simp only [hv, Fr.get, hb]
    · have h1 : Nat.beq t a = false := by
        cases hb : Nat.beq t a with
        | false => rfl
        | true => exact absurd (nbeq_true hb) e
      have h2 : Nat.beq a t = false := by
        cases hb : Nat.beq a t with
        | false => rfl
        | true => exact absurd (nbeq_true hb).symm e
      simp only [inN, h1] at h
      split
      · simp only [Fr.get, h2]; exact only_some h hv
      · exact only_some h hv
theorem only_eq {ts : List Nat} {t : Nat} (h : inN t ts = true) : (only ts fr).get t = fr.get t := by
  cases hv : fr.get t with
  | none => exact only_none hv
  | some v => exact only_some h hv
theorem xo_only {o : XO} {ts : List Nat} (h : (tmpsX o.opnds).all (fun t => inN t ts) = true) (call : Call) (H : Heap) (nx : Nat) : xo G call (only ts fr) H nx o = xoS G call fr H nx o := by
  rw [← xo_eq]
  refine xo_agree fun x hx => ?_
  cases x with
  | t n => exact only_eq (List.all_eq_true.1 h n (tmpsX_mem hx))
  | _ => rfl
structure SI (G : Cx) (H : Heap) (nx : Nat) (fr : Fr) (s : DS) (ch : List Nat) : Prop where
  efr : s.fr = fr
  enx : s.nx = nx
  eal : s.al = []
  ech : s.ch.map (·.1) = ch
  ems : s.ms = List.replicate (ch.length + 1) (H, 0)
  erd : ∀ r ∈ s.rd, readAt G [] nx r H 0 = true
theorem drawOps_seq : ∀ (ops : List XOper) (ds : List XD) (i : Nat) (ch : List Nat) {K : Fr → Prop} {fr : Fr} {s : DS}, WS G call ops K fr H nx → coverB ops ds = true → chainB i ch ops ds = true → SI G H nx fr s ch →
    ∃ s' ch', drawOps G call i ops ds s = some s' ∧ SI G H nx s'.fr s' ch' ∧ K s'.fr
  | [], ds, i, ch, K, fr, s, hw, _, _, hs => by
    refine ⟨s, ch, by cases ds <;> rfl, ?_, ?_⟩
    · exact { hs with efr := rfl }
    · rw [hs.efr]; exact hw
  | o :: r, [], i, ch, K, fr, s, hw, hc, _, hs => by cases hc
  | o :: r, d :: ds, i, ch, K, fr, s, hw, hc, hch, hs => by
    obtain ⟨hg, v, hx, hd, hw⟩ := hw
    simp only [coverB, Bool.and_eq_true] at hc
    obtain ⟨⟨c1, c2⟩, c3⟩ := hc
    obtain ⟨e1, e2, e3, e4, e5, e6⟩ := hs
    have hxo : ∀ (call : Call) (H : Heap), xo G call (only d.looks s.fr) H s.nx o.op = xoS G call fr H nx o.op := fun call H => by rw [e1, e2]; exact xo_only c1 call H nx
    have hms : ∃ rest, s.ms = (H, 0) :: rest := ⟨_, by rw [e5]; rfl⟩
    obtain ⟨rest, hms⟩ := hms
    simp only [drawOps, drawOp, hg, wantx]
    by_cases h0 : kindOf o.op = 0
    · have hcl : isCall o.op = false := by
        cases ho : o.op <;> first | rfl | (rw [ho] at h0; simp [kindOf] at h0)
      have h1 := xo_zero (G := G) (call := call) (fr := fr) (H := H) (nx := nx) h0
      have h2 := xo_zero (G := G) (call := noCall) (fr := fr) (H := []) (nx := nx) h0
      rw [hx] at h1
      cases hz : xoS G noCall fr [] nx o.op with
      | none => rw [hz] at h1; cases h1
      | some t =>
        obtain ⟨v', H', n'⟩ := t
        rw [hz] at h1 h2
        simp only [Option.some.injEq, Prod.mk.injEq] at h1 h2
        obtain ⟨rfl, _, rfl⟩ := h1
        obtain ⟨_, rfl, _⟩ := h2
        have hb : Nat.beq nx s.nx = true := by rw [e2]; exact Nat.beq_refl nx
        simp only [h0, hxo, hz, hb]
        simp only [chainB, hcl] at hch
        exact drawOps_seq r ds (i + 1) ch hw c3 hch ⟨by simp only [e1], e2, e3, e4, e5, e6⟩
    · by_cases h1 : kindOf o.op = 1
      · have hcl : isCall o.op = false := by
          cases ho : o.op <;> first | rfl | (rw [ho] at h1; simp [kindOf] at h1)
        have h2 := xo_one (G := G) (call := call) (fr := fr) (H := H) (nx := nx) h1
        rw [hx] at h2
        simp only [h1, hms, e3, within, List.nil_append, hxo, ← h2]
        simp only [chainB, hcl] at hch
        refine drawOps_seq r ds (i + 1) ch hw c3 hch ⟨by simp only [e1], e2, rfl, e4, by rw [← hms]; exact e5, fun q hq => ?_⟩
        rcases List.mem_cons.1 hq with rfl | hq
        · have h3 := hxo noCall H
          rw [e2] at h3
          simp only [readAt, within, List.nil_append, h3, ← h2]
          exact aeq_refl 40 v hd
        · exact e6 q hq
      · have hcl : isCall o.op = true := by
          have : Nat.ble (kindOf o.op) 1 = false := by
            cases hb : Nat.ble (kindOf o.op) 1 with
            | false => rfl
            | true => have := Nat.le_of_ble_eq_true hb; omega
          rw [this] at c2
          simpa using c2
        have h3 : kindOf o.op = 3 := by
          cases ho : o.op <;> first | rfl | (rw [ho] at hcl; cases hcl)
        simp only [chainB, hcl, Bool.and_eq_true] at hch
        have hall : (s.ch.all fun c => d.preds.testBit c.1) = true := by
          have := hch.1
          rw [← e4, List.all_map] at this
          exact this
        simp only [h3, hms, hall, e3, within, List.nil_append, hxo, hx, maskOf]
        refine drawOps_seq r ds (i + 1) (i :: ch) hw c3 hch.2 ⟨by simp only [e1], rfl, rfl, by simp [e4], ?_, e6⟩
        rw [← hms, e5]
        rfl
theorem readOk_all {r : DRead} {H : Heap} (h : readAt G [] nx r H 0 = true) : ∀ (ch : List (Nat × Nat)) (n : Nat), ch.length ≤ n → readOk G [] nx r ch (List.replicate (n + 1) (H, 0)) = true
  | [], n, _ => h
  | (c, p) :: ch, n, hn => by
    cases n with
    | zero => simp at hn
    | succ n =>
      have ih := readOk_all h ch n (by simpa using hn)
      show readOk G [] nx r ((c, p) :: ch) ((H, 0) :: List.replicate (n + 1) (H, 0)) = true
      simp only [readOk, h, ih]
      split
      · rfl
      · split <;> rfl
theorem C_drawS {Q : Ext → Fr → Heap → Nat → Prop} {ops : List XOper} {ds : List XD} (hc : coverB ops ds = true) (hch : chainB 0 [] ops ds = true) (h : WS G call ops (fun fr => Q .normal fr H nx) fr H nx) : CC G call (.draw ops ds) Q fr H nx := by
  obtain ⟨s, ch, h1, h2, h3⟩ := drawOps_seq ops ds 0 [] (s := ⟨fr, nx, [(H, 0)], [], [], [], []⟩) h hc hch ⟨rfl, rfl, rfl, rfl, rfl, fun r hr => by cases hr⟩
  have hlen : s.ch.length = ch.length := by rw [← h2.ech, List.length_map]
  have hrd : (s.rd.all fun r => readOk G s.al s.nx r s.ch s.ms) = true := by
    rw [List.all_eq_true]
    intro r hr
    rw [h2.eal, h2.enx, h2.ems]
    exact readOk_all (h2.erd r hr) s.ch ch.length (by omega)
  refine C_draw (s := (s.fr, H, nx)) ?_ h3
  have hms : s.ms = (H, 0) :: List.replicate ch.length (H, 0) := h2.ems
  rw [h2.eal, h2.enx, hms] at hrd
  simp only [runDraw, h1, hms, h2.eal, h2.enx, hrd, within, List.nil_append]
/-- The same, shut. -/
structure DD (G : Cx) (call : Call) (r : List XOper) (K : Fr → Prop) (fr : Fr) (H : Heap) (nx : Nat) : Prop where
  out : WS G call r K fr H nx
theorem D_nil {K : Fr → Prop} (k : K fr) : DD G call [] K fr H nx := ⟨k⟩
theorem D_step {d : Option Nat} {op : XO} {r : List XOper} {K : Fr → Prop} {v : AV} (h : xoS G call fr H nx op = some (v, H, nx)) (hd : deepB 40 v = true) (k : DD G call r K (putd fr d v) H nx) : DD G call (⟨d, op, none⟩ :: r) K fr H nx := ⟨rfl, v, h, hd, k.out⟩
theorem C_drawD {Q : Ext → Fr → Heap → Nat → Prop} {ops : List XOper} {ds : List XD} (hc : coverB ops ds = true) (hch : chainB 0 [] ops ds = true) (h : DD G call ops (fun fr => Q .normal fr H nx) fr H nx) : CC G call (.draw ops ds) Q fr H nx := C_drawS hc hch h.out
end
end Go.Sy

/- Regions that draw their order, where each read and each write (or call) stand in order: they run as they stand; operations that are done on a condition. No condition. -/
namespace Go.Sy
set_option linter.unusedVariables false
set_option linter.unusedSimpArgs false
section
variable {G : Cx} {call : Call} {fr : Fr} {H : Heap} {nx : Nat}
/-- One after the other, as 'WO'; what is read is of few layers. -/
def WM (G : Cx) (call : Call) : List XOper → (Fr → Heap → Nat → Prop) → Fr → Heap → Nat → Prop
  | [], K, fr, H, nx => K fr H nx
  | o :: r, K, fr, H, nx => match o.guard with
    | none => ∃ v H' nx', xoS G call fr H nx o.op = some (v, H', nx') ∧ deepB 40 v = true ∧ WM G call r K (putd fr o.dst v) H' nx'
    | some (t, b) => condG (fr.get t) b (∃ v H' nx', xoS G call fr H nx o.op = some (v, H', nx') ∧ deepB 40 v = true ∧ WM G call r K (putd fr o.dst v) H' nx') (WM G call r K (putd fr o.dst (.tup [])) H nx)
def gdIn (g : Option (Nat × Bool)) (l : List Nat) : Bool := match g with
  | none => true
  | some (t, _) => inN t l
def coverM : List XOper → List XD → Bool
  | [], _ => true
  | o :: r, d :: ds => (tmpsX o.op.opnds).all (fun t => inN t d.looks) && gdIn o.guard d.looks && !(Nat.beq (kindOf o.op) 2) && coverM r ds
  | _ :: _, [] => false
/-- Each write stands behind all that was read or written; each read behind all writes. -/
def seqM : Nat → List Nat → List Nat → List XOper → List XD → Bool
  | _, _, _, [], _ => true
  | i, ch, rs, o :: r, d :: ds => match kindOf o.op with
    | 0 => seqM (i + 1) ch rs r ds
    | 1 => ch.all (fun c => d.preds.testBit c) && Nat.blt d.preds (2 ^ i) && seqM (i + 1) ch (i :: rs) r ds
    | _ => ch.all (fun c => d.preds.testBit c) && rs.all (fun c => d.preds.testBit c) && seqM (i + 1) (i :: ch) rs r ds
  | _, _, _, _ :: _, [] => false
theorem xo_nx {o : XO} (hk : kindOf o = 1) {v : AV} {H' : Heap} {n : Nat} (h : xoS G call fr H nx o = some (v, H', n)) (m : Nat) : xoS G noCall fr H m o = some (v, H, m) ∧ H' = H ∧ n = nx := by
  cases o <;> first | (simp [kindOf] at hk; done) | (simp only [xoS] at h ⊢; repeat' split at h) <;> first | (cases h; done) | (cases h; simp_all)
structure RI (m : Nat) (ch : List (Nat × Nat)) (ms : List (Heap × Nat)) (rs : List Nat) (r : DRead) : Prop where
  i : r.i ∈ rs
  lt : r.i < m
  pr : r.preds < 2 ^ r.i
  ok : ∀ nx, readOk G [] nx r ch ms = true
structure SM (G : Cx) (H : Heap) (nx : Nat) (fr : Fr) (s : DS) (ch rs : List Nat) (m : Nat) : Prop where
  efr : s.fr = fr
  enx : s.nx = nx
  eal : s.al = []
  ech : s.ch.map (·.1) = ch
  ems : ∃ rest, s.ms = (H, 0) :: rest
  erd : ∀ r ∈ s.rd, RI (G := G) m s.ch s.ms rs r
theorem RI.more {m : Nat} {ch : List (Nat × Nat)} {ms : List (Heap × Nat)} {rs : List Nat} {r : DRead} (h : RI (G := G) m ch ms rs r) {i : Nat} (hi : i = m) {p : Nat} (hp : rs.all (fun c => p.testBit c) = true) (x : Heap × Nat) : RI (G := G) (m + 1) ((i, p) :: ch) (x :: ms) rs r := by
  subst hi
  refine ⟨h.i, Nat.lt_succ_of_lt h.lt, h.pr, fun nx => ?_⟩
  obtain ⟨a, b⟩ := x
  have h1 : r.preds.testBit i = false := Nat.testBit_lt_two_pow (Nat.lt_of_lt_of_le h.pr (Nat.pow_le_pow_right (by omega) (Nat.le_of_lt h.lt)))
  have h2 : p.testBit r.i = true := List.all_eq_true.1 hp _ h.i
  simp only [readOk, h1, h2]
  exact h.ok nx
theorem RI.step {m : Nat} {ch : List (Nat × Nat)} {ms : List (Heap × Nat)} {rs : List Nat} {r : DRead} (h : RI (G := G) m ch ms rs r) : RI (G := G) (m + 1) ch ms rs r := ⟨h.i, Nat.lt_succ_of_lt h.lt, h.pr, h.ok⟩
theorem RI.wide {m j : Nat} {ch : List (Nat × Nat)} {ms : List (Heap × Nat)} {rs : List Nat} {r : DRead} (h : RI (G := G) m ch ms rs r) : RI (G := G) m ch ms (j :: rs) r := ⟨.tail _ h.i, h.lt, h.pr, h.ok⟩
theorem wantx_bool {fr : Fr} {t : Nat} {b c : Bool} (h : fr.get t = some (.bool c)) : wantx fr (some (t, b)) = some (c == b) := by
  simp only [wantx, h]
  cases c <;> cases b <;> rfl
theorem drawOps_mem : ∀ (ops : List XOper) (ds : List XD) (i : Nat) (ch rs : List Nat) {K : Fr → Heap → Nat → Prop} {fr : Fr} {H : Heap} {nx : Nat} {s : DS}, WM G call ops K fr H nx → coverM ops ds = true → seqM i ch rs ops ds = true → SM G H nx fr s ch rs i →
    ∃ s' ch' rs' m fr' H' nx', drawOps G call i ops ds s = some s' ∧ SM G H' nx' fr' s' ch' rs' m ∧ K fr' H' nx'
  | [], ds, i, ch, rs, K, fr, H, nx, s, hw, _, _, hs => ⟨s, ch, rs, i, fr, H, nx, by cases ds <;> rfl, hs, hw⟩
  | o :: r, [], i, ch, rs, K, fr, H, nx, s, hw, hc, _, hs => by cases hc
  | o :: r, d :: ds, i, ch, rs, K, fr, H, nx, s, hw, hc, hch, hs => by
    simp only [coverM, Bool.and_eq_true] at hc
    obtain ⟨⟨⟨c1, cg⟩, c2⟩, c3⟩ := hc
    obtain ⟨e1, e2, e3, e4, ⟨rest, e5⟩, e6⟩ := hs
    -- what comes when it is done
    have hdo : (∃ v H' nx', xoS G call fr H nx o.op = some (v, H', nx') ∧ deepB 40 v = true ∧ WM G call r K (putd fr o.dst v) H' nx') → wantx (only d.looks s.fr) o.guard = some true →
        ∃ s' ch' rs' m fr' H' nx', drawOps G call i (o :: r) (d :: ds) s = some s' ∧ SM G H' nx' fr' s' ch' rs' m ∧ K fr' H' nx' := by
      rintro ⟨v, H', nx', hx, hd, hw2⟩ hwant
      clear hw
      have hxo : ∀ (call : Call) (H : Heap), xo G call (only d.looks s.fr) H s.nx o.op = xoS G call fr H nx o.op := fun call H => by rw [e1, e2]; exact xo_only c1 call H nx
      simp only [drawOps, drawOp, hwant]
      by_cases h0 : kindOf o.op = 0
      · have h1 := xo_zero (G := G) (call := call) (fr := fr) (H := H) (nx := nx) h0
        have h2 := xo_zero (G := G) (call := noCall) (fr := fr) (H := []) (nx := nx) h0
        rw [hx] at h1
        cases hz : xoS G noCall fr [] nx o.op with
        | none => rw [hz] at h1; cases h1
        | some t =>
          obtain ⟨v', H2, n2⟩ := t
          rw [hz] at h1 h2
          simp only [Option.some.injEq, Prod.mk.injEq] at h1 h2
          obtain ⟨rfl, rfl, rfl⟩ := h1
          obtain ⟨_, rfl, _⟩ := h2
          by_cases hn : nx' = nx
          · subst hn
            have hb : Nat.beq nx' s.nx = true := by rw [e2]; exact Nat.beq_refl nx'
            simp only [h0, hxo, hz, hb]
            simp only [seqM, h0] at hch
            exact drawOps_mem r ds (i + 1) ch rs hw2 c3 hch ⟨by simp only [e1], e2, e3, e4, ⟨rest, e5⟩, fun q hq => (e6 q hq).step⟩
          · exfalso
            have : ∀ {o : XO}, kindOf o = 0 → ∀ {v H2 n2}, xoS G noCall fr [] nx o = some (v, H2, n2) → n2 = nx := fun {o} hk {v H2 n2} h => by
              cases o <;> first | (simp [kindOf] at hk; done) | (simp only [xoS] at h; repeat' split at h) <;> first | (cases h; done) | (cases h; rfl)
            exact hn (this h0 hz)
      · by_cases h1 : kindOf o.op = 1
        · obtain ⟨k1, rfl, rfl⟩ := xo_nx h1 hx nx
          simp only [h1, e5, e3, within, List.nil_append, hxo, k1]
          simp only [seqM, h1, Bool.and_eq_true] at hch
          obtain ⟨⟨q1, q2⟩, q3⟩ := hch
          refine drawOps_mem r ds (i + 1) ch (i :: rs) hw2 c3 q3 ⟨by simp only [e1], e2, rfl, e4, ⟨rest, rfl⟩, fun q hq => ?_⟩
          rcases List.mem_cons.1 hq with rfl | hq
          · refine ⟨.head _, Nat.lt_succ_self i, by simpa [Nat.blt_eq] using q2, fun nx => ?_⟩
            have hra : readAt G [] nx ⟨i, o.op, only d.looks s.fr, d.preds, v⟩ H' 0 = true := by
              have h3 : xo G noCall (only d.looks s.fr) H' nx o.op = xoS G noCall fr H' nx o.op := by rw [e1]; exact xo_only c1 noCall H' nx
              have h4 := (xo_nx h1 hx nx).1
              simp only [readAt, within, List.nil_append, h3, h4]
              exact aeq_refl 40 v hd
            cases hch0 : s.ch with
            | nil => simp only [readOk]; exact hra
            | cons c0 cr =>
              obtain ⟨ci, cp⟩ := c0
              have hci : d.preds.testBit ci = true := by
                refine List.all_eq_true.1 q1 ci ?_
                rw [← e4, hch0]
                exact .head _
              simp only [readOk, hci]
              exact hra
          · have := (e6 q hq).wide (j := i)
            rw [e5] at this
            exact this.step
        · have h3 : ∃ k, kindOf o.op = k + 3 := by
            have h2 : kindOf o.op ≠ 2 := fun e => by rw [e] at c2; simp at c2
            exact ⟨kindOf o.op - 3, by omega⟩
          obtain ⟨k, h3⟩ := h3
          simp only [seqM, h3, Bool.and_eq_true] at hch
          obtain ⟨⟨q1, q2⟩, q3⟩ := hch
          have hall : (s.ch.all fun c => d.preds.testBit c.1) = true := by
            rw [← e4, List.all_map] at q1
            exact q1
          simp only [h3, e5, hall, e3, within, List.nil_append, hxo, hx, maskOf]
          refine drawOps_mem r ds (i + 1) (i :: ch) rs hw2 c3 q3 ⟨by simp only [e1], rfl, rfl, by simp [e4], ⟨_, rfl⟩, fun q hq => ?_⟩
          have := (e6 q hq).more rfl q2 (H', 0)
          rw [e5] at this
          exact this
    have hskip : WM G call r K (putd fr o.dst (.tup [])) H nx → wantx (only d.looks s.fr) o.guard = some false →
        ∃ s' ch' rs' m fr' H' nx', drawOps G call i (o :: r) (d :: ds) s = some s' ∧ SM G H' nx' fr' s' ch' rs' m ∧ K fr' H' nx' := by
      intro hw hwant
      simp only [drawOps, drawOp, hwant]
      by_cases h0 : kindOf o.op = 0
      · simp only [seqM, h0] at hch
        exact drawOps_mem r ds (i + 1) ch rs hw c3 hch ⟨by simp only [e1], e2, e3, e4, ⟨rest, e5⟩, fun q hq => (e6 q hq).step⟩
      · by_cases h1 : kindOf o.op = 1
        · simp only [seqM, h1, Bool.and_eq_true] at hch
          exact drawOps_mem r ds (i + 1) ch (i :: rs) hw c3 hch.2 ⟨by simp only [e1], e2, e3, e4, ⟨rest, e5⟩, fun q hq => ((e6 q hq).wide (j := i)).step⟩
        · -- a write that is left out: its place is held by none
          have h3 : ∃ k, kindOf o.op = k + 3 := by
            have h2 : kindOf o.op ≠ 2 := fun e => by rw [e] at c2; simp at c2
            exact ⟨kindOf o.op - 3, by omega⟩
          obtain ⟨k, h3⟩ := h3
          simp only [seqM, h3, Bool.and_eq_true] at hch
          have hweak : ∀ (ops : List XOper) (ds : List XD) (i j : Nat) (c d rs : List Nat), (∀ x ∈ d, x ∈ c) → seqM i c rs ops ds = true → seqM i d rs ops ds = true := by
            intro ops
            induction ops with
            | nil => intro ds i j c d rs _ h; cases ds <;> rfl
            | cons o r ih =>
              intro ds i j c d rs hcd h
              cases ds with
              | nil => cases h
              | cons y ds =>
                simp only [seqM] at h ⊢
                split at h
                · exact ih ds _ j _ _ _ hcd h
                · simp only [Bool.and_eq_true] at h ⊢
                  refine ⟨⟨List.all_eq_true.2 fun x hx => List.all_eq_true.1 h.1.1 x (hcd x hx), h.1.2⟩, ih ds _ j _ _ _ hcd h.2⟩
                · simp only [Bool.and_eq_true] at h ⊢
                  refine ⟨⟨List.all_eq_true.2 fun x hx => List.all_eq_true.1 h.1.1 x (hcd x hx), h.1.2⟩, ih ds _ j _ _ _ (fun x hx => ?_) h.2⟩
                  rcases List.mem_cons.1 hx with rfl | hx
                  · exact .head _
                  · exact .tail _ (hcd x hx)
          exact drawOps_mem r ds (i + 1) ch rs hw c3 (hweak r ds (i + 1) 0 (i :: ch) ch rs (fun x hx => .tail _ hx) hch.2) ⟨by simp only [e1], e2, e3, e4, ⟨rest, e5⟩, fun q hq => (e6 q hq).step⟩
    unfold WM at hw
    cases hg : o.guard with
    | none =>
      rw [hg] at hw
      exact hdo hw (by rw [hg]; rfl)
    | some tb =>
      obtain ⟨t, b⟩ := tb
      rw [hg] at hw cg
      have hget : (only d.looks s.fr).get t = fr.get t := by rw [e1]; exact only_eq cg
      simp only [condG] at hw
      split at hw
      · rename_i c hc
        obtain ⟨w1, w2⟩ := hw
        have hwt := wantx_bool (b := b) (hget.trans hc)
        rw [← hg] at hwt
        by_cases hcb : c = b
        · exact hdo (w1 hcb) (by rw [hwt, hcb]; simp)
        · have hcb' : c = !b := by cases c <;> cases b <;> simp_all
          exact hskip (w2 hcb') (by rw [hwt, hcb']; simp)
      · rename_i hc
        exact hskip hw (by rw [hg]; simp only [wantx, hget, hc])
      · exact hw.elim
structure MM (G : Cx) (call : Call) (r : List XOper) (K : Fr → Heap → Nat → Prop) (fr : Fr) (H : Heap) (nx : Nat) : Prop where
  out : WM G call r K fr H nx
theorem C_drawM {Q : Ext → Fr → Heap → Nat → Prop} {ops : List XOper} {ds : List XD} (hc : coverM ops ds = true) (hch : seqM 0 [] [] ops ds = true) (h : MM G call ops (Q .normal) fr H nx) : CC G call (.draw ops ds) Q fr H nx := by
  obtain ⟨s, ch, rs, m, fr', H', nx', h1, h2, h3⟩ := drawOps_mem ops ds 0 [] [] (s := ⟨fr, nx, [(H, 0)], [], [], [], []⟩) h.out hc hch ⟨rfl, rfl, rfl, rfl, ⟨[], rfl⟩, fun r hr => by cases hr⟩
  obtain ⟨rest, hms⟩ := h2.ems
  have hrd : (s.rd.all fun r => readOk G s.al s.nx r s.ch s.ms) = true := by
    rw [List.all_eq_true]
    intro r hr
    rw [h2.eal]
    exact (h2.erd r hr).ok _
  refine C_draw (s := (fr', H', nx')) ?_ h3
  have e : runDraw G call ops ds (fr, H, nx) = some (s.fr, H', s.nx) := by
    rw [hms, h2.eal] at hrd
    simp only [runDraw, h1, hms, h2.eal, hrd, within, List.nil_append]
  rw [e, h2.efr, h2.enx]
variable {K : Fr → Heap → Nat → Prop}
theorem M_nil (k : K fr H nx) : MM G call [] K fr H nx := ⟨k⟩
theorem M_step {d : Option Nat} {op : XO} {r : List XOper} {v : AV} {H' : Heap} {nx' : Nat} (h : xoS G call fr H nx op = some (v, H', nx')) (hd : deepB 40 v = true) (k : MM G call r K (putd fr d v) H' nx') : MM G call (⟨d, op, none⟩ :: r) K fr H nx := ⟨⟨v, H', nx', h, hd, k.out⟩⟩
theorem WM_gd {d : Option Nat} {op : XO} {t : Nat} {b : Bool} {r : List XOper} : WM G call (⟨d, op, some (t, b)⟩ :: r) K fr H nx = condG (fr.get t) b (WM G call (⟨d, op, none⟩ :: r) K fr H nx) (WM G call r K (putd fr d (.tup [])) H nx) := rfl
theorem M_gdT {d : Option Nat} {op : XO} {t : Nat} {b : Bool} {r : List XOper} (hg : fr.get t = some (.bool b)) (k : MM G call (⟨d, op, none⟩ :: r) K fr H nx) : MM G call (⟨d, op, some (t, b)⟩ :: r) K fr H nx := by
  refine ⟨?_⟩
  rw [WM_gd, hg, condG_bool]
  exact ⟨fun _ => k.out, fun h => by cases b <;> cases h⟩
theorem M_gdF {d : Option Nat} {op : XO} {t : Nat} {r : List XOper} (hg : fr.get t = some (.bool true)) (k : MM G call r K (putd fr d (.tup [])) H nx) : MM G call (⟨d, op, some (t, false)⟩ :: r) K fr H nx := by
  refine ⟨?_⟩
  rw [WM_gd, hg, condG_not1]; exact k.out
theorem M_gdN {d : Option Nat} {op : XO} {t : Nat} {r : List XOper} (hg : fr.get t = some (.bool false)) (k : MM G call r K (putd fr d (.tup [])) H nx) : MM G call (⟨d, op, some (t, true)⟩ :: r) K fr H nx := by
  refine ⟨?_⟩
  rw [WM_gd, hg, condG_not2]; exact k.out
theorem M_gdU {d : Option Nat} {op : XO} {t : Nat} {b : Bool} {r : List XOper} (hg : fr.get t = some (.tup [])) (k : MM G call r K (putd fr d (.tup [])) H nx) : MM G call (⟨d, op, some (t, b)⟩ :: r) K fr H nx := by
  refine ⟨?_⟩
  rw [WM_gd, hg, condG_tup]; exact k.out
theorem M_gd2f {d : Option Nat} {op : XO} {t : Nat} {c : Bool} {r : List XOper} (hg : fr.get t = some (.bool c)) (k1 : c = false → MM G call (⟨d, op, none⟩ :: r) K fr H nx) (k2 : c = true → MM G call r K (putd fr d (.tup [])) H nx) : MM G call (⟨d, op, some (t, false)⟩ :: r) K fr H nx := by
  refine ⟨?_⟩
  rw [WM_gd, hg, condG_bool]; exact ⟨fun h => (k1 h).out, fun h => (k2 h).out⟩
theorem M_gd2t {d : Option Nat} {op : XO} {t : Nat} {c : Bool} {r : List XOper} (hg : fr.get t = some (.bool c)) (k1 : c = true → MM G call (⟨d, op, none⟩ :: r) K fr H nx) (k2 : c = false → MM G call r K (putd fr d (.tup [])) H nx) : MM G call (⟨d, op, some (t, true)⟩ :: r) K fr H nx := by
  refine ⟨?_⟩
  rw [WM_gd, hg, condG_bool]; exact ⟨fun h => (k1 h).out, fun h => (k2 h).out⟩
theorem X_store {a x : XV} {sz h off : Nat} {v : AV} {str : Bool} {cs new : List AV} (ha : a.ev G fr = some (.ptr h off)) (hx : x.ev G fr = some v) (hh : H.get h = some (.cells str cs)) (hn : cellsOf v sz = some new) (hl : Nat.ble (off + sz) cs.length = true) :
    xoS G call fr H nx (.store a x sz) = some (.tup [], H.put h (.cells str (splice cs off new)), nx) := by
  simp only [xoS, ha, hx, hh, hn, hl]
theorem X_mupd {ag : Bool} {ks : List Kd} {m kx vx : XV} {kv v : AV} {h : Nat} {es es' : List (AV × AV)} (hm : m.ev G fr = some (.map h)) (hk : kx.ev G fr = some kv) (hv : vx.ev G fr = some v) (ho : keyOk ag ks kv = true) (hh : H.get h = some (.map es)) (hp : mput ag ks kv v es = some es') :
    xoS G call fr H nx (.mupd ag ks m kx vx) = some (.tup [], H.put h (.map es'), nx) := by
  simp only [xoS, hm, hk, hv, ho, hh, hp]
theorem X_del {ag : Bool} {ks : List Kd} {m kx : XV} {kv : AV} {h : Nat} {es es' : List (AV × AV)} (hm : m.ev G fr = some (.map h)) (hk : kx.ev G fr = some kv) (ho : keyOk ag ks kv = true) (hh : H.get h = some (.map es)) (hp : mdel ag ks kv es = some es') :
    xoS G call fr H nx (.del ag ks m kx) = some (.tup [], H.put h (.map es'), nx) := by
  simp only [xoS, hm, hk, ho, hh, hp]
theorem X_callH {f : Nat} {args : List XV} {vs : List AV} {v : AV} {H' : Heap} {nx' : Nat} (ha : evs G fr args = some vs) (h : call f vs H nx = some (v, H', nx')) : xoS G call fr H nx (.call f args) = some (v, H', nx') := by
  simp only [xoS, ha, h]
end
end Go.Sy

/- Calls that turn memory, known by what they do to it; memory as what is found at each handle. No condition. -/
namespace Go.Sy
set_option linter.unusedVariables false
set_option linter.unusedSimpArgs false
section
variable {P : Program} {G : Cx}
abbrev HF := List AV → Heap → Nat → Option Out
def HeapOK (P : Program) (G : Cx) (f : Nat) (g : HF) : Prop := ∀ args H nx v H' nx', g args H nx = some (v, H', nx') → Enters P f ∧ nx ≤ nx' ∧ FnT P G f args H nx v H' nx'
abbrev TblH := List (Nat × HF)
def callH : TblH → Call
  | [] => noCall
  | s :: r => fun f args H nx => match Nat.beq f s.1 with
    | true => s.2 args H nx
    | false => callH r f args H nx
theorem callH_nil : CallOK P G (callH []) := fun _ _ _ _ _ _ _ h => by cases h
theorem callH_cons {f : Nat} {g : HF} {r : TblH} (h : HeapOK P G f g) (hr : CallOK P G (callH r)) : CallOK P G (callH ((f, g) :: r)) := by
  intro f' args H nx v H' nx' e
  simp only [callH] at e
  split at e
  · rename_i hf
    rw [nbeq_true hf]
    exact h _ _ _ _ _ _ e
  · exact hr _ _ _ _ _ _ _ e
/-- A function of values, as one that leaves memory as it is. -/
def liftP (g : List AV → Option AV) : HF := fun args H nx => match g args with
  | some v => some (v, H, nx)
  | none => none
theorem PureOK.heap {f : Nat} {g : List AV → Option AV} (h : PureOK P G f g) : HeapOK P G f (liftP g) := by
  intro args H nx v H' nx' e
  unfold liftP at e
  split at e
  · rename_i u hu
    cases e
    obtain ⟨h1, h2⟩ := h _ _ hu
    exact ⟨h1, Nat.le_refl _, h2 _ _⟩
  · cases e
theorem fn_heap {call : Call} {f : Nat} {xf : XF} (hx : FnX P f xf) (hm : MethOK P G) (hmix : P.follows .mixedOrders = true) (hcall : CallOK P G call) {args : List AV} {H : Heap} {nx : Nat} (hlen : args.length = xf.np) {v : AV} {H' : Heap} {nx' : Nat}
    (h : CC G call xf.body (endQ xf.res fun u A n => u = v ∧ A = H' ∧ n = nx') (slots 0 (pad xf.nt args)) H nx) : Enters P f ∧ nx ≤ nx' ∧ FnT P G f args H nx v H' nx' := by
  refine fn_run hx hm hmix hcall .keep hlen (W_mono (WC_W _ h.out) fun x fr H nx q => ?_)
  obtain ⟨h1, vs, h2, h3, h4, h5⟩ := endQ_some q
  exact endQ_mk h1 h2 (by simp only [finish, h3, h4, h5])
/-- A piece of code that ends behind itself. -/
def onlyN (K : Fr → Heap → Nat → Prop) : Ext → Fr → Heap → Nat → Prop := fun x fr H nx => x = .normal ∧ K fr H nx
theorem N_n {K : Fr → Heap → Nat → Prop} {fr : Fr} {H : Heap} {nx : Nat} (k : Here (K fr H nx)) : onlyN K .normal fr H nx := ⟨rfl, k.out⟩
theorem C_cutN {call : Call} {Q : Ext → Fr → Heap → Nat → Prop} {L : Fr → Heap → Nat → Prop} {a : XC} {fr : Fr} {H : Heap} {nx : Nat} (K : Fr → Heap → Nat → Prop) (k : CC G call a (onlyN K) fr H nx) (h : ∀ fr H nx, K fr H nx → L fr H nx) : CC G call a (thenQ Q L) fr H nx :=
  ⟨WC_mono (fun x fr H nx q => by
    obtain ⟨rfl, q⟩ := q
    exact h _ _ _ q) _ k.out⟩
/- Memory, handle by handle. -/
theorem get_cons_self {H : Heap} {h : Nat} {o : HO} : Heap.get ((h, o) :: H) h = some o := by
  have : Nat.beq h h = true := Nat.beq_refl h
  simp only [Heap.get, this]
theorem get_cons_ne {H : Heap} {h k : Nat} {o : HO} (hne : h ≠ k) : Heap.get ((h, o) :: H) k = H.get k := by
  have : Nat.beq h k = false := by
    cases hb : Nat.beq h k with
    | false => rfl
    | true => exact absurd (nbeq_true hb) hne
  simp only [Heap.get, this]
theorem get_put_self : ∀ {H : Heap} {h : Nat} {o o' : HO}, H.get h = some o' → (H.put h o).get h = some o
  | [], h, o, o', e => by cases e
  | (k, u) :: r, h, o, o', e => by
    simp only [Heap.get] at e
    simp only [Heap.put]
    cases hb : Nat.beq k h with
    | true => simp only [Heap.get, hb]
    | false =>
      rw [hb] at e
      simp only [Heap.get, hb]
      exact get_put_self e
theorem get_put_ne : ∀ {H : Heap} {h k : Nat} {o : HO}, h ≠ k → (H.put h o).get k = H.get k
  | [], h, k, o, _ => rfl
  | (j, u) :: r, h, k, o, hne => by
    simp only [Heap.put]
    cases hb : Nat.beq j h with
    | true =>
      have e := nbeq_true hb
      subst e
      have : Nat.beq j k = false := by
        cases hb : Nat.beq j k with
        | false => rfl
        | true => exact absurd (nbeq_true hb) hne
      simp only [Heap.get, this]
    | false =>
      simp only [Heap.get]
      cases Nat.beq j k with
      | true => rfl
      | false => exact get_put_ne hne
end
end Go.Sy

/- The rules for walks, their side conditions found by themselves. No condition. -/
namespace Go.Sy
set_option linter.unusedVariables false
set_option linter.unusedSimpArgs false
/-- What a frame gives, and plain tests: for simp. -/
theorem evL : (∀ (G : Cx) (fr : Fr) (n : Nat), XV.ev G fr (.t n) = fr.get n) ∧ (∀ (G : Cx) (fr : Fr) (v : AV), XV.ev G fr (.c v) = some v) ∧ (∀ (G : Cx) (fr : Fr) (n : Nat), XV.ev G fr (.g n) = G.glob n) ∧ (∀ (fr : Fr) (n : Nat) (v : AV), putd fr (some n) v = fr.put n v) ∧ (∀ (fr : Fr) (v : AV), putd fr none v = fr) ∧ (∀ (fr : Fr) (n m : Nat) (v : AV), (fr.put n v).get m = if n = m then some v else fr.get m) ∧ (∀ b, bneg true b = .bool !b) ∧ (∀ b, bneg false b = .bool b) ∧ ((!true) = false) ∧ ((!false) = true) ∧ (∀ a : Int, (a == a) = true) ∧ (∀ a : Nat, (a == a) = true) :=
  ⟨fun _ _ _ => rfl, fun _ _ _ => rfl, fun _ _ _ => rfl, fun _ _ _ => rfl, fun _ _ => rfl, fun fr n m v => Fr.get_put fr n v m, fun _ => rfl, fun _ => rfl, rfl, rfl, fun a => beq_self_eq_true a, fun a => beq_self_eq_true a⟩
section
variable {G : Cx} {call : Call} {Q : Ext → Fr → Heap → Nat → Prop} {K : Fr → Heap → Nat → Prop} {fr : Fr} {H : Heap} {nx : Nat}
theorem A_mov {d : Option Nat} {r : List XOper} {x : XV} {v : AV} (k : OO G call r K (putd fr d (v)) (H) (nx)) (hx : x.ev G fr = some v := by (simp only [evL, reduceIte, Nat.reduceEqDiff, Int.reduceBEq, Int.reduceBNe, *] <;> with_reducible rfl)) : OO G call (⟨d, .mov x, none⟩ :: r) K fr H nx :=
  S_mov hx k
theorem A_bin {d : Option Nat} {r : List XOper} {op : BinOp} {x y : XV} {a b v : AV} (k : OO G call r K (putd fr d (v)) (H) (nx)) (hx : x.ev G fr = some a := by (simp only [evL, reduceIte, Nat.reduceEqDiff, Int.reduceBEq, Int.reduceBNe, *] <;> with_reducible rfl)) (hy : y.ev G fr = some b := by (simp only [evL, reduceIte, Nat.reduceEqDiff, Int.reduceBEq, Int.reduceBNe, *] <;> with_reducible rfl)) (h : xbin op a b = some v := by (first | exact xbin_add1 (by omega) | assumption | with_unfolding_all rfl)) : OO G call (⟨d, .bin op x y, none⟩ :: r) K fr H nx :=
  S_bin hx hy h k
theorem A_pickT {d : Option Nat} {r : List XOper} {c a b : XV} {v : AV} (k : OO G call r K (putd fr d (v)) (H) (nx)) (hc : c.ev G fr = some (.bool true) := by (simp only [evL, reduceIte, Nat.reduceEqDiff, Int.reduceBEq, Int.reduceBNe, *] <;> with_reducible rfl)) (ha : a.ev G fr = some v := by (simp only [evL, reduceIte, Nat.reduceEqDiff, Int.reduceBEq, Int.reduceBNe, *] <;> with_reducible rfl)) : OO G call (⟨d, .pick c a b, none⟩ :: r) K fr H nx :=
  S_pickT hc ha k
theorem A_pickF {d : Option Nat} {r : List XOper} {c a b : XV} {v : AV} (k : OO G call r K (putd fr d (v)) (H) (nx)) (hc : c.ev G fr = some (.bool false) := by (simp only [evL, reduceIte, Nat.reduceEqDiff, Int.reduceBEq, Int.reduceBNe, *] <;> with_reducible rfl)) (ha : b.ev G fr = some v := by (simp only [evL, reduceIte, Nat.reduceEqDiff, Int.reduceBEq, Int.reduceBNe, *] <;> with_reducible rfl)) : OO G call (⟨d, .pick c a b, none⟩ :: r) K fr H nx :=
  S_pickF hc ha k
theorem A_pick2 {d : Option Nat} {c a b : XV} {q : Bool} {r : List XOper} (k1 : q = true → OO G call (⟨d, .mov a, none⟩ :: r) K fr H nx) (k2 : q = false → OO G call (⟨d, .mov b, none⟩ :: r) K fr H nx) (hc : c.ev G fr = some (.bool q) := by (simp only [evL, reduceIte, Nat.reduceEqDiff, Int.reduceBEq, Int.reduceBNe, *] <;> with_reducible rfl)) : OO G call (⟨d, .pick c a b, none⟩ :: r) K fr H nx :=
  S_pick2 hc k1 k2
theorem A_un {d : Option Nat} {r : List XOper} {op : UnOp} {x : XV} {a v : AV} (k : OO G call r K (putd fr d (v)) (H) (nx)) (hx : x.ev G fr = some a := by (simp only [evL, reduceIte, Nat.reduceEqDiff, Int.reduceBEq, Int.reduceBNe, *] <;> with_reducible rfl)) (h : xun op a = some v := by ((with_unfolding_all rfl))) : OO G call (⟨d, .un op x, none⟩ :: r) K fr H nx :=
  S_un hx h k
theorem A_lenS {d : Option Nat} {r : List XOper} {x : XV} {s : List Nat} (k : OO G call r K (putd fr d (.int .i64 (.ofNat s.length))) (H) (nx)) (hx : x.ev G fr = some (.str s) := by (simp only [evL, reduceIte, Nat.reduceEqDiff, Int.reduceBEq, Int.reduceBNe, *] <;> with_reducible rfl)) : OO G call (⟨d, .lenS x, none⟩ :: r) K fr H nx :=
  S_lenS hx k
theorem A_lenL1 {d : Option Nat} {r : List XOper} {x : XV} {z : Nat} {es : List AV} (k : OO G call r K (putd fr d (.int .i64 (.ofNat es.length))) (H) (nx)) (hx : x.ev G fr = some (.lst z es) := by (simp only [evL, reduceIte, Nat.reduceEqDiff, Int.reduceBEq, Int.reduceBNe, *] <;> with_reducible rfl)) : OO G call (⟨d, .lenL x, none⟩ :: r) K fr H nx :=
  S_lenL1 hx k
theorem A_lenL2 {d : Option Nat} {r : List XOper} {x : XV} {h o len z c : Nat} {e : Bool} (k : OO G call r K (putd fr d (.int .i64 (.ofNat len))) (H) (nx)) (hx : x.ev G fr = some (.row h o len z c e) := by (simp only [evL, reduceIte, Nat.reduceEqDiff, Int.reduceBEq, Int.reduceBNe, *] <;> with_reducible rfl)) : OO G call (⟨d, .lenL x, none⟩ :: r) K fr H nx :=
  S_lenL2 hx k
theorem A_lenL0 {d : Option Nat} {r : List XOper} {x : XV} (k : OO G call r K (putd fr d (.int .i64 (.ofNat 0))) (H) (nx)) (hx : x.ev G fr = some .nilslice := by (simp only [evL, reduceIte, Nat.reduceEqDiff, Int.reduceBEq, Int.reduceBNe, *] <;> with_reducible rfl)) : OO G call (⟨d, .lenL x, none⟩ :: r) K fr H nx :=
  S_lenL0 hx k
theorem A_s2b {d : Option Nat} {r : List XOper} {x : XV} {s : List Nat} (k : OO G call r K (putd fr d (.row nx 0 s.length 1 s.length false)) ((nx, .cells true (s.map fun b => .int .u8 (.ofNat b))) :: H) (nx + 1)) (hx : x.ev G fr = some (.str s) := by (simp only [evL, reduceIte, Nat.reduceEqDiff, Int.reduceBEq, Int.reduceBNe, *] <;> with_reducible rfl)) : OO G call (⟨d, .s2b x, none⟩ :: r) K fr H nx :=
  S_s2b hx k
theorem A_ext {d : Option Nat} {r : List XOper} {x : XV} {i : Nat} {vs : List AV} {v : AV} (k : OO G call r K (putd fr d (v)) (H) (nx)) (hx : x.ev G fr = some (.tup vs) := by (simp only [evL, reduceIte, Nat.reduceEqDiff, Int.reduceBEq, Int.reduceBNe, *] <;> with_reducible rfl)) (h : vs[i]? = some v := by ((with_unfolding_all rfl))) : OO G call (⟨d, .ext x i, none⟩ :: r) K fr H nx :=
  S_ext hx h k
theorem A_fld {d : Option Nat} {r : List XOper} {x : XV} {off sz : Nat} {ag : Bool} {cs : List AV} {v : AV} (k : OO G call r K (putd fr d (v)) (H) (nx)) (hx : x.ev G fr = some (.agg cs) := by (simp only [evL, reduceIte, Nat.reduceEqDiff, Int.reduceBEq, Int.reduceBNe, *] <;> with_reducible rfl)) (h : part cs off sz ag = some v := by (first | assumption | with_unfolding_all rfl)) : OO G call (⟨d, .fld x off sz ag, none⟩ :: r) K fr H nx :=
  S_fld hx h k
theorem A_box {d : Option Nat} {r : List XOper} {x : XV} {sz : Nat} {v : AV} {cs : List AV} (k : OO G call r K (putd fr d (.ptr nx 0)) ((nx, .cells false cs) :: H) (nx + 1)) (hx : x.ev G fr = some v := by (simp only [evL, reduceIte, Nat.reduceEqDiff, Int.reduceBEq, Int.reduceBNe, *] <;> with_reducible rfl)) (h : cellsOf v sz = some cs := by ((simp only [eq_self, beq_self_eq_true, xload, Heap.get, Heap.put, Sy.part, cellsOf, AV.flat, AV.cells, splice, nbeq_lit, nble_lit, Nat.reduceBEq, Nat.reduceLeDiff, Nat.reduceAdd, Nat.zero_add, Nat.add_zero, decide_true, decide_false, List.take_succ_cons, List.take_zero, List.drop_succ_cons, List.drop_zero, List.cons_append, List.nil_append, List.append_nil, List.length_cons, List.length_nil, List.getElem?_cons_zero, List.getElem?_cons_succ, List.take_nil, List.drop_nil] <;> with_reducible rfl))) : OO G call (⟨d, .box x sz, none⟩ :: r) K fr H nx :=
  S_box hx h k
theorem A_alloc {d : Option Nat} {r : List XOper} {z : List AV} (k : OO G call r K (putd fr d (.ptr nx 0)) ((nx, .cells false z) :: H) (nx + 1))  : OO G call (⟨d, .alloc z, none⟩ :: r) K fr H nx :=
  S_alloc  k
theorem A_idxS {d : Option Nat} {r : List XOper} {x i : XV} {s : List Nat} {q : IntKind} {n b : Nat} (k : OO G call r K (putd fr d (.int .u8 (.ofNat b))) (H) (nx)) (hx : x.ev G fr = some (.str s) := by (simp only [evL, reduceIte, Nat.reduceEqDiff, Int.reduceBEq, Int.reduceBNe, *] <;> with_reducible rfl)) (hi : i.ev G fr = some (.int q (.ofNat n)) := by (first | (simp only [evL, reduceIte, Nat.reduceEqDiff, Int.reduceBEq, Int.reduceBNe, *] <;> with_reducible rfl) | (simp only [evL, reduceIte, Nat.reduceEqDiff, Int.reduceBEq, Int.reduceBNe, *] <;> rfl))) (h : s[n]? = some b := by (first | with_unfolding_all rfl | assumption | (simp only [*] <;> rfl))) : OO G call (⟨d, .idxS x i, none⟩ :: r) K fr H nx :=
  S_idxS hx hi h k
theorem A_faddrP {d : Option Nat} {r : List XOper} {x : XV} {off h o : Nat} (k : OO G call r K (putd fr d (.ptr h (o + off))) (H) (nx)) (hx : x.ev G fr = some (.ptr h o) := by (simp only [evL, reduceIte, Nat.reduceEqDiff, Int.reduceBEq, Int.reduceBNe, *] <;> with_reducible rfl)) : OO G call (⟨d, .faddr x off, none⟩ :: r) K fr H nx :=
  S_faddrP hx k
theorem A_faddrE {d : Option Nat} {r : List XOper} {x : XV} {off o : Nat} {e : AV} (k : OO G call r K (putd fr d (.eptr e (o + off))) (H) (nx)) (hx : x.ev G fr = some (.eptr e o) := by (simp only [evL, reduceIte, Nat.reduceEqDiff, Int.reduceBEq, Int.reduceBNe, *] <;> with_reducible rfl)) : OO G call (⟨d, .faddr x off, none⟩ :: r) K fr H nx :=
  S_faddrE hx k
theorem A_iaddrL {d : Option Nat} {r : List XOper} {x i : XV} {sz n : Nat} {es : List AV} {q : IntKind} {e : AV} (k : OO G call r K (putd fr d (.eptr e 0)) (H) (nx)) (hx : x.ev G fr = some (.lst sz es) := by (simp only [evL, reduceIte, Nat.reduceEqDiff, Int.reduceBEq, Int.reduceBNe, *] <;> with_reducible rfl)) (hi : i.ev G fr = some (.int q (.ofNat n)) := by (first | (simp only [evL, reduceIte, Nat.reduceEqDiff, Int.reduceBEq, Int.reduceBNe, *] <;> with_reducible rfl) | (simp only [evL, reduceIte, Nat.reduceEqDiff, Int.reduceBEq, Int.reduceBNe, *] <;> rfl))) (h : es[n]? = some e := by (first | assumption | with_unfolding_all rfl)) : OO G call (⟨d, .iaddrS x i sz, none⟩ :: r) K fr H nx :=
  S_iaddrL hx hi h k
theorem A_iaddrR {d : Option Nat} {r : List XOper} {x i : XV} {sz n h off len cp : Nat} {ex : Bool} {q : IntKind} (k : OO G call r K (putd fr d (.ptr h (off + n * sz))) (H) (nx)) (hx : x.ev G fr = some (.row h off len sz cp ex) := by (simp only [evL, reduceIte, Nat.reduceEqDiff, Int.reduceBEq, Int.reduceBNe, *] <;> with_reducible rfl)) (hi : i.ev G fr = some (.int q (.ofNat n)) := by (first | (simp only [evL, reduceIte, Nat.reduceEqDiff, Int.reduceBEq, Int.reduceBNe, *] <;> with_reducible rfl) | (simp only [evL, reduceIte, Nat.reduceEqDiff, Int.reduceBEq, Int.reduceBNe, *] <;> rfl))) (hl : n < len := by (omega)) : OO G call (⟨d, .iaddrS x i sz, none⟩ :: r) K fr H nx :=
  S_iaddrR hx hi hl k
theorem A_load {d : Option Nat} {r : List XOper} {x : XV} {sz : Nat} {ag : Bool} {a v : AV} (k : OO G call r K (putd fr d (v)) (H) (nx)) (hx : x.ev G fr = some a := by (simp only [evL, reduceIte, Nat.reduceEqDiff, Int.reduceBEq, Int.reduceBNe, *] <;> with_reducible rfl)) (h : xload H sz ag a = some v := by (first | assumption | (simp only [eq_self, beq_self_eq_true, xload, Heap.get, Heap.put, Sy.part, cellsOf, AV.flat, AV.cells, splice, nbeq_lit, nble_lit, Nat.reduceBEq, Nat.reduceLeDiff, Nat.reduceAdd, Nat.zero_add, Nat.add_zero, decide_true, decide_false, List.take_succ_cons, List.take_zero, List.drop_succ_cons, List.drop_zero, List.cons_append, List.nil_append, List.append_nil, List.length_cons, List.length_nil, List.getElem?_cons_zero, List.getElem?_cons_succ, List.take_nil, List.drop_nil] <;> with_reducible rfl) | with_unfolding_all rfl | (simp only [xload, Heap.get, Sy.part, *] <;> with_unfolding_all rfl))) : OO G call (⟨d, .load x sz ag, none⟩ :: r) K fr H nx :=
  S_load hx h k
theorem A_build {d : Option Nat} {r : List XOper} {z cs : List AV} {ps : List (Nat × Nat × XV)} (k : OO G call r K (putd fr d (.agg cs)) (H) (nx)) (h : fillx G fr z ps = some cs := by ((simp only [fillx, eq_self, beq_self_eq_true, xload, Heap.get, Heap.put, Sy.part, cellsOf, AV.flat, AV.cells, splice, nbeq_lit, nble_lit, Nat.reduceBEq, Nat.reduceLeDiff, Nat.reduceAdd, Nat.zero_add, Nat.add_zero, decide_true, decide_false, List.take_succ_cons, List.take_zero, List.drop_succ_cons, List.drop_zero, List.cons_append, List.nil_append, List.append_nil, List.length_cons, List.length_nil, List.getElem?_cons_zero, List.getElem?_cons_succ, List.take_nil, List.drop_nil, evL, reduceIte, Nat.reduceEqDiff, *] <;> with_unfolding_all rfl))) : OO G call (⟨d, .build z ps, none⟩ :: r) K fr H nx :=
  S_build h k
theorem A_store {d : Option Nat} {r : List XOper} {a x : XV} {sz h off : Nat} {v : AV} {str : Bool} {cs new : List AV} {H' : Heap} (k : OO G call r K (putd fr d (.tup [])) (H') (nx)) (ha : a.ev G fr = some (.ptr h off) := by (simp only [evL, reduceIte, Nat.reduceEqDiff, Int.reduceBEq, Int.reduceBNe, *] <;> with_reducible rfl)) (hx : x.ev G fr = some v := by (simp only [evL, reduceIte, Nat.reduceEqDiff, Int.reduceBEq, Int.reduceBNe, *] <;> with_reducible rfl)) (hh : H.get h = some (.cells str cs) := by (first | assumption | (simp only [eq_self, beq_self_eq_true, xload, Heap.get, Heap.put, Sy.part, cellsOf, AV.flat, AV.cells, splice, nbeq_lit, nble_lit, Nat.reduceBEq, Nat.reduceLeDiff, Nat.reduceAdd, Nat.zero_add, Nat.add_zero, decide_true, decide_false, List.take_succ_cons, List.take_zero, List.drop_succ_cons, List.drop_zero, List.cons_append, List.nil_append, List.append_nil, List.length_cons, List.length_nil, List.getElem?_cons_zero, List.getElem?_cons_succ, List.take_nil, List.drop_nil] <;> with_reducible rfl))) (hn : cellsOf v sz = some new := by ((simp only [eq_self, beq_self_eq_true, xload, Heap.get, Heap.put, Sy.part, cellsOf, AV.flat, AV.cells, splice, nbeq_lit, nble_lit, Nat.reduceBEq, Nat.reduceLeDiff, Nat.reduceAdd, Nat.zero_add, Nat.add_zero, decide_true, decide_false, List.take_succ_cons, List.take_zero, List.drop_succ_cons, List.drop_zero, List.cons_append, List.nil_append, List.append_nil, List.length_cons, List.length_nil, List.getElem?_cons_zero, List.getElem?_cons_succ, List.take_nil, List.drop_nil] <;> with_reducible rfl))) (hl : Nat.ble (off + sz) cs.length = true := by (first | (simp only [eq_self, beq_self_eq_true, xload, Heap.get, Heap.put, Sy.part, cellsOf, AV.flat, AV.cells, splice, nbeq_lit, nble_lit, Nat.reduceBEq, Nat.reduceLeDiff, Nat.reduceAdd, Nat.zero_add, Nat.add_zero, decide_true, decide_false, List.take_succ_cons, List.take_zero, List.drop_succ_cons, List.drop_zero, List.cons_append, List.nil_append, List.append_nil, List.length_cons, List.length_nil, List.getElem?_cons_zero, List.getElem?_cons_succ, List.take_nil, List.drop_nil]; done) | with_unfolding_all rfl)) (hp : H.put h (.cells str (splice cs off new)) = H' := by (first | assumption | (simp only [eq_self, beq_self_eq_true, xload, Heap.get, Heap.put, Sy.part, cellsOf, AV.flat, AV.cells, splice, nbeq_lit, nble_lit, Nat.reduceBEq, Nat.reduceLeDiff, Nat.reduceAdd, Nat.zero_add, Nat.add_zero, decide_true, decide_false, List.take_succ_cons, List.take_zero, List.drop_succ_cons, List.drop_zero, List.cons_append, List.nil_append, List.append_nil, List.length_cons, List.length_nil, List.getElem?_cons_zero, List.getElem?_cons_succ, List.take_nil, List.drop_nil] <;> with_reducible rfl))) : OO G call (⟨d, .store a x sz, none⟩ :: r) K fr H nx :=
  S_store ha hx hh hn hl hp k
theorem A_call {d : Option Nat} {r : List XOper} {f nx' : Nat} {args : List XV} {vs : List AV} {v : AV} {H' : Heap} (k : OO G call r K (putd fr d (v)) (H') (nx')) (ha : evs G fr args = some vs := by ((simp only [evs, evL, reduceIte, Nat.reduceEqDiff, *] <;> with_reducible rfl))) (h : call f vs H nx = some (v, H', nx') := by (first | assumption | with_unfolding_all rfl | (simp only [callP, *] <;> with_unfolding_all rfl))) : OO G call (⟨d, .call f args, none⟩ :: r) K fr H nx :=
  S_call ha h k
theorem A_conv {d : Option Nat} {r : List XOper} {q q' : IntKind} {x : XV} {n : Int} (k : OO G call r K (putd fr d (.int q (wrapx q n))) (H) (nx)) (hx : x.ev G fr = some (.int q' n) := by (simp only [evL, reduceIte, Nat.reduceEqDiff, Int.reduceBEq, Int.reduceBNe, *] <;> with_reducible rfl)) : OO G call (⟨d, .conv q x, none⟩ :: r) K fr H nx :=
  S_conv hx k
theorem A_ieq {d : Option Nat} {r : List XOper} {neg lit : Bool} {kt : Nat → Option Kd} {x y : XV} {a b : AV} {v : Bool} (k : OO G call r K (putd fr d (bneg neg v)) (H) (nx)) (hx : x.ev G fr = some a := by (simp only [evL, reduceIte, Nat.reduceEqDiff, Int.reduceBEq, Int.reduceBNe, *] <;> with_reducible rfl)) (hy : y.ev G fr = some b := by (simp only [evL, reduceIte, Nat.reduceEqDiff, Int.reduceBEq, Int.reduceBNe, *] <;> with_reducible rfl)) (h : xieq lit kt a b = some v := by ((with_unfolding_all rfl))) : OO G call (⟨d, .ieq neg lit kt x y, none⟩ :: r) K fr H nx :=
  S_ieq hx hy h k
theorem A_aeq {d : Option Nat} {r : List XOper} {neg : Bool} {ks : List Kd} {x y : XV} {a b : List AV} {v : Bool} (k : OO G call r K (putd fr d (bneg neg v)) (H) (nx)) (hx : x.ev G fr = some (.agg a) := by (simp only [evL, reduceIte, Nat.reduceEqDiff, Int.reduceBEq, Int.reduceBNe, *] <;> with_reducible rfl)) (hy : y.ev G fr = some (.agg b) := by (simp only [evL, reduceIte, Nat.reduceEqDiff, Int.reduceBEq, Int.reduceBNe, *] <;> with_reducible rfl)) (h : eqs ks a b = some v := by (first | assumption | with_unfolding_all rfl)) : OO G call (⟨d, .aeq neg ks x y, none⟩ :: r) K fr H nx :=
  S_aeq hx hy h k
theorem A_seq {d : Option Nat} {r : List XOper} {neg : Bool} {x y : XV} {a b : AV} {v : Bool} (k : OO G call r K (putd fr d (bneg neg v)) (H) (nx)) (hx : x.ev G fr = some a := by (simp only [evL, reduceIte, Nat.reduceEqDiff, Int.reduceBEq, Int.reduceBNe, *] <;> with_reducible rfl)) (hy : y.ev G fr = some b := by (simp only [evL, reduceIte, Nat.reduceEqDiff, Int.reduceBEq, Int.reduceBNe, *] <;> with_reducible rfl)) (h : xseq a b = some v := by ((with_unfolding_all rfl))) : OO G call (⟨d, .seq neg x y, none⟩ :: r) K fr H nx :=
  S_seq hx hy h k
theorem A_peq {d : Option Nat} {r : List XOper} {neg : Bool} {x y : XV} {a b : AV} {v : Bool} (k : OO G call r K (putd fr d (bneg neg v)) (H) (nx)) (hx : x.ev G fr = some a := by (simp only [evL, reduceIte, Nat.reduceEqDiff, Int.reduceBEq, Int.reduceBNe, *] <;> with_reducible rfl)) (hy : y.ev G fr = some b := by (simp only [evL, reduceIte, Nat.reduceEqDiff, Int.reduceBEq, Int.reduceBNe, *] <;> with_reducible rfl)) (h : xpeq H a b = some v := by (first | assumption | with_unfolding_all rfl)) : OO G call (⟨d, .peq neg x y, none⟩ :: r) K fr H nx :=
  S_peq hx hy h k
theorem A_beq {d : Option Nat} {r : List XOper} {neg : Bool} {x y : XV} {a b : Bool} (k : OO G call r K (putd fr d (bneg neg (a == b))) (H) (nx)) (hx : x.ev G fr = some (.bool a) := by (simp only [evL, reduceIte, Nat.reduceEqDiff, Int.reduceBEq, Int.reduceBNe, *] <;> with_reducible rfl)) (hy : y.ev G fr = some (.bool b) := by (simp only [evL, reduceIte, Nat.reduceEqDiff, Int.reduceBEq, Int.reduceBNe, *] <;> with_reducible rfl)) : OO G call (⟨d, .beq neg x y, none⟩ :: r) K fr H nx :=
  S_beq hx hy k
theorem A_nilchkP {d : Option Nat} {r : List XOper} {x : XV} {h o : Nat} (k : OO G call r K (putd fr d (.ptr h o)) (H) (nx)) (hx : x.ev G fr = some (.ptr h o) := by (simp only [evL, reduceIte, Nat.reduceEqDiff, Int.reduceBEq, Int.reduceBNe, *] <;> with_reducible rfl)) : OO G call (⟨d, .nilchk x, none⟩ :: r) K fr H nx :=
  S_nilchkP hx k
theorem A_nilchkE {d : Option Nat} {r : List XOper} {x : XV} {e : AV} {o : Nat} (k : OO G call r K (putd fr d (.eptr e o)) (H) (nx)) (hx : x.ev G fr = some (.eptr e o) := by (simp only [evL, reduceIte, Nat.reduceEqDiff, Int.reduceBEq, Int.reduceBNe, *] <;> with_reducible rfl)) : OO G call (⟨d, .nilchk x, none⟩ :: r) K fr H nx :=
  S_nilchkE hx k
theorem A_nilchkI {d : Option Nat} {r : List XOper} {x : XV} {t : Nat} {v : AV} (k : OO G call r K (putd fr d (.iface t v)) (H) (nx)) (hx : x.ev G fr = some (.iface t v) := by (simp only [evL, reduceIte, Nat.reduceEqDiff, Int.reduceBEq, Int.reduceBNe, *] <;> with_reducible rfl)) : OO G call (⟨d, .nilchk x, none⟩ :: r) K fr H nx :=
  S_nilchkI hx k
theorem A_nilchkF {d : Option Nat} {r : List XOper} {x : XV} {f : Nat} {a b : List AV} (k : OO G call r K (putd fr d (.func (.func f) a b)) (H) (nx)) (hx : x.ev G fr = some (.func (.func f) a b) := by (simp only [evL, reduceIte, Nat.reduceEqDiff, Int.reduceBEq, Int.reduceBNe, *] <;> with_reducible rfl)) : OO G call (⟨d, .nilchk x, none⟩ :: r) K fr H nx :=
  S_nilchkF hx k
theorem A_slcS {d : Option Nat} {r : List XOper} {x : XV} {lo hi : Option XV} {s : List Nat} {l u : Option AV} {p q : Nat} (k : OO G call r K (putd fr d (.str ((s.take q).drop p))) (H) (nx)) (hx : x.ev G fr = some (.str s) := by (simp only [evL, reduceIte, Nat.reduceEqDiff, Int.reduceBEq, Int.reduceBNe, *] <;> with_reducible rfl)) (hlo : evo G fr lo = some l := by ((simp only [evo, evL, reduceIte, Nat.reduceEqDiff, *] <;> with_reducible rfl))) (hhi : evo G fr hi = some u := by ((simp only [evo, evL, reduceIte, Nat.reduceEqDiff, *] <;> with_reducible rfl))) (h1 : bnd u s.length s.length = some q := by (first | assumption | with_unfolding_all rfl)) (h2 : bnd l 0 q = some p := by (first | assumption | with_unfolding_all rfl)) : OO G call (⟨d, .slcS x lo hi, none⟩ :: r) K fr H nx :=
  S_slcS hx hlo hhi h1 h2 k
theorem A_slcL {d : Option Nat} {r : List XOper} {x : XV} {lo hi mx : Option XV} {sz : Nat} {v v' : AV} {l u m : Option AV} (k : OO G call r K (putd fr d (v')) (H) (nx)) (hx : x.ev G fr = some v := by (simp only [evL, reduceIte, Nat.reduceEqDiff, Int.reduceBEq, Int.reduceBNe, *] <;> with_reducible rfl)) (hlo : evo G fr lo = some l := by ((simp only [evo, evL, reduceIte, Nat.reduceEqDiff, *] <;> with_reducible rfl))) (hhi : evo G fr hi = some u := by ((simp only [evo, evL, reduceIte, Nat.reduceEqDiff, *] <;> with_reducible rfl))) (hm : evo G fr mx = some m := by ((simp only [evo, evL, reduceIte, Nat.reduceEqDiff, *] <;> with_reducible rfl))) (h : xslice sz l u m v = some v' := by (first | assumption | with_unfolding_all rfl)) : OO G call (⟨d, .slcL x lo hi mx sz, none⟩ :: r) K fr H nx :=
  S_slcL hx hlo hhi hm h k
theorem A_append {d : Option Nat} {r : List XOper} {x y : XV} {sz bytes nx' : Nat} {s u v : AV} {H' : Heap} (k : OO G call r K (putd fr d (v)) (H') (nx')) (hx : x.ev G fr = some s := by (simp only [evL, reduceIte, Nat.reduceEqDiff, Int.reduceBEq, Int.reduceBNe, *] <;> with_reducible rfl)) (hy : y.ev G fr = some u := by (simp only [evL, reduceIte, Nat.reduceEqDiff, Int.reduceBEq, Int.reduceBNe, *] <;> with_reducible rfl)) (h : xappend H nx s u sz bytes = some (v, H', nx') := by (first | assumption | with_unfolding_all rfl)) : OO G call (⟨d, .append x y sz bytes, none⟩ :: r) K fr H nx :=
  S_append hx hy h k
theorem A_bslice {d : Option Nat} {r : List XOper} {len sz : Nat} {z cs : List AV} {ps : List (Nat × Nat × XV)} (k : OO G call r K (putd fr d (.row nx 0 len sz len true)) ((nx, .cells false cs) :: H) (nx + 1)) (h : fillx G fr z ps = some cs := by ((simp only [fillx, eq_self, beq_self_eq_true, xload, Heap.get, Heap.put, Sy.part, cellsOf, AV.flat, AV.cells, splice, nbeq_lit, nble_lit, Nat.reduceBEq, Nat.reduceLeDiff, Nat.reduceAdd, Nat.zero_add, Nat.add_zero, decide_true, decide_false, List.take_succ_cons, List.take_zero, List.drop_succ_cons, List.drop_zero, List.cons_append, List.nil_append, List.append_nil, List.length_cons, List.length_nil, List.getElem?_cons_zero, List.getElem?_cons_succ, List.take_nil, List.drop_nil, evL, reduceIte, Nat.reduceEqDiff, *] <;> with_unfolding_all rfl))) : OO G call (⟨d, .bslice len sz z ps, none⟩ :: r) K fr H nx :=
  S_bslice h k
theorem A_mkfunc {d : Option Nat} {r : List XOper} {fn : Fn} {first caps : List XV} {a b : List AV} (k : OO G call r K (putd fr d (.func fn a b)) (H) (nx)) (ha : evs G fr first = some a := by ((simp only [evs, evL, reduceIte, Nat.reduceEqDiff, *] <;> with_reducible rfl))) (hb : evs G fr caps = some b := by ((simp only [evs, evL, reduceIte, Nat.reduceEqDiff, *] <;> with_reducible rfl))) : OO G call (⟨d, .mkfunc fn first caps, none⟩ :: r) K fr H nx :=
  S_mkfunc ha hb k
theorem A_mkif {d : Option Nat} {r : List XOper} {t : Nat} {x : XV} {v : AV} (k : OO G call r K (putd fr d (.iface t v)) (H) (nx)) (hx : x.ev G fr = some v := by (simp only [evL, reduceIte, Nat.reduceEqDiff, Int.reduceBEq, Int.reduceBNe, *] <;> with_reducible rfl)) : OO G call (⟨d, .mkif t x, none⟩ :: r) K fr H nx :=
  S_mkif hx k
theorem A_mkmap {d : Option Nat} {r : List XOper} (k : OO G call r K (putd fr d (.map nx)) ((nx, .map []) :: H) (nx + 1))  : OO G call (⟨d, .mkmap, none⟩ :: r) K fr H nx :=
  S_mkmap  k
theorem A_min {d : Option Nat} {r : List XOper} {x y : XV} {q : IntKind} {a b : Int} (k : OO G call r K (putd fr d (.int q (if b < a then b else a))) (H) (nx)) (hx : x.ev G fr = some (.int q a) := by (simp only [evL, reduceIte, Nat.reduceEqDiff, Int.reduceBEq, Int.reduceBNe, *] <;> with_reducible rfl)) (hy : y.ev G fr = some (.int q b) := by (simp only [evL, reduceIte, Nat.reduceEqDiff, Int.reduceBEq, Int.reduceBNe, *] <;> with_reducible rfl)) : OO G call (⟨d, .min x y, none⟩ :: r) K fr H nx :=
  S_min hx hy k
theorem A_max {d : Option Nat} {r : List XOper} {x y : XV} {q : IntKind} {a b : Int} (k : OO G call r K (putd fr d (.int q (if b > a then b else a))) (H) (nx)) (hx : x.ev G fr = some (.int q a) := by (simp only [evL, reduceIte, Nat.reduceEqDiff, Int.reduceBEq, Int.reduceBNe, *] <;> with_reducible rfl)) (hy : y.ev G fr = some (.int q b) := by (simp only [evL, reduceIte, Nat.reduceEqDiff, Int.reduceBEq, Int.reduceBNe, *] <;> with_reducible rfl)) : OO G call (⟨d, .max x y, none⟩ :: r) K fr H nx :=
  S_max hx hy k
theorem A_s2s {d : Option Nat} {r : List XOper} {x : XV} {s : List Nat} (k : OO G call r K (putd fr d (.str s)) (H) (nx)) (hx : x.ev G fr = some (.str s) := by (simp only [evL, reduceIte, Nat.reduceEqDiff, Int.reduceBEq, Int.reduceBNe, *] <;> with_reducible rfl)) : OO G call (⟨d, .s2s x, none⟩ :: r) K fr H nx :=
  S_s2s hx k
theorem A_idxb {d : Option Nat} {r : List XOper} {x c : XV} {s : List Nat} {b : Nat} (k : OO G call r K (putd fr d (.int .i64 (bidx b 0 s))) (H) (nx)) (hx : x.ev G fr = some (.str s) := by (simp only [evL, reduceIte, Nat.reduceEqDiff, Int.reduceBEq, Int.reduceBNe, *] <;> with_reducible rfl)) (hc : c.ev G fr = some (.int .u8 (.ofNat b)) := by (first | (simp only [evL, reduceIte, Nat.reduceEqDiff, Int.reduceBEq, Int.reduceBNe, *] <;> with_reducible rfl) | (simp only [evL, reduceIte, Nat.reduceEqDiff, Int.reduceBEq, Int.reduceBNe, *] <;> rfl))) : OO G call (⟨d, .idxb x c, none⟩ :: r) K fr H nx :=
  S_idxb hx hc k
theorem A_lenM {d : Option Nat} {r : List XOper} {x : XV} {h : Nat} {es : List (AV × AV)} (k : OO G call r K (putd fr d (.int .i64 (.ofNat es.length))) (H) (nx)) (hx : x.ev G fr = some (.map h) := by (simp only [evL, reduceIte, Nat.reduceEqDiff, Int.reduceBEq, Int.reduceBNe, *] <;> with_reducible rfl)) (hh : H.get h = some (.map es) := by (first | assumption | with_unfolding_all rfl)) (hl : es.length ≤ maxStr := by (first | assumption | omega)) : OO G call (⟨d, .lenM x, none⟩ :: r) K fr H nx :=
  S_lenM hx hh hl k
theorem A_callv {d : Option Nat} {r : List XOper} {nx' : Nat} {f : XV} {args : List XV} {vs : List AV} {v fv : AV} {H' : Heap} (k : OO G call r K (putd fr d (v)) (H') (nx')) (hf : f.ev G fr = some fv := by (simp only [evL, reduceIte, Nat.reduceEqDiff, Int.reduceBEq, Int.reduceBNe, *] <;> with_reducible rfl)) (ha : evs G fr args = some vs := by ((simp only [evs, evL, reduceIte, Nat.reduceEqDiff, *] <;> with_reducible rfl))) (h : applyf call H nx vs fv = some (v, H', nx') := by (first | assumption | with_unfolding_all rfl)) : OO G call (⟨d, .callv f args, none⟩ :: r) K fr H nx :=
  S_callv hf ha h k
theorem A_lookupS {d : Option Nat} {r : List XOper} {ag : Bool} {ks : List Kd} {m kx : XV} {z kv v : AV} {h : Nat} {es : List (AV × AV)} (k : OO G call r K (putd fr d (v)) (H) (nx)) (hm : m.ev G fr = some (.map h) := by (simp only [evL, reduceIte, Nat.reduceEqDiff, Int.reduceBEq, Int.reduceBNe, *] <;> with_reducible rfl)) (hk : kx.ev G fr = some kv := by (simp only [evL, reduceIte, Nat.reduceEqDiff, Int.reduceBEq, Int.reduceBNe, *] <;> with_reducible rfl)) (ho : keyOk ag ks kv = true := by ((with_unfolding_all rfl))) (hh : H.get h = some (.map es) := by (first | assumption | with_unfolding_all rfl)) (hf : mfind ag ks kv es = some (some v) := by (assumption)) : OO G call (⟨d, .lookup ag ks m kx z false, none⟩ :: r) K fr H nx :=
  S_lookupS hm hk ho hh hf k
theorem A_lookupN {d : Option Nat} {r : List XOper} {ag : Bool} {ks : List Kd} {m kx : XV} {z kv : AV} {h : Nat} {es : List (AV × AV)} (k : OO G call r K (putd fr d (z)) (H) (nx)) (hm : m.ev G fr = some (.map h) := by (simp only [evL, reduceIte, Nat.reduceEqDiff, Int.reduceBEq, Int.reduceBNe, *] <;> with_reducible rfl)) (hk : kx.ev G fr = some kv := by (simp only [evL, reduceIte, Nat.reduceEqDiff, Int.reduceBEq, Int.reduceBNe, *] <;> with_reducible rfl)) (ho : keyOk ag ks kv = true := by ((with_unfolding_all rfl))) (hh : H.get h = some (.map es) := by (first | assumption | with_unfolding_all rfl)) (hf : mfind ag ks kv es = some none := by (assumption)) : OO G call (⟨d, .lookup ag ks m kx z false, none⟩ :: r) K fr H nx :=
  S_lookupN hm hk ho hh hf k
theorem A_mupd {d : Option Nat} {r : List XOper} {ag : Bool} {ks : List Kd} {m kx v : XV} {kv vv : AV} {h : Nat} {es es' : List (AV × AV)} (k : OO G call r K (putd fr d (.tup [])) (H.put h (.map es')) (nx)) (hm : m.ev G fr = some (.map h) := by (simp only [evL, reduceIte, Nat.reduceEqDiff, Int.reduceBEq, Int.reduceBNe, *] <;> with_reducible rfl)) (hk : kx.ev G fr = some kv := by (simp only [evL, reduceIte, Nat.reduceEqDiff, Int.reduceBEq, Int.reduceBNe, *] <;> with_reducible rfl)) (hv : v.ev G fr = some vv := by (simp only [evL, reduceIte, Nat.reduceEqDiff, Int.reduceBEq, Int.reduceBNe, *] <;> with_reducible rfl)) (ho : keyOk ag ks kv = true := by ((with_unfolding_all rfl))) (hh : H.get h = some (.map es) := by (first | assumption | with_unfolding_all rfl)) (hp : mput ag ks kv vv es = some es' := by (assumption)) : OO G call (⟨d, .mupd ag ks m kx v, none⟩ :: r) K fr H nx :=
  S_mupd hm hk hv ho hh hp k
theorem A_del {d : Option Nat} {r : List XOper} {ag : Bool} {ks : List Kd} {m kx : XV} {kv : AV} {h : Nat} {es es' : List (AV × AV)} (k : OO G call r K (putd fr d (.tup [])) (H.put h (.map es')) (nx)) (hm : m.ev G fr = some (.map h) := by (simp only [evL, reduceIte, Nat.reduceEqDiff, Int.reduceBEq, Int.reduceBNe, *] <;> with_reducible rfl)) (hk : kx.ev G fr = some kv := by (simp only [evL, reduceIte, Nat.reduceEqDiff, Int.reduceBEq, Int.reduceBNe, *] <;> with_reducible rfl)) (ho : keyOk ag ks kv = true := by ((with_unfolding_all rfl))) (hh : H.get h = some (.map es) := by (first | assumption | with_unfolding_all rfl)) (hp : mdel ag ks kv es = some es' := by (assumption)) : OO G call (⟨d, .del ag ks m kx, none⟩ :: r) K fr H nx :=
  S_del hm hk ho hh hp k
theorem A_b2s {d : Option Nat} {r : List XOper} {x : XV} {v : AV} {n : Nat} {cs : List AV} {s : List Nat} (k : OO G call r K (putd fr d (.str s)) (H) (nx)) (hx : x.ev G fr = some v := by (simp only [evL, reduceIte, Nat.reduceEqDiff, Int.reduceBEq, Int.reduceBNe, *] <;> with_reducible rfl)) (hn : notStr v = true := by (rfl)) (hc : content H 1 v = some (n, cs) := by (first | assumption | with_unfolding_all rfl)) (hb : toBytes cs = some s := by (assumption)) : OO G call (⟨d, .b2s x, none⟩ :: r) K fr H nx :=
  S_b2s hx hn hc hb k
theorem A_gdT {d : Option Nat} {op : XO} {t : Nat} {b : Bool} {r : List XOper} (k : OO G call (⟨d, op, none⟩ :: r) K fr H nx) (hg : fr.get t = some (.bool b) := by (simp only [evL, reduceIte, Nat.reduceEqDiff, Int.reduceBEq, Int.reduceBNe, *] <;> with_reducible rfl)) : OO G call (⟨d, op, some (t, b)⟩ :: r) K fr H nx :=
  S_gdT hg k
theorem M_gdT' {d : Option Nat} {op : XO} {t : Nat} {b : Bool} {r : List XOper} (k : MM G call (⟨d, op, none⟩ :: r) K fr H nx) (hg : fr.get t = some (.bool b) := by (simp only [evL, reduceIte, Nat.reduceEqDiff, Int.reduceBEq, Int.reduceBNe, *] <;> with_reducible rfl)) : MM G call (⟨d, op, some (t, b)⟩ :: r) K fr H nx :=
  M_gdT hg k
theorem A_gdF {d : Option Nat} {op : XO} {t : Nat} {r : List XOper} (k : OO G call r K (putd fr d (.tup [])) H nx) (hg : fr.get t = some (.bool true) := by (simp only [evL, reduceIte, Nat.reduceEqDiff, Int.reduceBEq, Int.reduceBNe, *] <;> with_reducible rfl)) : OO G call (⟨d, op, some (t, false)⟩ :: r) K fr H nx :=
  S_gdF hg k
theorem M_gdF' {d : Option Nat} {op : XO} {t : Nat} {r : List XOper} (k : MM G call r K (putd fr d (.tup [])) H nx) (hg : fr.get t = some (.bool true) := by (simp only [evL, reduceIte, Nat.reduceEqDiff, Int.reduceBEq, Int.reduceBNe, *] <;> with_reducible rfl)) : MM G call (⟨d, op, some (t, false)⟩ :: r) K fr H nx :=
  M_gdF hg k
theorem A_gdN {d : Option Nat} {op : XO} {t : Nat} {r : List XOper} (k : OO G call r K (putd fr d (.tup [])) H nx) (hg : fr.get t = some (.bool false) := by (simp only [evL, reduceIte, Nat.reduceEqDiff, Int.reduceBEq, Int.reduceBNe, *] <;> with_reducible rfl)) : OO G call (⟨d, op, some (t, true)⟩ :: r) K fr H nx :=
  S_gdN hg k
theorem M_gdN' {d : Option Nat} {op : XO} {t : Nat} {r : List XOper} (k : MM G call r K (putd fr d (.tup [])) H nx) (hg : fr.get t = some (.bool false) := by (simp only [evL, reduceIte, Nat.reduceEqDiff, Int.reduceBEq, Int.reduceBNe, *] <;> with_reducible rfl)) : MM G call (⟨d, op, some (t, true)⟩ :: r) K fr H nx :=
  M_gdN hg k
theorem A_gdU {d : Option Nat} {op : XO} {t : Nat} {b : Bool} {r : List XOper} (k : OO G call r K (putd fr d (.tup [])) H nx) (hg : fr.get t = some (.tup []) := by (simp only [evL, reduceIte, Nat.reduceEqDiff, Int.reduceBEq, Int.reduceBNe, *] <;> with_reducible rfl)) : OO G call (⟨d, op, some (t, b)⟩ :: r) K fr H nx :=
  S_gdU hg k
theorem M_gdU' {d : Option Nat} {op : XO} {t : Nat} {b : Bool} {r : List XOper} (k : MM G call r K (putd fr d (.tup [])) H nx) (hg : fr.get t = some (.tup []) := by (simp only [evL, reduceIte, Nat.reduceEqDiff, Int.reduceBEq, Int.reduceBNe, *] <;> with_reducible rfl)) : MM G call (⟨d, op, some (t, b)⟩ :: r) K fr H nx :=
  M_gdU hg k
theorem A_gd2f {d : Option Nat} {op : XO} {t : Nat} {c : Bool} {r : List XOper} (k1 : c = false → OO G call (⟨d, op, none⟩ :: r) K fr H nx) (k2 : c = true → OO G call r K (putd fr d (.tup [])) H nx) (hg : fr.get t = some (.bool c) := by (simp only [evL, reduceIte, Nat.reduceEqDiff, Int.reduceBEq, Int.reduceBNe, *] <;> with_reducible rfl)) : OO G call (⟨d, op, some (t, false)⟩ :: r) K fr H nx :=
  S_gd2f hg k1 k2
theorem M_gd2f' {d : Option Nat} {op : XO} {t : Nat} {c : Bool} {r : List XOper} (k1 : c = false → MM G call (⟨d, op, none⟩ :: r) K fr H nx) (k2 : c = true → MM G call r K (putd fr d (.tup [])) H nx) (hg : fr.get t = some (.bool c) := by (simp only [evL, reduceIte, Nat.reduceEqDiff, Int.reduceBEq, Int.reduceBNe, *] <;> with_reducible rfl)) : MM G call (⟨d, op, some (t, false)⟩ :: r) K fr H nx :=
  M_gd2f hg k1 k2
theorem A_gd2t {d : Option Nat} {op : XO} {t : Nat} {c : Bool} {r : List XOper} (k1 : c = true → OO G call (⟨d, op, none⟩ :: r) K fr H nx) (k2 : c = false → OO G call r K (putd fr d (.tup [])) H nx) (hg : fr.get t = some (.bool c) := by (simp only [evL, reduceIte, Nat.reduceEqDiff, Int.reduceBEq, Int.reduceBNe, *] <;> with_reducible rfl)) : OO G call (⟨d, op, some (t, true)⟩ :: r) K fr H nx :=
  S_gd2t hg k1 k2
theorem M_gd2t' {d : Option Nat} {op : XO} {t : Nat} {c : Bool} {r : List XOper} (k1 : c = true → MM G call (⟨d, op, none⟩ :: r) K fr H nx) (k2 : c = false → MM G call r K (putd fr d (.tup [])) H nx) (hg : fr.get t = some (.bool c) := by (simp only [evL, reduceIte, Nat.reduceEqDiff, Int.reduceBEq, Int.reduceBNe, *] <;> with_reducible rfl)) : MM G call (⟨d, op, some (t, true)⟩ :: r) K fr H nx :=
  M_gd2t hg k1 k2
end
section
variable {G : Cx} {call : Call} {fr : Fr} {H : Heap} {nx : Nat}
theorem M_mov {d : Option Nat} {r : List XOper} {K : Fr → Heap → Nat → Prop} {x : XV} {v : AV} (k : MM G call r K (putd fr d (v)) (H) (nx)) (hx : x.ev G fr = some v := by (simp only [evL, reduceIte, Nat.reduceEqDiff, Int.reduceBEq, Int.reduceBNe, *] <;> with_reducible rfl)) (hd : deepB 40 (v) = true := by (first | with_unfolding_all rfl | assumption | (simp only [deepB, List.all_cons, List.all_nil, Bool.and_true, *] <;> rfl))) : MM G call (⟨d, (.mov x), none⟩ :: r) K fr H nx :=
  M_step (X_mov hx) hd k
theorem M_bin {d : Option Nat} {r : List XOper} {K : Fr → Heap → Nat → Prop} {op : BinOp} {x y : XV} {a b v : AV} (k : MM G call r K (putd fr d (v)) (H) (nx)) (hx : x.ev G fr = some a := by (simp only [evL, reduceIte, Nat.reduceEqDiff, Int.reduceBEq, Int.reduceBNe, *] <;> with_reducible rfl)) (hy : y.ev G fr = some b := by (simp only [evL, reduceIte, Nat.reduceEqDiff, Int.reduceBEq, Int.reduceBNe, *] <;> with_reducible rfl)) (h : xbin op a b = some v := by (first | exact xbin_add1 (by omega) | assumption | with_unfolding_all rfl)) (hd : deepB 40 (v) = true := by (first | with_unfolding_all rfl | assumption | (simp only [deepB, List.all_cons, List.all_nil, Bool.and_true, *] <;> rfl))) : MM G call (⟨d, (.bin op x y), none⟩ :: r) K fr H nx :=
  M_step (X_bin hx hy h) hd k
theorem M_pickT {d : Option Nat} {r : List XOper} {K : Fr → Heap → Nat → Prop} {c a b : XV} {v : AV} (k : MM G call r K (putd fr d (v)) (H) (nx)) (hc : c.ev G fr = some (.bool true) := by (simp only [evL, reduceIte, Nat.reduceEqDiff, Int.reduceBEq, Int.reduceBNe, *] <;> with_reducible rfl)) (ha : a.ev G fr = some v := by (simp only [evL, reduceIte, Nat.reduceEqDiff, Int.reduceBEq, Int.reduceBNe, *] <;> with_reducible rfl)) (hd : deepB 40 (v) = true := by (first | with_unfolding_all rfl | assumption | (simp only [deepB, List.all_cons, List.all_nil, Bool.and_true, *] <;> rfl))) : MM G call (⟨d, (.pick c a b), none⟩ :: r) K fr H nx :=
  M_step (X_pickT hc ha) hd k
theorem M_pickF {d : Option Nat} {r : List XOper} {K : Fr → Heap → Nat → Prop} {c a b : XV} {v : AV} (k : MM G call r K (putd fr d (v)) (H) (nx)) (hc : c.ev G fr = some (.bool false) := by (simp only [evL, reduceIte, Nat.reduceEqDiff, Int.reduceBEq, Int.reduceBNe, *] <;> with_reducible rfl)) (ha : b.ev G fr = some v := by (simp only [evL, reduceIte, Nat.reduceEqDiff, Int.reduceBEq, Int.reduceBNe, *] <;> with_reducible rfl)) (hd : deepB 40 (v) = true := by (first | with_unfolding_all rfl | assumption | (simp only [deepB, List.all_cons, List.all_nil, Bool.and_true, *] <;> rfl))) : MM G call (⟨d, (.pick c a b), none⟩ :: r) K fr H nx :=
  M_step (X_pickF hc ha) hd k
theorem M_un {d : Option Nat} {r : List XOper} {K : Fr → Heap → Nat → Prop} {op : UnOp} {x : XV} {a v : AV} (k : MM G call r K (putd fr d (v)) (H) (nx)) (hx : x.ev G fr = some a := by (simp only [evL, reduceIte, Nat.reduceEqDiff, Int.reduceBEq, Int.reduceBNe, *] <;> with_reducible rfl)) (h : xun op a = some v := by ((with_unfolding_all rfl))) (hd : deepB 40 (v) = true := by (first | with_unfolding_all rfl | assumption | (simp only [deepB, List.all_cons, List.all_nil, Bool.and_true, *] <;> rfl))) : MM G call (⟨d, (.un op x), none⟩ :: r) K fr H nx :=
  M_step (X_un hx h) hd k
theorem M_lenS {d : Option Nat} {r : List XOper} {K : Fr → Heap → Nat → Prop} {x : XV} {s : List Nat} (k : MM G call r K (putd fr d (.int .i64 (.ofNat s.length))) (H) (nx)) (hx : x.ev G fr = some (.str s) := by (simp only [evL, reduceIte, Nat.reduceEqDiff, Int.reduceBEq, Int.reduceBNe, *] <;> with_reducible rfl)) (hd : deepB 40 (.int .i64 (.ofNat s.length)) = true := by (first | with_unfolding_all rfl | assumption | (simp only [deepB, List.all_cons, List.all_nil, Bool.and_true, *] <;> rfl))) : MM G call (⟨d, (.lenS x), none⟩ :: r) K fr H nx :=
  M_step (X_lenS hx) hd k
theorem M_lenL1 {d : Option Nat} {r : List XOper} {K : Fr → Heap → Nat → Prop} {x : XV} {z : Nat} {es : List AV} (k : MM G call r K (putd fr d (.int .i64 (.ofNat es.length))) (H) (nx)) (hx : x.ev G fr = some (.lst z es) := by (simp only [evL, reduceIte, Nat.reduceEqDiff, Int.reduceBEq, Int.reduceBNe, *] <;> with_reducible rfl)) (hd : deepB 40 (.int .i64 (.ofNat es.length)) = true := by (first | with_unfolding_all rfl | assumption | (simp only [deepB, List.all_cons, List.all_nil, Bool.and_true, *] <;> rfl))) : MM G call (⟨d, (.lenL x), none⟩ :: r) K fr H nx :=
  M_step (X_lenL1 hx) hd k
theorem M_lenL2 {d : Option Nat} {r : List XOper} {K : Fr → Heap → Nat → Prop} {x : XV} {h o len z c : Nat} {e : Bool} (k : MM G call r K (putd fr d (.int .i64 (.ofNat len))) (H) (nx)) (hx : x.ev G fr = some (.row h o len z c e) := by (simp only [evL, reduceIte, Nat.reduceEqDiff, Int.reduceBEq, Int.reduceBNe, *] <;> with_reducible rfl)) (hd : deepB 40 (.int .i64 (.ofNat len)) = true := by (first | with_unfolding_all rfl | assumption | (simp only [deepB, List.all_cons, List.all_nil, Bool.and_true, *] <;> rfl))) : MM G call (⟨d, (.lenL x), none⟩ :: r) K fr H nx :=
  M_step (X_lenL2 hx) hd k
theorem M_lenL0 {d : Option Nat} {r : List XOper} {K : Fr → Heap → Nat → Prop} {x : XV} (k : MM G call r K (putd fr d (.int .i64 (.ofNat 0))) (H) (nx)) (hx : x.ev G fr = some .nilslice := by (simp only [evL, reduceIte, Nat.reduceEqDiff, Int.reduceBEq, Int.reduceBNe, *] <;> with_reducible rfl)) (hd : deepB 40 (.int .i64 (.ofNat 0)) = true := by (first | with_unfolding_all rfl | assumption | (simp only [deepB, List.all_cons, List.all_nil, Bool.and_true, *] <;> rfl))) : MM G call (⟨d, (.lenL x), none⟩ :: r) K fr H nx :=
  M_step (X_lenL0 hx) hd k
theorem M_ext {d : Option Nat} {r : List XOper} {K : Fr → Heap → Nat → Prop} {x : XV} {i : Nat} {vs : List AV} {v : AV} (k : MM G call r K (putd fr d (v)) (H) (nx)) (hx : x.ev G fr = some (.tup vs) := by (simp only [evL, reduceIte, Nat.reduceEqDiff, Int.reduceBEq, Int.reduceBNe, *] <;> with_reducible rfl)) (h : vs[i]? = some v := by ((with_unfolding_all rfl))) (hd : deepB 40 (v) = true := by (first | with_unfolding_all rfl | assumption | (simp only [deepB, List.all_cons, List.all_nil, Bool.and_true, *] <;> rfl))) : MM G call (⟨d, (.ext x i), none⟩ :: r) K fr H nx :=
  M_step (X_ext hx h) hd k
theorem M_fld {d : Option Nat} {r : List XOper} {K : Fr → Heap → Nat → Prop} {x : XV} {off sz : Nat} {ag : Bool} {cs : List AV} {v : AV} (k : MM G call r K (putd fr d (v)) (H) (nx)) (hx : x.ev G fr = some (.agg cs) := by (simp only [evL, reduceIte, Nat.reduceEqDiff, Int.reduceBEq, Int.reduceBNe, *] <;> with_reducible rfl)) (h : part cs off sz ag = some v := by (first | assumption | with_unfolding_all rfl)) (hd : deepB 40 (v) = true := by (first | with_unfolding_all rfl | assumption | (simp only [deepB, List.all_cons, List.all_nil, Bool.and_true, *] <;> rfl))) : MM G call (⟨d, (.fld x off sz ag), none⟩ :: r) K fr H nx :=
  M_step (X_fld hx h) hd k
theorem M_idxS {d : Option Nat} {r : List XOper} {K : Fr → Heap → Nat → Prop} {x i : XV} {s : List Nat} {q : IntKind} {n b : Nat} (k : MM G call r K (putd fr d (.int .u8 (.ofNat b))) (H) (nx)) (hx : x.ev G fr = some (.str s) := by (simp only [evL, reduceIte, Nat.reduceEqDiff, Int.reduceBEq, Int.reduceBNe, *] <;> with_reducible rfl)) (hi : i.ev G fr = some (.int q (.ofNat n)) := by (first | (simp only [evL, reduceIte, Nat.reduceEqDiff, Int.reduceBEq, Int.reduceBNe, *] <;> with_reducible rfl) | (simp only [evL, reduceIte, Nat.reduceEqDiff, Int.reduceBEq, Int.reduceBNe, *] <;> rfl))) (h : s[n]? = some b := by (first | with_unfolding_all rfl | assumption | (simp only [*] <;> rfl))) (hd : deepB 40 (.int .u8 (.ofNat b)) = true := by (first | with_unfolding_all rfl | assumption | (simp only [deepB, List.all_cons, List.all_nil, Bool.and_true, *] <;> rfl))) : MM G call (⟨d, (.idxS x i), none⟩ :: r) K fr H nx :=
  M_step (X_idxS hx hi h) hd k
theorem M_faddrP {d : Option Nat} {r : List XOper} {K : Fr → Heap → Nat → Prop} {x : XV} {off h o : Nat} (k : MM G call r K (putd fr d (.ptr h (o + off))) (H) (nx)) (hx : x.ev G fr = some (.ptr h o) := by (simp only [evL, reduceIte, Nat.reduceEqDiff, Int.reduceBEq, Int.reduceBNe, *] <;> with_reducible rfl)) (hd : deepB 40 (.ptr h (o + off)) = true := by (first | with_unfolding_all rfl | assumption | (simp only [deepB, List.all_cons, List.all_nil, Bool.and_true, *] <;> rfl))) : MM G call (⟨d, (.faddr x off), none⟩ :: r) K fr H nx :=
  M_step (X_faddrP hx) hd k
theorem M_faddrE {d : Option Nat} {r : List XOper} {K : Fr → Heap → Nat → Prop} {x : XV} {off o : Nat} {e : AV} (k : MM G call r K (putd fr d (.eptr e (o + off))) (H) (nx)) (hx : x.ev G fr = some (.eptr e o) := by (simp only [evL, reduceIte, Nat.reduceEqDiff, Int.reduceBEq, Int.reduceBNe, *] <;> with_reducible rfl)) (hd : deepB 40 (.eptr e (o + off)) = true := by (first | with_unfolding_all rfl | assumption | (simp only [deepB, List.all_cons, List.all_nil, Bool.and_true, *] <;> rfl))) : MM G call (⟨d, (.faddr x off), none⟩ :: r) K fr H nx :=
  M_step (X_faddrE hx) hd k
theorem M_iaddrL {d : Option Nat} {r : List XOper} {K : Fr → Heap → Nat → Prop} {x i : XV} {sz n : Nat} {es : List AV} {q : IntKind} {e : AV} (k : MM G call r K (putd fr d (.eptr e 0)) (H) (nx)) (hx : x.ev G fr = some (.lst sz es) := by (simp only [evL, reduceIte, Nat.reduceEqDiff, Int.reduceBEq, Int.reduceBNe, *] <;> with_reducible rfl)) (hi : i.ev G fr = some (.int q (.ofNat n)) := by (first | (simp only [evL, reduceIte, Nat.reduceEqDiff, Int.reduceBEq, Int.reduceBNe, *] <;> with_reducible rfl) | (simp only [evL, reduceIte, Nat.reduceEqDiff, Int.reduceBEq, Int.reduceBNe, *] <;> rfl))) (h : es[n]? = some e := by (first | assumption | with_unfolding_all rfl)) (hd : deepB 40 (.eptr e 0) = true := by (first | with_unfolding_all rfl | assumption | (simp only [deepB, List.all_cons, List.all_nil, Bool.and_true, *] <;> rfl))) : MM G call (⟨d, (.iaddrS x i sz), none⟩ :: r) K fr H nx :=
  M_step (X_iaddrL hx hi h) hd k
theorem M_iaddrR {d : Option Nat} {r : List XOper} {K : Fr → Heap → Nat → Prop} {x i : XV} {sz n h off len cp : Nat} {ex : Bool} {q : IntKind} (k : MM G call r K (putd fr d (.ptr h (off + n * sz))) (H) (nx)) (hx : x.ev G fr = some (.row h off len sz cp ex) := by (simp only [evL, reduceIte, Nat.reduceEqDiff, Int.reduceBEq, Int.reduceBNe, *] <;> with_reducible rfl)) (hi : i.ev G fr = some (.int q (.ofNat n)) := by (first | (simp only [evL, reduceIte, Nat.reduceEqDiff, Int.reduceBEq, Int.reduceBNe, *] <;> with_reducible rfl) | (simp only [evL, reduceIte, Nat.reduceEqDiff, Int.reduceBEq, Int.reduceBNe, *] <;> rfl))) (hl : n < len := by (omega)) (hd : deepB 40 (.ptr h (off + n * sz)) = true := by (first | with_unfolding_all rfl | assumption | (simp only [deepB, List.all_cons, List.all_nil, Bool.and_true, *] <;> rfl))) : MM G call (⟨d, (.iaddrS x i sz), none⟩ :: r) K fr H nx :=
  M_step (X_iaddrR hx hi hl) hd k
theorem M_load {d : Option Nat} {r : List XOper} {K : Fr → Heap → Nat → Prop} {x : XV} {sz : Nat} {ag : Bool} {a v : AV} (k : MM G call r K (putd fr d (v)) (H) (nx)) (hx : x.ev G fr = some a := by (simp only [evL, reduceIte, Nat.reduceEqDiff, Int.reduceBEq, Int.reduceBNe, *] <;> with_reducible rfl)) (h : xload H sz ag a = some v := by (first | assumption | (simp only [eq_self, beq_self_eq_true, xload, Heap.get, Heap.put, Sy.part, cellsOf, AV.flat, AV.cells, splice, nbeq_lit, nble_lit, Nat.reduceBEq, Nat.reduceLeDiff, Nat.reduceAdd, Nat.zero_add, Nat.add_zero, decide_true, decide_false, List.take_succ_cons, List.take_zero, List.drop_succ_cons, List.drop_zero, List.cons_append, List.nil_append, List.append_nil, List.length_cons, List.length_nil, List.getElem?_cons_zero, List.getElem?_cons_succ, List.take_nil, List.drop_nil] <;> with_reducible rfl) | with_unfolding_all rfl | (simp only [xload, Heap.get, Sy.part, *] <;> with_unfolding_all rfl))) (hd : deepB 40 (v) = true := by (first | with_unfolding_all rfl | assumption | (simp only [deepB, List.all_cons, List.all_nil, Bool.and_true, *] <;> rfl))) : MM G call (⟨d, (.load x sz ag), none⟩ :: r) K fr H nx :=
  M_step (X_load hx h) hd k
theorem M_build {d : Option Nat} {r : List XOper} {K : Fr → Heap → Nat → Prop} {z cs : List AV} {ps : List (Nat × Nat × XV)} (k : MM G call r K (putd fr d (.agg cs)) (H) (nx)) (h : fillx G fr z ps = some cs := by ((simp only [fillx, eq_self, beq_self_eq_true, xload, Heap.get, Heap.put, Sy.part, cellsOf, AV.flat, AV.cells, splice, nbeq_lit, nble_lit, Nat.reduceBEq, Nat.reduceLeDiff, Nat.reduceAdd, Nat.zero_add, Nat.add_zero, decide_true, decide_false, List.take_succ_cons, List.take_zero, List.drop_succ_cons, List.drop_zero, List.cons_append, List.nil_append, List.append_nil, List.length_cons, List.length_nil, List.getElem?_cons_zero, List.getElem?_cons_succ, List.take_nil, List.drop_nil, evL, reduceIte, Nat.reduceEqDiff, *] <;> with_unfolding_all rfl))) (hd : deepB 40 (.agg cs) = true := by (first | with_unfolding_all rfl | assumption | (simp only [deepB, List.all_cons, List.all_nil, Bool.and_true, *] <;> rfl))) : MM G call (⟨d, (.build z ps), none⟩ :: r) K fr H nx :=
  M_step (X_build h) hd k
theorem M_store {d : Option Nat} {r : List XOper} {K : Fr → Heap → Nat → Prop} {a x : XV} {sz h off : Nat} {v : AV} {str : Bool} {cs new : List AV} (k : MM G call r K (putd fr d (.tup [])) (H.put h (.cells str (splice cs off new))) (nx)) (ha : a.ev G fr = some (.ptr h off) := by (simp only [evL, reduceIte, Nat.reduceEqDiff, Int.reduceBEq, Int.reduceBNe, *] <;> with_reducible rfl)) (hx : x.ev G fr = some v := by (simp only [evL, reduceIte, Nat.reduceEqDiff, Int.reduceBEq, Int.reduceBNe, *] <;> with_reducible rfl)) (hh : H.get h = some (.cells str cs) := by (first | assumption | (simp only [eq_self, beq_self_eq_true, xload, Heap.get, Heap.put, Sy.part, cellsOf, AV.flat, AV.cells, splice, nbeq_lit, nble_lit, Nat.reduceBEq, Nat.reduceLeDiff, Nat.reduceAdd, Nat.zero_add, Nat.add_zero, decide_true, decide_false, List.take_succ_cons, List.take_zero, List.drop_succ_cons, List.drop_zero, List.cons_append, List.nil_append, List.append_nil, List.length_cons, List.length_nil, List.getElem?_cons_zero, List.getElem?_cons_succ, List.take_nil, List.drop_nil] <;> with_reducible rfl))) (hn : cellsOf v sz = some new := by ((simp only [eq_self, beq_self_eq_true, xload, Heap.get, Heap.put, Sy.part, cellsOf, AV.flat, AV.cells, splice, nbeq_lit, nble_lit, Nat.reduceBEq, Nat.reduceLeDiff, Nat.reduceAdd, Nat.zero_add, Nat.add_zero, decide_true, decide_false, List.take_succ_cons, List.take_zero, List.drop_succ_cons, List.drop_zero, List.cons_append, List.nil_append, List.append_nil, List.length_cons, List.length_nil, List.getElem?_cons_zero, List.getElem?_cons_succ, List.take_nil, List.drop_nil] <;> with_reducible rfl))) (hl : Nat.ble (off + sz) cs.length = true := by (first | (simp only [eq_self, beq_self_eq_true, xload, Heap.get, Heap.put, Sy.part, cellsOf, AV.flat, AV.cells, splice, nbeq_lit, nble_lit, Nat.reduceBEq, Nat.reduceLeDiff, Nat.reduceAdd, Nat.zero_add, Nat.add_zero, decide_true, decide_false, List.take_succ_cons, List.take_zero, List.drop_succ_cons, List.drop_zero, List.cons_append, List.nil_append, List.append_nil, List.length_cons, List.length_nil, List.getElem?_cons_zero, List.getElem?_cons_succ, List.take_nil, List.drop_nil]; done) | with_unfolding_all rfl)) (hd : deepB 40 (.tup []) = true := by (first | with_unfolding_all rfl | assumption | (simp only [deepB, List.all_cons, List.all_nil, Bool.and_true, *] <;> rfl))) : MM G call (⟨d, (.store a x sz), none⟩ :: r) K fr H nx :=
  M_step (X_store ha hx hh hn hl) hd k
theorem M_call {d : Option Nat} {r : List XOper} {K : Fr → Heap → Nat → Prop} {f : Nat} {args : List XV} {vs : List AV} {v : AV} {H' : Heap} {nx' : Nat} (k : MM G call r K (putd fr d (v)) (H') (nx')) (ha : evs G fr args = some vs := by ((simp only [evs, evL, reduceIte, Nat.reduceEqDiff, *] <;> with_reducible rfl))) (h : call f vs H nx = some (v, H', nx') := by (first | assumption | with_unfolding_all rfl | (simp only [callP, *] <;> with_unfolding_all rfl))) (hd : deepB 40 (v) = true := by (first | with_unfolding_all rfl | assumption | (simp only [deepB, List.all_cons, List.all_nil, Bool.and_true, *] <;> rfl))) : MM G call (⟨d, (.call f args), none⟩ :: r) K fr H nx :=
  M_step (X_callH ha h) hd k
theorem M_conv {d : Option Nat} {r : List XOper} {K : Fr → Heap → Nat → Prop} {q q' : IntKind} {x : XV} {n : Int} (k : MM G call r K (putd fr d (.int q (wrapx q n))) (H) (nx)) (hx : x.ev G fr = some (.int q' n) := by (simp only [evL, reduceIte, Nat.reduceEqDiff, Int.reduceBEq, Int.reduceBNe, *] <;> with_reducible rfl)) (hd : deepB 40 (.int q (wrapx q n)) = true := by (first | with_unfolding_all rfl | assumption | (simp only [deepB, List.all_cons, List.all_nil, Bool.and_true, *] <;> rfl))) : MM G call (⟨d, (.conv q x), none⟩ :: r) K fr H nx :=
  M_step (X_conv hx) hd k
theorem M_ieq {d : Option Nat} {r : List XOper} {K : Fr → Heap → Nat → Prop} {neg lit : Bool} {kt : Nat → Option Kd} {x y : XV} {a b : AV} {v : Bool} (k : MM G call r K (putd fr d (bneg neg v)) (H) (nx)) (hx : x.ev G fr = some a := by (simp only [evL, reduceIte, Nat.reduceEqDiff, Int.reduceBEq, Int.reduceBNe, *] <;> with_reducible rfl)) (hy : y.ev G fr = some b := by (simp only [evL, reduceIte, Nat.reduceEqDiff, Int.reduceBEq, Int.reduceBNe, *] <;> with_reducible rfl)) (h : xieq lit kt a b = some v := by ((with_unfolding_all rfl))) (hd : deepB 40 (bneg neg v) = true := by (first | with_unfolding_all rfl | assumption | (simp only [deepB, List.all_cons, List.all_nil, Bool.and_true, *] <;> rfl))) : MM G call (⟨d, (.ieq neg lit kt x y), none⟩ :: r) K fr H nx :=
  M_step (X_ieq hx hy h) hd k
theorem M_aeq {d : Option Nat} {r : List XOper} {K : Fr → Heap → Nat → Prop} {neg : Bool} {ks : List Kd} {x y : XV} {a b : List AV} {v : Bool} (k : MM G call r K (putd fr d (bneg neg v)) (H) (nx)) (hx : x.ev G fr = some (.agg a) := by (simp only [evL, reduceIte, Nat.reduceEqDiff, Int.reduceBEq, Int.reduceBNe, *] <;> with_reducible rfl)) (hy : y.ev G fr = some (.agg b) := by (simp only [evL, reduceIte, Nat.reduceEqDiff, Int.reduceBEq, Int.reduceBNe, *] <;> with_reducible rfl)) (h : eqs ks a b = some v := by (first | assumption | with_unfolding_all rfl)) (hd : deepB 40 (bneg neg v) = true := by (first | with_unfolding_all rfl | assumption | (simp only [deepB, List.all_cons, List.all_nil, Bool.and_true, *] <;> rfl))) : MM G call (⟨d, (.aeq neg ks x y), none⟩ :: r) K fr H nx :=
  M_step (X_aeq hx hy h) hd k
theorem M_seq {d : Option Nat} {r : List XOper} {K : Fr → Heap → Nat → Prop} {neg : Bool} {x y : XV} {a b : AV} {v : Bool} (k : MM G call r K (putd fr d (bneg neg v)) (H) (nx)) (hx : x.ev G fr = some a := by (simp only [evL, reduceIte, Nat.reduceEqDiff, Int.reduceBEq, Int.reduceBNe, *] <;> with_reducible rfl)) (hy : y.ev G fr = some b := by (simp only [evL, reduceIte, Nat.reduceEqDiff, Int.reduceBEq, Int.reduceBNe, *] <;> with_reducible rfl)) (h : xseq a b = some v := by ((with_unfolding_all rfl))) (hd : deepB 40 (bneg neg v) = true := by (first | with_unfolding_all rfl | assumption | (simp only [deepB, List.all_cons, List.all_nil, Bool.and_true, *] <;> rfl))) : MM G call (⟨d, (.seq neg x y), none⟩ :: r) K fr H nx :=
  M_step (X_seq hx hy h) hd k
theorem M_peq {d : Option Nat} {r : List XOper} {K : Fr → Heap → Nat → Prop} {neg : Bool} {x y : XV} {a b : AV} {v : Bool} (k : MM G call r K (putd fr d (bneg neg v)) (H) (nx)) (hx : x.ev G fr = some a := by (simp only [evL, reduceIte, Nat.reduceEqDiff, Int.reduceBEq, Int.reduceBNe, *] <;> with_reducible rfl)) (hy : y.ev G fr = some b := by (simp only [evL, reduceIte, Nat.reduceEqDiff, Int.reduceBEq, Int.reduceBNe, *] <;> with_reducible rfl)) (h : xpeq H a b = some v := by (first | assumption | with_unfolding_all rfl)) (hd : deepB 40 (bneg neg v) = true := by (first | with_unfolding_all rfl | assumption | (simp only [deepB, List.all_cons, List.all_nil, Bool.and_true, *] <;> rfl))) : MM G call (⟨d, (.peq neg x y), none⟩ :: r) K fr H nx :=
  M_step (X_peq hx hy h) hd k
theorem M_beq {d : Option Nat} {r : List XOper} {K : Fr → Heap → Nat → Prop} {neg : Bool} {x y : XV} {a b : Bool} (k : MM G call r K (putd fr d (bneg neg (a == b))) (H) (nx)) (hx : x.ev G fr = some (.bool a) := by (simp only [evL, reduceIte, Nat.reduceEqDiff, Int.reduceBEq, Int.reduceBNe, *] <;> with_reducible rfl)) (hy : y.ev G fr = some (.bool b) := by (simp only [evL, reduceIte, Nat.reduceEqDiff, Int.reduceBEq, Int.reduceBNe, *] <;> with_reducible rfl)) (hd : deepB 40 (bneg neg (a == b)) = true := by (first | with_unfolding_all rfl | assumption | (simp only [deepB, List.all_cons, List.all_nil, Bool.and_true, *] <;> rfl))) : MM G call (⟨d, (.beq neg x y), none⟩ :: r) K fr H nx :=
  M_step (X_beq hx hy) hd k
theorem M_nilchkP {d : Option Nat} {r : List XOper} {K : Fr → Heap → Nat → Prop} {x : XV} {h o : Nat} (k : MM G call r K (putd fr d (.ptr h o)) (H) (nx)) (hx : x.ev G fr = some (.ptr h o) := by (simp only [evL, reduceIte, Nat.reduceEqDiff, Int.reduceBEq, Int.reduceBNe, *] <;> with_reducible rfl)) (hd : deepB 40 (.ptr h o) = true := by (first | with_unfolding_all rfl | assumption | (simp only [deepB, List.all_cons, List.all_nil, Bool.and_true, *] <;> rfl))) : MM G call (⟨d, (.nilchk x), none⟩ :: r) K fr H nx :=
  M_step (X_nilchkP hx) hd k
theorem M_nilchkE {d : Option Nat} {r : List XOper} {K : Fr → Heap → Nat → Prop} {x : XV} {e : AV} {o : Nat} (k : MM G call r K (putd fr d (.eptr e o)) (H) (nx)) (hx : x.ev G fr = some (.eptr e o) := by (simp only [evL, reduceIte, Nat.reduceEqDiff, Int.reduceBEq, Int.reduceBNe, *] <;> with_reducible rfl)) (hd : deepB 40 (.eptr e o) = true := by (first | with_unfolding_all rfl | assumption | (simp only [deepB, List.all_cons, List.all_nil, Bool.and_true, *] <;> rfl))) : MM G call (⟨d, (.nilchk x), none⟩ :: r) K fr H nx :=
  M_step (X_nilchkE hx) hd k
theorem M_nilchkI {d : Option Nat} {r : List XOper} {K : Fr → Heap → Nat → Prop} {x : XV} {t : Nat} {v : AV} (k : MM G call r K (putd fr d (.iface t v)) (H) (nx)) (hx : x.ev G fr = some (.iface t v) := by (simp only [evL, reduceIte, Nat.reduceEqDiff, Int.reduceBEq, Int.reduceBNe, *] <;> with_reducible rfl)) (hd : deepB 40 (.iface t v) = true := by (first | with_unfolding_all rfl | assumption | (simp only [deepB, List.all_cons, List.all_nil, Bool.and_true, *] <;> rfl))) : MM G call (⟨d, (.nilchk x), none⟩ :: r) K fr H nx :=
  M_step (X_nilchkI hx) hd k
theorem M_nilchkF {d : Option Nat} {r : List XOper} {K : Fr → Heap → Nat → Prop} {x : XV} {f : Nat} {a b : List AV} (k : MM G call r K (putd fr d (.func (.func f) a b)) (H) (nx)) (hx : x.ev G fr = some (.func (.func f) a b) := by (simp only [evL, reduceIte, Nat.reduceEqDiff, Int.reduceBEq, Int.reduceBNe, *] <;> with_reducible rfl)) (hd : deepB 40 (.func (.func f) a b) = true := by (first | with_unfolding_all rfl | assumption | (simp only [deepB, List.all_cons, List.all_nil, Bool.and_true, *] <;> rfl))) : MM G call (⟨d, (.nilchk x), none⟩ :: r) K fr H nx :=
  M_step (X_nilchkF hx) hd k
theorem M_slcS {d : Option Nat} {r : List XOper} {K : Fr → Heap → Nat → Prop} {x : XV} {lo hi : Option XV} {s : List Nat} {l u : Option AV} {p q : Nat} (k : MM G call r K (putd fr d (.str ((s.take q).drop p))) (H) (nx)) (hx : x.ev G fr = some (.str s) := by (simp only [evL, reduceIte, Nat.reduceEqDiff, Int.reduceBEq, Int.reduceBNe, *] <;> with_reducible rfl)) (hlo : evo G fr lo = some l := by ((simp only [evo, evL, reduceIte, Nat.reduceEqDiff, *] <;> with_reducible rfl))) (hhi : evo G fr hi = some u := by ((simp only [evo, evL, reduceIte, Nat.reduceEqDiff, *] <;> with_reducible rfl))) (h1 : bnd u s.length s.length = some q := by (first | assumption | with_unfolding_all rfl)) (h2 : bnd l 0 q = some p := by (first | assumption | with_unfolding_all rfl)) (hd : deepB 40 (.str ((s.take q).drop p)) = true := by (first | with_unfolding_all rfl | assumption | (simp only [deepB, List.all_cons, List.all_nil, Bool.and_true, *] <;> rfl))) : MM G call (⟨d, (.slcS x lo hi), none⟩ :: r) K fr H nx :=
  M_step (X_slcS hx hlo hhi h1 h2) hd k
theorem M_slcL {d : Option Nat} {r : List XOper} {K : Fr → Heap → Nat → Prop} {x : XV} {lo hi mx : Option XV} {sz : Nat} {v v' : AV} {l u m : Option AV} (k : MM G call r K (putd fr d (v')) (H) (nx)) (hx : x.ev G fr = some v := by (simp only [evL, reduceIte, Nat.reduceEqDiff, Int.reduceBEq, Int.reduceBNe, *] <;> with_reducible rfl)) (hlo : evo G fr lo = some l := by ((simp only [evo, evL, reduceIte, Nat.reduceEqDiff, *] <;> with_reducible rfl))) (hhi : evo G fr hi = some u := by ((simp only [evo, evL, reduceIte, Nat.reduceEqDiff, *] <;> with_reducible rfl))) (hm : evo G fr mx = some m := by ((simp only [evo, evL, reduceIte, Nat.reduceEqDiff, *] <;> with_reducible rfl))) (h : xslice sz l u m v = some v' := by (first | assumption | with_unfolding_all rfl)) (hd : deepB 40 (v') = true := by (first | with_unfolding_all rfl | assumption | (simp only [deepB, List.all_cons, List.all_nil, Bool.and_true, *] <;> rfl))) : MM G call (⟨d, (.slcL x lo hi mx sz), none⟩ :: r) K fr H nx :=
  M_step (X_slcL hx hlo hhi hm h) hd k
theorem M_mkfunc {d : Option Nat} {r : List XOper} {K : Fr → Heap → Nat → Prop} {fn : Fn} {first caps : List XV} {a b : List AV} (k : MM G call r K (putd fr d (.func fn a b)) (H) (nx)) (ha : evs G fr first = some a := by ((simp only [evs, evL, reduceIte, Nat.reduceEqDiff, *] <;> with_reducible rfl))) (hb : evs G fr caps = some b := by ((simp only [evs, evL, reduceIte, Nat.reduceEqDiff, *] <;> with_reducible rfl))) (hd : deepB 40 (.func fn a b) = true := by (first | with_unfolding_all rfl | assumption | (simp only [deepB, List.all_cons, List.all_nil, Bool.and_true, *] <;> rfl))) : MM G call (⟨d, (.mkfunc fn first caps), none⟩ :: r) K fr H nx :=
  M_step (X_mkfunc ha hb) hd k
theorem M_mkif {d : Option Nat} {r : List XOper} {K : Fr → Heap → Nat → Prop} {t : Nat} {x : XV} {v : AV} (k : MM G call r K (putd fr d (.iface t v)) (H) (nx)) (hx : x.ev G fr = some v := by (simp only [evL, reduceIte, Nat.reduceEqDiff, Int.reduceBEq, Int.reduceBNe, *] <;> with_reducible rfl)) (hd : deepB 40 (.iface t v) = true := by (first | with_unfolding_all rfl | assumption | (simp only [deepB, List.all_cons, List.all_nil, Bool.and_true, *] <;> rfl))) : MM G call (⟨d, (.mkif t x), none⟩ :: r) K fr H nx :=
  M_step (X_mkif hx) hd k
theorem M_min {d : Option Nat} {r : List XOper} {K : Fr → Heap → Nat → Prop} {x y : XV} {q : IntKind} {a b : Int} (k : MM G call r K (putd fr d (.int q (if b < a then b else a))) (H) (nx)) (hx : x.ev G fr = some (.int q a) := by (simp only [evL, reduceIte, Nat.reduceEqDiff, Int.reduceBEq, Int.reduceBNe, *] <;> with_reducible rfl)) (hy : y.ev G fr = some (.int q b) := by (simp only [evL, reduceIte, Nat.reduceEqDiff, Int.reduceBEq, Int.reduceBNe, *] <;> with_reducible rfl)) (hd : deepB 40 (.int q (if b < a then b else a)) = true := by (first | with_unfolding_all rfl | assumption | (simp only [deepB, List.all_cons, List.all_nil, Bool.and_true, *] <;> rfl))) : MM G call (⟨d, (.min x y), none⟩ :: r) K fr H nx :=
  M_step (X_min hx hy) hd k
theorem M_max {d : Option Nat} {r : List XOper} {K : Fr → Heap → Nat → Prop} {x y : XV} {q : IntKind} {a b : Int} (k : MM G call r K (putd fr d (.int q (if b > a then b else a))) (H) (nx)) (hx : x.ev G fr = some (.int q a) := by (simp only [evL, reduceIte, Nat.reduceEqDiff, Int.reduceBEq, Int.reduceBNe, *] <;> with_reducible rfl)) (hy : y.ev G fr = some (.int q b) := by (simp only [evL, reduceIte, Nat.reduceEqDiff, Int.reduceBEq, Int.reduceBNe, *] <;> with_reducible rfl)) (hd : deepB 40 (.int q (if b > a then b else a)) = true := by (first | with_unfolding_all rfl | assumption | (simp only [deepB, List.all_cons, List.all_nil, Bool.and_true, *] <;> rfl))) : MM G call (⟨d, (.max x y), none⟩ :: r) K fr H nx :=
  M_step (X_max hx hy) hd k
theorem M_s2s {d : Option Nat} {r : List XOper} {K : Fr → Heap → Nat → Prop} {x : XV} {s : List Nat} (k : MM G call r K (putd fr d (.str s)) (H) (nx)) (hx : x.ev G fr = some (.str s) := by (simp only [evL, reduceIte, Nat.reduceEqDiff, Int.reduceBEq, Int.reduceBNe, *] <;> with_reducible rfl)) (hd : deepB 40 (.str s) = true := by (first | with_unfolding_all rfl | assumption | (simp only [deepB, List.all_cons, List.all_nil, Bool.and_true, *] <;> rfl))) : MM G call (⟨d, (.s2s x), none⟩ :: r) K fr H nx :=
  M_step (X_s2s hx) hd k
theorem M_idxb {d : Option Nat} {r : List XOper} {K : Fr → Heap → Nat → Prop} {x c : XV} {s : List Nat} {b : Nat} (k : MM G call r K (putd fr d (.int .i64 (bidx b 0 s))) (H) (nx)) (hx : x.ev G fr = some (.str s) := by (simp only [evL, reduceIte, Nat.reduceEqDiff, Int.reduceBEq, Int.reduceBNe, *] <;> with_reducible rfl)) (hc : c.ev G fr = some (.int .u8 (.ofNat b)) := by (first | (simp only [evL, reduceIte, Nat.reduceEqDiff, Int.reduceBEq, Int.reduceBNe, *] <;> with_reducible rfl) | (simp only [evL, reduceIte, Nat.reduceEqDiff, Int.reduceBEq, Int.reduceBNe, *] <;> rfl))) (hd : deepB 40 (.int .i64 (bidx b 0 s)) = true := by (first | with_unfolding_all rfl | assumption | (simp only [deepB, List.all_cons, List.all_nil, Bool.and_true, *] <;> rfl))) : MM G call (⟨d, (.idxb x c), none⟩ :: r) K fr H nx :=
  M_step (X_idxb hx hc) hd k
theorem M_lenM {d : Option Nat} {r : List XOper} {K : Fr → Heap → Nat → Prop} {x : XV} {h : Nat} {es : List (AV × AV)} (k : MM G call r K (putd fr d (.int .i64 (.ofNat es.length))) (H) (nx)) (hx : x.ev G fr = some (.map h) := by (simp only [evL, reduceIte, Nat.reduceEqDiff, Int.reduceBEq, Int.reduceBNe, *] <;> with_reducible rfl)) (hh : H.get h = some (.map es) := by (first | assumption | with_unfolding_all rfl)) (hl : es.length ≤ maxStr := by (first | assumption | omega)) (hd : deepB 40 (.int .i64 (.ofNat es.length)) = true := by (first | with_unfolding_all rfl | assumption | (simp only [deepB, List.all_cons, List.all_nil, Bool.and_true, *] <;> rfl))) : MM G call (⟨d, (.lenM x), none⟩ :: r) K fr H nx :=
  M_step (X_lenM hx hh hl) hd k
theorem M_lookupS {d : Option Nat} {r : List XOper} {K : Fr → Heap → Nat → Prop} {ag : Bool} {ks : List Kd} {m kx : XV} {z kv v : AV} {h : Nat} {es : List (AV × AV)} (k : MM G call r K (putd fr d (v)) (H) (nx)) (hm : m.ev G fr = some (.map h) := by (simp only [evL, reduceIte, Nat.reduceEqDiff, Int.reduceBEq, Int.reduceBNe, *] <;> with_reducible rfl)) (hk : kx.ev G fr = some kv := by (simp only [evL, reduceIte, Nat.reduceEqDiff, Int.reduceBEq, Int.reduceBNe, *] <;> with_reducible rfl)) (ho : keyOk ag ks kv = true := by ((with_unfolding_all rfl))) (hh : H.get h = some (.map es) := by (first | assumption | with_unfolding_all rfl)) (hf : mfind ag ks kv es = some (some v) := by (assumption)) (hd : deepB 40 (v) = true := by (first | with_unfolding_all rfl | assumption | (simp only [deepB, List.all_cons, List.all_nil, Bool.and_true, *] <;> rfl))) : MM G call (⟨d, (.lookup ag ks m kx z false), none⟩ :: r) K fr H nx :=
  M_step (X_lookupS hm hk ho hh hf) hd k
theorem M_lookupN {d : Option Nat} {r : List XOper} {K : Fr → Heap → Nat → Prop} {ag : Bool} {ks : List Kd} {m kx : XV} {z kv : AV} {h : Nat} {es : List (AV × AV)} (k : MM G call r K (putd fr d (z)) (H) (nx)) (hm : m.ev G fr = some (.map h) := by (simp only [evL, reduceIte, Nat.reduceEqDiff, Int.reduceBEq, Int.reduceBNe, *] <;> with_reducible rfl)) (hk : kx.ev G fr = some kv := by (simp only [evL, reduceIte, Nat.reduceEqDiff, Int.reduceBEq, Int.reduceBNe, *] <;> with_reducible rfl)) (ho : keyOk ag ks kv = true := by ((with_unfolding_all rfl))) (hh : H.get h = some (.map es) := by (first | assumption | with_unfolding_all rfl)) (hf : mfind ag ks kv es = some none := by (assumption)) (hd : deepB 40 (z) = true := by (first | with_unfolding_all rfl | assumption | (simp only [deepB, List.all_cons, List.all_nil, Bool.and_true, *] <;> rfl))) : MM G call (⟨d, (.lookup ag ks m kx z false), none⟩ :: r) K fr H nx :=
  M_step (X_lookupN hm hk ho hh hf) hd k
theorem M_mupd {d : Option Nat} {r : List XOper} {K : Fr → Heap → Nat → Prop} {ag : Bool} {ks : List Kd} {m kx vx : XV} {kv v : AV} {h : Nat} {es es' : List (AV × AV)} (k : MM G call r K (putd fr d (.tup [])) (H.put h (.map es')) (nx)) (hm : m.ev G fr = some (.map h) := by (simp only [evL, reduceIte, Nat.reduceEqDiff, Int.reduceBEq, Int.reduceBNe, *] <;> with_reducible rfl)) (hk : kx.ev G fr = some kv := by (simp only [evL, reduceIte, Nat.reduceEqDiff, Int.reduceBEq, Int.reduceBNe, *] <;> with_reducible rfl)) (hv : vx.ev G fr = some v := by (simp only [evL, reduceIte, Nat.reduceEqDiff, Int.reduceBEq, Int.reduceBNe, *] <;> with_reducible rfl)) (ho : keyOk ag ks kv = true := by ((with_unfolding_all rfl))) (hh : H.get h = some (.map es) := by (first | assumption | with_unfolding_all rfl)) (hp : mput ag ks kv v es = some es' := by (assumption)) (hd : deepB 40 (.tup []) = true := by (first | with_unfolding_all rfl | assumption | (simp only [deepB, List.all_cons, List.all_nil, Bool.and_true, *] <;> rfl))) : MM G call (⟨d, (.mupd ag ks m kx vx), none⟩ :: r) K fr H nx :=
  M_step (X_mupd hm hk hv ho hh hp) hd k
theorem M_del {d : Option Nat} {r : List XOper} {K : Fr → Heap → Nat → Prop} {ag : Bool} {ks : List Kd} {m kx : XV} {kv : AV} {h : Nat} {es es' : List (AV × AV)} (k : MM G call r K (putd fr d (.tup [])) (H.put h (.map es')) (nx)) (hm : m.ev G fr = some (.map h) := by (simp only [evL, reduceIte, Nat.reduceEqDiff, Int.reduceBEq, Int.reduceBNe, *] <;> with_reducible rfl)) (hk : kx.ev G fr = some kv := by (simp only [evL, reduceIte, Nat.reduceEqDiff, Int.reduceBEq, Int.reduceBNe, *] <;> with_reducible rfl)) (ho : keyOk ag ks kv = true := by ((with_unfolding_all rfl))) (hh : H.get h = some (.map es) := by (first | assumption | with_unfolding_all rfl)) (hp : mdel ag ks kv es = some es' := by (assumption)) (hd : deepB 40 (.tup []) = true := by (first | with_unfolding_all rfl | assumption | (simp only [deepB, List.all_cons, List.all_nil, Bool.and_true, *] <;> rfl))) : MM G call (⟨d, (.del ag ks m kx), none⟩ :: r) K fr H nx :=
  M_step (X_del hm hk ho hh hp) hd k
theorem M_b2s {d : Option Nat} {r : List XOper} {K : Fr → Heap → Nat → Prop} {x : XV} {v : AV} {n : Nat} {cs : List AV} {s : List Nat} (k : MM G call r K (putd fr d (.str s)) (H) (nx)) (hx : x.ev G fr = some v := by (simp only [evL, reduceIte, Nat.reduceEqDiff, Int.reduceBEq, Int.reduceBNe, *] <;> with_reducible rfl)) (hn : notStr v = true := by (rfl)) (hc : content H 1 v = some (n, cs) := by (first | assumption | with_unfolding_all rfl)) (hb : toBytes cs = some s := by (assumption)) (hd : deepB 40 (.str s) = true := by (first | with_unfolding_all rfl | assumption | (simp only [deepB, List.all_cons, List.all_nil, Bool.and_true, *] <;> rfl))) : MM G call (⟨d, (.b2s x), none⟩ :: r) K fr H nx :=
  M_step (X_b2s hx hn hc hb) hd k
theorem D_mov {d : Option Nat} {r : List XOper} {K : Fr → Prop} {x : XV} {v : AV} (k : DD G call r K (putd fr d (v)) (H) (nx)) (hx : x.ev G fr = some v := by (simp only [evL, reduceIte, Nat.reduceEqDiff, Int.reduceBEq, Int.reduceBNe, *] <;> with_reducible rfl)) (hd : deepB 40 (v) = true := by (first | with_unfolding_all rfl | assumption | (simp only [deepB, List.all_cons, List.all_nil, Bool.and_true, *] <;> rfl))) : DD G call (⟨d, (.mov x), none⟩ :: r) K fr H nx :=
  D_step (X_mov hx) hd k
theorem D_bin {d : Option Nat} {r : List XOper} {K : Fr → Prop} {op : BinOp} {x y : XV} {a b v : AV} (k : DD G call r K (putd fr d (v)) (H) (nx)) (hx : x.ev G fr = some a := by (simp only [evL, reduceIte, Nat.reduceEqDiff, Int.reduceBEq, Int.reduceBNe, *] <;> with_reducible rfl)) (hy : y.ev G fr = some b := by (simp only [evL, reduceIte, Nat.reduceEqDiff, Int.reduceBEq, Int.reduceBNe, *] <;> with_reducible rfl)) (h : xbin op a b = some v := by (first | exact xbin_add1 (by omega) | assumption | with_unfolding_all rfl)) (hd : deepB 40 (v) = true := by (first | with_unfolding_all rfl | assumption | (simp only [deepB, List.all_cons, List.all_nil, Bool.and_true, *] <;> rfl))) : DD G call (⟨d, (.bin op x y), none⟩ :: r) K fr H nx :=
  D_step (X_bin hx hy h) hd k
theorem D_pickT {d : Option Nat} {r : List XOper} {K : Fr → Prop} {c a b : XV} {v : AV} (k : DD G call r K (putd fr d (v)) (H) (nx)) (hc : c.ev G fr = some (.bool true) := by (simp only [evL, reduceIte, Nat.reduceEqDiff, Int.reduceBEq, Int.reduceBNe, *] <;> with_reducible rfl)) (ha : a.ev G fr = some v := by (simp only [evL, reduceIte, Nat.reduceEqDiff, Int.reduceBEq, Int.reduceBNe, *] <;> with_reducible rfl)) (hd : deepB 40 (v) = true := by (first | with_unfolding_all rfl | assumption | (simp only [deepB, List.all_cons, List.all_nil, Bool.and_true, *] <;> rfl))) : DD G call (⟨d, (.pick c a b), none⟩ :: r) K fr H nx :=
  D_step (X_pickT hc ha) hd k
theorem D_pickF {d : Option Nat} {r : List XOper} {K : Fr → Prop} {c a b : XV} {v : AV} (k : DD G call r K (putd fr d (v)) (H) (nx)) (hc : c.ev G fr = some (.bool false) := by (simp only [evL, reduceIte, Nat.reduceEqDiff, Int.reduceBEq, Int.reduceBNe, *] <;> with_reducible rfl)) (ha : b.ev G fr = some v := by (simp only [evL, reduceIte, Nat.reduceEqDiff, Int.reduceBEq, Int.reduceBNe, *] <;> with_reducible rfl)) (hd : deepB 40 (v) = true := by (first | with_unfolding_all rfl | assumption | (simp only [deepB, List.all_cons, List.all_nil, Bool.and_true, *] <;> rfl))) : DD G call (⟨d, (.pick c a b), none⟩ :: r) K fr H nx :=
  D_step (X_pickF hc ha) hd k
theorem D_un {d : Option Nat} {r : List XOper} {K : Fr → Prop} {op : UnOp} {x : XV} {a v : AV} (k : DD G call r K (putd fr d (v)) (H) (nx)) (hx : x.ev G fr = some a := by (simp only [evL, reduceIte, Nat.reduceEqDiff, Int.reduceBEq, Int.reduceBNe, *] <;> with_reducible rfl)) (h : xun op a = some v := by ((with_unfolding_all rfl))) (hd : deepB 40 (v) = true := by (first | with_unfolding_all rfl | assumption | (simp only [deepB, List.all_cons, List.all_nil, Bool.and_true, *] <;> rfl))) : DD G call (⟨d, (.un op x), none⟩ :: r) K fr H nx :=
  D_step (X_un hx h) hd k
theorem D_lenS {d : Option Nat} {r : List XOper} {K : Fr → Prop} {x : XV} {s : List Nat} (k : DD G call r K (putd fr d (.int .i64 (.ofNat s.length))) (H) (nx)) (hx : x.ev G fr = some (.str s) := by (simp only [evL, reduceIte, Nat.reduceEqDiff, Int.reduceBEq, Int.reduceBNe, *] <;> with_reducible rfl)) (hd : deepB 40 (.int .i64 (.ofNat s.length)) = true := by (first | with_unfolding_all rfl | assumption | (simp only [deepB, List.all_cons, List.all_nil, Bool.and_true, *] <;> rfl))) : DD G call (⟨d, (.lenS x), none⟩ :: r) K fr H nx :=
  D_step (X_lenS hx) hd k
theorem D_lenL1 {d : Option Nat} {r : List XOper} {K : Fr → Prop} {x : XV} {z : Nat} {es : List AV} (k : DD G call r K (putd fr d (.int .i64 (.ofNat es.length))) (H) (nx)) (hx : x.ev G fr = some (.lst z es) := by (simp only [evL, reduceIte, Nat.reduceEqDiff, Int.reduceBEq, Int.reduceBNe, *] <;> with_reducible rfl)) (hd : deepB 40 (.int .i64 (.ofNat es.length)) = true := by (first | with_unfolding_all rfl | assumption | (simp only [deepB, List.all_cons, List.all_nil, Bool.and_true, *] <;> rfl))) : DD G call (⟨d, (.lenL x), none⟩ :: r) K fr H nx :=
  D_step (X_lenL1 hx) hd k
theorem D_lenL2 {d : Option Nat} {r : List XOper} {K : Fr → Prop} {x : XV} {h o len z c : Nat} {e : Bool} (k : DD G call r K (putd fr d (.int .i64 (.ofNat len))) (H) (nx)) (hx : x.ev G fr = some (.row h o len z c e) := by (simp only [evL, reduceIte, Nat.reduceEqDiff, Int.reduceBEq, Int.reduceBNe, *] <;> with_reducible rfl)) (hd : deepB 40 (.int .i64 (.ofNat len)) = true := by (first | with_unfolding_all rfl | assumption | (simp only [deepB, List.all_cons, List.all_nil, Bool.and_true, *] <;> rfl))) : DD G call (⟨d, (.lenL x), none⟩ :: r) K fr H nx :=
  D_step (X_lenL2 hx) hd k
theorem D_lenL0 {d : Option Nat} {r : List XOper} {K : Fr → Prop} {x : XV} (k : DD G call r K (putd fr d (.int .i64 (.ofNat 0))) (H) (nx)) (hx : x.ev G fr = some .nilslice := by (simp only [evL, reduceIte, Nat.reduceEqDiff, Int.reduceBEq, Int.reduceBNe, *] <;> with_reducible rfl)) (hd : deepB 40 (.int .i64 (.ofNat 0)) = true := by (first | with_unfolding_all rfl | assumption | (simp only [deepB, List.all_cons, List.all_nil, Bool.and_true, *] <;> rfl))) : DD G call (⟨d, (.lenL x), none⟩ :: r) K fr H nx :=
  D_step (X_lenL0 hx) hd k
theorem D_ext {d : Option Nat} {r : List XOper} {K : Fr → Prop} {x : XV} {i : Nat} {vs : List AV} {v : AV} (k : DD G call r K (putd fr d (v)) (H) (nx)) (hx : x.ev G fr = some (.tup vs) := by (simp only [evL, reduceIte, Nat.reduceEqDiff, Int.reduceBEq, Int.reduceBNe, *] <;> with_reducible rfl)) (h : vs[i]? = some v := by ((with_unfolding_all rfl))) (hd : deepB 40 (v) = true := by (first | with_unfolding_all rfl | assumption | (simp only [deepB, List.all_cons, List.all_nil, Bool.and_true, *] <;> rfl))) : DD G call (⟨d, (.ext x i), none⟩ :: r) K fr H nx :=
  D_step (X_ext hx h) hd k
theorem D_fld {d : Option Nat} {r : List XOper} {K : Fr → Prop} {x : XV} {off sz : Nat} {ag : Bool} {cs : List AV} {v : AV} (k : DD G call r K (putd fr d (v)) (H) (nx)) (hx : x.ev G fr = some (.agg cs) := by (simp only [evL, reduceIte, Nat.reduceEqDiff, Int.reduceBEq, Int.reduceBNe, *] <;> with_reducible rfl)) (h : part cs off sz ag = some v := by (first | assumption | with_unfolding_all rfl)) (hd : deepB 40 (v) = true := by (first | with_unfolding_all rfl | assumption | (simp only [deepB, List.all_cons, List.all_nil, Bool.and_true, *] <;> rfl))) : DD G call (⟨d, (.fld x off sz ag), none⟩ :: r) K fr H nx :=
  D_step (X_fld hx h) hd k
theorem D_idxS {d : Option Nat} {r : List XOper} {K : Fr → Prop} {x i : XV} {s : List Nat} {q : IntKind} {n b : Nat} (k : DD G call r K (putd fr d (.int .u8 (.ofNat b))) (H) (nx)) (hx : x.ev G fr = some (.str s) := by (simp only [evL, reduceIte, Nat.reduceEqDiff, Int.reduceBEq, Int.reduceBNe, *] <;> with_reducible rfl)) (hi : i.ev G fr = some (.int q (.ofNat n)) := by (first | (simp only [evL, reduceIte, Nat.reduceEqDiff, Int.reduceBEq, Int.reduceBNe, *] <;> with_reducible rfl) | (simp only [evL, reduceIte, Nat.reduceEqDiff, Int.reduceBEq, Int.reduceBNe, *] <;> rfl))) (h : s[n]? = some b := by (first | with_unfolding_all rfl | assumption | (simp only [*] <;> rfl))) (hd : deepB 40 (.int .u8 (.ofNat b)) = true := by (first | with_unfolding_all rfl | assumption | (simp only [deepB, List.all_cons, List.all_nil, Bool.and_true, *] <;> rfl))) : DD G call (⟨d, (.idxS x i), none⟩ :: r) K fr H nx :=
  D_step (X_idxS hx hi h) hd k
theorem D_faddrP {d : Option Nat} {r : List XOper} {K : Fr → Prop} {x : XV} {off h o : Nat} (k : DD G call r K (putd fr d (.ptr h (o + off))) (H) (nx)) (hx : x.ev G fr = some (.ptr h o) := by (simp only [evL, reduceIte, Nat.reduceEqDiff, Int.reduceBEq, Int.reduceBNe, *] <;> with_reducible rfl)) (hd : deepB 40 (.ptr h (o + off)) = true := by (first | with_unfolding_all rfl | assumption | (simp only [deepB, List.all_cons, List.all_nil, Bool.and_true, *] <;> rfl))) : DD G call (⟨d, (.faddr x off), none⟩ :: r) K fr H nx :=
  D_step (X_faddrP hx) hd k
theorem D_faddrE {d : Option Nat} {r : List XOper} {K : Fr → Prop} {x : XV} {off o : Nat} {e : AV} (k : DD G call r K (putd fr d (.eptr e (o + off))) (H) (nx)) (hx : x.ev G fr = some (.eptr e o) := by (simp only [evL, reduceIte, Nat.reduceEqDiff, Int.reduceBEq, Int.reduceBNe, *] <;> with_reducible rfl)) (hd : deepB 40 (.eptr e (o + off)) = true := by (first | with_unfolding_all rfl | assumption | (simp only [deepB, List.all_cons, List.all_nil, Bool.and_true, *] <;> rfl))) : DD G call (⟨d, (.faddr x off), none⟩ :: r) K fr H nx :=
  D_step (X_faddrE hx) hd k
theorem D_iaddrL {d : Option Nat} {r : List XOper} {K : Fr → Prop} {x i : XV} {sz n : Nat} {es : List AV} {q : IntKind} {e : AV} (k : DD G call r K (putd fr d (.eptr e 0)) (H) (nx)) (hx : x.ev G fr = some (.lst sz es) := by (simp only [evL, reduceIte, Nat.reduceEqDiff, Int.reduceBEq, Int.reduceBNe, *] <;> with_reducible rfl)) (hi : i.ev G fr = some (.int q (.ofNat n)) := by (first | (simp only [evL, reduceIte, Nat.reduceEqDiff, Int.reduceBEq, Int.reduceBNe, *] <;> with_reducible rfl) | (simp only [evL, reduceIte, Nat.reduceEqDiff, Int.reduceBEq, Int.reduceBNe, *] <;> rfl))) (h : es[n]? = some e := by (first | assumption | with_unfolding_all rfl)) (hd : deepB 40 (.eptr e 0) = true := by (first | with_unfolding_all rfl | assumption | (simp only [deepB, List.all_cons, List.all_nil, Bool.and_true, *] <;> rfl))) : DD G call (⟨d, (.iaddrS x i sz), none⟩ :: r) K fr H nx :=
  D_step (X_iaddrL hx hi h) hd k
theorem D_iaddrR {d : Option Nat} {r : List XOper} {K : Fr → Prop} {x i : XV} {sz n h off len cp : Nat} {ex : Bool} {q : IntKind} (k : DD G call r K (putd fr d (.ptr h (off + n * sz))) (H) (nx)) (hx : x.ev G fr = some (.row h off len sz cp ex) := by (simp only [evL, reduceIte, Nat.reduceEqDiff, Int.reduceBEq, Int.reduceBNe, *] <;> with_reducible rfl)) (hi : i.ev G fr = some (.int q (.ofNat n)) := by (first | (simp only [evL, reduceIte, Nat.reduceEqDiff, Int.reduceBEq, Int.reduceBNe, *] <;> with_reducible rfl) | (simp only [evL, reduceIte, Nat.reduceEqDiff, Int.reduceBEq, Int.reduceBNe, *] <;> rfl))) (hl : n < len := by (omega)) (hd : deepB 40 (.ptr h (off + n * sz)) = true := by (first | with_unfolding_all rfl | assumption | (simp only [deepB, List.all_cons, List.all_nil, Bool.and_true, *] <;> rfl))) : DD G call (⟨d, (.iaddrS x i sz), none⟩ :: r) K fr H nx :=
  D_step (X_iaddrR hx hi hl) hd k
theorem D_load {d : Option Nat} {r : List XOper} {K : Fr → Prop} {x : XV} {sz : Nat} {ag : Bool} {a v : AV} (k : DD G call r K (putd fr d (v)) (H) (nx)) (hx : x.ev G fr = some a := by (simp only [evL, reduceIte, Nat.reduceEqDiff, Int.reduceBEq, Int.reduceBNe, *] <;> with_reducible rfl)) (h : xload H sz ag a = some v := by (first | assumption | (simp only [eq_self, beq_self_eq_true, xload, Heap.get, Heap.put, Sy.part, cellsOf, AV.flat, AV.cells, splice, nbeq_lit, nble_lit, Nat.reduceBEq, Nat.reduceLeDiff, Nat.reduceAdd, Nat.zero_add, Nat.add_zero, decide_true, decide_false, List.take_succ_cons, List.take_zero, List.drop_succ_cons, List.drop_zero, List.cons_append, List.nil_append, List.append_nil, List.length_cons, List.length_nil, List.getElem?_cons_zero, List.getElem?_cons_succ, List.take_nil, List.drop_nil] <;> with_reducible rfl) | with_unfolding_all rfl | (simp only [xload, Heap.get, Sy.part, *] <;> with_unfolding_all rfl))) (hd : deepB 40 (v) = true := by (first | with_unfolding_all rfl | assumption | (simp only [deepB, List.all_cons, List.all_nil, Bool.and_true, *] <;> rfl))) : DD G call (⟨d, (.load x sz ag), none⟩ :: r) K fr H nx :=
  D_step (X_load hx h) hd k
theorem D_build {d : Option Nat} {r : List XOper} {K : Fr → Prop} {z cs : List AV} {ps : List (Nat × Nat × XV)} (k : DD G call r K (putd fr d (.agg cs)) (H) (nx)) (h : fillx G fr z ps = some cs := by ((simp only [fillx, eq_self, beq_self_eq_true, xload, Heap.get, Heap.put, Sy.part, cellsOf, AV.flat, AV.cells, splice, nbeq_lit, nble_lit, Nat.reduceBEq, Nat.reduceLeDiff, Nat.reduceAdd, Nat.zero_add, Nat.add_zero, decide_true, decide_false, List.take_succ_cons, List.take_zero, List.drop_succ_cons, List.drop_zero, List.cons_append, List.nil_append, List.append_nil, List.length_cons, List.length_nil, List.getElem?_cons_zero, List.getElem?_cons_succ, List.take_nil, List.drop_nil, evL, reduceIte, Nat.reduceEqDiff, *] <;> with_unfolding_all rfl))) (hd : deepB 40 (.agg cs) = true := by (first | with_unfolding_all rfl | assumption | (simp only [deepB, List.all_cons, List.all_nil, Bool.and_true, *] <;> rfl))) : DD G call (⟨d, (.build z ps), none⟩ :: r) K fr H nx :=
  D_step (X_build h) hd k
theorem D_call {d : Option Nat} {r : List XOper} {K : Fr → Prop} {f : Nat} {args : List XV} {vs : List AV} {v : AV} (k : DD G call r K (putd fr d (v)) (H) (nx)) (ha : evs G fr args = some vs := by ((simp only [evs, evL, reduceIte, Nat.reduceEqDiff, *] <;> with_reducible rfl))) (h : call f vs H nx = some (v, H, nx) := by (first | assumption | with_unfolding_all rfl | (simp only [callP, *] <;> with_unfolding_all rfl))) (hd : deepB 40 (v) = true := by (first | with_unfolding_all rfl | assumption | (simp only [deepB, List.all_cons, List.all_nil, Bool.and_true, *] <;> rfl))) : DD G call (⟨d, (.call f args), none⟩ :: r) K fr H nx :=
  D_step (X_call ha h) hd k
theorem D_conv {d : Option Nat} {r : List XOper} {K : Fr → Prop} {q q' : IntKind} {x : XV} {n : Int} (k : DD G call r K (putd fr d (.int q (wrapx q n))) (H) (nx)) (hx : x.ev G fr = some (.int q' n) := by (simp only [evL, reduceIte, Nat.reduceEqDiff, Int.reduceBEq, Int.reduceBNe, *] <;> with_reducible rfl)) (hd : deepB 40 (.int q (wrapx q n)) = true := by (first | with_unfolding_all rfl | assumption | (simp only [deepB, List.all_cons, List.all_nil, Bool.and_true, *] <;> rfl))) : DD G call (⟨d, (.conv q x), none⟩ :: r) K fr H nx :=
  D_step (X_conv hx) hd k
theorem D_ieq {d : Option Nat} {r : List XOper} {K : Fr → Prop} {neg lit : Bool} {kt : Nat → Option Kd} {x y : XV} {a b : AV} {v : Bool} (k : DD G call r K (putd fr d (bneg neg v)) (H) (nx)) (hx : x.ev G fr = some a := by (simp only [evL, reduceIte, Nat.reduceEqDiff, Int.reduceBEq, Int.reduceBNe, *] <;> with_reducible rfl)) (hy : y.ev G fr = some b := by (simp only [evL, reduceIte, Nat.reduceEqDiff, Int.reduceBEq, Int.reduceBNe, *] <;> with_reducible rfl)) (h : xieq lit kt a b = some v := by ((with_unfolding_all rfl))) (hd : deepB 40 (bneg neg v) = true := by (first | with_unfolding_all rfl | assumption | (simp only [deepB, List.all_cons, List.all_nil, Bool.and_true, *] <;> rfl))) : DD G call (⟨d, (.ieq neg lit kt x y), none⟩ :: r) K fr H nx :=
  D_step (X_ieq hx hy h) hd k
theorem D_aeq {d : Option Nat} {r : List XOper} {K : Fr → Prop} {neg : Bool} {ks : List Kd} {x y : XV} {a b : List AV} {v : Bool} (k : DD G call r K (putd fr d (bneg neg v)) (H) (nx)) (hx : x.ev G fr = some (.agg a) := by (simp only [evL, reduceIte, Nat.reduceEqDiff, Int.reduceBEq, Int.reduceBNe, *] <;> with_reducible rfl)) (hy : y.ev G fr = some (.agg b) := by (simp only [evL, reduceIte, Nat.reduceEqDiff, Int.reduceBEq, Int.reduceBNe, *] <;> with_reducible rfl)) (h : eqs ks a b = some v := by (first | assumption | with_unfolding_all rfl)) (hd : deepB 40 (bneg neg v) = true := by (first | with_unfolding_all rfl | assumption | (simp only [deepB, List.all_cons, List.all_nil, Bool.and_true, *] <;> rfl))) : DD G call (⟨d, (.aeq neg ks x y), none⟩ :: r) K fr H nx :=
  D_step (X_aeq hx hy h) hd k
theorem D_seq {d : Option Nat} {r : List XOper} {K : Fr → Prop} {neg : Bool} {x y : XV} {a b : AV} {v : Bool} (k : DD G call r K (putd fr d (bneg neg v)) (H) (nx)) (hx : x.ev G fr = some a := by (simp only [evL, reduceIte, Nat.reduceEqDiff, Int.reduceBEq, Int.reduceBNe, *] <;> with_reducible rfl)) (hy : y.ev G fr = some b := by (simp only [evL, reduceIte, Nat.reduceEqDiff, Int.reduceBEq, Int.reduceBNe, *] <;> with_reducible rfl)) (h : xseq a b = some v := by ((with_unfolding_all rfl))) (hd : deepB 40 (bneg neg v) = true := by (first | with_unfolding_all rfl | assumption | (simp only [deepB, List.all_cons, List.all_nil, Bool.and_true, *] <;> rfl))) : DD G call (⟨d, (.seq neg x y), none⟩ :: r) K fr H nx :=
  D_step (X_seq hx hy h) hd k
theorem D_peq {d : Option Nat} {r : List XOper} {K : Fr → Prop} {neg : Bool} {x y : XV} {a b : AV} {v : Bool} (k : DD G call r K (putd fr d (bneg neg v)) (H) (nx)) (hx : x.ev G fr = some a := by (simp only [evL, reduceIte, Nat.reduceEqDiff, Int.reduceBEq, Int.reduceBNe, *] <;> with_reducible rfl)) (hy : y.ev G fr = some b := by (simp only [evL, reduceIte, Nat.reduceEqDiff, Int.reduceBEq, Int.reduceBNe, *] <;> with_reducible rfl)) (h : xpeq H a b = some v := by (first | assumption | with_unfolding_all rfl)) (hd : deepB 40 (bneg neg v) = true := by (first | with_unfolding_all rfl | assumption | (simp only [deepB, List.all_cons, List.all_nil, Bool.and_true, *] <;> rfl))) : DD G call (⟨d, (.peq neg x y), none⟩ :: r) K fr H nx :=
  D_step (X_peq hx hy h) hd k
theorem D_beq {d : Option Nat} {r : List XOper} {K : Fr → Prop} {neg : Bool} {x y : XV} {a b : Bool} (k : DD G call r K (putd fr d (bneg neg (a == b))) (H) (nx)) (hx : x.ev G fr = some (.bool a) := by (simp only [evL, reduceIte, Nat.reduceEqDiff, Int.reduceBEq, Int.reduceBNe, *] <;> with_reducible rfl)) (hy : y.ev G fr = some (.bool b) := by (simp only [evL, reduceIte, Nat.reduceEqDiff, Int.reduceBEq, Int.reduceBNe, *] <;> with_reducible rfl)) (hd : deepB 40 (bneg neg (a == b)) = true := by (first | with_unfolding_all rfl | assumption | (simp only [deepB, List.all_cons, List.all_nil, Bool.and_true, *] <;> rfl))) : DD G call (⟨d, (.beq neg x y), none⟩ :: r) K fr H nx :=
  D_step (X_beq hx hy) hd k
theorem D_nilchkP {d : Option Nat} {r : List XOper} {K : Fr → Prop} {x : XV} {h o : Nat} (k : DD G call r K (putd fr d (.ptr h o)) (H) (nx)) (hx : x.ev G fr = some (.ptr h o) := by (simp only [evL, reduceIte, Nat.reduceEqDiff, Int.reduceBEq, Int.reduceBNe, *] <;> with_reducible rfl)) (hd : deepB 40 (.ptr h o) = true := by (first | with_unfolding_all rfl | assumption | (simp only [deepB, List.all_cons, List.all_nil, Bool.and_true, *] <;> rfl))) : DD G call (⟨d, (.nilchk x), none⟩ :: r) K fr H nx :=
  D_step (X_nilchkP hx) hd k
theorem D_nilchkE {d : Option Nat} {r : List XOper} {K : Fr → Prop} {x : XV} {e : AV} {o : Nat} (k : DD G call r K (putd fr d (.eptr e o)) (H) (nx)) (hx : x.ev G fr = some (.eptr e o) := by (simp only [evL, reduceIte, Nat.reduceEqDiff, Int.reduceBEq, Int.reduceBNe, *] <;> with_reducible rfl)) (hd : deepB 40 (.eptr e o) = true := by (first | with_unfolding_all rfl | assumption | (simp only [deepB, List.all_cons, List.all_nil, Bool.and_true, *] <;> rfl))) : DD G call (⟨d, (.nilchk x), none⟩ :: r) K fr H nx :=
  D_step (X_nilchkE hx) hd k
theorem D_nilchkI {d : Option Nat} {r : List XOper} {K : Fr → Prop} {x : XV} {t : Nat} {v : AV} (k : DD G call r K (putd fr d (.iface t v)) (H) (nx)) (hx : x.ev G fr = some (.iface t v) := by (simp only [evL, reduceIte, Nat.reduceEqDiff, Int.reduceBEq, Int.reduceBNe, *] <;> with_reducible rfl)) (hd : deepB 40 (.iface t v) = true := by (first | with_unfolding_all rfl | assumption | (simp only [deepB, List.all_cons, List.all_nil, Bool.and_true, *] <;> rfl))) : DD G call (⟨d, (.nilchk x), none⟩ :: r) K fr H nx :=
  D_step (X_nilchkI hx) hd k
theorem D_nilchkF {d : Option Nat} {r : List XOper} {K : Fr → Prop} {x : XV} {f : Nat} {a b : List AV} (k : DD G call r K (putd fr d (.func (.func f) a b)) (H) (nx)) (hx : x.ev G fr = some (.func (.func f) a b) := by (simp only [evL, reduceIte, Nat.reduceEqDiff, Int.reduceBEq, Int.reduceBNe, *] <;> with_reducible rfl)) (hd : deepB 40 (.func (.func f) a b) = true := by (first | with_unfolding_all rfl | assumption | (simp only [deepB, List.all_cons, List.all_nil, Bool.and_true, *] <;> rfl))) : DD G call (⟨d, (.nilchk x), none⟩ :: r) K fr H nx :=
  D_step (X_nilchkF hx) hd k
theorem D_slcS {d : Option Nat} {r : List XOper} {K : Fr → Prop} {x : XV} {lo hi : Option XV} {s : List Nat} {l u : Option AV} {p q : Nat} (k : DD G call r K (putd fr d (.str ((s.take q).drop p))) (H) (nx)) (hx : x.ev G fr = some (.str s) := by (simp only [evL, reduceIte, Nat.reduceEqDiff, Int.reduceBEq, Int.reduceBNe, *] <;> with_reducible rfl)) (hlo : evo G fr lo = some l := by ((simp only [evo, evL, reduceIte, Nat.reduceEqDiff, *] <;> with_reducible rfl))) (hhi : evo G fr hi = some u := by ((simp only [evo, evL, reduceIte, Nat.reduceEqDiff, *] <;> with_reducible rfl))) (h1 : bnd u s.length s.length = some q := by (first | assumption | with_unfolding_all rfl)) (h2 : bnd l 0 q = some p := by (first | assumption | with_unfolding_all rfl)) (hd : deepB 40 (.str ((s.take q).drop p)) = true := by (first | with_unfolding_all rfl | assumption | (simp only [deepB, List.all_cons, List.all_nil, Bool.and_true, *] <;> rfl))) : DD G call (⟨d, (.slcS x lo hi), none⟩ :: r) K fr H nx :=
  D_step (X_slcS hx hlo hhi h1 h2) hd k
theorem D_slcL {d : Option Nat} {r : List XOper} {K : Fr → Prop} {x : XV} {lo hi mx : Option XV} {sz : Nat} {v v' : AV} {l u m : Option AV} (k : DD G call r K (putd fr d (v')) (H) (nx)) (hx : x.ev G fr = some v := by (simp only [evL, reduceIte, Nat.reduceEqDiff, Int.reduceBEq, Int.reduceBNe, *] <;> with_reducible rfl)) (hlo : evo G fr lo = some l := by ((simp only [evo, evL, reduceIte, Nat.reduceEqDiff, *] <;> with_reducible rfl))) (hhi : evo G fr hi = some u := by ((simp only [evo, evL, reduceIte, Nat.reduceEqDiff, *] <;> with_reducible rfl))) (hm : evo G fr mx = some m := by ((simp only [evo, evL, reduceIte, Nat.reduceEqDiff, *] <;> with_reducible rfl))) (h : xslice sz l u m v = some v' := by (first | assumption | with_unfolding_all rfl)) (hd : deepB 40 (v') = true := by (first | with_unfolding_all rfl | assumption | (simp only [deepB, List.all_cons, List.all_nil, Bool.and_true, *] <;> rfl))) : DD G call (⟨d, (.slcL x lo hi mx sz), none⟩ :: r) K fr H nx :=
  D_step (X_slcL hx hlo hhi hm h) hd k
theorem D_mkfunc {d : Option Nat} {r : List XOper} {K : Fr → Prop} {fn : Fn} {first caps : List XV} {a b : List AV} (k : DD G call r K (putd fr d (.func fn a b)) (H) (nx)) (ha : evs G fr first = some a := by ((simp only [evs, evL, reduceIte, Nat.reduceEqDiff, *] <;> with_reducible rfl))) (hb : evs G fr caps = some b := by ((simp only [evs, evL, reduceIte, Nat.reduceEqDiff, *] <;> with_reducible rfl))) (hd : deepB 40 (.func fn a b) = true := by (first | with_unfolding_all rfl | assumption | (simp only [deepB, List.all_cons, List.all_nil, Bool.and_true, *] <;> rfl))) : DD G call (⟨d, (.mkfunc fn first caps), none⟩ :: r) K fr H nx :=
  D_step (X_mkfunc ha hb) hd k
theorem D_mkif {d : Option Nat} {r : List XOper} {K : Fr → Prop} {t : Nat} {x : XV} {v : AV} (k : DD G call r K (putd fr d (.iface t v)) (H) (nx)) (hx : x.ev G fr = some v := by (simp only [evL, reduceIte, Nat.reduceEqDiff, Int.reduceBEq, Int.reduceBNe, *] <;> with_reducible rfl)) (hd : deepB 40 (.iface t v) = true := by (first | with_unfolding_all rfl | assumption | (simp only [deepB, List.all_cons, List.all_nil, Bool.and_true, *] <;> rfl))) : DD G call (⟨d, (.mkif t x), none⟩ :: r) K fr H nx :=
  D_step (X_mkif hx) hd k
theorem D_min {d : Option Nat} {r : List XOper} {K : Fr → Prop} {x y : XV} {q : IntKind} {a b : Int} (k : DD G call r K (putd fr d (.int q (if b < a then b else a))) (H) (nx)) (hx : x.ev G fr = some (.int q a) := by (simp only [evL, reduceIte, Nat.reduceEqDiff, Int.reduceBEq, Int.reduceBNe, *] <;> with_reducible rfl)) (hy : y.ev G fr = some (.int q b) := by (simp only [evL, reduceIte, Nat.reduceEqDiff, Int.reduceBEq, Int.reduceBNe, *] <;> with_reducible rfl)) (hd : deepB 40 (.int q (if b < a then b else a)) = true := by (first | with_unfolding_all rfl | assumption | (simp only [deepB, List.all_cons, List.all_nil, Bool.and_true, *] <;> rfl))) : DD G call (⟨d, (.min x y), none⟩ :: r) K fr H nx :=
  D_step (X_min hx hy) hd k
theorem D_max {d : Option Nat} {r : List XOper} {K : Fr → Prop} {x y : XV} {q : IntKind} {a b : Int} (k : DD G call r K (putd fr d (.int q (if b > a then b else a))) (H) (nx)) (hx : x.ev G fr = some (.int q a) := by (simp only [evL, reduceIte, Nat.reduceEqDiff, Int.reduceBEq, Int.reduceBNe, *] <;> with_reducible rfl)) (hy : y.ev G fr = some (.int q b) := by (simp only [evL, reduceIte, Nat.reduceEqDiff, Int.reduceBEq, Int.reduceBNe, *] <;> with_reducible rfl)) (hd : deepB 40 (.int q (if b > a then b else a)) = true := by (first | with_unfolding_all rfl | assumption | (simp only [deepB, List.all_cons, List.all_nil, Bool.and_true, *] <;> rfl))) : DD G call (⟨d, (.max x y), none⟩ :: r) K fr H nx :=
  D_step (X_max hx hy) hd k
theorem D_s2s {d : Option Nat} {r : List XOper} {K : Fr → Prop} {x : XV} {s : List Nat} (k : DD G call r K (putd fr d (.str s)) (H) (nx)) (hx : x.ev G fr = some (.str s) := by (simp only [evL, reduceIte, Nat.reduceEqDiff, Int.reduceBEq, Int.reduceBNe, *] <;> with_reducible rfl)) (hd : deepB 40 (.str s) = true := by (first | with_unfolding_all rfl | assumption | (simp only [deepB, List.all_cons, List.all_nil, Bool.and_true, *] <;> rfl))) : DD G call (⟨d, (.s2s x), none⟩ :: r) K fr H nx :=
  D_step (X_s2s hx) hd k
theorem D_idxb {d : Option Nat} {r : List XOper} {K : Fr → Prop} {x c : XV} {s : List Nat} {b : Nat} (k : DD G call r K (putd fr d (.int .i64 (bidx b 0 s))) (H) (nx)) (hx : x.ev G fr = some (.str s) := by (simp only [evL, reduceIte, Nat.reduceEqDiff, Int.reduceBEq, Int.reduceBNe, *] <;> with_reducible rfl)) (hc : c.ev G fr = some (.int .u8 (.ofNat b)) := by (first | (simp only [evL, reduceIte, Nat.reduceEqDiff, Int.reduceBEq, Int.reduceBNe, *] <;> with_reducible rfl) | (simp only [evL, reduceIte, Nat.reduceEqDiff, Int.reduceBEq, Int.reduceBNe, *] <;> rfl))) (hd : deepB 40 (.int .i64 (bidx b 0 s)) = true := by (first | with_unfolding_all rfl | assumption | (simp only [deepB, List.all_cons, List.all_nil, Bool.and_true, *] <;> rfl))) : DD G call (⟨d, (.idxb x c), none⟩ :: r) K fr H nx :=
  D_step (X_idxb hx hc) hd k
theorem D_lenM {d : Option Nat} {r : List XOper} {K : Fr → Prop} {x : XV} {h : Nat} {es : List (AV × AV)} (k : DD G call r K (putd fr d (.int .i64 (.ofNat es.length))) (H) (nx)) (hx : x.ev G fr = some (.map h) := by (simp only [evL, reduceIte, Nat.reduceEqDiff, Int.reduceBEq, Int.reduceBNe, *] <;> with_reducible rfl)) (hh : H.get h = some (.map es) := by (first | assumption | with_unfolding_all rfl)) (hl : es.length ≤ maxStr := by (first | assumption | omega)) (hd : deepB 40 (.int .i64 (.ofNat es.length)) = true := by (first | with_unfolding_all rfl | assumption | (simp only [deepB, List.all_cons, List.all_nil, Bool.and_true, *] <;> rfl))) : DD G call (⟨d, (.lenM x), none⟩ :: r) K fr H nx :=
  D_step (X_lenM hx hh hl) hd k
theorem D_lookupS {d : Option Nat} {r : List XOper} {K : Fr → Prop} {ag : Bool} {ks : List Kd} {m kx : XV} {z kv v : AV} {h : Nat} {es : List (AV × AV)} (k : DD G call r K (putd fr d (v)) (H) (nx)) (hm : m.ev G fr = some (.map h) := by (simp only [evL, reduceIte, Nat.reduceEqDiff, Int.reduceBEq, Int.reduceBNe, *] <;> with_reducible rfl)) (hk : kx.ev G fr = some kv := by (simp only [evL, reduceIte, Nat.reduceEqDiff, Int.reduceBEq, Int.reduceBNe, *] <;> with_reducible rfl)) (ho : keyOk ag ks kv = true := by ((with_unfolding_all rfl))) (hh : H.get h = some (.map es) := by (first | assumption | with_unfolding_all rfl)) (hf : mfind ag ks kv es = some (some v) := by (assumption)) (hd : deepB 40 (v) = true := by (first | with_unfolding_all rfl | assumption | (simp only [deepB, List.all_cons, List.all_nil, Bool.and_true, *] <;> rfl))) : DD G call (⟨d, (.lookup ag ks m kx z false), none⟩ :: r) K fr H nx :=
  D_step (X_lookupS hm hk ho hh hf) hd k
theorem D_lookupN {d : Option Nat} {r : List XOper} {K : Fr → Prop} {ag : Bool} {ks : List Kd} {m kx : XV} {z kv : AV} {h : Nat} {es : List (AV × AV)} (k : DD G call r K (putd fr d (z)) (H) (nx)) (hm : m.ev G fr = some (.map h) := by (simp only [evL, reduceIte, Nat.reduceEqDiff, Int.reduceBEq, Int.reduceBNe, *] <;> with_reducible rfl)) (hk : kx.ev G fr = some kv := by (simp only [evL, reduceIte, Nat.reduceEqDiff, Int.reduceBEq, Int.reduceBNe, *] <;> with_reducible rfl)) (ho : keyOk ag ks kv = true := by ((with_unfolding_all rfl))) (hh : H.get h = some (.map es) := by (first | assumption | with_unfolding_all rfl)) (hf : mfind ag ks kv es = some none := by (assumption)) (hd : deepB 40 (z) = true := by (first | with_unfolding_all rfl | assumption | (simp only [deepB, List.all_cons, List.all_nil, Bool.and_true, *] <;> rfl))) : DD G call (⟨d, (.lookup ag ks m kx z false), none⟩ :: r) K fr H nx :=
  D_step (X_lookupN hm hk ho hh hf) hd k
theorem D_b2s {d : Option Nat} {r : List XOper} {K : Fr → Prop} {x : XV} {v : AV} {n : Nat} {cs : List AV} {s : List Nat} (k : DD G call r K (putd fr d (.str s)) (H) (nx)) (hx : x.ev G fr = some v := by (simp only [evL, reduceIte, Nat.reduceEqDiff, Int.reduceBEq, Int.reduceBNe, *] <;> with_reducible rfl)) (hn : notStr v = true := by (rfl)) (hc : content H 1 v = some (n, cs) := by (first | assumption | with_unfolding_all rfl)) (hb : toBytes cs = some s := by (assumption)) (hd : deepB 40 (.str s) = true := by (first | with_unfolding_all rfl | assumption | (simp only [deepB, List.all_cons, List.all_nil, Bool.and_true, *] <;> rfl))) : DD G call (⟨d, (.b2s x), none⟩ :: r) K fr H nx :=
  D_step (X_b2s hx hn hc hb) hd k
end
/-- One step of a piece of code that asks nothing. -/
class Nx (p : Prop) (q : outParam Prop) : Prop where
  go : q → p
theorem stp {p q : Prop} [h : Nx p q] (k : q) : p := h.go k
section
variable {G : Cx} {call : Call} {Q : Ext → Fr → Heap → Nat → Prop} {L : Fr → Heap → Nat → Prop} {fr : Fr} {H : Heap} {n : Nat} {a b : XC} {id : Nat} {I : Nat → Fr → Heap → Nat → Prop} {m : Nat} {res : List XR} {R : AV → Heap → Nat → Prop}
instance : Nx (CC G call (.seq a b) Q fr H n) (CC G call a (thenQ Q (CC G call b Q)) fr H n) := ⟨C_seq⟩
instance : Nx (CC G call .skip Q fr H n) (Q .normal fr H n) := ⟨C_skip⟩
instance : Nx (CC G call (.block id a) Q fr H n) (CC G call a (blockQ id Q) fr H n) := ⟨C_block⟩
instance : Nx (CC G call .ret Q fr H n) (Q .ret fr H n) := ⟨C_ret⟩
instance : Nx (CC G call (.exit id) Q fr H n) (Q (.exit id) fr H n) := ⟨C_exit⟩
instance : Nx (thenQ Q L .normal fr H n) (L fr H n) := ⟨T_n⟩
instance : Nx (thenQ Q L .ret fr H n) (Q .ret fr H n) := ⟨T_r⟩
instance : Nx (thenQ Q L (.exit id) fr H n) (Q (.exit id) fr H n) := ⟨T_e⟩
instance : Nx (blockQ id Q .normal fr H n) (Q .normal fr H n) := ⟨B_n⟩
instance : Nx (blockQ id Q .ret fr H n) (Q .ret fr H n) := ⟨B_r⟩
instance : Nx (blockQ id Q (.exit id) fr H n) (Q .normal fr H n) := ⟨B_e⟩
instance : Nx (loopQ Q I m .ret fr H n) (Q .ret fr H n) := ⟨L_r⟩
instance : Nx (loopQ Q I m (.exit id) fr H n) (Q (.exit id) fr H n) := ⟨L_e⟩
instance : Nx (loopQ Q I m .normal fr H n) (Again I m fr H n) := ⟨L_n⟩
instance : Nx (endQ res R .ret fr H n) (EE res R fr H n) := ⟨E_r⟩
instance : Nx (endQ res R .normal fr H n) (EE res R fr H n) := ⟨E_n⟩
instance : Nx (onlyN L .normal fr H n) (Here (L fr H n)) := ⟨N_n⟩
theorem A_condT {c : XV} (k : CC G call a Q fr H n) (hc : c.ev G fr = some (.bool true) := by (simp only [evL, reduceIte, Nat.reduceEqDiff, Int.reduceBEq, Int.reduceBNe, *] <;> with_reducible rfl)) : CC G call (.cond c a b) Q fr H n := C_condT hc k
theorem A_condF {c : XV} (k : CC G call b Q fr H n) (hc : c.ev G fr = some (.bool false) := by (simp only [evL, reduceIte, Nat.reduceEqDiff, Int.reduceBEq, Int.reduceBNe, *] <;> with_reducible rfl)) : CC G call (.cond c a b) Q fr H n := C_condF hc k
theorem A_cond2 {c : XV} {q : Bool} (k1 : q = true → CC G call a Q fr H n) (k2 : q = false → CC G call b Q fr H n) (hc : c.ev G fr = some (.bool q) := by (simp only [evL, reduceIte, Nat.reduceEqDiff, Int.reduceBEq, Int.reduceBNe, *] <;> with_reducible rfl)) : CC G call (.cond c a b) Q fr H n := C_cond2 hc k1 k2
theorem A_E {vs : List AV} (k : Here (R (oneOr vs) H n)) (h : ress H fr res = some vs := by (simp only [ress, resOf, evL, reduceIte, Nat.reduceEqDiff, eq_self, beq_self_eq_true, xload, Heap.get, Heap.put, Sy.part, cellsOf, AV.flat, AV.cells, splice, nbeq_lit, nble_lit, Nat.reduceBEq, Nat.reduceLeDiff, Nat.reduceAdd, Nat.zero_add, Nat.add_zero, decide_true, decide_false, List.take_succ_cons, List.take_zero, List.drop_succ_cons, List.drop_zero, List.cons_append, List.nil_append, List.append_nil, List.length_cons, List.length_nil, List.getElem?_cons_zero, List.getElem?_cons_succ, List.take_nil, List.drop_nil, *] <;> with_reducible rfl)) : EE res R fr H n := E_mk h k
end
end Go.Sy
