/- A LIBRARY FOR RUNNING A PROGRAM IN THE KERNEL, OVER ABSTRACT VALUES, AND THAT ITS WORD IS THE MODEL'S: part 2 of 5. No condition. -/
import Derived.Test.YtjkegnpdemngiaaGreatDoorSvA
import Derived.Laws.Build
import Derived.Lib.Bytealg
import Derived.Deep.LoopGhost
import Derived.Scope
set_option linter.unusedVariables false
set_option linter.unusedSimpArgs false
/- New objects, and what is left. No condition. -/
namespace Go.Sy
section
variable {P : Program} {E : Env} {w : World}

theorem length_rep (n : Nat) (z : List AV) : (rep n z).length = n * z.length := by
  induction n with
  | zero => simp [rep]
  | succ n ih => simp [rep, ih, Nat.add_mul, Nat.add_comm]
theorem getElem?_rep (z : List AV) : ∀ (n i : Nat), i < n * z.length → (rep n z)[i]? = z[i % z.length]?
  | 0, i, h => by simp at h
  | n + 1, i, h => by
    simp only [rep]
    rw [List.getElem?_append]
    split
    · rename_i hi
      rw [Nat.mod_eq_of_lt hi]
    · rename_i hi
      have h' : i - z.length < n * z.length := by rw [Nat.add_mul] at h; omega
      rw [getElem?_rep z n _ h']
      have : i = (i - z.length) + z.length := by omega
      conv => rhs; rw [this, Nat.add_mod_right]

theorem made_vrs {z : List AV} {cz : Array Value} (hz : VRs E w z cz.toList) (h1 : ∀ v ∈ cz.toList, v.oneCell' = true) (n : Nat) :
    VRs E w (rep n z) (madeCells cz (n * cz.size)).toList ∧ ∀ v ∈ (madeCells cz (n * cz.size)).toList, v.oneCell' = true := by
  have hl : z.length = cz.size := by have := hz.1; simpa using this
  have key : ∀ (i : Nat), i < n * cz.size → (madeCells cz (n * cz.size)).toList[i]? = cz.toList[i % cz.size]? := fun i hi => by
    have hpos : 0 < cz.size := Nat.pos_of_ne_zero fun h => by rw [h] at hi; simp at hi
    have hm : i % cz.size < cz.size := Nat.mod_lt _ hpos
    simp [madeCells, hi, hm]
  have hlen : (madeCells cz (n * cz.size)).toList.length = n * cz.size := by rw [Array.length_toList, size_madeCells]
  refine ⟨⟨by rw [length_rep, hl, hlen], fun i x v hx hv => ?_⟩, fun v hv => ?_⟩
  · have hi : i < n * cz.size := by rw [← hlen]; exact (List.getElem?_eq_some_iff.1 hv).1
    rw [getElem?_rep _ _ _ (by rw [hl]; exact hi), hl] at hx
    rw [key i hi] at hv
    exact hz.2 _ x v hx hv
  · obtain ⟨i, hi⟩ := List.getElem?_of_mem hv
    have hi' : i < n * cz.size := by rw [← hlen]; exact (List.getElem?_eq_some_iff.1 hi).1
    rw [key i hi'] at hi
    exact h1 v (List.mem_of_getElem? hi)

/-- A new row, in whatever way. -/
theorem new_row {H : Heap} (hr : HR E H w) {nx : Nat} (ha : ¬ E.D nx) {cs : List AV} {vs : List Value} {e : TypeId} (hv : VRs E w cs vs) (h1 : ∀ v ∈ vs, v.oneCell' = true) :
    ∃ w', (newRow e vs.toArray).run P w = .ok ⟨w.heap.size, 0, none⟩ w' ∧ w'.heap[w.heap.size]? = some (.cells vs.toArray e (0, 0)) ∧ HR (E.add nx w.heap.size) ((nx, .cells false cs) :: H) w' ∧
      Tr E H w (E.add nx w.heap.size) ((nx, .cells false cs) :: H) w' nx (nx + 1) := by
  obtain ⟨n1, n2⟩ := new_cells (st := false) (e := e) (c := vs.toArray) hr ha (by simpa using CR.of_vrs hv h1)
  exact ⟨_, by simp [newRow], heap_push_new, n1, n2⟩

theorem newptr {nx b off : Nat} {w' : World} : VR (E.add nx b) w' (.ptr nx off) (.pointer (some ⟨b, off, none⟩)) := by
  have := VR.ptr (E := E.add nx b) (w := w') nx off (.inr rfl)
  rw [Env.add_ρ_new] at this
  exact this
theorem newrow {nx b len sz : Nat} {w' : World} {c : Array Value} {e : TypeId} {f : Nat × Nat} (h : w'.heap[b]? = some (.cells c e f)) {cp cap : Nat} {ex : Bool} (h0 : 0 < sz) (h1 : len ≤ cap) (h2 : cap ≤ maxStr) (h3 : cap * sz ≤ c.size) (h4 : cp ≤ cap) (h5 : ex = true → cap = cp) :
    VR (E.add nx b) w' (.row nx 0 len sz cp ex) (.slice (some ⟨b, 0, none⟩) len cap) := by
  have := VR.row (E := E.add nx b) (w := w') nx 0 len sz cp cap ex (.inr rfl) h1 h2 h0 h4 h5 ⟨c, e, f, by rw [Env.add_ρ_new]; exact h, by omega⟩
  rw [Env.add_ρ_new] at this
  exact this

theorem box_sound {H : Heap} {nx sz : Nat} {e : TypeId} {v : AV} {cv : Value} {cs : List AV} (hr : HR E H w) (ha : ¬ E.D nx) (hv : VR E w v cv) (h : cellsOf v sz = some cs) :
    SemOK P (Instr.box e cv) E H w nx (.ptr nx 0) ((nx, .cells false cs) :: H) (nx + 1) := by
  obtain ⟨_, _, _, h2, h3, _⟩ := cellsOf_sound hv h
  obtain ⟨w', r1, r2, r3, r4⟩ := new_row (P := P) (e := e) hr ha h2 h3
  exact ⟨_, _, w', by simp only [Instr.box, newVar, Sem.run_bind]; rw [show newRow e cv.cells = newRow e cv.cells.toList.toArray by simp, r1]; rfl, r3, r4, newptr⟩

theorem alloc_sound {H : Heap} {nx : Nat} {e : TypeId} {cs : List AV} (hr : HR E H w) (ha : ¬ E.D nx) (h : zerosT P e = some cs) :
    SemOK P (Instr.alloc e true (.tuple #[])) E H w nx (.ptr nx 0) ((nx, .cells false cs) :: H) (nx + 1) := by
  obtain ⟨i, z, hi, hz, _, _, _, h2, h3⟩ := VR.zero (P := P) (E := E) (w := w) (z := .bool true) (v := .bool true) (n := 0) h
  obtain ⟨w', r1, r2, r3, r4⟩ := new_row (P := P) (e := e) hr ha h2 h3
  refine ⟨_, _, w', ?_, r3, r4, newptr⟩
  have hzv : (zeroValue e).run P w = .ok z w := by simp [zeroValue, typeInfo, hi, hz]
  simp only [Instr.alloc, newVar, Sem.run_bind, hzv, Result.andThen_ok]
  rw [show newRow e z.cells = newRow e z.cells.toList.toArray by simp, r1]
  rfl

theorem mkslice_sound {H : Heap} {nx l c sz bytes : Nat} {t e : TypeId} {kl kc : IntKind} {z : List AV} (hr : HR E H w) (ha : ¬ E.D nx) (ht : P.underlying t = some (.slice e)) (hs : sizeT P e = some sz) (hb : bytesT P e = some bytes) (hz : zerosT P e = some z)
    (h0 : 0 < sz) (hlc : l ≤ c) (hroom : c * bytes ≤ roomBits) (hroom2 : c ≤ roomBits) :
    SemOK P (Instr.makeSlice t (.int kl (l : Int)) (.int kc (c : Int))) E H w nx (.row nx 0 l sz c true) ((nx, .cells false (rep c z)) :: H) (nx + 1) := by
  obtain ⟨i, cz, hi, hcz, hzs, hsi, _, h2, h3⟩ := VR.zero (P := P) (E := E) (w := w) (z := .bool true) (v := .bool true) (n := 0) hz
  have : i.size = sz := by rw [hs] at hsi; simpa using hsi.symm
  subst this
  have hby : i.bytes = bytes := by unfold bytesT at hb; rw [hi] at hb; simpa using hb
  subst hby
  obtain ⟨m1, m2⟩ := made_vrs h2 h3 c
  have hrun := run_make (P := P) w t e i cz ht hi hcz kl kc (l : Int) (c : Int) (by omega) (by omega) (by
    have : (i.bytes : Int) * (c : Int) = ((c * i.bytes : Nat) : Int) := by rw [Nat.mul_comm]; simp
    rw [this]; unfold roomBits at hroom; omega) (by unfold roomBits at hroom2; omega)
  rw [Int.toNat_natCast, Int.toNat_natCast] at hrun
  have hcells := new_cells (st := false) (e := e) (c := madeCells cz.cells (c * cz.cells.size)) hr ha (CR.of_vrs m1 m2)
  rw [← hzs] at hrun
  refine ⟨_, _, _, hrun, hcells.1, hcells.2, ?_⟩
  exact newrow (c := madeCells cz.cells (c * cz.cells.size)) (e := e) (f := (0, 0)) heap_push_new h0 hlc (by unfold roomBits at hroom2; unfold maxStr; omega) (by rw [size_madeCells, hzs]; exact Nat.le_refl _) (Nat.le_refl _) (fun _ => rfl)

theorem bslice_sound {G : Cx} {fr : Fr} {a : Act} {nt : Nat} (hf : FrR E w fr a nt) (hg : GR G E w) {H : Heap} {nx len sz : Nat} {t e : TypeId} {z cs : List AV} {ps : List (Nat × Operand)} {qs : List (Nat × Nat × XV)} (hr : HR E H w) (ha : ¬ E.D nx)
    (ht : P.underlying t = some (.slice e)) (hs : sizeT P e = some sz) (hz : zerosT P e = some z) (h0 : 0 < sz) (hlen : len * sz ≤ 16777216)
    (hp : cparts (fun i => some (i * sz, sz)) ps = some qs) (h : fillx G fr (rep len z) qs = some cs) :
    SemOK P (Instr.buildSlice t len (ps.map fun (i, x) => (i, a.eval x)).toArray) E H w nx (.row nx 0 len sz len true) ((nx, .cells false cs) :: H) (nx + 1) := by
  obtain ⟨i, cz, hi, hcz, hzs, hsi, _, h2, h3⟩ := VR.zero (P := P) (E := E) (w := w) (z := .bool true) (v := .bool true) (n := 0) hz
  have : i.size = sz := by rw [hs] at hsi; simpa using hsi.symm
  subst this
  obtain ⟨m1, m2⟩ := made_vrs h2 h3 len
  obtain ⟨cells', r1, r2, r3, r4⟩ := fill_sound hf hg hp h m1 m2
  obtain ⟨w', q1, q2, q3, q4⟩ := new_row (P := P) (e := e) hr ha r2 r3
  have hlen' : ¬ (len * i.size > 2 ^ 24) := by omega
  have hzv : (zeroValue e).run P w = .ok cz w := by simp [zeroValue, typeInfo, hi, hcz]
  have hlm : len ≤ len * i.size := Nat.le_mul_of_pos_right _ h0
  refine ⟨_, _, w', ?_, q3, q4, newrow q2 h0 (Nat.le_refl _) (by unfold maxStr; omega) (by simp [r4, size_madeCells, hzs]) (Nat.le_refl _) (fun _ => rfl)⟩
  have hfill : Instr.fill (fun j => some (j * i.size, i.size)) (madeCells cz.cells (len * i.size)) (ps.map fun (i, x) => (i, a.eval x)) = some cells' := by rw [← hzs] at r1 ⊢; exact r1
  simp only [Instr.buildSlice, Sem.run_bind, run_underlying ht, Result.andThen_ok, run_size hs, if_neg hlen', Sem.run_ite]
  by_cases h00 : len * i.size = 0
  · have hm : madeCells cz.cells (len * i.size) = (Array.range (len * i.size)).map ((#[] : Array Value)[· % (#[] : Array Value).size]!) := by
      rw [h00]; simp [madeCells, Array.range_zero']
    rw [if_pos h00]
    simp only [Sem.run_pure, Result.andThen_ok]
    rw [← hm, hfill]
    simp only [Sem.run_bind]
    rw [show newRow e cells' = newRow e cells'.toList.toArray by simp, q1]
    rfl
  · rw [if_neg h00]
    simp only [Sem.run_bind, hzv, Result.andThen_ok, Sem.run_pure]
    rw [show (Array.range (len * i.size)).map (fun x => cz.cells[x % cz.cells.size]!) = madeCells cz.cells (len * i.size) from rfl, hfill]
    simp only [Sem.run_bind]
    rw [show newRow e cells' = newRow e cells'.toList.toArray by simp, q1]
    rfl

theorem s2b_sound {H : Heap} {nx : Nat} {s d e : TypeId} {l : List Nat} {cx : Value} (hr : HR E H w) (ha : ¬ E.D nx) (hx : VR E w (.str l) cx) (hs : P.underlying s = some .string) (hd : P.underlying d = some (.slice e)) (he : P.underlying e = some (.int .u8)) :
    SemOK P (convert s d cx) E H w nx (.row nx 0 l.length 1 l.length false) ((nx, .cells true (l.map fun b => .int .u8 (.ofNat b))) :: H) (nx + 1) := by
  obtain ⟨k1, k2, k3, k4, k5, k6, k7⟩ := content_sound (P := P) (sz := 1) hr hx (show content H 1 (.str l) = some (l.length, _) from rfl)
  obtain ⟨bs, rfl, hb, hl⟩ := hx.of_str
  have hsz := str_len hb
  have hrun := run_bytes_of_string (P := P) w s d e bs hs hd he
  have hge := grownCap_ge w bs.size 0 e
  have hle := grownCap_le_maxLen w bs.size 0 e (by rw [hsz]; unfold maxStr at hl; simp only [maxLen]; omega)
  have hbl : (bytesRow bs (grownCap w bs.size 0 e)).size = grownCap w bs.size 0 e := by
    simp [bytesRow]
    have : bs.data.size = bs.size := rfl
    omega
  have hcr : CR E w (l.map fun b => AV.int .u8 (.ofNat b)) (bytesRow bs (grownCap w bs.size 0 e)).toList := by
    refine ⟨by simp [bytesRow, ← hb], fun i x hx => ?_⟩
    subst hb
    simp only [List.getElem?_map, Option.map_map] at hx
    cases hc : bs.data.toList[i]? with
    | none => simp [hc] at hx
    | some b =>
      simp [hc] at hx
      subst hx
      have hi : i < bs.data.toList.length := (List.getElem?_eq_some_iff.1 hc).1
      have hb0 := b.toNat_lt
      refine ⟨.int .u8 b.toNat, ?_, rfl, .int _ _ (by constructor <;> simp [IntKind.min, IntKind.max, IntKind.signed, IntKind.bits] <;> omega)⟩
      simp only [bytesRow, Array.toList_append, Array.toList_map]
      rw [List.getElem?_append_left (by simpa using hi), List.getElem?_map, hc]
      rfl
  have hal := alloc_step hr ha (o := .cells (bytesRow bs (grownCap w bs.size 0 e)) e ((bytesRow bs (grownCap w bs.size 0 e)).size, (bytesRow bs (grownCap w bs.size 0 e)).size + 1))
    (ho := .cells true (l.map fun b => .int .u8 (.ofNat b))) fun w' hw' _ hm => (hcr.mono hm).or (by rw [hw']; exact heap_push_new) (.inr ⟨rfl, Nat.le_refl _⟩)
  obtain ⟨d1, d2⟩ := drew_step (w' := w.drew.alloc (.cells (bytesRow bs (grownCap w bs.size 0 e)) e ((bytesRow bs (grownCap w bs.size 0 e)).size, (bytesRow bs (grownCap w bs.size 0 e)).size + 1))) hal.1 ⟨rfl, rfl, rfl, rfl⟩ (nx + 1)
  refine ⟨_, _, _, hrun, d1, hal.2.1.trans hal.1 d2, ?_⟩
  rw [hsz] at hge hle hbl hrun ⊢
  exact newrow heap_push_new (by omega) hge (by unfold maxStr; simp only [maxLen] at hle; omega) (by rw [Nat.mul_one]; exact Nat.le_of_eq hbl.symm) hge (fun h => by cases h)

theorem mkmap_sound {H : Heap} {nx : Nat} {t : TypeId} (hr : HR E H w) (ha : ¬ E.D nx) : SemOK P (Instr.makeMap t none) E H w nx (.map nx) ((nx, .map []) :: H) (nx + 1) := by
  have hal := alloc_step hr ha (o := .map #[] 0) (ho := .map []) fun w' hw' _ hm => ⟨#[], 0, by rw [hw']; exact heap_push_new, rfl, fun i k x hi => by simp at hi, fun i j m n hi => by simp at hi⟩
  refine ⟨.map (some w.heap.size), _, _, by simp [Instr.makeMap], hal.1, hal.2.1, ?_⟩
  have := VR.map (E := E.add nx w.heap.size) (w := { w with heap := w.heap.push (.map #[] 0) }) nx (.inr rfl)
  rw [Env.add_ρ_new] at this
  exact this

theorem rngS_sound {H : Heap} {nx : Nat} {t : TypeId} {s : List Nat} {cx : Value} (hr : HR E H w) (ha : ¬ E.D nx) (hx : VR E w (.str s) cx) (ht : P.underlying t = some .string) :
    SemOK P (Instr.range t cx) E H w nx (.ptr nx 0) ((nx, .siter s 0) :: H) (nx + 1) := by
  obtain ⟨bs, rfl, hs, hl⟩ := hx.of_str
  have hal := alloc_step hr ha (o := .stringIter bs 0) (ho := .siter s 0) fun w' hw' _ hm => ⟨bs, by rw [hw']; exact heap_push_new, hs⟩
  exact ⟨_, _, _, by simp [Instr.range, run_underlying ht], hal.1, hal.2.1, newptr⟩

theorem nextS_sound {H : Heap} {nx : Nat} {ty : TypeId} {s : List Nat} {hd pos : Nat} {v : AV} {H' : Heap} (hr : HR E H w) (hD : E.D hd) (hget : H.get hd = some (.siter s pos)) (hlen : s.length ≤ maxStr)
    (h : (pos < s.length ∧ ∃ b, rune s pos = some b ∧ v = .tup [.bool true, .int .i64 (.ofNat pos), .int .i32 (.ofNat b)] ∧ H' = H.put hd (.siter s (pos + 1))) ∨ (¬ pos < s.length ∧ v = .tup [.bool false] ∧ H' = H)) :
    SemOK P (Instr.next (.pointer (some ⟨E.ρ hd, 0, none⟩)) true ty) E H w nx v H' nx := by
  obtain ⟨bs, hb, hs⟩ := hr.obj _ (Heap.mem_of_get hget)
  have hsz := str_len hs
  have hgo : (getObj (E.ρ hd)).run P w = .ok (.stringIter bs pos) w := by simp [getObj, Sem.run, hb]
  rcases h with ⟨hlt, b, hrune, rfl, rfl⟩ | ⟨hge, rfl, rfl⟩
  · have hlt' : pos < bs.size := by omega
    obtain ⟨w', s1, s2, s3, _⟩ := setObj_step (P := P) hr hget hb (fun _ _ _ h => by cases h) (ob' := .stringIter bs (pos + 1)) (o' := .siter s (pos + 1)) (fun w' hb' hm => ⟨bs, hb', hs⟩) nx
    unfold rune at hrune
    cases hc : s[pos]? with
    | none => simp [hc] at hrune
    | some c =>
      simp only [hc] at hrune
      split at hrune
      · rename_i hlt2
        cases hrune
        rw [Nat.blt_eq] at hlt2
        have hcb : (bs[pos]'hlt').toNat = b := by
          subst hs
          rw [List.getElem?_map] at hc
          have hlt3 : pos < bs.data.toList.length := hlt'
          rw [List.getElem?_eq_getElem hlt3] at hc
          simp at hc
          rw [← hc]
          rfl
        have hdec := decode_ascii bs pos hlt' (by rw [hcb]; exact hlt2)
        refine ⟨.tuple #[.bool true, .int .i64 pos, .int .i32 b], E, w', ?_, s2, s3, ?_⟩
        · simp [Instr.next, hgo, hlt', hdec, s1, hcb, goInt]
        · refine VR.mk_tup (VRs.cons (.bool _) (VRs.cons (.int _ _ ?_) (VRs.cons (.int _ _ ?_) VRs.nil)))
          · unfold maxStr at hlen
            constructor <;> simp [IntKind.min, IntKind.max, IntKind.signed, IntKind.bits] <;> omega
          · constructor <;> simp [IntKind.min, IntKind.max, IntKind.signed, IntKind.bits] <;> omega
      · cases hrune
  · have hge' : ¬ pos < bs.size := by omega
    exact ⟨.tuple #[.bool false], E, w, by simp [Instr.next, hgo, hge'], hr, .refl _, VR.mk_tup (VRs.cons (.bool _) VRs.nil)⟩

theorem copy_sound {H : Heap} {nx nx' sz : Nat} {d y v : AV} {cd cy : Value} {H' : Heap} {t u ty e : TypeId} (hr : HR E H w) (hd : VR E w d cd) (hy : VR E w y cy) (ht : P.underlying t = some (.slice e)) (hs : sizeT P e = some sz) (h0 : 0 < sz)
    (h : xcopy H nx d y sz = some (v, H', nx')) : SemOK P (Builtin.copy_ #[t, u] ty #[cd, cy]) E H w nx v H' nx' := by
  unfold xcopy at h
  split at h
  · cases h
  · rename_i n ys hcont
    obtain ⟨vs, k1, k2, k3, k4, k5, k6, k7⟩ := content_sound (P := P) hr hy hcont
    -- the first cells of the source
    have first : ∀ m, m ≤ n → (Builtin.firstCells sz m cy).run P w = .ok (vs.take (m * sz)).toArray w := fun m hm => by
      rcases k7 with ⟨a, c, rfl, hcells⟩ | ⟨s, rfl, hsn⟩
      · by_cases hz : n * sz = 0
        · have hn : n = 0 := by
            rcases Nat.eq_zero_or_pos n with h | h
            · exact h
            · have := Nat.mul_pos h h0; omega
          have hm0 : m = 0 := by omega
          subst hm0
          cases a <;> simp [Builtin.firstCells, loadCells, loadCellsFrom]
        · obtain ⟨ad, rfl, hc⟩ := hcells hz
          refine run_firstCells_some w sz m ad _ _ (vs.take (m * sz)) (by
            rw [List.length_take, k3]
            exact Nat.min_eq_left (Nat.mul_le_mul_right _ hm)) fun j v hj => ?_
          rw [List.getElem?_take] at hj
          split at hj
          · exact hc j v hj
          · cases hj
      · have hf := k6 w rfl
        simp only [Builtin.firstCells, Sem.run_pure] at hf ⊢
        congr 1
        have hf' := congrArg (fun r => match r with | Result.ok a _ => a.toList | _ => []) hf
        simp only at hf'
        rw [← hsn, ByteArray.extract_zero_size] at hf'
        rw [← hf']
        apply Array.ext'
        have : sz = 1 := by
          cases hy with
          | str l _ _ _ =>
            cases hq : Nat.beq sz 1 with
            | true => exact nbeq_true hq
            | false =>
              rw [show content H sz (.str l) = none by simp [content, hq]] at hcont
              cases hcont
          | sym i _ _ _ => simp [content] at hcont
        subst this
        rw [Array.toList_map, Array.toList_map, ByteArray.data_extract, Array.toList_extract, List.extract_eq_take_drop, ← List.map_take]
        simp
    split at h
    · cases h
      cases hd
      refine ⟨.int .i64 0, E, w, ?_, hr, .refl _, .int _ _ (by constructor <;> simp [IntKind.min, IntKind.max, IntKind.signed, IntKind.bits])⟩
      have := first 0 (Nat.zero_le _)
      simp [Builtin.copy_, run_underlying ht, k5, run_size hs, this, goInt]
    · rename_i hd' off len sz' cp ex
      split at h
      · cases h
      rename_i hse
      have := nbeq_true hse
      subst this
      split at h
      · rename_i st cs hget
        split at h
        · rename_i hle
          have hle' := Nat.le_of_ble_eq_true hle
          cases h
          have hmin : Nat.min n len ≤ n := Nat.min_le_left _ _
          have hmin2 : Nat.min n len ≤ len := Nat.min_le_right _ _
          have hlt : Nat.min n len * sz ≤ n * sz := Nat.mul_le_mul_right _ hmin
          have hlt2 : Nat.min n len * sz ≤ len * sz := Nat.mul_le_mul_right _ hmin2
          have hvt : VRs E w (ys.take (Nat.min n len * sz)) (vs.take (Nat.min n len * sz)) := by
            have := k1.extract 0 (Nat.min n len * sz)
            simpa using this
          have hint : has .i64 ((Nat.min n len : Nat) : Int) := by
            unfold maxStr at k4
            constructor <;> simp only [IntKind.min, IntKind.max, IntKind.signed, IntKind.bits] <;> simp <;> omega
          cases hd with
          | row0 _ _ _ _ a =>
            refine ⟨.int .i64 ((Nat.min n 0 : Nat) : Int), E, w, ?_, ?_, ?_, .int _ _ hint⟩
            · have := first 0 (Nat.zero_le _)
              have e0 : Nat.min n 0 = 0 := Nat.min_zero _
              simp only [Builtin.copy_, List.getElem?_toArray, List.getElem?_cons_zero, List.getElem?_cons_succ, Sem.run_bind, run_underlying ht, Result.andThen_ok, k5, run_size hs, e0, this]
              simp [storeCells, goInt]
            · have e0 : Nat.min n 0 = 0 := Nat.min_zero _
              rw [e0]
              simp only [Nat.zero_mul, List.take_zero, Nat.add_zero, splice_nil]
              rw [Heap.put_same hget]; exact hr
            · have e0 : Nat.min n 0 = 0 := Nat.min_zero _
              rw [e0]
              simp only [Nat.zero_mul, List.take_zero, Nat.add_zero, splice_nil]
              rw [Heap.put_same hget]; exact .refl _
          | row _ _ _ _ _ cap _ hD hlen hcap hsz0 hcp hex hbk =>
            obtain ⟨w', r1, r2, r3⟩ := stores_step (P := P) hr hget (off := off) hvt (fun v hv => k2 v (List.mem_of_mem_take hv)) (.inl (by
              have h9 : ys.length = n * sz := by rw [k1.1, k3]
              rw [List.length_take, h9]
              omega)) nx
            refine ⟨.int .i64 ((Nat.min n len : Nat) : Int), E, w', ?_, r2, r3, .int _ _ hint⟩
            have := first _ hmin
            simp only [Builtin.copy_, List.getElem?_toArray, List.getElem?_cons_zero, List.getElem?_cons_succ, Sem.run_bind, run_underlying ht, Result.andThen_ok, k5, run_size hs, this, r1]
            rfl
        · cases h
      · cases h
    · cases h
end
end Go.Sy

/- One operation of the loaded program, resolved: all but the calls. No condition. -/
namespace Go.Sy

def Fresh (E : Env) (a b : Nat) : Prop := ∀ h, a ≤ h → h < b → ¬ E.D h

section
variable {P : Program} {G : Cx} {E : Env} {w : World} {fr : Fr} {a : Act} {nt : Nat} {H : Heap} {nx nx' : Nat} {v : AV} {H' : Heap}

theorem Done.of_sem {o : Oper} {s : Sem Value} (h : SemOK P s E H w nx v H' nx') (he : ∀ r w', s.run P w = .ok r w' → (execOp a.eval o).run P w = .ok (.value r) w') : Done P E H w nx (execOp a.eval o) v H' nx' := by
  obtain ⟨cv, E', w', h1, h2, h3, h4⟩ := h
  exact ⟨cv, E', w', h2, h3, h4, .inl (he _ _ h1)⟩
theorem Done.of_pure {o : Oper} {s : Sem Value} (hr : HR E H w) (h : ∃ cv, s.run P w = .ok cv w ∧ VR E w v cv) (he : ∀ r w', s.run P w = .ok r w' → (execOp a.eval o).run P w = .ok (.value r) w') : Done P E H w nx (execOp a.eval o) v H nx := by
  obtain ⟨cv, h1, h2⟩ := h
  exact .pure hr (he _ _ h1) h2
theorem Done.of_unit {o : Oper} {s : Sem Unit} (h : ∃ w', s.run P w = .ok () w' ∧ HR E H' w' ∧ Tr E H w E H' w' nx nx) (he : ∀ w', s.run P w = .ok () w' → (execOp a.eval o).run P w = .ok .skip w') : Done P E H w nx (execOp a.eval o) (.tup []) H' nx := by
  obtain ⟨w', h1, h2, h3⟩ := h
  exact ⟨undef, E, w', h2, h3, VR.mk_tup VRs.nil, .inr ⟨he _ h1, rfl⟩⟩

theorem evo_sound (hf : FrR E w fr a nt) (hg : GR G E w) {x : Option Operand} {y : Option XV} {u : Option AV} (hc : copdo x = some y) (he : evo G fr y = some u) : OV E w u (x.map a.eval) := by
  cases x with
  | none =>
    simp [copdo] at hc; subst hc
    simp [evo] at he; subst he
    trivial
  | some x =>
    simp only [copdo] at hc
    split at hc
    · rename_i z hz
      cases hc
      simp only [evo] at he
      split at he
      · rename_i av hav
        cases he
        exact copd_sound hf hg hz hav
      · cases he
    · cases hc

/-- What is not a number, nor a string. -/
theorem VR.no_num {x : AV} {cx : Value} (h : VR E w x cx) (h1 : ∀ k n, x ≠ .int k n) (h2 : ∀ l, x ≠ .str l) (hs : ∀ i, x ≠ .sym i) : (∀ k n, cx ≠ .int k n) ∧ (∀ k n, cx ≠ .float k n) ∧ (∀ k n m, cx ≠ .complex k n m) ∧ ∀ s, cx ≠ .string s := by
  cases h <;> first
    | (exact absurd rfl (h1 _ _))
    | (exact absurd rfl (h2 _))
    | (exact absurd rfl (hs _))
    | (refine ⟨?_, ?_, ?_, ?_⟩ <;> intros <;> intro h <;> cases h)

theorem eq_op {t : TypeId} {x : AV} {cx cy : Value} {b : Bool} (hx : VR E w x cx) (h1 : ∀ k n, x ≠ .int k n) (h2 : ∀ l, x ≠ .str l) (hs : ∀ i, x ≠ .sym i) (h : (Op.equalIn 10000 t cx cy).run P w = .ok b w) :
    (binOp .eql t cx cy).run P w = .ok (.bool b) w ∧ (binOp .neq t cx cy).run P w = .ok (.bool (!b)) w := by
  obtain ⟨q1, q2, q3, q4⟩ := hx.no_num h1 h2 hs
  exact binop_eql h (fun j a k b h => q1 _ _ h.1) (fun j a k b h => q2 _ _ h.1) (fun j a a' k b b' h => q3 _ _ _ h.1) (fun a b h => q4 _ h.1)

/-- A comparison, with its guard. -/
theorem exec_bin {o : Oper} {op : BinOp} {t u : TypeId} {x y : Operand} (ho : o.op = .binOp op t x y u) {r : Value} (hg : (eqGuard op t x y (a.eval x) (a.eval y)).run P w = .ok () w) (h : (binOp op t (a.eval x) (a.eval y)).run P w = .ok r w) :
    (execOp a.eval o).run P w = .ok (.value r) w := by
  simp only [execOp, ho, Sem.run_bind, hg, Result.andThen_ok, h, Sem.run_pure]

theorem guard_other {op : BinOp} {t : TypeId} {x y : Operand} {cx cy : Value} (h1 : op ≠ .eql) (h2 : op ≠ .neq) : (eqGuard op t x y cx cy).run P w = .ok () w := by
  cases op <;> first | exact absurd rfl h1 | exact absurd rfl h2 | rfl

theorem guard_plain {op : BinOp} {t : TypeId} {ox oy : Operand} {cx cy : Value} (h1 : ∀ u, cx ≠ .agg u) (h2 : cx = .nilIface → cy = .nilIface → (isConstO ox || isConstO oy) = true) : (eqGuard op t ox oy cx cy).run P w = .ok () w := by
  by_cases e1 : op = .eql
  · subst e1; exact guard_eql h1 h2
  · by_cases e2 : op = .neq
    · subst e2; exact guard_neq h1 h2
    · exact guard_other e1 e2

theorem VR.no_agg {x : AV} {cx : Value} (h : VR E w x cx) (h1 : ∀ c, x ≠ .agg c) : ∀ u, cx ≠ .agg u := by
  intro u hu
  subst hu
  cases h with
  | agg cs _ _ _ _ => exact h1 cs rfl
  | sym i _ _ h2 => simp [Value.oneCell'] at h2
theorem VR.no_iface {x : AV} {cx : Value} (h : VR E w x cx) (h1 : x ≠ .niliface) (hs : ∀ i, x ≠ .sym i) : cx ≠ .nilIface := by
  cases h <;> first | (exact absurd rfl h1) | (exact absurd rfl (hs _)) | (intro hu; cases hu)

theorem bneg_done {o : Oper} {op : BinOp} {t u : TypeId} {x y : Operand} {neg b : Bool} (hr : HR E H w) (ho : o.op = .binOp op t x y u)
    (h1 : (binOp .eql t (a.eval x) (a.eval y)).run P w = .ok (.bool b) w ∧ (binOp .neq t (a.eval x) (a.eval y)).run P w = .ok (.bool (!b)) w) (h2 : (neg = false ∧ op = .eql) ∨ (neg = true ∧ op = .neq))
    (h3 : (eqGuard op t x y (a.eval x) (a.eval y)).run P w = .ok () w) : Done P E H w nx (execOp a.eval o) (bneg neg b) H nx := by
  have h := bneg_run (P := P) (E := E) h1 h2
  exact h.elim fun cv r => .pure hr (exec_bin ho h3 r.1) r.2

theorem arith_done {o : Oper} {op : BinOp} {t u : TypeId} {x y : Operand} {p q : AV} (hr : HR E H w) (ho : o.op = .binOp op t x y u) (h1 : VR E w p (a.eval x)) (h2 : VR E w q (a.eval y)) (h3 : xbin op p q = some v) :
    Done P E H w nx (execOp a.eval o) v H nx := by
  obtain ⟨cv, r1, r2⟩ := bin_sound (P := P) (t := t) h1 h2 h3
  refine .pure hr (exec_bin ho (guard_plain ?_ ?_) r1) r2
  · refine h1.no_agg fun c hc => ?_
    subst hc; simp [xbin] at h3
  · intro hn; refine absurd hn (h1.no_iface (fun hc => ?_) fun i hc => ?_)
    · subst hc; simp [xbin] at h3
    · subst hc; simp [xbin] at h3

theorem simple_done {o : Oper} {op : BinOp} {t u : TypeId} {x y : Operand} {p : AV} {neg b : Bool} (hr : HR E H w) (ho : o.op = .binOp op t x y u) (h1 : VR E w p (a.eval x)) (h2 : ∀ k n, p ≠ .int k n) (h3 : ∀ l, p ≠ .str l) (h4 : ∀ c, p ≠ .agg c) (hs : ∀ i, p ≠ .sym i)
    (h5 : p = .niliface → a.eval y = .nilIface → (isConstO x || isConstO y) = true) (h6 : (Op.equalIn 10000 t (a.eval x) (a.eval y)).run P w = .ok b w) (h7 : (neg = false ∧ op = .eql) ∨ (neg = true ∧ op = .neq)) :
    Done P E H w nx (execOp a.eval o) (bneg neg b) H nx := by
  refine bneg_done hr ho (eq_op h1 h2 h3 hs h6) h7 (guard_plain (h1.no_agg h4) fun hn hn2 => ?_)
  by_cases e : p = .niliface
  · exact h5 e hn2
  · exact absurd hn (h1.no_iface e hs)

theorem agg_done {o : Oper} {op : BinOp} {t u : TypeId} {x y : Operand} {p q : List AV} {ks : List Kd} {neg b : Bool} (hr : HR E H w) (ho : o.op = .binOp op t x y u) (h1 : VR E w (.agg p) (a.eval x)) (h2 : VR E w (.agg q) (a.eval y)) (hk : flatK P 6 t = some ks)
    (hag : agT P t = some true) (hq : P.eqGuardType P.depth t = false) (h : eqs ks p q = some b) (h7 : (neg = false ∧ op = .eql) ∨ (neg = true ∧ op = .neq)) : Done P E H w nx (execOp a.eval o) (bneg neg b) H nx := by
  obtain ⟨vs, e1, q1, _⟩ := h1.of_agg
  obtain ⟨us, e2, q2, _⟩ := h2.of_agg
  have hl : p.length = ks.length ∧ q.length = ks.length ∧ eqbs ks p q = some b := by
    unfold eqs at h
    split at h
    · rename_i l1 l2
      exact ⟨nbeq_true l1, nbeq_true l2, h⟩
    · cases h
  have he := equal_plain (P := P) (E := E) (w := w) hk 9994 vs.toList us.toList p q (a.eval x) (a.eval y) b q1 q2 (.inl ⟨hag, by rw [e1]⟩) (.inl ⟨hag, by rw [e2]⟩) (by rw [← q1.1]; exact hl.1) (by rw [← q2.1]; exact hl.2.1) hl.2.2
  refine bneg_done hr ho (eq_op h1 (fun _ _ h => by cases h) (fun _ h => by cases h) (fun _ h => by cases h) he) h7 ?_
  rw [e1, e2]
  exact run_eqGuard_agg w op t x y vs us hq

theorem bin_exec (hr : HR E H w) (hf : FrR E w fr a nt) (hg : GR G E w) {o : Oper} {op : BinOp} {t u : TypeId} {x y : Operand} {xop : XO} {call : Sy.Call} (ho : o.op = .binOp op t x y u) (hc : compBin P op t x y = some xop)
    (h : xoS G call fr H nx xop = some (v, H', nx')) : Done P E H w nx (execOp a.eval o) v H' nx' := by
  obtain ⟨ax, hax, hc⟩ := obind_some hc
  obtain ⟨ay, hay, hc⟩ := obind_some hc
  have ev1 : ∀ {p : AV}, ax.ev G fr = some p → VR E w p (a.eval x) := fun h => copd_sound hf hg hax h
  have ev2 : ∀ {p : AV}, ay.ev G fr = some p → VR E w p (a.eval y) := fun h => copd_sound hf hg hay h
  -- the operation is one of two
  have arith : xop = .bin op ax ay → Done P E H w nx (execOp a.eval o) v H' nx' := by
    intro e
    rw [e] at h
    simp only [xoS] at h
    split at h
    · rename_i p q hp hq
      split at h
      · rename_i r hr2
        cases h
        exact arith_done hr ho (ev1 hp) (ev2 hq) hr2
      · cases h
    · cases h
  split at hc
  · cases hc; exact arith rfl
  · cases hc; exact arith rfl
  · rename_i hut
    have key : ∀ {neg : Bool}, xop = .beq neg ax ay → ((neg = false ∧ op = .eql) ∨ (neg = true ∧ op = .neq)) → Done P E H w nx (execOp a.eval o) v H' nx' := by
      intro neg e h7
      rw [e] at h
      simp only [xoS] at h
      split at h
      · rename_i p q hp hq
        cases h
        have h1 := ev1 hp
        have h2 := ev2 hq
        have e1 := h1.of_bool
        have e2 := h2.of_bool
        exact simple_done hr ho h1 (fun _ _ h => by cases h) (fun _ h => by cases h) (fun _ h => by cases h) (fun _ h => by cases h) (fun h => by cases h) (by rw [e1, e2]; exact run_equalIn_bool w 9999 t p q hut) h7
      · cases h
    split at hc
    · cases hc; exact key rfl (.inl ⟨rfl, rfl⟩)
    · cases hc; exact key rfl (.inr ⟨rfl, rfl⟩)
    · cases hc
  · rename_i e hut
    have key : ∀ {neg : Bool} {n : Nat}, sizeT P e = some (n + 1) → xop = .peq neg ax ay → ((neg = false ∧ op = .eql) ∨ (neg = true ∧ op = .neq)) → Done P E H w nx (execOp a.eval o) v H' nx' := by
      intro neg n hn e h7
      rw [e] at h
      simp only [xoS] at h
      split at h
      · rename_i p q hp hq
        split at h
        · rename_i b hb
          cases h
          have h1 := ev1 hp
          refine simple_done hr ho h1 ?_ ?_ ?_ ?_ ?_ (peq_sound (d := 9999) hr h1 (ev2 hq) hb hut hn) h7
          · intro _ _ hh; subst hh; simp [xpeq] at hb
          · intro _ hh; subst hh; simp [xpeq] at hb
          · intro _ hh; subst hh; simp [xpeq] at hb
          · intro _ hh; subst hh; simp [xpeq] at hb
          · intro hh; subst hh; simp [xpeq] at hb
        · cases h
      · cases h
    split at hc
    · split at hc
      · cases hc
      · rename_i m hne hm
        cases m with
        | zero => exact absurd rfl hne
        | succ m => cases hc; exact key hm rfl (.inl ⟨rfl, rfl⟩)
      · cases hc
    · split at hc
      · cases hc
      · rename_i m hne hm
        cases m with
        | zero => exact absurd rfl hne
        | succ m => cases hc; exact key hm rfl (.inr ⟨rfl, rfl⟩)
      · cases hc
    · cases hc
  · rename_i fs hut
    split at hc
    · rename_i ks hk hq
      have key : ∀ {neg : Bool}, xop = .aeq neg ks ax ay → ((neg = false ∧ op = .eql) ∨ (neg = true ∧ op = .neq)) → Done P E H w nx (execOp a.eval o) v H' nx' := by
        intro neg e h7
        rw [e] at h
        simp only [xoS] at h
        split at h
        · rename_i p q hp hq2
          split at h
          · rename_i b hb
            cases h
            exact agg_done hr ho (ev1 hp) (ev2 hq2) hk (by simp [agT, hut]) hq hb h7
          · cases h
        · cases h
      split at hc
      · cases hc; exact key rfl (.inl ⟨rfl, rfl⟩)
      · cases hc; exact key rfl (.inr ⟨rfl, rfl⟩)
      · cases hc
    · cases hc
  · rename_i ms hut
    have key : ∀ {neg : Bool}, xop = .ieq neg (isConstO x || isConstO y) (kindT P) ax ay → ((neg = false ∧ op = .eql) ∨ (neg = true ∧ op = .neq)) → Done P E H w nx (execOp a.eval o) v H' nx' := by
      intro neg e h7
      rw [e] at h
      simp only [xoS] at h
      split at h
      · rename_i p q hp hq
        split at h
        · rename_i b hb
          cases h
          have h1 := ev1 hp
          have h2 := ev2 hq
          refine simple_done hr ho h1 ?_ ?_ ?_ ?_ ?_ (equalIn_iface (d := 9998) h1 h2 hb hut) h7
          · intro _ _ hh; subst hh; simp [xieq] at hb
          · intro _ hh; subst hh; simp [xieq] at hb
          · intro _ hh; subst hh; simp [xieq] at hb
          · intro _ hh; subst hh; simp [xieq] at hb
          · intro hh hn
            subst hh
            rw [hn] at h2
            cases h2
            case niliface =>
              simp only [xieq] at hb
              split at hb
              · assumption
              · cases hb
            case sym => simp [xieq] at hb
        · cases h
      · cases h
    split at hc
    · cases hc; exact key rfl (.inl ⟨rfl, rfl⟩)
    · cases hc; exact key rfl (.inr ⟨rfl, rfl⟩)
    · cases hc
  · rename_i e hut
    have key : ∀ {neg : Bool}, xop = .seq neg ax ay → ((neg = false ∧ op = .eql) ∨ (neg = true ∧ op = .neq)) → Done P E H w nx (execOp a.eval o) v H' nx' := by
      intro neg e h7
      rw [e] at h
      simp only [xoS] at h
      split at h
      · rename_i p q hp hq
        split at h
        · rename_i b hb
          cases h
          have h1 := ev1 hp
          refine simple_done hr ho h1 ?_ ?_ ?_ ?_ ?_ (equalIn_slice (d := 9999) h1 (ev2 hq) hb hut) h7
          · intro _ _ hh; subst hh; simp [xseq] at hb
          · intro _ hh; subst hh; simp [xseq] at hb
          · intro _ hh; subst hh; simp [xseq] at hb
          · intro _ hh; subst hh; simp [xseq] at hb
          · intro hh; subst hh; simp [xseq] at hb
        · cases h
      · cases h
    split at hc
    · cases hc; exact key rfl (.inl ⟨rfl, rfl⟩)
    · cases hc; exact key rfl (.inr ⟨rfl, rfl⟩)
    · cases hc
  · rename_i k e hut
    have key : ∀ {neg : Bool}, xop = .meq neg ax ay → ((neg = false ∧ op = .eql) ∨ (neg = true ∧ op = .neq)) → Done P E H w nx (execOp a.eval o) v H' nx' := by
      intro neg e h7
      rw [e] at h
      simp only [xoS] at h
      split at h
      · rename_i p q hp hq
        split at h
        · rename_i b hb
          cases h
          have h1 := ev1 hp
          refine simple_done hr ho h1 ?_ ?_ ?_ ?_ ?_ (equalIn_map (d := 9999) h1 (ev2 hq) hb hut) h7
          · intro _ _ hh; subst hh; simp [xmeq] at hb
          · intro _ hh; subst hh; simp [xmeq] at hb
          · intro _ hh; subst hh; simp [xmeq] at hb
          · intro _ hh; subst hh; simp [xmeq] at hb
          · intro hh; subst hh; simp [xmeq] at hb
        · cases h
      · cases h
    split at hc
    · cases hc; exact key rfl (.inl ⟨rfl, rfl⟩)
    · cases hc; exact key rfl (.inr ⟨rfl, rfl⟩)
    · cases hc
  · rename_i pp rr vv hut
    have key : ∀ {neg : Bool}, xop = .feq neg ax ay → ((neg = false ∧ op = .eql) ∨ (neg = true ∧ op = .neq)) → Done P E H w nx (execOp a.eval o) v H' nx' := by
      intro neg e h7
      rw [e] at h
      simp only [xoS] at h
      split at h
      · rename_i p q hp hq
        split at h
        · rename_i b hb
          cases h
          have h1 := ev1 hp
          refine simple_done hr ho h1 ?_ ?_ ?_ ?_ ?_ (equalIn_func (d := 9999) h1 (ev2 hq) hb hut) h7
          · intro _ _ hh; subst hh; simp [xfeq] at hb
          · intro _ hh; subst hh; simp [xfeq] at hb
          · intro _ hh; subst hh; simp [xfeq] at hb
          · intro _ hh; subst hh; simp [xfeq] at hb
          · intro hh; subst hh; simp [xfeq] at hb
        · cases h
      · cases h
    split at hc
    · cases hc; exact key rfl (.inl ⟨rfl, rfl⟩)
    · cases hc; exact key rfl (.inr ⟨rfl, rfl⟩)
    · cases hc
  · cases hc
end
end Go.Sy

/- One operation of the loaded program, resolved: the plain ones. No condition. -/
namespace Go.Sy
section
variable {P : Program} {G : Cx} {E : Env} {w : World} {fr : Fr} {a : Act} {nt : Nat} {H : Heap} {nx : Nat}

/-- Bytes are told to be a string's. -/
theorem mark_step {h : Nat} {st : Bool} {cs : List AV} (hr : HR E H w) (hg : H.get h = some (.cells st cs)) (off a : Nat) :
    ∃ w', (markStringish ⟨E.ρ h, off, none⟩).run P w = .ok () w' ∧ HR E (H.put h (.cells true cs)) w' ∧ Tr E H w E (H.put h (.cells true cs)) w' a a := by
  obtain ⟨c, e, f, hb, hf, hcr⟩ := CR.of_or (hr.obj _ (Heap.mem_of_get hg))
  obtain ⟨f', hw, hf'⟩ : ∃ f' : Nat × Nat, (w.freeze ⟨E.ρ h, c.size, none⟩ 1).heap = w.heap.setIfInBounds (E.ρ h) (.cells c e f') ∧ c.size ≤ f'.1 := by
    obtain ⟨lo, hi⟩ := f
    refine ⟨if lo == hi then (c.size, c.size + 1) else (min lo c.size, max hi (c.size + 1)), ?_, ?_⟩
    · apply Array.ext_getElem?
      intro i
      simp only [World.freeze, Nat.one_ne_zero, if_false, Array.getElem?_modify, Array.getElem?_setIfInBounds]
      have hb' : w.heap[E.ρ h]? = some (Obj.cells c e (lo, hi)) := hb
      obtain ⟨hlt, hget⟩ := Array.getElem?_eq_some_iff.1 hb'
      by_cases e1 : E.ρ h = i
      · subst e1
        simp [hget, hlt]
      · simp [e1]
    · split
      · exact Nat.le_refl _
      · rename_i hne
        rcases hf with h1 | ⟨_, h1⟩
        · simp only at h1
          subst h1
          simp at hne
        · simp only at h1 ⊢
          omega
  have hlt := (Array.getElem?_eq_some_iff.1 hb).1
  have r7 : (w.freeze ⟨E.ρ h, c.size, none⟩ 1).heap[E.ρ h]? = some (.cells c e f') := by rw [hw, Array.getElem?_setIfInBounds, if_pos rfl, if_pos hlt]
  have r6 : ∀ x, x ≠ E.ρ h → (w.freeze ⟨E.ρ h, c.size, none⟩ 1).heap[x]? = w.heap[x]? := fun x hx => by rw [hw, Array.getElem?_setIfInBounds, if_neg (Ne.symm hx)]
  have hS := Shapes.of_one hb r7 rfl r6
  obtain ⟨m1, m2, _⟩ := modify_step hr hg (w' := w.freeze ⟨E.ρ h, c.size, none⟩ 1) rfl rfl rfl (by rw [hw, Array.size_setIfInBounds]) r6 hS (o' := .cells true cs) (fun hm => CR.or (hcr.mono hm) r7 (.inr ⟨rfl, hf'⟩)) a
  refine ⟨_, ?_, m1, m2⟩
  simp [markStringish, World.shape?, hb]

theorem conv_exec (hr : HR E H w) (hf : FrR E w fr a nt) (hg : GR G E w) {v : AV} {H' : Heap} {nx' : Nat} {o : Oper} {s d : TypeId} {x : Operand} {xop : XO} {call : Sy.Call} (ho : o.op = .convert s d x) (hc : compConv P s d x = some xop)
    (hfr : Fresh E nx nx') (h : xoS G call fr H nx xop = some (v, H', nx')) : Done P E H w nx (execOp a.eval o) v H' nx' := by
  obtain ⟨ax, hax, hc⟩ := obind_some hc
  have ev : ∀ {p : AV}, ax.ev G fr = some p → VR E w p (a.eval x) := fun h => copd_sound hf hg hax h
  have he : ∀ r w', (convert s d (a.eval x)).run P w = .ok r w' → (execOp a.eval o).run P w = .ok (.value r) w' := fun r w' h => by simp only [execOp, ho, Sem.run_bind, h, Result.andThen_ok, Sem.run_pure]
  split at hc
  · rename_i k1 k2 h1 h2
    cases hc
    simp only [xoS] at h
    split at h
    · rename_i k n hn
      cases h
      obtain ⟨e1, _⟩ := (ev hn).of_int
      refine .of_pure (s := convert s d (a.eval x)) hr ?_ he
      rw [e1]
      exact ok_wrap (by simp [convert, run_underlying h1, run_underlying h2, Conv.intToInt])
    · cases h
  · rename_i h1 h2
    cases hc
    simp only [xoS] at h
    split at h
    · rename_i l hl
      cases h
      obtain ⟨bs, e1, hs, hb⟩ := (ev hl).of_str
      refine .of_pure (s := convert s d (a.eval x)) hr ⟨.string bs, ?_, .str _ _ hs hb⟩ he
      rw [e1]
      simp [convert, run_underlying h1, run_underlying h2]
    · cases h
  · rename_i e h1 h2
    split at hc
    · rename_i h3
      cases hc
      simp only [xoS] at h
      split at h
      · rename_i l hl
        cases h
        exact .of_sem (s2b_sound (P := P) hr (hfr nx (Nat.le_refl _) (by omega)) (ev hl) h1 h2 h3) he
      · cases h
    · cases hc
  · rename_i e h1 h2
    split at hc
    · rename_i h3
      cases hc
      simp only [xoS] at h
      split at h
      · cases h
      · rename_i y hns hy
        split at h
        · rename_i m cs hcs
          split at h
          · rename_i l hl
            cases h
            obtain ⟨vs, k1, k2, k3, k4, k5, k6, k7⟩ := content_sound (P := P) hr (ev hy) hcs
            -- the bytes
            have bytes : ∀ {cs : List AV} {l : List Nat} {vs : List Value}, toBytes cs = some l → VRs E w cs vs → ∃ bs : List UInt8, vs = bs.map (fun b => Value.int .u8 b.toNat) ∧ bs.map UInt8.toNat = l := by
              intro cs
              induction cs with
              | nil =>
                intro l vs hl hv
                simp [toBytes] at hl; subst hl
                rw [hv.of_nil]
                exact ⟨[], rfl, rfl⟩
              | cons c cs ih =>
                intro l vs hl hv
                obtain ⟨v, vs', rfl, hv1, hv2⟩ := hv.of_cons
                unfold toBytes at hl
                split at hl
                · rename_i e0; cases e0
                rotate_left
                · cases hl
                rename_i b r e0
                cases e0
                split at hl
                · rename_i l' hl'
                  cases hl
                  obtain ⟨bs, rfl, rfl⟩ := ih hl' hv2
                  obtain ⟨rfl, hb⟩ := hv1.of_int
                  have hb2 : b ≤ 255 := by
                    have := hb.2
                    simp [IntKind.max, IntKind.signed, IntKind.bits] at this
                    omega
                  have hb3 : (UInt8.ofNat b).toNat = b := by simp; omega
                  exact ⟨UInt8.ofNat b :: bs, by simp [hb3], by simp [hb3]⟩
                · cases hl
            obtain ⟨bs, rfl, rfl⟩ := bytes hl k1
            refine .of_pure (s := convert s d (a.eval x)) hr ?_ he
            have hlen : bs.length ≤ maxStr := by simp at k3; omega
            rcases k7 with ⟨ad, c, e1, hcell⟩ | ⟨bb, e1, _⟩
            · rw [e1] at k6 ⊢
              have hconv := run_convert_bytes_string (P := P) w s d e ad m c h1 h3 h2
              rw [hconv]
              cases ad with
              | none =>
                have hf0 := k6 w rfl
                have hb0 : bs = [] := by
                  simp only [Builtin.firstCells, Sem.run_pure, Result.ok.injEq, and_true] at hf0
                  have := congrArg Array.size hf0
                  simp at this
                  exact List.eq_nil_of_length_eq_zero (by simpa using this.symm)
                subst hb0
                exact ⟨.string .empty, by simp [Conv.bytesToString], .str _ _ rfl (by simp)⟩
              | some ad =>
                have hf0 := k6 w rfl
                simp only [Builtin.firstCells, Nat.mul_one] at hf0
                have := run_bytesToString (P := P) w ad m c (bs.map fun b => (b.toNat : Int)) (by rw [hf0]; simp [Function.comp_def])
                rw [foldl_push_byteCells] at this
                refine ⟨_, this, .str _ _ ?_ (by simpa using hlen)⟩
                show ((#[] : Array UInt8) ++ bs.toArray).toList.map UInt8.toNat = _
                simp
            · have hx := ev hy
              rw [e1] at hx
              cases hx with
              | str l _ _ _ => exact absurd rfl (hns l)
              | sym i _ _ _ => simp [content] at *
          · cases h
        · cases h
      · cases h
    · cases hc
  · rename_i e0 e h1 h2
    split at hc
    · rename_i hsd
      have hsd := nbeq_true hsd
      split at hc
      · rename_i h3
        cases hc
        simp only [xoS] at h
        split at h
        · rename_i hd off len sz cp ex hl
          split at h
          · rename_i hpos
            have hpos' : 0 < len := by simpa [Nat.blt_eq] using hpos
            split at h
            · rename_i st cs hget
              cases h
              have hv := ev hl
              obtain ⟨w', k1, k2, k3⟩ := mark_step (P := P) hr hget off nx
              generalize hcx : a.eval x = cx at hv
              cases hv with
              | row0 _ _ _ _ ad => exact absurd hpos' (Nat.lt_irrefl _)
              | row _ _ _ _ _ cap _ hD hlen hcap hsz hcp hex hb =>
                refine .of_sem (s := convert s d (a.eval x)) ⟨.slice (some ⟨E.ρ hd, off, none⟩) len cap, E, w', ?_, k2, k3, ?_⟩ he
                · rw [hcx]
                  have hbe : (s == d) = true := by rw [hsd]; simp
                  simp [convert, run_underlying h1, run_underlying h2, run_underlying h3, hbe, k1]
                · exact k3.vr hr (.row _ _ _ _ _ cap _ hD hlen hcap hsz hcp hex hb)
            · cases h
          · cases h
        · cases h
      · cases hc
    · cases hc
  · cases hc
end
end Go.Sy

/- The builtin functions, resolved. No condition. -/
namespace Go.Sy
section
variable {P : Program} {G : Cx} {E : Env} {w : World} {fr : Fr} {a : Act} {nt : Nat} {H : Heap} {nx : Nat}

theorem exec_builtin {o : Oper} {b : Builtin} {args : Array Operand} {ts : Array TypeId} (ho : o.op = .call { callee := .builtin b, args := args, argTypes := ts }) :
    (execOp a.eval o) = (builtin b ts o.type (args.map fun | .const _ => true | _ => false) (args.map a.eval)) := by
  simp only [execOp, ho, resolve, invoke]
  rfl

theorem array_one {α : Type} {l : Array α} {x : α} (h : l.toList = [x]) : l = #[x] := by cases l; simp_all
theorem array_two {α : Type} {l : Array α} {x y : α} (h : l.toList = [x, y]) : l = #[x, y] := by cases l; simp_all

theorem has_nat {n : Nat} (h : n ≤ maxStr) : has .i64 (n : Int) := by
  unfold maxStr at h
  constructor <;> simp [IntKind.min, IntKind.max, IntKind.signed, IntKind.bits] <;> omega

theorem builtin_exec (hr : HR E H w) (hf : FrR E w fr a nt) (hg : GR G E w) {v : AV} {H' : Heap} {nx' : Nat} {o : Oper} {b : Builtin} {args : Array Operand} {ts : Array TypeId} {xop : XO} {call : Sy.Call}
    (ho : o.op = .call { callee := .builtin b, args := args, argTypes := ts }) (hc : compBuiltin P b args.toList ts.toList = some xop)
    (hfr : Fresh E nx nx') (h : xoS G call fr H nx xop = some (v, H', nx')) : Done P E H w nx (execOp a.eval o) v H' nx' := by
  unfold compBuiltin at hc
  split at hc
  · -- len
    rename_i x t hx ht
    have hx := array_one hx
    have ht := array_one ht
    subst hx; subst ht
    obtain ⟨ax, hax, hc⟩ := obind_some hc
    have ev : ∀ {p : AV}, ax.ev G fr = some p → VR E w p (a.eval x) := fun h => copd_sound hf hg hax h
    have he : ∀ r w', (Builtin.len_ #[t] o.type #[a.eval x]).run P w = .ok r w' → (execOp a.eval o).run P w = .ok (.value r) w' := fun r w' h => by rw [exec_builtin ho]; simp [builtin, h]
    have fixed : ∀ {n : Nat}, n ≤ maxStr → xop = .lenK n → (Builtin.len_ #[t] o.type #[a.eval x]).run P w = .ok (.int .i64 n) w → Done P E H w nx (execOp a.eval o) v H' nx' := by
      intro n hn e h1
      rw [e] at h
      cases h
      exact .of_pure hr ⟨_, h1, .int _ _ (has_nat hn)⟩ he
    split at hc
    · rename_i hut
      cases hc
      simp only [xoS] at h
      split at h
      · rename_i l hl
        cases h
        obtain ⟨bs, e1, hs, hb⟩ := (ev hl).of_str
        refine .of_pure (s := Builtin.len_ #[t] o.type #[a.eval x]) hr ⟨.int .i64 (l.length : Int), ?_, .int _ _ (has_nat hb)⟩ he
        rw [e1]
        simp [Builtin.len_, run_underlying hut, goInt, str_len hs]
      · cases h
    · rename_i e hut
      cases hc
      simp only [xoS] at h
      have fin : ∀ {n c : Nat} {ad : Option Addr}, a.eval x = .slice ad n c → n ≤ maxStr → v = .int .i64 (n : Int) → H' = H → nx' = nx → Done P E H w nx (execOp a.eval o) v H' nx' := by
        intro n c ad e1 hn e2 e3 e4
        rw [e2, e3, e4]
        refine .of_pure (s := Builtin.len_ #[t] o.type #[a.eval x]) hr ⟨.int .i64 (n : Int), ?_, .int _ _ (has_nat hn)⟩ he
        rw [e1]
        simp [Builtin.len_, run_underlying hut, goInt]
      split at h
      · rename_i hl
        cases h
        have hv := ev hl
        generalize a.eval x = cx at *
        cases hv
        exact fin rfl (Nat.zero_le _) rfl rfl rfl
      · rename_i z es hl
        cases h
        have hv := ev hl
        generalize hcx : a.eval x = cx at hv
        cases hv with
        | lst0 _ ad c hc => exact fin hcx (Nat.zero_le _) rfl rfl rfl
        | lst _ b o' cap _ f hz hcap hcm hfl hf' hc => exact fin hcx (by omega) rfl rfl rfl
      · rename_i hd off len sz cp ex hl
        cases h
        have hv := ev hl
        generalize hcx : a.eval x = cx at hv
        cases hv with
        | row0 _ _ _ _ ad => exact fin hcx (Nat.zero_le _) rfl rfl rfl
        | row _ _ _ _ _ cap _ hD hlen hcap hsz0 hcp hex hbk => exact fin hcx (by omega) rfl rfl rfl
      · cases h
    · rename_i k e hut
      cases hc
      simp only [xoS] at h
      split at h
      · rename_i hl
        cases h
        have hv := ev hl
        generalize hcx : a.eval x = cx at hv
        cases hv
        refine .of_pure (s := Builtin.len_ #[t] o.type #[a.eval x]) hr ⟨.int .i64 0, ?_, .int _ _ (has_nat (n := 0) (Nat.zero_le _))⟩ he
        rw [hcx]
        simp [Builtin.len_, run_underlying hut, goInt]
      · rename_i hd hl
        split at h
        · rename_i es hget
          split at h
          · rename_i hle
            cases h
            obtain ⟨e1, hD⟩ := (ev hl).of_map
            obtain ⟨c, clock, hb, hlen, _, _⟩ := hr.obj _ (Heap.mem_of_get hget)
            have hgo : (getObj (E.ρ hd)).run P w = .ok (.map c clock) w := by simp [getObj, Sem.run, hb]
            refine .of_pure (s := Builtin.len_ #[t] o.type #[a.eval x]) hr ⟨.int .i64 (es.length : Int), ?_, .int _ _ (has_nat (Nat.le_of_ble_eq_true hle))⟩ he
            rw [e1]
            simp [Builtin.len_, run_underlying hut, goInt, hgo, hlen]
          · cases h
        · cases h
      · cases h
    · rename_i n e hut
      split at hc
      · rename_i hle
        cases hc
        exact fixed (Nat.le_of_ble_eq_true hle) rfl (by simp [Builtin.len_, run_underlying hut, goInt])
      · cases hc
    · rename_i e hut
      split at hc
      · rename_i n e' hue
        split at hc
        · rename_i hle
          cases hc
          exact fixed (Nat.le_of_ble_eq_true hle) rfl (by simp [Builtin.len_, run_underlying hut, run_underlying hue, goInt])
        · cases hc
      · cases hc
    · cases hc
  · -- cap
    rename_i x t hx ht
    have hx := array_one hx
    have ht := array_one ht
    subst hx; subst ht
    obtain ⟨ax, hax, hc⟩ := obind_some hc
    have ev : ∀ {p : AV}, ax.ev G fr = some p → VR E w p (a.eval x) := fun h => copd_sound hf hg hax h
    have he : ∀ r w', (Builtin.cap_ #[t] o.type #[a.eval x]).run P w = .ok r w' → (execOp a.eval o).run P w = .ok (.value r) w' := fun r w' h => by rw [exec_builtin ho]; simp [builtin, h]
    split at hc
    · rename_i e hut
      cases hc
      have fin : ∀ {n c : Nat} {ad : Option Addr}, a.eval x = .slice ad n c → c ≤ maxStr → Done P E H w nx (execOp a.eval o) (.int .i64 (c : Int)) H nx := by
        intro n c ad e1 hn
        refine .of_pure (s := Builtin.cap_ #[t] o.type #[a.eval x]) hr ⟨.int .i64 (c : Int), ?_, .int _ _ (has_nat hn)⟩ he
        rw [e1]
        simp [Builtin.cap_, run_underlying hut, goInt]
      simp only [xoS] at h
      split at h
      · rename_i hl
        cases h
        have hv := ev hl
        generalize hcx : a.eval x = cx at hv
        cases hv
        exact fin hcx (Nat.zero_le _)
      · rename_i hd off len sz cp hl
        cases h
        have hv := ev hl
        generalize hcx : a.eval x = cx at hv
        cases hv with
        | row0 _ _ _ _ ad => exact fin hcx (Nat.zero_le _)
        | row _ _ _ _ _ cap _ hD hlen hcap hsz0 hcp hex hbk =>
          have := hex rfl
          subst this
          exact fin hcx hcap
      · cases h
    · cases hc
  · -- append
    rename_i x y t u hx ht
    have hx := array_two hx
    have ht := array_two ht
    subst hx; subst ht
    obtain ⟨ax, hax, hc⟩ := obind_some hc
    obtain ⟨ay, hay, hc⟩ := obind_some hc
    have he : ∀ r w', (Builtin.append_ #[t, u] o.type #[a.eval x, a.eval y]).run P w = .ok r w' → (execOp a.eval o).run P w = .ok (.value r) w' := fun r w' h => by rw [exec_builtin ho]; simp [builtin, h]
    have fin : ∀ {e : TypeId} {s n : Nat} {cs0 : List AV}, P.underlying t = some (.slice e) → (∃ e', P.underlying u = some (.slice e')) ∨ P.underlying u = some .string → zerosT P e = some cs0 → sizeT P e = some s → bytesT P e = some n → 0 < s →
        xop = .append ax ay s n → Done P E H w nx (execOp a.eval o) v H' nx' := by
      intro e s n cs0 h1 h2 h3 h4 h5 h6 e1
      rw [e1] at h
      simp only [xoS] at h
      split at h
      · rename_i p q hp hq
        exact .of_sem (append_sound (P := P) hr (copd_sound hf hg hax hp) (copd_sound hf hg hay hq) h1 h2 h3 h4 h5 h6 hfr h) he
      · cases h
    split at hc
    · rename_i e e' h1 h2
      obtain ⟨s, hs, hc⟩ := obind_some hc
      obtain ⟨n, hn, hc⟩ := obind_some hc
      obtain ⟨z, hz, hc⟩ := obind_some hc
      split at hc
      · cases hc
      · cases hc
        exact fin h1 (.inl ⟨_, h2⟩) hz hs hn (Nat.succ_pos _) rfl
    · rename_i e h1 h2
      obtain ⟨s, hs, hc⟩ := obind_some hc
      obtain ⟨n, hn, hc⟩ := obind_some hc
      obtain ⟨z, hz, hc⟩ := obind_some hc
      split at hc
      · cases hc
        exact fin h1 (.inr h2) hz hs hn (Nat.succ_pos _) rfl
      · cases hc
    · cases hc
  · -- copy
    rename_i x y t u hx ht
    have hx := array_two hx
    have ht := array_two ht
    subst hx; subst ht
    obtain ⟨ax, hax, hc⟩ := obind_some hc
    obtain ⟨ay, hay, hc⟩ := obind_some hc
    have he : ∀ r w', (Builtin.copy_ #[t, u] o.type #[a.eval x, a.eval y]).run P w = .ok r w' → (execOp a.eval o).run P w = .ok (.value r) w' := fun r w' h => by rw [exec_builtin ho]; simp [builtin, h]
    split at hc
    · rename_i e h1
      obtain ⟨s, hs, hc⟩ := obind_some hc
      split at hc
      · cases hc
      · cases hc
        simp only [xoS] at h
        split at h
        · rename_i p q hp hq
          exact .of_sem (copy_sound (P := P) hr (copd_sound hf hg hax hp) (copd_sound hf hg hay hq) h1 hs (Nat.succ_pos _) h) he
        · cases h
    · cases hc
  · -- clear
    rename_i x t hx ht
    have hx := array_one hx
    have ht := array_one ht
    subst hx; subst ht
    obtain ⟨ax, hax, hc⟩ := obind_some hc
    have ev : ∀ {p : AV}, ax.ev G fr = some p → VR E w p (a.eval x) := fun h => copd_sound hf hg hax h
    have he : ∀ r w', (Builtin.clear_ #[t] o.type #[a.eval x]).run P w = .ok r w' → (execOp a.eval o).run P w = .ok (.value r) w' := fun r w' h => by rw [exec_builtin ho]; simp [builtin, h]
    split at hc
    · rename_i e hut
      obtain ⟨s, hs, hc⟩ := obind_some hc
      obtain ⟨z, hz, hc⟩ := obind_some hc
      cases s with
      | zero => cases hc
      | succ s =>
        cases hc
        simp only [xoS] at h
        split at h
        · rename_i hl
          cases h
          have hv := ev hl
          generalize hcx : a.eval x = cx at hv
          cases hv
          refine .of_pure (s := Builtin.clear_ #[t] o.type #[a.eval x]) hr ⟨.tuple #[], ?_, VR.mk_tup VRs.nil⟩ he
          rw [hcx]
          simp [Builtin.clear_, run_underlying hut]
        · rename_i hd off len sz' cp ex hl
          split at h
          · cases h
          rename_i hse
          have := nbeq_true hse
          subst this
          split at h
          · rename_i st cs hget
            split at h
            · rename_i hle
              cases h
              have hle' := Nat.le_of_ble_eq_true hle
              obtain ⟨i, cz, hi, hcz, hzs, hsi, hzl, h2, h3⟩ := VR.zero (P := P) (E := E) (w := w) (z := .bool true) (v := .bool true) (n := 0) hz
              have hsz : i.size = s + 1 := by rw [hs] at hsi; simpa using hsi.symm
              obtain ⟨m1, m2⟩ := made_vrs h2 h3 len
              have hv := ev hl
              generalize hcx : a.eval x = cx at hv
              cases hv with
              | row0 _ _ _ _ ad =>
                simp only [rep, splice_nil]
                rw [Heap.put_same hget]
                refine .of_pure (s := Builtin.clear_ #[t] o.type #[a.eval x]) hr ⟨.tuple #[], ?_, VR.mk_tup VRs.nil⟩ he
                rw [hcx]
                simp [Builtin.clear_, run_underlying hut]
              | row _ _ _ _ _ cap _ hD hlen hcap hsz0 hcp hex hbk =>
                obtain ⟨w', r1, r2, r3⟩ := stores_step (P := P) hr hget (off := off) m1 m2 (.inl (by rw [length_rep, hzl, hsz]; omega)) nx
                refine .of_sem (s := Builtin.clear_ #[t] o.type #[a.eval x]) ⟨.tuple #[], E, w', ?_, r2, r3, VR.mk_tup VRs.nil⟩ he
                rw [hcx]
                have hzv : (zeroValue e).run P w = .ok cz w := by simp [zeroValue, typeInfo, hi, hcz]
                have hzc : (Builtin.zeroCells cz.cells len).toList = (madeCells cz.cells (len * cz.cells.size)).toList := rfl
                cases len with
                | zero =>
                  have : (madeCells cz.cells (0 * cz.cells.size)).toList = [] := by simp [madeCells, Array.range_zero']
                  rw [this] at r1
                  simp [storeCells] at r1
                  subst r1
                  simp [Builtin.clear_, run_underlying hut]
                | succ len =>
                  simp [Builtin.clear_, run_underlying hut, hzv, hzc, r1]
            · cases h
          · cases h
        · cases h
    · rename_i k e hut
      cases hc
      simp only [xoS] at h
      split at h
      · rename_i hl
        cases h
        have hv := ev hl
        generalize hcx : a.eval x = cx at hv
        cases hv
        refine .of_pure (s := Builtin.clear_ #[t] o.type #[a.eval x]) hr ⟨.tuple #[], ?_, VR.mk_tup VRs.nil⟩ he
        rw [hcx]
        simp [Builtin.clear_, run_underlying hut]
      · rename_i hd hl
        split at h
        · rename_i es hget
          cases h
          obtain ⟨e1, hD⟩ := (ev hl).of_map
          obtain ⟨c, clock, hb, hlen, _, _⟩ := hr.obj _ (Heap.mem_of_get hget)
          have hgo : (getObj (E.ρ hd)).run P w = .ok (.map c clock) w := by simp [getObj, Sem.run, hb]
          obtain ⟨w', s1, s2, s3, _⟩ := setObj_step (P := P) hr hget hb (fun _ _ _ h => by cases h) (ob' := .map #[] clock) (o' := .map []) (fun w' hb' hm => ⟨#[], clock, hb', rfl, fun i k x hi => by simp at hi, fun i j m n hi => by simp at hi⟩) nx
          refine .of_sem (s := Builtin.clear_ #[t] o.type #[a.eval x]) ⟨.tuple #[], E, w', ?_, s2, s3, VR.mk_tup VRs.nil⟩ he
          rw [e1]
          simp [Builtin.clear_, run_underlying hut, hgo, s1]
        · cases h
      · cases h
    · cases hc
  · -- min
    rename_i x y t u hx ht
    have hx := array_two hx
    have ht := array_two ht
    subst hx; subst ht
    obtain ⟨ax, hax, hc⟩ := obind_some hc
    obtain ⟨ay, hay, hc⟩ := obind_some hc
    have he : ∀ r w', (Builtin.min_ #[t, u] o.type #[a.eval x, a.eval y]).run P w = .ok r w' → (execOp a.eval o).run P w = .ok (.value r) w' := fun r w' h => by rw [exec_builtin ho]; simp [builtin, h]
    split at hc
    · cases hc
      simp only [xoS] at h
      split at h
      · rename_i k p k' q hp hq
        split at h
        · rename_i hk
          cases h
          have := ksame_eq hk
          subst this
          obtain ⟨e1, b1⟩ := (copd_sound hf hg hax hp).of_int
          obtain ⟨e2, b2⟩ := (copd_sound hf hg hay hq).of_int
          refine .of_pure (s := Builtin.min_ #[t, u] o.type #[a.eval x, a.eval y]) hr ⟨_, by rw [e1, e2]; exact run_min_int2 w _ _ _ _ _ _, .int _ _ (by split <;> assumption)⟩ he
        · cases h
      · cases h
    · cases hc
  · -- max
    rename_i x y t u hx ht
    have hx := array_two hx
    have ht := array_two ht
    subst hx; subst ht
    obtain ⟨ax, hax, hc⟩ := obind_some hc
    obtain ⟨ay, hay, hc⟩ := obind_some hc
    have he : ∀ r w', (Builtin.max_ #[t, u] o.type #[a.eval x, a.eval y]).run P w = .ok r w' → (execOp a.eval o).run P w = .ok (.value r) w' := fun r w' h => by rw [exec_builtin ho]; simp [builtin, h]
    split at hc
    · cases hc
      simp only [xoS] at h
      split at h
      · rename_i k p k' q hp hq
        split at h
        · rename_i hk
          cases h
          have := ksame_eq hk
          subst this
          obtain ⟨e1, b1⟩ := (copd_sound hf hg hax hp).of_int
          obtain ⟨e2, b2⟩ := (copd_sound hf hg hay hq).of_int
          refine .of_pure (s := Builtin.max_ #[t, u] o.type #[a.eval x, a.eval y]) hr ⟨_, by rw [e1, e2]; exact run_max_int2 w _ _ _ _ _ _, .int _ _ (by split <;> assumption)⟩ he
        · cases h
      · cases h
    · cases hc
  · -- delete
    rename_i m k t u hx ht
    have hx := array_two hx
    have ht := array_two ht
    subst hx; subst ht
    obtain ⟨am, ham, hc⟩ := obind_some hc
    obtain ⟨ak, hak, hc⟩ := obind_some hc
    have he : ∀ r w', (Builtin.delete_ #[t, u] o.type #[a.eval m, a.eval k]).run P w = .ok r w' → (execOp a.eval o).run P w = .ok (.value r) w' := fun r w' h => by rw [exec_builtin ho]; simp [builtin, h]
    split at hc
    · rename_i kt et hut
      obtain ⟨q, hq, hc⟩ := obind_some hc
      cases hc
      unfold keyT at hq
      obtain ⟨ks, hks, hq⟩ := obind_some hq
      obtain ⟨ag, hag, hq⟩ := obind_some hq
      cases hq
      simp only [xoS] at h
      split at h
      · rename_i vm vk hm hk
        split at h
        · cases h
        rename_i hok
        have hvk := copd_sound hf hg hak hk
        split at h
        · cases h
          have hv := copd_sound hf hg ham hm
          generalize hcx : a.eval m = cx at hv
          cases hv
          have hck := checkKey_sound (P := P) (em := true) hks hag hvk hok
          refine .of_pure (s := Builtin.delete_ #[t, u] o.type #[a.eval m, a.eval k]) hr ⟨.tuple #[], ?_, VR.mk_tup VRs.nil⟩ he
          rw [hcx]
          simp [Builtin.delete_, run_underlying hut, hck]
        · split at h
          · rename_i es hget
            split at h
            · rename_i es' hes
              cases h
              obtain ⟨w', r1, r2, r3⟩ := del_sound (P := P) (ts := #[t, u]) (ty := o.type) (nx := nx) hr hut hks hag rfl (copd_sound hf hg ham hm) hvk hok hget hes
              exact .of_sem (s := Builtin.delete_ #[t, u] o.type #[a.eval m, a.eval k]) ⟨.tuple #[], E, w', r1, r2, r3, VR.mk_tup VRs.nil⟩ he
            · cases h
          · cases h
        · cases h
      · cases h
    · cases hc
  · cases hc
end
end Go.Sy

/- Every operation but the calls, resolved. No condition. -/
namespace Go.Sy
section
variable {P : Program} {G : Cx} {E : Env} {w : World} {fr : Fr} {a : Act} {nt : Nat} {H : Heap} {nx : Nat}

theorem VR.of_niltup {cv : Value} (h : VR E w (.tup []) cv) : cv = .tuple #[] := by
  obtain ⟨vs, rfl, hv⟩ := h.of_tup
  have h1 := hv.of_nil
  have : vs = #[] := by cases vs; simpa using h1
  rw [this]

theorem map_pairs {ps : Array (Nat × Operand)} : (ps.map fun (i, x) => (i, a.eval x)).toList = ps.toList.map fun (i, x) => (i, a.eval x) := by simp

theorem mapM_places : ∀ {l : List Field}, (∀ f ∈ l, ∃ s, sizeT P f.type = some s) → ∃ qs : List (Nat × Nat), (l.mapM fun f => do pure (f.offset, ← sizeOf f.type) : Sem (List (Nat × Nat))).run P w = .ok qs w ∧ qs.length = l.length ∧
    ∀ (i : Nat) f, l[i]? = some f → ∃ s, sizeT P f.type = some s ∧ qs[i]? = some (f.offset, s)
  | [], _ => ⟨[], by simp, rfl, fun i f h => by simp at h⟩
  | f :: l, h => by
    obtain ⟨s, hs⟩ := h f (.head _)
    obtain ⟨qs, h1, h2, h3⟩ := mapM_places (l := l) (fun f hf => h f (.tail _ hf))
    refine ⟨(f.offset, s) :: qs, ?_, by simp [h2], fun i g hg => ?_⟩
    · simp only [List.mapM_cons, Sem.run_bind, run_size hs, Result.andThen_ok, Sem.run_pure, h1]
    · cases i with
      | zero => simp at hg; subst hg; exact ⟨s, hs, rfl⟩
      | succ i => simpa using h3 i g (by simpa using hg)

theorem cparts_le {p1 p2 : Nat → Option (Nat × Nat)} (h : ∀ i o s, p1 i = some (o, s) → p2 i = some (o, s)) : ∀ {ps : List (Nat × Operand)} {qs : List (Nat × Nat × XV)}, cparts p1 ps = some qs → cparts p2 ps = some qs
  | [], qs, hc => by simpa [cparts] using hc
  | (i, x) :: r, qs, hc => by
    simp only [cparts] at hc ⊢
    split at hc
    · rename_i off sz y s e1 e2 e3
      rw [h _ _ _ e1, e2, cparts_le h e3]
      exact hc
    · cases hc

theorem op_exec (hr : HR E H w) (hf : FrR E w fr a nt) (hg : GR G E w) {v : AV} {H' : Heap} {nx' : Nat} {o : Oper} {xop : XO} {call : Sy.Call} (hnc : ∀ c, o.op ≠ .call c) (hc : compOp P o.op = some xop)
    (hfr : Fresh E nx nx') (h : xoS G call fr H nx xop = some (v, H', nx')) : Done P E H w nx (execOp a.eval o) v H' nx' := by
  have ev : ∀ {x : Operand} {ax : XV} {p : AV}, copd x = some ax → ax.ev G fr = some p → VR E w p (a.eval x) := fun h1 h2 => copd_sound hf hg h1 h2
  have vv : ∀ {s : Sem Value} {r : Value} {w' : World}, (execOp a.eval o = do pure (.value (← s))) → s.run P w = .ok r w' → (execOp a.eval o).run P w = .ok (.value r) w' := fun h1 h2 => by
    rw [h1]; simp [h2]
  have uu : ∀ {s : Sem Unit} {w' : World}, (execOp a.eval o = do s; pure .skip) → s.run P w = .ok () w' → (execOp a.eval o).run P w = .ok .skip w' := fun h1 h2 => by
    rw [h1]; simp [h2]
  have hmov : ∀ {x : Operand}, (o.op = .move x ∨ o.op = .assign x) → (∃ ax, copd x = some ax ∧ xop = .mov ax) → Done P E H w nx (execOp a.eval o) v H' nx' := by
    rintro x ho ⟨ax, hax, e⟩
    rw [e] at h
    simp only [xoS] at h
    split at h
    · rename_i p hp
      cases h
      exact .pure hr (by rcases ho with ho | ho <;> simp [execOp, ho]) (ev hax hp)
    · cases h
  have hupd : ∀ {t : TypeId} {m k x : Operand}, (execOp a.eval o = do Instr.mapUpdate t (a.eval m) (a.eval k) (a.eval x); pure .skip) →
      (obind (copd m) fun m => obind (copd k) fun k => obind (copd x) fun v => match P.underlying t with
        | some (.map kt _) => obind (keyT P kt) fun q => some (XO.mupd q.1 q.2 m k v)
        | _ => none) = some xop → Done P E H w nx (execOp a.eval o) v H' nx' := by
    intro t m k x he hc
    obtain ⟨am, ham, hc⟩ := obind_some hc
    obtain ⟨ak, hak, hc⟩ := obind_some hc
    obtain ⟨ax, hax, hc⟩ := obind_some hc
    split at hc
    · rename_i kt et hut
      obtain ⟨q, hq, hc⟩ := obind_some hc
      cases hc
      unfold keyT at hq
      obtain ⟨ks, hks, hq⟩ := obind_some hq
      obtain ⟨ag, hag, hq⟩ := obind_some hq
      cases hq
      simp only [xoS] at h
      split at h
      · rename_i hd vk vx hm hk hx
        split at h
        · cases h
        rename_i hok
        split at h
        · rename_i es hget
          split at h
          · rename_i es' hes
            cases h
            obtain ⟨w', r1, r2, r3⟩ := mupd_sound (P := P) (nx := nx) hr hut hks hag (ev ham hm) (ev hak hk) (ev hax hx) hok hget hes
            exact .of_unit (s := Instr.mapUpdate t (a.eval m) (a.eval k) (a.eval x)) ⟨w', r1, r2, r3⟩ fun w' h => uu he h
          · cases h
        · cases h
      · cases h
    · cases hc
  cases ho : o.op with
  | move x => rw [ho] at hc; obtain ⟨ax, hax, hc⟩ := obind_some hc; cases hc; exact hmov (.inl ho) ⟨ax, hax, rfl⟩
  | assign x => rw [ho] at hc; obtain ⟨ax, hax, hc⟩ := obind_some hc; cases hc; exact hmov (.inr ho) ⟨ax, hax, rfl⟩
  | pick c x y =>
    rw [ho] at hc
    obtain ⟨ac, hac, hc⟩ := obind_some hc
    obtain ⟨ax, hax, hc⟩ := obind_some hc
    obtain ⟨ay, hay, hc⟩ := obind_some hc
    cases hc
    simp only [xoS] at h
    split at h
    · rename_i hb
      split at h
      · rename_i p hp
        cases h
        have e1 := (ev hac hb).of_bool
        exact .pure hr (by simp [execOp, ho, e1, asBool]) (ev hax hp)
      · cases h
    · rename_i hb
      split at h
      · rename_i p hp
        cases h
        have e1 := (ev hac hb).of_bool
        exact .pure hr (by simp [execOp, ho, e1, asBool]) (ev hay hp)
      · cases h
    · cases h
  | alloc e =>
    rw [ho] at hc
    obtain ⟨z, hz, hc⟩ := obind_some hc
    cases hc
    cases h
    exact .of_sem (alloc_sound (P := P) hr (hfr nx (Nat.le_refl _) (by omega)) hz) fun r w' h => vv (by simp only [execOp, ho]) h
  | box e x =>
    rw [ho] at hc
    obtain ⟨ax, hax, hc⟩ := obind_some hc
    obtain ⟨s, hs, hc⟩ := obind_some hc
    cases hc
    simp only [xoS] at h
    split at h
    · rename_i p hp
      split at h
      · rename_i cs hcs
        cases h
        exact .of_sem (box_sound (P := P) (e := e) hr (hfr nx (Nat.le_refl _) (by omega)) (ev hax hp) hcs) fun r w' h => vv (by simp only [execOp, ho]) h
      · cases h
    · cases h
  | build t ps =>
    rw [ho] at hc
    obtain ⟨z, hz, hc⟩ := obind_some hc
    obtain ⟨i, cz, hi, hcz, hzs, hsi, hzl, h2, h3⟩ := VR.zero (P := P) (E := E) (w := w) (z := .bool true) (v := .bool true) (n := 0) hz
    have hzv : (zeroValue t).run P w = .ok cz w := by simp [zeroValue, typeInfo, hi, hcz]
    have fin : ∀ {qs : List (Nat × Nat × XV)} {place : Nat → Option (Nat × Nat)}, xop = .build z qs → cparts place ps.toList = some qs →
        (∀ cells', Instr.fill place cz.cells (ps.toList.map fun (i, x) => (i, a.eval x)) = some cells' → (Instr.build t (ps.map fun (i, x) => (i, a.eval x))).run P w = .ok (.agg cells') w) → Done P E H w nx (execOp a.eval o) v H' nx' := by
      intro qs place e1 e2 e3
      rw [e1] at h
      simp only [xoS] at h
      split at h
      · rename_i cs hcs
        cases h
        obtain ⟨cells', r1, r2, r3, r4⟩ := fill_sound hf hg e2 hcs h2 h3
        exact .of_pure (s := Instr.build t (ps.map fun (i, x) => (i, a.eval x))) hr ⟨_, e3 _ r1, VR.mk_agg r2 r3⟩ fun r w' h => vv (by simp only [execOp, ho]) h
      · cases h
    split at hc
    · rename_i fs hut
      split at hc
      · rename_i hall
        obtain ⟨qs, hqs, hc⟩ := obind_some hc
        cases hc
        obtain ⟨pl, p1, p2, p3⟩ := mapM_places (P := P) (w := w) (l := fs.toList) fun f hf => by
          have := List.all_eq_true.1 hall f hf
          exact Option.isSome_iff_exists.1 this
        have hqs' : cparts (pl[·]?) ps.toList = some qs := cparts_le (fun i off sz hi => by
          obtain ⟨f, hf, hi⟩ := obind_some hi
          obtain ⟨s, hs, hi⟩ := obind_some hi
          cases hi
          obtain ⟨s', q1, q2⟩ := p3 i f (by simpa using hf)
          rw [hs] at q1
          cases q1
          exact q2) hqs
        refine fin rfl hqs' fun cells' hfill => ?_
        have hm : (fs.mapM fun f => do pure (f.offset, ← sizeOf f.type) : Sem (Array (Nat × Nat))).run P w = .ok pl.toArray w := by
          rw [Array.mapM_eq_mapM_toList]
          simp only [Sem.run_map, p1, Result.andThen_ok]
        simp only [Instr.build, Sem.run_bind, hzv, run_underlying hut, Result.andThen_ok, hm]
        rw [map_pairs]
        simp only [List.getElem?_toArray]
        rw [hfill]
        rfl
      · cases hc
    · rename_i n e hut
      obtain ⟨s, hs, hc⟩ := obind_some hc
      obtain ⟨qs, hqs, hc⟩ := obind_some hc
      cases hc
      refine fin rfl hqs fun cells' hfill => ?_
      simp only [Instr.build, Sem.run_bind, hzv, run_underlying hut, Result.andThen_ok, run_size hs]
      rw [map_pairs, hfill]
      rfl
    · cases hc
  | buildSlice t n ps =>
    rw [ho] at hc
    simp only [compOp] at hc
    split at hc
    · rename_i e hut
      obtain ⟨s, hs, hc⟩ := obind_some hc
      obtain ⟨z, hz, hc⟩ := obind_some hc
      cases s with
      | zero => cases hc
      | succ s =>
        simp only at hc
        split at hc
        · rename_i hle
          obtain ⟨qs, hqs, hc⟩ := obind_some hc
          cases hc
          simp only [xoS] at h
          split at h
          · rename_i cs hcs
            cases h
            refine .of_sem (bslice_sound (P := P) hf hg hr (hfr nx (Nat.le_refl _) (by omega)) hut hs hz (Nat.succ_pos _) (Nat.le_of_ble_eq_true hle) hqs hcs) fun r w' h => vv (by
              simp only [execOp, ho]
              congr 2
              apply Array.ext'
              simp) h
          · cases h
        · cases hc
    · cases hc
  | insert t m k x => rw [ho] at hc; exact hupd (by simp only [execOp, ho]) hc
  | mapUpdate t m k x => rw [ho] at hc; exact hupd (by simp only [execOp, ho]) hc
  | load t x =>
    rw [ho] at hc
    obtain ⟨ax, hax, hc⟩ := obind_some hc
    obtain ⟨s, hs, hc⟩ := obind_some hc
    obtain ⟨g, hag, hc⟩ := obind_some hc
    cases hc
    simp only [xoS] at h
    split at h
    · rename_i p hp
      split at h
      · rename_i u hu
        cases h
        obtain ⟨ad, cv, e1, r1, r2⟩ := load_sound (P := P) hr (ev hax hp) hs hag hu
        refine .of_pure (s := Instr.loadAt t (a.eval x)) hr ⟨cv, ?_, r2⟩ fun r w' h => vv (by simp only [execOp, ho]) h
        rw [e1]
        simp [Instr.loadAt, Instr.sureAddr, r1]
      · cases h
    · cases h
  | store t x y =>
    rw [ho] at hc
    obtain ⟨ax, hax, hc⟩ := obind_some hc
    obtain ⟨ay, hay, hc⟩ := obind_some hc
    obtain ⟨s, hs, hc⟩ := obind_some hc
    cases hc
    simp only [xoS] at h
    split at h
    · rename_i hd off p hx hp
      split at h
      · rename_i st cs hget
        split at h
        · rename_i new hnew
          split at h
          · rename_i hle
            cases h
            obtain ⟨e1, _⟩ := (ev hax hx).of_ptr
            obtain ⟨w', r1, r2, r3⟩ := store_sound (P := P) hr (ev hay hp) hs hget hnew (Nat.le_of_ble_eq_true hle) nx
            refine .of_unit (s := Instr.storeAt t (a.eval x) (a.eval y)) ⟨w', ?_, r2, r3⟩ fun w' h => uu (by simp only [execOp, ho]) h
            rw [e1]
            simp [Instr.storeAt, Instr.sureAddr, r1]
          · cases h
        · cases h
      · cases h
    · cases h
  | nilCheck x =>
    rw [ho] at hc
    obtain ⟨ax, hax, hc⟩ := obind_some hc
    cases hc
    simp only [xoS] at h
    split at h
    · rename_i hp
      cases h
      have hv := ev hax hp
      have e1 := hv.of_ptr.1
      exact .pure hr (by simp only [execOp, ho, e1]; rfl) (e1 ▸ hv)
    · rename_i hp
      cases h
      have hv := ev hax hp
      obtain ⟨b, c, u, e1, _⟩ := hv.of_eptr
      exact .pure hr (by simp only [execOp, ho, e1]; rfl) (e1 ▸ hv)
    · rename_i t' v' hp
      cases h
      have hv := ev hax hp
      obtain ⟨cv, e1⟩ : ∃ cv, a.eval x = .iface t' cv := by
        generalize a.eval x = cx at hv
        cases hv; exact ⟨_, rfl⟩
      exact .pure hr (by simp only [execOp, ho, e1]; rfl) (e1 ▸ hv)
    · rename_i hp
      cases h
      have hv := ev hax hp
      obtain ⟨u1, u2, e1⟩ := hv.func_some
      exact .pure hr (by simp only [execOp, ho, e1]; rfl) (e1 ▸ hv)
    · cases h
  | binOp op t x y u => rw [ho] at hc; exact bin_exec hr hf hg ho hc h
  | unOp op t x =>
    rw [ho] at hc
    obtain ⟨ax, hax, hc⟩ := obind_some hc
    cases hc
    simp only [xoS] at h
    split at h
    · rename_i p hp
      split at h
      · rename_i r hr2
        cases h
        exact .of_pure (s := Op.unary op (a.eval x)) hr (un_sound (P := P) (ev hax hp) hr2) fun r w' h => vv (by simp only [execOp, ho]) h
      · cases h
    · cases h
  | convert s d x => rw [ho] at hc; exact conv_exec hr hf hg ho hc hfr h
  | makeInterface t x =>
    rw [ho] at hc
    obtain ⟨ax, hax, hc⟩ := obind_some hc
    have fin : xop = .mkif t ax → P.concrete t = true → Done P E H w nx (execOp a.eval o) v H' nx' := by
      intro e hcon
      rw [e] at h
      simp only [xoS] at h
      split at h
      · rename_i p hp
        cases h
        exact .of_pure (s := Instr.makeInterface t (a.eval x)) hr ⟨_, run_makeInterface w t _ hcon, .iface _ _ _ (ev hax hp)⟩ fun r w' h => vv (by simp only [execOp, ho]) h
      · cases h
    split at hc
    · cases hc
    · rename_i d hni hut
      cases hc
      refine fin rfl ?_
      unfold Program.concrete
      rw [hut]
      cases d <;> first | rfl | exact absurd rfl (hni _)
    · cases hc
  | makeFunc fn x y =>
    rw [ho] at hc
    obtain ⟨ax, hax, hc⟩ := obind_some hc
    obtain ⟨ay, hay, hc⟩ := obind_some hc
    cases hc
    simp only [xoS] at h
    split at h
    · rename_i p q hp hq
      cases h
      have h1 := copds_sound hf hg hax hp
      have h2 := copds_sound hf hg hay hq
      refine .of_pure (s := Instr.makeFunc fn (x.map a.eval) (y.map a.eval)) hr ⟨_, rfl, .func fn p q _ _ (by have := h1.1; simpa using this) (by have := h2.1; simpa using this) (fun i u v hu hv => h1.2 i u v hu (by simpa using hv)) (fun i u v hu hv => h2.2 i u v hu (by simpa using hv))⟩
        fun r w' h => vv (by simp only [execOp, ho]) h
    · cases h
  | makeMap t r =>
    rw [ho] at hc
    simp only [compOp] at hc
    split at hc
    · cases hc
      cases h
      exact .of_sem (mkmap_sound (P := P) (t := t) hr (hfr nx (Nat.le_refl _) (by omega))) fun r w' h => vv (by simp only [execOp, ho]; rfl) h
    · cases hc
  | makeSlice t x y =>
    rw [ho] at hc
    simp only [compOp] at hc
    split at hc
    · rename_i e hut
      obtain ⟨ax, hax, hc⟩ := obind_some hc
      obtain ⟨ay, hay, hc⟩ := obind_some hc
      obtain ⟨s, hs, hc⟩ := obind_some hc
      obtain ⟨n, hn, hc⟩ := obind_some hc
      obtain ⟨z, hz, hc⟩ := obind_some hc
      cases s with
      | zero => cases hc
      | succ s =>
        cases hc
        simp only [xoS] at h
        split at h
        · rename_i k1 l k2 c hl hcc
          split at h
          · rename_i q1
            split at h
            · rename_i q2
              split at h
              · rename_i q3
                cases h
                have e1 := (ev hax hl).of_int.1
                have e2 := (ev hay hcc).of_int.1
                have := mkslice_sound (P := P) (kl := k1) (kc := k2) hr (hfr nx (Nat.le_refl _) (by omega)) hut hs hn hz (Nat.succ_pos _) (Nat.le_of_ble_eq_true q1) (Nat.le_of_ble_eq_true q2) (Nat.le_of_ble_eq_true q3)
                exact .of_sem (s := Instr.makeSlice t (a.eval x) (a.eval y)) (by rw [e1, e2]; exact this) fun r w' h => vv (by simp only [execOp, ho]) h
              · cases h
            · cases h
          · cases h
        · cases h
    · cases hc
  | slice t x lo hi mx =>
    rw [ho] at hc
    obtain ⟨ax, hax, hc⟩ := obind_some hc
    obtain ⟨al, hal, hc⟩ := obind_some hc
    obtain ⟨ah, hah, hc⟩ := obind_some hc
    obtain ⟨am, ham, hc⟩ := obind_some hc
    have he : ∀ r w', (Instr.sliceAt t (a.eval x) (lo.map a.eval) (hi.map a.eval) (mx.map a.eval)).run P w = .ok r w' → (execOp a.eval o).run P w = .ok (.value r) w' := fun r w' h => vv (by simp only [execOp, ho]) h
    have mxn : ∀ {m : Option XV}, copdo mx = some m → m = none → mx = none := fun h1 h2 => by
      cases mx with
      | none => rfl
      | some m => subst h2; simp only [copdo] at h1; split at h1 <;> cases h1
    split at hc
    · rename_i hut
      split at hc
      · cases hc
        have hmx := mxn ham rfl
        simp only [xoS] at h
        split at h
        · rename_i s l u hx hl hh
          split at h
          · rename_i t' e1
            split at h
            · rename_i l' e2
              cases h
              have := slcS_sound (P := P) (w := w) hut (ev hax hx) (evo_sound hf hg hah hh) (evo_sound hf hg hal hl) e1 e2
              rw [hmx] at he
              exact .of_pure hr this he
            · cases h
          · cases h
        · cases h
      · cases hc
    · rename_i e hut
      obtain ⟨s, hs, hc⟩ := obind_some hc
      cases s with
      | zero => cases hc
      | succ s =>
        have fin : xop = .slcL ax al ah am (s + 1) → (am ≠ none → ah ≠ none) → Done P E H w nx (execOp a.eval o) v H' nx' := by
          intro e1 hmh
          rw [e1] at h
          simp only [xoS] at h
          split at h
          · rename_i p l u m hx hl hh hm
            split at h
            · rename_i r hr2
              cases h
              refine .of_pure hr (slice_sound (P := P) (w := w) hut hs (Nat.succ_pos _) (ev hax hx) (evo_sound hf hg hah hh) (evo_sound hf hg hal hl) (evo_sound hf hg ham hm) ?_ hr2) he
              intro hn hhn
              refine hmh (fun e => hn ?_) ?_
              · rw [mxn ham e]; rfl
              · cases hi with
                | none => simp only [copdo] at hah; cases hah; rfl
                | some y => cases hhn
            · cases h
          · cases h
        simp only at hc
        split at hc
        · cases hc
        · rename_i hno
          cases hc
          refine fin rfl fun h1 h2 => ?_
          cases am with
          | none => exact h1 rfl
          | some m => exact hno m rfl h2
    · rename_i n e hut
      obtain ⟨s, hs, hc⟩ := obind_some hc
      cases s with
      | zero => cases hc
      | succ s =>
        simp only at hc
        split at hc
        · split at hc
          rotate_left
          · cases hc
          rename_i hnm
          cases hc
          have hmx := mxn ham rfl
          simp only [xoS] at h
          split at h
          · rename_i hd off l u hx hl hh
            split at h
            · rename_i st cs hget
              split at h
              · rename_i hle
                split at h
                · rename_i t' e1
                  split at h
                  · rename_i l' e2
                    cases h
                    have hle' := Nat.le_of_ble_eq_true hle
                    obtain ⟨q1, q2, q3⟩ := run_bounds2 (P := P) (sl := false) (w := w) (evo_sound hf hg hah hh) (evo_sound hf hg hal hl) e1 e2 (Nat.le_refl _) (Nat.le_refl _)
                    obtain ⟨e3, hD⟩ := (ev hax hx).of_ptr
                    obtain ⟨c, e', f, hb, hff, hcr⟩ := CR.of_or (hr.obj _ (Heap.mem_of_get hget))
                    have hcl : cs.length ≤ c.size := by have := hcr.1; simpa using this
                    refine .of_pure (s := Instr.sliceAt t (a.eval x) (lo.map a.eval) (hi.map a.eval) (mx.map a.eval)) hr ⟨.slice (some (if n = l' then ⟨E.ρ hd, off, none⟩ else (⟨E.ρ hd, off, none⟩ : Addr).add (l' * (s + 1)))) (t' - l') (n - l'), ?_, ?_⟩ he
                    · rw [e3, hmx]
                      simp [Instr.sliceAt, run_underlying hut, Instr.sureAddr, q1, run_size hs]
                    · by_cases hnl : n = l'
                      · rw [if_pos hnl]
                        have e5 : t' - l' = 0 := by omega
                        have e6 : n - l' = 0 := by omega
                        rw [e5, e6]
                        exact .row0 _ _ _ _ _
                      · rw [if_neg hnl, add_addr]
                        have hnn := Nat.le_of_ble_eq_true hnm
                        refine .row _ _ _ _ _ _ _ hD (by omega) (by omega) (Nat.succ_pos _) (Nat.le_refl _) (fun _ => rfl) ⟨c, e', f, hb, ?_⟩
                        have : l' * (s + 1) + (n - l') * (s + 1) = n * (s + 1) := by rw [← Nat.add_mul]; congr 1; omega
                        omega
                  · cases h
                · cases h
              · cases h
            · cases h
          · cases h
        · cases hc
    · cases hc
  | fieldAddr t x i =>
    rw [ho] at hc
    obtain ⟨ax, hax, hc⟩ := obind_some hc
    obtain ⟨fs, hfs, hc⟩ := obind_some hc
    obtain ⟨f, hfi, hc⟩ := obind_some hc
    obtain ⟨s, hs, hc⟩ := obind_some hc
    have hut : P.underlying t = some (.struct fs) := by
      unfold cfields at hfs
      split at hfs
      · cases hfs; assumption
      · cases hfs
    cases s with
    | zero => cases hc
    | succ s =>
      cases hc
      simp only [xoS] at h
      split at h
      · rename_i hd off hp
        cases h
        obtain ⟨e1, hD⟩ := (ev hax hp).of_ptr
        refine .of_pure (s := Instr.fieldAt t (a.eval x) i) hr ⟨_, by rw [e1]; exact faddr_sound (P := P) (w := w) hut hfi hs, .ptr _ _ hD⟩ fun r w' h => vv (by simp only [execOp, ho]) h
      · rename_i e off hp
        cases h
        obtain ⟨b, c, u, e1, q1, q2, q3, q4⟩ := (ev hax hp).of_eptr
        refine .of_pure (s := Instr.fieldAt t (a.eval x) i) hr ⟨_, by rw [e1]; exact faddr_sound (P := P) (w := w) hut hfi hs, ?_⟩ fun r w' h => vv (by simp only [execOp, ho]) h
        rw [Nat.add_assoc]
        exact .eptr e _ b c u q1 q2 q3 q4
      · cases h
  | field t x i =>
    rw [ho] at hc
    obtain ⟨ax, hax, hc⟩ := obind_some hc
    obtain ⟨fs, hfs, hc⟩ := obind_some hc
    obtain ⟨f, hfi, hc⟩ := obind_some hc
    obtain ⟨s, hs, hc⟩ := obind_some hc
    obtain ⟨g, hag, hc⟩ := obind_some hc
    cases hc
    have hut : P.underlying t = some (.struct fs) := by
      unfold cfields at hfs
      split at hfs
      · cases hfs; assumption
      · cases hfs
    simp only [xoS] at h
    split at h
    · rename_i cs hp
      split at h
      · rename_i r hr2
        cases h
        obtain ⟨vs, e1, q1, q2⟩ := (ev hax hp).of_agg
        obtain ⟨cv, r1, r2⟩ := part_sound (P := P) q1 q2 hs hag hr2
        refine .of_pure (s := Instr.field t (a.eval x) i) hr ⟨cv, ?_, r2⟩ fun r w' h => vv (by simp only [execOp, ho]) h
        rw [e1]
        simp [Instr.field, run_underlying hut, hfi, asAgg, r1]
      · cases h
    · cases h
  | indexAddr t x i =>
    rw [ho] at hc
    obtain ⟨ax, hax, hc⟩ := obind_some hc
    obtain ⟨ai, hai, hc⟩ := obind_some hc
    have he : ∀ r w', (Instr.indexAt t (a.eval x) (a.eval i)).run P w = .ok r w' → (execOp a.eval o).run P w = .ok (.value r) w' := fun r w' h => vv (by simp only [execOp, ho]) h
    split at hc
    · rename_i e hut
      obtain ⟨s, hs, hc⟩ := obind_some hc
      cases s with
      | zero => cases hc
      | succ s =>
        cases hc
        simp only [xoS] at h
        split at h
        · rename_i sz' es p hx hp
          split at h
          · rename_i hse
            split at h
            · rename_i y hy
              cases h
              exact .of_pure hr (iaddrS_sound (P := P) hut hs (ev hax hx) (ev hai hp) (.inl ⟨sz', es, y, rfl, hse, hy, rfl⟩)) he
            · cases h
          · cases h
        · rename_i hd off len sz' cp ex p hx hp
          split at h
          · rename_i hse
            split at h
            · rename_i y hy
              cases h
              exact .of_pure hr (iaddrS_sound (P := P) hut hs (ev hax hx) (ev hai hp) (.inr ⟨hd, off, len, sz', cp, ex, y, rfl, hse, hy, rfl⟩)) he
            · cases h
          · cases h
        · cases h
    · rename_i n e hut
      obtain ⟨s, hs, hc⟩ := obind_some hc
      cases s with
      | zero => cases hc
      | succ s =>
        cases hc
        simp only [xoS] at h
        split at h
        · rename_i hd off p hx hp
          split at h
          · rename_i j hj
            cases h
            obtain ⟨e1, hD⟩ := (ev hax hx).of_ptr
            refine .of_pure (s := Instr.indexAt t (a.eval x) (a.eval i)) hr ⟨_, by rw [e1]; exact iaddrA_sound (P := P) hut hs (ev hai hp) hj, ?_⟩ he
            rw [add_addr]
            exact .ptr _ _ hD
          · cases h
        · rename_i e' off p hx hp
          split at h
          · rename_i j hj
            cases h
            obtain ⟨b, c, u, e1, q1, q2, q3, q4⟩ := (ev hax hx).of_eptr
            refine .of_pure (s := Instr.indexAt t (a.eval x) (a.eval i)) hr ⟨_, by rw [e1]; exact iaddrA_sound (P := P) hut hs (ev hai hp) hj, ?_⟩ he
            rw [add_addr, Nat.add_assoc]
            exact .eptr e' _ b c u q1 q2 q3 q4
          · cases h
        · cases h
    · cases hc
  | index t x i =>
    rw [ho] at hc
    obtain ⟨ax, hax, hc⟩ := obind_some hc
    obtain ⟨ai, hai, hc⟩ := obind_some hc
    have he : ∀ r w', (Instr.index t (a.eval x) (a.eval i)).run P w = .ok r w' → (execOp a.eval o).run P w = .ok (.value r) w' := fun r w' h => vv (by simp only [execOp, ho]) h
    split at hc
    · rename_i hut
      cases hc
      simp only [xoS] at h
      split at h
      · rename_i s k n hx hn
        split at h
        · rename_i b hb
          cases h
          obtain ⟨e1, _⟩ := (ev hai hn).of_int
          refine .of_pure (s := Instr.index t (a.eval x) (a.eval i)) hr ?_ he
          rw [e1]
          exact idxS_sound (P := P) hut (ev hax hx) hb
        · cases h
      · cases h
    · rename_i n e hut
      obtain ⟨s, hs, hc⟩ := obind_some hc
      obtain ⟨g, hag, hc⟩ := obind_some hc
      cases hc
      simp only [xoS] at h
      split at h
      · rename_i cs p hx hp
        split at h
        · rename_i j hj
          split at h
          · rename_i r hr2
            cases h
            exact .of_pure hr (idxA_sound (P := P) hut hs hag (ev hax hx) (ev hai hp) hj hr2) he
          · cases h
        · cases h
      · cases h
    · cases hc
  | lookup t x i ok =>
    rw [ho] at hc
    obtain ⟨ax, hax, hc⟩ := obind_some hc
    obtain ⟨ai, hai, hc⟩ := obind_some hc
    split at hc
    · rename_i kt et hut
      obtain ⟨q, hq, hc⟩ := obind_some hc
      obtain ⟨z, hz, hc⟩ := obind_some hc
      cases hc
      unfold keyT at hq
      obtain ⟨ks, hks, hq⟩ := obind_some hq
      obtain ⟨ag, hag, hq⟩ := obind_some hq
      cases hq
      simp only [xoS] at h
      split at h
      · rename_i m k hm hk
        split at h
        · cases h
        rename_i hok
        have fin := fun hh => lookup_sound (P := P) (ok := ok) (v := v) hr hut hks hag hz (ev hax hm) (ev hai hk) hok hh
        have he : ∀ r w', (Instr.lookup t (a.eval x) (a.eval i) ok).run P w = .ok r w' → (execOp a.eval o).run P w = .ok (.value r) w' := fun r w' h => vv (by simp only [execOp, ho]) h
        split at h
        · cases h
          exact .of_pure hr (fin (.inl ⟨rfl, rfl⟩)) he
        · split at h
          · rename_i es hget
            split at h
            · rename_i u hu
              cases h
              exact .of_pure hr (fin (.inr ⟨_, es, some u, rfl, hget, hu, rfl⟩)) he
            · rename_i hu
              cases h
              exact .of_pure hr (fin (.inr ⟨_, es, none, rfl, hget, hu, rfl⟩)) he
            · cases h
          · cases h
        · cases h
      · cases h
    · cases hc
  | range t x =>
    rw [ho] at hc
    obtain ⟨ax, hax, hc⟩ := obind_some hc
    split at hc
    · rename_i hut
      cases hc
      simp only [xoS] at h
      split at h
      · rename_i s hs
        cases h
        exact .of_sem (rngS_sound (P := P) hr (hfr nx (Nat.le_refl _) (by omega)) (ev hax hs) hut) fun r w' h => vv (by simp only [execOp, ho]) h
      · cases h
    · cases hc
  | next it b =>
    rw [ho] at hc
    cases b with
    | false => cases hc
    | true =>
      obtain ⟨ax, hax, hc⟩ := obind_some hc
      cases hc
      simp only [xoS] at h
      split at h
      · rename_i hd hp
        obtain ⟨e1, hD⟩ := (ev hax hp).of_ptr
        have he : ∀ r w', (Instr.next (.pointer (some ⟨E.ρ hd, 0, none⟩)) true o.type).run P w = .ok r w' → (execOp a.eval o).run P w = .ok (.value r) w' := fun r w' h => vv (by simp only [execOp, ho, e1]) h
        split at h
        · rename_i s pos hget
          split at h
          · rename_i hle
            split at h
            · rename_i hlt
              split at h
              · rename_i b hb
                cases h
                exact .of_sem (nextS_sound (P := P) hr hD hget (Nat.le_of_ble_eq_true hle) (.inl ⟨by rw [Nat.blt_eq] at hlt; exact hlt, b, hb, rfl, rfl⟩)) he
              · cases h
            · rename_i hlt
              cases h
              exact .of_sem (nextS_sound (P := P) hr hD hget (Nat.le_of_ble_eq_true hle) (.inr ⟨(fun hh => by
                have : Nat.blt pos s.length = true := by rw [Nat.blt_eq]; exact hh
                rw [this] at hlt; cases hlt), rfl, rfl⟩)) he
          · cases h
        · cases h
      · cases h
  | typeAssert x t u ok =>
    rw [ho] at hc
    obtain ⟨ax, hax, hc⟩ := obind_some hc
    obtain ⟨z, hz, hc⟩ := obind_some hc
    obtain ⟨cz, z1, z2⟩ := zeroT_sound (w := w) hz
    have he : ∀ r w', (Instr.typeAssert (a.eval x) t u ok).run P w = .ok r w' → (execOp a.eval o).run P w = .ok (.value r) w' := fun r w' h => vv (by simp only [execOp, ho]) h
    have fin : ∀ d, P.underlying u = some d → (∀ ms, d ≠ .interface ms) → xop = .tas ax u ok z → Done P E H w nx (execOp a.eval o) v H' nx' := by
      intro d hut hni e1
      rw [e1] at h
      simp only [xoS] at h
      split at h
      · rename_i t' y hp
        have hv := ev hax hp
        obtain ⟨cy, e2, hy⟩ : ∃ cy, a.eval x = .iface t' cy ∧ VR E w y cy := by
          generalize a.eval x = cx at hv
          cases hv; exact ⟨_, rfl, by assumption⟩
        split at h
        · rename_i htt
          have := nbeq_true htt
          subst this
          cases h
          refine .of_pure (s := Instr.typeAssert (a.eval x) t t' ok) hr ?_ he
          rw [e2]
          cases ok
          · refine ⟨cy, ?_, hy⟩
            cases d <;> first | exact absurd rfl (hni _) | simp [Instr.typeAssert, run_underlying hut]
          · refine ⟨.tuple #[cy, .bool true], ?_, ok_pair hy⟩
            cases d <;> first | exact absurd rfl (hni _) | simp [Instr.typeAssert, run_underlying hut]
        · rename_i htt
          split at h
          · cases h
            have hne : ¬ t' = u := fun e => by rw [e, Nat.beq_refl] at htt; cases htt
            refine .of_pure (s := Instr.typeAssert (a.eval x) t u true) hr ⟨.tuple #[cz, .bool false], ?_, ok_pair z2⟩ he
            rw [e2]
            cases d <;> first | exact absurd rfl (hni _) | simp [Instr.typeAssert, run_underlying hut, hne, z1]
          · cases h
      · rename_i hp
        have hv := ev hax hp
        have e2 : a.eval x = .nilIface := by
          generalize a.eval x = cx at hv
          cases hv; rfl
        split at h
        · cases h
          refine .of_pure (s := Instr.typeAssert (a.eval x) t u true) hr ⟨.tuple #[cz, .bool false], ?_, ok_pair z2⟩ he
          rw [e2]
          cases d <;> first | exact absurd rfl (hni _) | simp [Instr.typeAssert, run_underlying hut, z1]
        · cases h
      · cases h
    split at hc
    · cases hc
    · rename_i d hni hut
      cases hc
      exact fin d hut (fun ms e => hni ms e) rfl
    · cases hc
  | extract t i =>
    rw [ho] at hc
    obtain ⟨ax, hax, hc⟩ := obind_some hc
    cases hc
    simp only [xoS] at h
    split at h
    · rename_i vs hp
      split at h
      · rename_i u hu
        cases h
        obtain ⟨us, e1, hv⟩ := (ev hax hp).of_tup
        obtain ⟨cv, r1, r2⟩ := hv.getElem? hu
        have r1' : us[i]? = some cv := by simpa using r1
        refine .of_pure (s := Instr.extract (a.eval t) i) hr ⟨cv, ?_, r2⟩ fun r w' h => vv (by simp only [execOp, ho]) h
        rw [e1]
        simp [Instr.extract, r1']
      · cases h
    · cases h
  | call c => exact absurd ho (hnc c)
  | _ => rw [ho] at hc; cases hc
end
end Go.Sy

/- Calls, and rows of operations in their order. No condition. -/
namespace Go.Sy

/-- What a call of a function gives, whatever else memory holds. -/
def FnT (P : Program) (G : Cx) (f : FuncId) (args : List AV) (H : Heap) (nx : Nat) (v : AV) (H' : Heap) (nx' : Nat) : Prop :=
  ∀ (E : Env) (w : World) (cargs : Array Value), HR E H w → VRs E w args cargs.toList → GR G E w → Fresh E nx nx' →
    Calls P f cargs w fun e w' => ∃ cv E', e = .returned cv ∧ HR E' H' w' ∧ Tr E H w E' H' w' nx nx' ∧ VR E' w' v cv

/-- A function that is entered when it is called. -/
def Enters (P : Program) (f : FuncId) : Prop := ∃ fn b, P.funcs[f]? = some fn ∧ fn.body = some b ∧ (fn.name == "runtime.NumGoroutine") = false

def CallOK (P : Program) (G : Cx) (call : Sy.Call) : Prop := ∀ f args H nx v H' nx', call f args H nx = some (v, H', nx') → Enters P f ∧ nx ≤ nx' ∧ FnT P G f args H nx v H' nx'
def MethOK (P : Program) (G : Cx) : Prop := ∀ t m f, G.meth t m = some f → ∀ (v : Value) (w : World), (method (P.types.size + Made.depth) t v m).run P w = .ok (f, v) w

theorem callOK_none {P : Program} {G : Cx} : CallOK P G noCall := fun _ _ _ _ _ _ _ h => by cases h

section
variable {P : Program} {G : Cx} {E : Env} {w : World} {fr : Fr} {a : Act} {nt : Nat} {H : Heap} {nx : Nat}

/-- What an operation gives, as the walk takes it. -/
def OpT (P : Program) (o : Oper) (a : Act) (E : Env) (H : Heap) (w : World) (nx : Nat) (v : AV) (H' : Heap) (nx' : Nat) : Prop :=
  ∀ (next : Act → World → Prop) (Q : Exit → Act → World → Prop), (∀ cv E' w', HR E' H' w' → Tr E H w E' H' w' nx nx' → VR E' w' v cv → next (a.put o.dst cv) w') → o.wp P a w next Q

theorem OpT.of_done {o : Oper} {v : AV} {H' : Heap} {nx' : Nat} (h : Done P E H w nx (execOp a.eval o) v H' nx') : OpT P o a E H w nx v H' nx' := by
  intro next Q hn
  obtain ⟨cv, E', w', h1, h2, h3, h4 | ⟨h4, h5⟩⟩ := h
  · unfold Oper.wp
    rw [h4]
    exact hn cv E' w' h1 h2 h3
  · unfold Oper.wp
    rw [h4]
    subst h5
    exact hn _ E' w' h1 h2 h3

theorem OpT.of_call {o : Oper} {v : AV} {H' : Heap} {nx' : Nat} {f : FuncId} {args : List AV} {cargs : Array Value} (hr : HR E H w) (hg : GR G E w) (hfr : Fresh E nx nx') (hv : VRs E w args cargs.toList) (ht : FnT P G f args H nx v H' nx')
    (he : (execOp a.eval o).run P w = .ok (.enter f cargs) w) : OpT P o a E H w nx v H' nx' := by
  intro next Q hn
  unfold Oper.wp
  rw [he]
  refine (ht E w cargs hr hv hg hfr).mono fun e w' h => ?_
  obtain ⟨cv, E', rfl, h1, h2, h3⟩ := h
  exact hn cv E' w' h1 h2 h3

theorem run_callFunc {f : FuncId} {args : Array Value} (h : Enters P f) : (callFunc f args).run P w = .ok (.enter f args) w := by
  obtain ⟨fn, b, h1, h2, h3⟩ := h
  have h4 : ¬ fn.name = "runtime.NumGoroutine" := by simpa using h3
  simp [callFunc, h1, h2, h4]

theorem bidx_eq (c : UInt8) : ∀ (l : List UInt8) (i : Nat), bidx c.toNat i (l.map UInt8.toNat) = if Lib.indexByte l c = -1 then -1 else Lib.indexByte l c + (i : Int)
  | [], i => by simp [bidx, Lib.indexByte]
  | a :: l, i => by
    simp only [List.map_cons, bidx, Lib.indexByte]
    by_cases e : a = c
    · subst e
      have : Nat.beq a.toNat a.toNat = true := Nat.beq_refl _
      simp [this]
    · have h1 : Nat.beq a.toNat c.toNat = false := by
        cases h : Nat.beq a.toNat c.toNat with
        | false => rfl
        | true => exact absurd (UInt8.toNat_inj.1 (nbeq_true h)) e
      have h2 : (a == c) = false := by simpa using e
      have h3 := Lib.indexByte_ge l c
      have ih := bidx_eq c l (i + 1)
      simp only [h1, h2]
      rw [ih]
      by_cases e2 : Lib.indexByte l c = -1
      · simp [e2]
      · have e3 : (Lib.indexByte l c == -1) = false := by simpa using e2
        have e4 : ¬ (Lib.indexByte l c + 1 = -1) := by omega
        simp [e2, e4]
        omega
theorem indexByte_lt (c : UInt8) : ∀ l : List UInt8, Lib.indexByte l c < l.length ∨ Lib.indexByte l c = -1
  | [] => .inr rfl
  | a :: l => by
    simp only [Lib.indexByte, List.length_cons]
    split
    · left; omega
    · split
      · exact .inr rfl
      · rename_i h
        have h' : ¬ Lib.indexByte l c = -1 := by simpa using h
        rcases indexByte_lt c l with h1 | h1
        · left; omega
        · exact absurd h1 h'
theorem bcnt_eq (c : UInt8) : ∀ l : List UInt8, bcnt c.toNat (l.map UInt8.toNat) = Lib.countByte l c
  | [] => rfl
  | a :: l => by
    have ih := bcnt_eq c l
    simp only [List.map_cons, bcnt, Lib.countByte, List.count_cons] at ih ⊢
    by_cases e : a = c
    · subst e
      have : Nat.beq a.toNat a.toNat = true := Nat.beq_refl _
      simp [this, ih]
    · have h1 : Nat.beq a.toNat c.toNat = false := by
        cases h : Nat.beq a.toNat c.toNat with
        | false => rfl
        | true => exact absurd (UInt8.toNat_inj.1 (nbeq_true h)) e
      simp [h1, ih, e]

theorem find_index {fn : Func} (h : fn.name = "internal/bytealg.IndexByteString") (ho : fn.origin = "") : Extern.findNext fn = none ∧ Extern.find fn = some Extern.BytealgIndexByte.indexByte := by
  have e1 : Extern.allGenericRows.lookup "internal/bytealg.IndexByteString" = none := by kernel_rfl
  have e2 : Extern.allTypedRows.lookup "internal/bytealg.IndexByteString" = none := by kernel_rfl
  have e3 : Extern.allRows.lookup "internal/bytealg.IndexByteString" = some Extern.BytealgIndexByte.indexByte := by kernel_rfl
  have e4 : Extern.allNextRows.lookup "internal/bytealg.IndexByteString" = none := by kernel_rfl
  have e5 : Extern.allNextRows.lookup "" = none := by kernel_rfl
  exact ⟨by simp only [Extern.findNext, h, ho, e4, e5]; rfl, by simp only [Extern.find, h, e1, e2, e3]; rfl⟩
theorem find_count {fn : Func} (h : fn.name = "internal/bytealg.CountString") (ho : fn.origin = "") : Extern.findNext fn = none ∧ Extern.find fn = some Extern.BytealgCount.count := by
  have e1 : Extern.allGenericRows.lookup "internal/bytealg.CountString" = none := by kernel_rfl
  have e2 : Extern.allTypedRows.lookup "internal/bytealg.CountString" = none := by kernel_rfl
  have e3 : Extern.allRows.lookup "internal/bytealg.CountString" = some Extern.BytealgCount.count := by kernel_rfl
  have e4 : Extern.allNextRows.lookup "internal/bytealg.CountString" = none := by kernel_rfl
  have e5 : Extern.allNextRows.lookup "" = none := by kernel_rfl
  exact ⟨by simp only [Extern.findNext, h, ho, e4, e5]; rfl, by simp only [Extern.find, h, e1, e2, e3]; rfl⟩
theorem byte_of {b : Nat} (h : has .u8 (Int.ofNat b)) : ((Int.ofNat b).toNat.toUInt8).toNat = b := by
  have h2 : (Int.ofNat b) ≤ 255 := h.2
  have h3 : b ≤ 255 := by
    have : (b : Int) ≤ 255 := h2
    omega
  show (b.toUInt8).toNat = b
  rw [Nat.toUInt8_eq, UInt8.toNat_ofNat']
  omega

theorem ext_exec (hr : HR E H w) (hf : FrR E w fr a nt) (hg : GR G E w) {v : AV} {H' : Heap} {nx' : Nat} {o : Oper} {f : FuncId} {fn : Func} {args : Array Operand} {ts : Array TypeId} {as : List XV} {xop : XO} {call : Sy.Call}
    (ho : o.op = .call ⟨.value (.func f), args, ts⟩) (hfn : P.funcs[f]? = some fn) (hb : fn.body = none) (has' : copds args.toList = some as) (hc : extK fn as = some xop) (h : xoS G call fr H nx xop = some (v, H', nx')) :
    Done P E H w nx (execOp a.eval o) v H' nx' := by
  have hbn : fn.body.isNone = true := by rw [hb]; rfl
  unfold extK at hc
  split at hc
  rotate_left
  · cases hc
  rename_i x y hor
  have hor : fn.origin = "" := by simpa using hor
  have run2 : ∀ {p q : AV} {e : Array Value → Sem Value}, x.ev G fr = some p → y.ev G fr = some q → (fn.name == "runtime.NumGoroutine") = false → Extern.findNext fn = none → Extern.find fn = some e →
      ∃ cp cq, VR E w p cp ∧ VR E w q cq ∧ ∀ r w', (e #[cp, cq]).run P w = .ok r w' → (execOp a.eval o).run P w = .ok (.value r) w' := by
    intro p q e hp hq hn h1 h2
    have hv := copds_sound hf hg has' (show evs G fr [x, y] = some [p, q] by simp only [evs, hp, hq])
    obtain ⟨cp, l1, e1, v1, hv⟩ := hv.of_cons
    obtain ⟨cq, l2, rfl, v2, hv⟩ := hv.of_cons
    rw [hv.of_nil] at e1
    refine ⟨cp, cq, v1, v2, fun r w' he => ?_⟩
    have ea : args.map a.eval = #[cp, cq] := by
      apply Array.ext'
      simpa using e1
    simp only [execOp, ho, resolve, Sem.run_bind, ea, Act.eval, Deferred.ofValue, Sem.run_pure, Result.andThen_ok, invoke]
    have := run_callFunc_extern (P := P) hfn hn hbn h1 h2 #[cp, cq] w
    rw [he] at this
    simpa using this
  split at hc
  · rename_i hname
    have hname : fn.name = "internal/bytealg.IndexByteString" := by simpa using hname
    cases hc
    simp only [xoS] at h
    split at h
    · rename_i s b hs hb2
      cases h
      obtain ⟨cp, cq, v1, v2, he⟩ := run2 hs hb2 (by rw [hname]; rfl) (find_index hname hor).1 (find_index hname hor).2
      obtain ⟨bs, rfl, hbs, hlen⟩ := v1.of_str
      obtain ⟨rfl, hb3⟩ := v2.of_int
      refine .pure hr (he _ _ (Lib.run_indexByteString bs _ w)) ?_
      have e0 := bidx_eq ((Int.ofNat b).toNat.toUInt8) bs.data.toList 0
      rw [byte_of hb3, hbs] at e0
      have e1 : bidx b 0 s = Lib.indexByte bs.data.toList ((Int.ofNat b).toNat.toUInt8) := by
        rw [e0]
        split
        · rename_i h1; exact h1.symm
        · simp
      rw [e1]
      refine .int _ _ ⟨?_, ?_⟩
      · have := Lib.indexByte_ge bs.data.toList ((Int.ofNat b).toNat.toUInt8)
        show (-9223372036854775808 : Int) ≤ _
        omega
      · show _ ≤ (9223372036854775807 : Int)
        have hl : bs.data.toList.length ≤ 9223372036854775807 := by rw [← hbs] at hlen; simpa [maxStr] using hlen
        rcases indexByte_lt ((Int.ofNat b).toNat.toUInt8) bs.data.toList with h1 | h1 <;> omega
    · cases h
  · split at hc
    · rename_i hname
      have hname : fn.name = "internal/bytealg.CountString" := by simpa using hname
      cases hc
      simp only [xoS] at h
      split at h
      · rename_i s b hs hb2
        cases h
        obtain ⟨cp, cq, v1, v2, he⟩ := run2 hs hb2 (by rw [hname]; rfl) (find_count hname hor).1 (find_count hname hor).2
        obtain ⟨bs, rfl, hbs, hlen⟩ := v1.of_str
        obtain ⟨rfl, hb3⟩ := v2.of_int
        refine .pure hr (he _ _ (Lib.run_countString bs _ w)) ?_
        have e0 := bcnt_eq ((Int.ofNat b).toNat.toUInt8) bs.data.toList
        rw [byte_of hb3, hbs] at e0
        rw [e0]
        refine .int _ _ ⟨?_, ?_⟩
        · show (-9223372036854775808 : Int) ≤ ((Lib.countByte bs.data.toList ((Int.ofNat b).toNat.toUInt8) : Nat) : Int)
          omega
        · show ((Lib.countByte bs.data.toList ((Int.ofNat b).toNat.toUInt8) : Nat) : Int) ≤ (9223372036854775807 : Int)
          have hl : bs.data.toList.length ≤ 9223372036854775807 := by rw [← hbs] at hlen; simpa [maxStr] using hlen
          have : Lib.countByte bs.data.toList ((Int.ofNat b).toNat.toUInt8) ≤ bs.data.toList.length := List.count_le_length
          omega
      · cases h
    · cases hc

theorem call_exec (hr : HR E H w) (hf : FrR E w fr a nt) (hg : GR G E w) (hm : MethOK P G) {v : AV} {H' : Heap} {nx' : Nat} {o : Oper} {c : Go.Call} {xop : XO} {call : Sy.Call} (hcall : CallOK P G call) (ho : o.op = .call c) (hc : compOp P o.op = some xop)
    (hfr : Fresh E nx nx') (h : xoS G call fr H nx xop = some (v, H', nx')) : OpT P o a E H w nx v H' nx' := by
  obtain ⟨callee, args, ts⟩ := c
  rw [ho] at hc
  have hval : ∀ {x : Operand} {ax : XV} {as : List XV} {f : Nat} {first caps vs : List AV}, callee = .value x → copd x = some ax → copds args.toList = some as → ax.ev G fr = some (.func (.func f) first caps) → evs G fr as = some vs →
      call f (first ++ vs ++ caps) H nx = some (v, H', nx') → OpT P o a E H w nx v H' nx' := by
    intro x ax as f first caps vs e1 e2 e3 e4 e5 e6
    subst e1
    obtain ⟨c1, _, c2⟩ := hcall _ _ _ _ _ _ _ e6
    have hv := copd_sound hf hg e2 e4
    generalize hcx : a.eval x = cx at hv
    cases hv with
    | func _ _ _ vf vc hf1 hc1 rf rc =>
      have hargs := copds_sound hf hg e3 e5
      have h1 : VRs E w first vf.toList := ⟨by simpa using hf1, fun i x v hx hv => rf i x v hx (by simpa using hv)⟩
      have h2 : VRs E w caps vc.toList := ⟨by simpa using hc1, fun i x v hx hv => rc i x v hx (by simpa using hv)⟩
      refine .of_call (cargs := vf ++ args.map a.eval ++ vc) hr hg hfr (by simpa using (h1.append hargs).append h2) c2 ?_
      simp only [execOp, ho, resolve, Sem.run_bind, hcx, Deferred.ofValue, Sem.run_pure, Result.andThen_ok, invoke]
      exact run_callFunc c1
  cases callee with
  | builtin b => exact .of_done (builtin_exec hr hf hg ho hc hfr h)
  | value x =>
    have gen : ∀ {hx : ∃ ax, copd x = some ax ∧ ∃ as, copds args.toList = some as ∧ xop = .callv ax as}, OpT P o a E H w nx v H' nx' := by
      rintro ⟨ax, hax, as, has, e⟩
      rw [e] at h
      simp only [xoS] at h
      split at h
      · rename_i fv vs hfv hvs
        unfold applyf at h
        split at h
        · exact hval rfl hax has hfv hvs h
        · cases h
      · cases h
    cases x with
    | func f =>
      simp only [compOp] at hc
      split at hc
      · rename_i fn hfn
        split at hc
        · obtain ⟨as, has, hc⟩ := obind_some hc
          cases hc
          simp only [xoS] at h
          split at h
          · rename_i vs hvs
            exact hval (x := .func f) (ax := .c (.func (.func f) [] [])) rfl rfl has rfl hvs (by simpa using h)
          · cases h
        · rename_i hbn
          obtain ⟨as, has, hc⟩ := obind_some hc
          exact .of_done (ext_exec hr hf hg ho hfn hbn has hc h)
      · cases hc
    | tmp t =>
      obtain ⟨as, has, hc⟩ := obind_some hc
      cases hc
      exact gen (hx := ⟨_, rfl, as, has, rfl⟩)
    | const cst =>
      obtain ⟨ax, hax, hc⟩ := obind_some hc
      obtain ⟨as, has, hc⟩ := obind_some hc
      cases hc
      exact gen (hx := ⟨ax, hax, as, has, rfl⟩)
    | global g =>
      obtain ⟨as, has, hc⟩ := obind_some hc
      cases hc
      exact gen (hx := ⟨_, rfl, as, has, rfl⟩)
  | invoke r m =>
    obtain ⟨ar, har, hc⟩ := obind_some hc
    obtain ⟨as, has, hc⟩ := obind_some hc
    cases hc
    simp only [xoS] at h
    split at h
    · rename_i t u vs hr2 hvs
      split at h
      · rename_i f hmf
        obtain ⟨c1, _, c2⟩ := hcall _ _ _ _ _ _ _ h
        have hv := copd_sound hf hg har hr2
        generalize hcx : a.eval r = cx at hv
        cases hv with
        | iface _ _ cu hu =>
          have hargs := copds_sound hf hg has hvs
          refine .of_call (cargs := #[cu] ++ args.map a.eval) hr hg hfr (by simpa using VRs.cons hu hargs) c2 ?_
          have hmm := hm t m f hmf cu w
          simp only [execOp, ho, resolve, Sem.run_bind, hcx, Sem.run_pure, Result.andThen_ok, invoke]
          have e1 : (#[Value.iface t cu] ++ args.map a.eval)[0]? = some (.iface t cu) := by
            simp [Array.getElem?_append]
          have e2 : (#[Value.iface t cu] ++ args.map a.eval).extract 1 (#[Value.iface t cu] ++ args.map a.eval).size = args.map a.eval := by
            apply Array.ext'
            simp [List.take_of_length_le]
          simp only [e1, e2, callMethod, Sem.run_bind, run_program, Result.andThen_ok, hmm]
          exact run_callFunc c1
      · cases h
    · cases h

/-- Any operation. -/
theorem any_exec (hr : HR E H w) (hf : FrR E w fr a nt) (hg : GR G E w) (hm : MethOK P G) {v : AV} {H' : Heap} {nx' : Nat} {o : Oper} {xop : XO} {call : Sy.Call} (hcall : CallOK P G call) (hc : compOp P o.op = some xop)
    (hfr : Fresh E nx nx') (h : xoS G call fr H nx xop = some (v, H', nx')) : OpT P o a E H w nx v H' nx' := by
  by_cases hco : ∃ c, o.op = .call c
  · obtain ⟨c, ho⟩ := hco
    exact call_exec hr hf hg hm hcall ho hc hfr h
  · exact .of_done (op_exec hr hf hg (fun c h => hco ⟨c, h⟩) hc hfr h)
end
end Go.Sy

/- Plain facts about the resolved machine: handles go up, reads change nothing, equal values are equal. No condition. -/
namespace Go.Sy

def CallLe (call : Call) : Prop := ∀ f args H nx v H' nx', call f args H nx = some (v, H', nx') → nx ≤ nx'
theorem CallOK.le {P : Program} {G : Cx} {call : Call} (h : CallOK P G call) : CallLe call := fun f args H nx v H' nx' e => (h f args H nx v H' nx' e).2.1

theorem xappend_le {H : Heap} {nx : Nat} {s y : AV} {sz bytes : Nat} {v : AV} {H' : Heap} {nx' : Nat} (h : xappend H nx s y sz bytes = some (v, H', nx')) : nx ≤ nx' := by
  unfold xappend at h
  repeat' split at h
  all_goals first
    | (cases h; done)
    | (cases h; exact Nat.le_refl _)
    | (cases h; exact Nat.le_succ _)
theorem xcopy_le {H : Heap} {nx : Nat} {d y : AV} {sz : Nat} {v : AV} {H' : Heap} {nx' : Nat} (h : xcopy H nx d y sz = some (v, H', nx')) : nx ≤ nx' := by
  unfold xcopy at h
  repeat' split at h
  all_goals first
    | (cases h; done)
    | (cases h; exact Nat.le_refl _)

set_option maxHeartbeats 1000000 in
theorem xo_le {G : Cx} {call : Call} {fr : Fr} {H : Heap} {nx : Nat} {o : XO} {v : AV} {H' : Heap} {nx' : Nat} (hc : CallLe call) (h : xoS G call fr H nx o = some (v, H', nx')) : nx ≤ nx' := by
  cases o <;> simp only [xoS] at h
  all_goals (repeat' split at h)
  all_goals first
    | (cases h; done)
    | (cases h; exact Nat.le_refl _)
    | (cases h; exact Nat.le_succ _)
    | exact xappend_le h
    | exact xcopy_le h
    | exact hc _ _ _ _ _ _ _ h
    | (unfold applyf at h; split at h <;> first | exact hc _ _ _ _ _ _ _ h | (cases h; done))

theorem xo_read {G : Cx} {call : Call} {fr : Fr} {H : Heap} {nx : Nat} {o : XO} {v : AV} {H' : Heap} {nx' : Nat} (hk : kindOf o = 1) (h : xoS G call fr H nx o = some (v, H', nx')) : H' = H ∧ nx' = nx := by
  cases o <;> first | (cases hk; done) | skip
  all_goals simp only [xoS] at h
  all_goals (repeat' split at h)
  all_goals first
    | (cases h; done)
    | (cases h; exact ⟨rfl, rfl⟩)

theorem allb_sound {f : AV → AV → Bool} (hf : ∀ a b, f a b = true → a = b) : ∀ {x y : List AV}, allb f x y = true → x = y
  | [], [], _ => rfl
  | a :: x, b :: y, h => by
    simp only [allb] at h
    split at h
    · rename_i e
      rw [hf a b e, allb_sound hf h]
    · cases h
  | [], _ :: _, h => by simp [allb] at h
  | _ :: _, [], h => by simp [allb] at h

theorem aeq_sound : ∀ (d : Nat) (a b : AV), aeq d a b = true → a = b := by
  intro d
  induction d with
  | zero => intro a b h; simp [aeq] at h
  | succ d ih =>
    intro a b h
    have al : ∀ {x y : List AV}, allb (aeq d) x y = true → x = y := allb_sound ih
    unfold aeq at h
    split at h
    case h_2 =>
      split at h
      · rename_i e
        have := ksame_eq e
        have h := eq_of_beq h
        subst this; subst h; rfl
      · cases h
    case h_3 => rw [seqb_eq h]
    all_goals first
      | (cases h; done)
      | rfl
      | (simp only [Bool.and_eq_true, beq_iff_eq] at h)
      | skip
    · rw [h]
    · rw [nbeq_true h.1, nbeq_true h.2]
    · rw [ih _ _ h.1, nbeq_true h.2]
    · rw [nbeq_true h.1, al h.2]
    · obtain ⟨⟨⟨⟨⟨h1, h2⟩, h3⟩, h4⟩, h5⟩, h6⟩ := h
      rw [nbeq_true h1, nbeq_true h2, nbeq_true h3, nbeq_true h4, nbeq_true h5, h6]
    · rw [nbeq_true h]
    · rw [nbeq_true h.1.1, al h.1.2, al h.2]
    · rw [nbeq_true h.1, ih _ _ h.2]
    · rw [al h]
    · rw [al h]
    · rw [nbeq_true h]
end Go.Sy

/- Regions that draw their order: what is kept about the resolved machine's run. No condition. -/
namespace Go.Sy

/- A step whose new handles are any set. -/
structure TrS (E : Env) (H : Heap) (w : World) (E' : Env) (H' : Heap) (w' : World) (N : Nat → Prop) : Prop where
  agree : ∀ h, E.D h → E'.ρ h = E.ρ h
  dom : ∀ h, E'.D h ↔ E.D h ∨ N h
  zmono : ∀ x, E.Z x → E'.Z x
  znew : ∀ x, E'.Z x → E.Z x ∨ (∃ p ∈ H, E.ρ p.1 = x) ∨ w.heap.size ≤ x
  own : ∀ p ∈ H', (∃ q ∈ H, E.ρ q.1 = E'.ρ p.1) ∨ w.heap.size ≤ E'.ρ p.1
  tape : w'.tape = w.tape
  os : w'.os = w.os
  output : w'.output = w.output
  size : w.heap.size ≤ w'.heap.size
  old : ∀ x, x < w.heap.size → (∀ p ∈ H, E.ρ p.1 ≠ x) → w'.heap[x]? = w.heap[x]?
  shapes : Shapes w w'
  sig : E'.σ = E.σ := by rfl

theorem TrS.step {E : Env} {H : Heap} {w : World} {E1 : Env} {H1 : Heap} {w1 : World} {E2 : Env} {H2 : Heap} {w2 : World} {N N' : Nat → Prop} {a b : Nat}
    (h : TrS E H w E1 H1 w1 N) (k : Tr E1 H1 w1 E2 H2 w2 a b) (hN : ∀ h, N' h ↔ N h ∨ (a ≤ h ∧ h < b)) : TrS E H w E2 H2 w2 N' where
  agree x hx := (k.agree x ((h.dom x).2 (.inl hx))).trans (h.agree x hx)
  dom x := by rw [k.dom, h.dom, hN, or_assoc]
  zmono x hx := k.zmono x (h.zmono x hx)
  znew x hx := by
    rcases k.znew x hx with h1 | ⟨p, hp, rfl⟩ | h1
    · exact h.znew x h1
    · exact .inr (h.own p hp)
    · exact .inr (.inr (Nat.le_trans h.size h1))
  own p hp := by
    rcases k.own p hp with ⟨q, hq, e⟩ | h1
    · rw [← e]; exact h.own q hq
    · exact .inr (Nat.le_trans h.size h1)
  tape := k.tape.trans h.tape
  os := k.os.trans h.os
  output := k.output.trans h.output
  size := Nat.le_trans h.size k.size
  old x hx hp := by
    rw [k.old x (Nat.lt_of_lt_of_le hx h.size) fun p hp1 e => by
      rcases h.own p hp1 with ⟨q, hq, e2⟩ | h1
      · exact hp q hq (e2.trans e)
      · omega]
    exact h.old x hx hp
  shapes := h.shapes.trans k.shapes
  sig := k.sig.trans h.sig
theorem TrS.of_tr {E : Env} {H : Heap} {w : World} {E' : Env} {H' : Heap} {w' : World} {a b : Nat} (h : Tr E H w E' H' w' a b) {N : Nat → Prop} (hN : ∀ h, N h ↔ (a ≤ h ∧ h < b)) : TrS E H w E' H' w' N :=
  ⟨h.agree, fun x => by rw [h.dom, hN], h.zmono, h.znew, h.own, h.tape, h.os, h.output, h.size, h.old, h.shapes, h.sig⟩
theorem TrS.to_tr {E : Env} {H : Heap} {w : World} {E' : Env} {H' : Heap} {w' : World} {a b : Nat} {N : Nat → Prop} (h : TrS E H w E' H' w' N) (hab : a ≤ b) (hN : ∀ h, N h ↔ (a ≤ h ∧ h < b)) : Tr E H w E' H' w' a b :=
  ⟨hab, h.agree, fun x => by rw [h.dom, hN], h.zmono, h.znew, h.own, h.tape, h.os, h.output, h.size, h.old, h.shapes, h.sig⟩
theorem TrS.perm {E : Env} {H : Heap} {w : World} {E' : Env} {H' H2 : Heap} {w' : World} {N : Nat → Prop} (h : TrS E H w E' H' w' N) (hp : H'.Perm H2) : TrS E H w E' H2 w' N :=
  { h with own := fun p k => h.own p (hp.mem_iff.2 k) }
theorem TrS.vr {E : Env} {H : Heap} {w : World} {E' : Env} {H' : Heap} {w' : World} {N : Nat → Prop} (hr : HR E H w) (h : TrS E H w E' H' w' N) {v : AV} {cv : Value} (hv : VR E w v cv) : VR E' w' v cv :=
  hv.mono (fun x hx => ⟨(h.dom x).2 (.inl hx), h.agree x hx⟩)
    (fun x hx => ⟨h.zmono x hx, h.old x (hr.zlt x hx) fun p hp e => hr.nz p hp (e ▸ hx)⟩) h.shapes h.sig

section
theorem within_congr {f g : Nat → Bool} : ∀ {al : List (Nat × Nat × HO)}, (∀ x ∈ al, f x.1 = g x.1) → within f al = within g al
  | [], _ => rfl
  | (i, h, o) :: r, hh => by
    have h1 : f i = g i := hh _ (.head _)
    simp only [within, h1, within_congr fun x hx => hh x (.tail _ hx)]
theorem within_append {f : Nat → Bool} : ∀ {a b : List (Nat × Nat × HO)}, within f (a ++ b) = within f a ++ within f b
  | [], _ => rfl
  | (i, h, o) :: r, b => by
    simp only [List.cons_append, within]
    split
    · rw [within_append]; rfl
    · rw [within_append]
theorem within_none {f : Nat → Bool} : ∀ {al : List (Nat × Nat × HO)}, (∀ x ∈ al, f x.1 = false) → within f al = []
  | [], _ => rfl
  | (i, h, o) :: r, hh => by
    have h1 : f i = false := hh _ (.head _)
    simp only [within, h1]
    exact within_none fun x hx => hh x (.tail _ hx)
theorem within_split {f g : Nat → Bool} : ∀ {al : List (Nat × Nat × HO)}, (∀ x ∈ al, g x.1 = true → f x.1 = true) → (within f al).Perm (within g al ++ within (fun i => f i && !g i) al)
  | [], _ => .refl _
  | (i, h, o) :: r, hh => by
    have ih := within_split fun x hx => hh x (.tail _ hx)
    have h1 : g i = true → f i = true := hh _ (.head _)
    simp only [within]
    cases hf : f i <;> cases hg : g i
    · simpa using ih
    · exact absurd (h1 hg) (by simp [hf])
    · simpa using (ih.cons (h, o)).trans List.perm_middle.symm
    · simpa using ih.cons (h, o)

theorem mem_maskOf {mask : Nat} : ∀ {al : List (Nat × Nat × HO)} {j : Nat}, (maskOf mask al).testBit j = true ↔ mask.testBit j = true ∧ ∃ x ∈ al, x.1 = j
  | [], j => by simp [maskOf]
  | (i, h, o) :: r, j => by
    simp only [maskOf]
    have ih := mem_maskOf (mask := mask) (al := r) (j := j)
    split
    · rename_i hi
      rw [Nat.testBit_or, Bool.or_eq_true, Nat.testBit_two_pow, ih]
      simp only [decide_eq_true_eq, List.mem_cons, exists_eq_or_imp]
      constructor
      · rintro (h | ⟨h1, h2⟩)
        · subst h; exact ⟨hi, .inl rfl⟩
        · exact ⟨h1, .inr h2⟩
      · rintro ⟨h1, h | h⟩
        · exact .inl h
        · exact .inr ⟨h1, h⟩
    · rename_i hi
      rw [ih]
      simp only [List.mem_cons, exists_eq_or_imp]
      constructor
      · rintro ⟨h1, h2⟩; exact ⟨h1, .inr h2⟩
      · rintro ⟨h1, h | h⟩
        · exact absurd h1 (by rw [← h]; simp [hi])
        · exact ⟨h1, h⟩

theorem only_get : ∀ {ts : List Nat} {fr : Fr} {t : Nat} {v : AV}, (only ts fr).get t = some v → t ∈ ts ∧ fr.get t = some v
  | [], _, _, _, h => by simp [only, Fr.get] at h
  | t' :: ts, fr, t, v, h => by
    simp only [only] at h
    split at h
    · rename_i u hu
      simp only [Fr.get] at h
      split at h
      · rename_i e
        cases h
        rw [← nbeq_true e]
        exact ⟨.head _, hu⟩
      · exact let ⟨a, b⟩ := only_get h; ⟨.tail _ a, b⟩
    · exact let ⟨a, b⟩ := only_get h; ⟨.tail _ a, b⟩

theorem Fr.get_put : ∀ (fr : Fr) (n : Nat) (v : AV) (t : Nat), (fr.put n v).get t = if n = t then some v else fr.get t
  | [], n, v, t => by
    simp only [Fr.put, Fr.get]
    split
    · rename_i e; simp [nbeq_true e]
    · rename_i e; simp [nbeq_false e]
  | (k, u) :: r, n, v, t => by
    simp only [Fr.put]
    split
    · rename_i e
      have e := nbeq_true e
      subst e
      simp only [Fr.get]
      split
      · rename_i e; simp [nbeq_true e]
      · rename_i e; simp [nbeq_false e]
    · rename_i e
      simp only [Fr.get, Fr.get_put r n v t]
      split
      · rename_i e2
        have := nbeq_false e
        have e2 := nbeq_true e2
        subst e2
        rw [if_neg (fun h => this h.symm)]
      · rfl

/-- What a frame holds when some operations are done. -/
def scan (L : Nat → Bool) (fr0 : Fr) (t : Nat) : List (Nat × Option Nat × AV) → Option AV
  | [] => fr0.get t
  | (i, d, v) :: r => match L i, d with
    | true, some d => if d = t then some v else scan L fr0 t r
    | _, _ => scan L fr0 t r

theorem scan_skip {L : Nat → Bool} {fr0 : Fr} {t : Nat} {r : List (Nat × Option Nat × AV)} : ∀ {nw : List (Nat × Option Nat × AV)}, (∀ x ∈ nw, L x.1 = true → x.2.1 ≠ some t) → scan L fr0 t (nw ++ r) = scan L fr0 t r
  | [], _ => rfl
  | (i, d, v) :: nw, h => by
    have ih := scan_skip (r := r) (fr0 := fr0) fun x hx => h x (.tail _ hx)
    have h1 : L i = true → d ≠ some t := h _ (.head _)
    simp only [List.cons_append, scan]
    split
    · rename_i d' hl
      rw [if_neg fun e => h1 hl (by rw [e]), ih]
    · exact ih
theorem scan_congr {L L' : Nat → Bool} {fr0 : Fr} {t : Nat} : ∀ {r : List (Nat × Option Nat × AV)}, (∀ x ∈ r, x.2.1 = some t → L x.1 = L' x.1) → scan L fr0 t r = scan L' fr0 t r
  | [], _ => rfl
  | (i, d, v) :: r, h => by
    have ih := scan_congr (fr0 := fr0) fun x hx => h x (.tail _ hx)
    have h1 : d = some t → L i = L' i := h _ (.head _)
    simp only [scan]
    cases d with
    | none => simpa using ih
    | some d =>
      by_cases e : d = t
      · subst e
        rw [h1 rfl, ih]
      · cases L i <;> cases L' i <;> simp [e, ih]

/-- The heap after those operations of the chain that are done. -/
def cur (L : Nat → Bool) : List (Nat × Nat) → List (Heap × Nat) → Option (Heap × Nat)
  | [], x :: _ => some x
  | (c, _) :: ch, x :: ms => match L c with
    | true => some x
    | false => cur L ch ms
  | _, [] => none

theorem cur_congr {L L' : Nat → Bool} : ∀ {ch : List (Nat × Nat)} {ms : List (Heap × Nat)}, (∀ c ∈ ch, L c.1 = L' c.1) → cur L ch ms = cur L' ch ms
  | [], [], _ => rfl
  | [], _ :: _, _ => rfl
  | (c, p) :: ch, [], _ => rfl
  | (c, p) :: ch, x :: ms, h => by
    have h1 : L c = L' c := h _ (.head _)
    simp only [cur, h1, cur_congr fun x hx => h x (.tail _ hx)]
theorem cur_skip {L : Nat → Bool} {ch : List (Nat × Nat)} {ms : List (Heap × Nat)} : ∀ {nc : List (Nat × Nat)} {nm : List (Heap × Nat)}, nm.length = nc.length → (∀ c ∈ nc, L c.1 = false) → cur L (nc ++ ch) (nm ++ ms) = cur L ch ms
  | [], [], _, _ => rfl
  | (c, p) :: nc, x :: nm, hl, h => by
    have h1 : L c = false := h _ (.head _)
    simp only [List.cons_append, cur, h1]
    exact cur_skip (by simpa using hl) fun x hx => h x (.tail _ hx)
  | [], _ :: _, hl, _ => by simp at hl
  | _ :: _, [], hl, _ => by simp at hl
theorem cur_head {L : Nat → Bool} {ch : List (Nat × Nat)} {x : Heap × Nat} {ms : List (Heap × Nat)} (h : ∀ c ∈ ch, L c.1 = true) : cur L ch (x :: ms) = some x := by
  cases ch with
  | nil => rfl
  | cons c ch =>
    have h1 : L c.1 = true := h _ (.head _)
    obtain ⟨c, p⟩ := c
    simp only [cur, h1]

/-- One operation of the run in the text's order. -/
inductive DStep (G : Cx) (call : Call) (i : Nat) (o : XOper) (d : XD) (s : DS) : DS → Prop where
  | skip : wantx (only d.looks s.fr) o.guard = some false → DStep G call i o d s { s with fr := putd s.fr o.dst (.tup []), tr := (i, o.dst, .tup []) :: s.tr }
  | pure (v : AV) : wantx (only d.looks s.fr) o.guard = some true → xo G noCall (only d.looks s.fr) [] s.nx o.op = some (v, [], s.nx) →
      DStep G call i o d s { s with fr := putd s.fr o.dst v, tr := (i, o.dst, v) :: s.tr }
  | read (v : AV) : wantx (only d.looks s.fr) o.guard = some true → kindOf o.op = 1 →
      DStep G call i o d s { s with fr := putd s.fr o.dst v, rd := ⟨i, o.op, only d.looks s.fr, d.preds, v⟩ :: s.rd, tr := (i, o.dst, v) :: s.tr }
  | alloc (v : AV) (ob : HO) : wantx (only d.looks s.fr) o.guard = some true → xo G noCall (only d.looks s.fr) [] s.nx o.op = some (v, [(s.nx, ob)], s.nx + 1) →
      DStep G call i o d s { s with fr := putd s.fr o.dst v, nx := s.nx + 1, al := (i, s.nx, ob) :: s.al, tr := (i, o.dst, v) :: s.tr }
  | chain (v : AV) (m : Heap) (inc : Nat) (ms : List (Heap × Nat)) (m' : Heap) (n : Nat) : wantx (only d.looks s.fr) o.guard = some true → s.ms = (m, inc) :: ms →
      (∀ c ∈ s.ch, d.preds.testBit c.1 = true) → xo G call (only d.looks s.fr) (within (but d.preds inc) s.al ++ m) s.nx o.op = some (v, m', n) →
      DStep G call i o d s { s with fr := putd s.fr o.dst v, nx := n, ms := (m', inc ||| maskOf d.preds s.al) :: s.ms, ch := (i, d.preds) :: s.ch, tr := (i, o.dst, v) :: s.tr }

theorem drawOp_step {G : Cx} {call : Call} {i : Nat} {o : XOper} {d : XD} {s s' : DS} (h : drawOp G call i o d s = some s') : DStep G call i o d s s' := by
  unfold drawOp at h
  simp only at h
  split at h
  · rename_i hw; cases h; exact .skip hw
  · rename_i hw
    split at h
    · split at h
      · rename_i v n hx
        split at h
        · rename_i hn
          cases h
          rw [nbeq_true hn] at hx
          exact .pure v hw hx
        · cases h
      · cases h
    · rename_i hk
      split at h
      · split at h
        · cases h; exact .read _ hw hk
        · cases h
      · cases h
    · split at h
      · rename_i v hh ob n hx
        split at h
        · rename_i hn
          split at h
          · rename_i hn2
            cases h
            rw [nbeq_true hn, nbeq_true hn2] at hx
            rw [nbeq_true hn, nbeq_true hn2]
            exact .alloc v ob hw hx
          · cases h
        · cases h
      · rename_i v n hx
        split at h
        · rename_i hn
          cases h
          rw [nbeq_true hn] at hx
          exact .pure v hw hx
        · cases h
      · cases h
    · split at h
      · rename_i m inc ms hms
        split at h
        · rename_i hc
          split at h
          · rename_i v m' n hx
            cases h
            exact .chain v m inc ms m' n hw hms (fun c hm => List.all_eq_true.1 hc c hm) hx
          · cases h
        · cases h
      · cases h
  · cases h

theorem drawOps_states {G : Cx} {call : Call} : ∀ {ops : List XOper} {ds : List XD} {i : Nat} {s s' : DS}, drawOps G call i ops ds s = some s' →
    ∃ st : Nat → DS, st 0 = s ∧ st ops.length = s' ∧ ∀ j o, ops[j]? = some o → ∃ d, ds[j]? = some d ∧ DStep G call (i + j) o d (st j) (st (j + 1))
  | [], ds, i, s, s', h => by
    simp only [drawOps] at h
    cases h
    exact ⟨fun _ => s, rfl, rfl, fun j o ho => by simp at ho⟩
  | o :: r, [], i, s, s', h => by simp [drawOps] at h
  | o :: r, d :: ds, i, s, s', h => by
    simp only [drawOps] at h
    split at h
    · rename_i s1 h1
      obtain ⟨st, e0, e1, e2⟩ := drawOps_states h
      refine ⟨fun | 0 => s | j + 1 => st j, rfl, by simpa using e1, fun j o' ho => ?_⟩
      cases j with
      | zero =>
        simp at ho
        subst ho
        exact ⟨d, rfl, by show DStep G call (i + 0) o d s (st 0); rw [e0]; exact drawOp_step h1⟩
      | succ j =>
        obtain ⟨d', h2, h3⟩ := e2 j o' (by simpa using ho)
        exact ⟨d', by simpa using h2, by rw [show i + (j + 1) = i + 1 + j by omega]; exact h3⟩
    · cases h

/-- A later state of the run. -/
structure Later (s s' : DS) (lo : Nat) : Prop where
  ch : ∃ nc nm, s'.ch = nc ++ s.ch ∧ s'.ms = nm ++ s.ms ∧ nm.length = nc.length ∧ ∀ c ∈ nc, lo ≤ c.1 ∧ ∀ c0 ∈ s.ch, c.2.testBit c0.1 = true
  al : ∃ na, s'.al = na ++ s.al ∧ ∀ x ∈ na, lo ≤ x.1
  tr : ∃ nt, s'.tr = nt ++ s.tr ∧ ∀ x ∈ nt, lo ≤ x.1
  rd : ∀ r ∈ s.rd, r ∈ s'.rd
  nx : s.nx ≤ s'.nx

theorem Later.refl (s : DS) (lo : Nat) : Later s s lo :=
  ⟨⟨[], [], rfl, rfl, rfl, fun c h => by simp at h⟩, ⟨[], rfl, fun c h => by simp at h⟩, ⟨[], rfl, fun c h => by simp at h⟩, fun _ h => h, Nat.le_refl _⟩
theorem Later.trans {a b c : DS} {lo lo' : Nat} (h : Later a b lo) (k : Later b c lo') (hl : lo ≤ lo') : Later a c lo := by
  obtain ⟨nc, nm, h1, h2, h3, h4⟩ := h.ch
  obtain ⟨nc', nm', k1, k2, k3, k4⟩ := k.ch
  obtain ⟨na, h5, h6⟩ := h.al
  obtain ⟨na', k5, k6⟩ := k.al
  obtain ⟨nt, h7, h8⟩ := h.tr
  obtain ⟨nt', k7, k8⟩ := k.tr
  refine ⟨⟨nc' ++ nc, nm' ++ nm, by rw [k1, h1, List.append_assoc], by rw [k2, h2, List.append_assoc], by simp [h3, k3], fun c hc => ?_⟩,
    ⟨na' ++ na, by rw [k5, h5, List.append_assoc], fun x hx => ?_⟩, ⟨nt' ++ nt, by rw [k7, h7, List.append_assoc], fun x hx => ?_⟩, fun r hr => k.rd r (h.rd r hr), Nat.le_trans h.nx k.nx⟩
  · rcases List.mem_append.1 hc with hc | hc
    · exact ⟨Nat.le_trans hl (k4 c hc).1, fun c0 h0 => (k4 c hc).2 c0 (h1 ▸ List.mem_append_right _ h0)⟩
    · exact h4 c hc
  · rcases List.mem_append.1 hx with hx | hx
    · exact Nat.le_trans hl (k6 x hx)
    · exact h6 x hx
  · rcases List.mem_append.1 hx with hx | hx
    · exact Nat.le_trans hl (k8 x hx)
    · exact h8 x hx

structure Low (s : DS) (i : Nat) : Prop where
  ch : ∀ c ∈ s.ch, c.1 < i
  al : ∀ c ∈ s.al, c.1 < i
  tr : ∀ c ∈ s.tr, c.1 < i

theorem DStep.ext {G : Cx} {call : Call} {i : Nat} {o : XOper} {d : XD} {s s' : DS} (hc : CallLe call) (h : DStep G call i o d s s') : Later s s' i := by
  have one : ∀ (v : AV), ∃ nt, (i, o.dst, v) :: s.tr = nt ++ s.tr ∧ ∀ x ∈ nt, i ≤ x.1 := fun v => ⟨[(i, o.dst, v)], rfl, fun x hx => by simp at hx; subst hx; exact Nat.le_refl _⟩
  have e := Later.refl s i
  cases h with
  | skip _ => exact { e with tr := one _ }
  | pure v _ _ => exact { e with tr := one _ }
  | read v _ _ => exact { e with tr := one _, rd := fun r hr => .tail _ hr }
  | alloc v ob _ _ => exact { e with tr := one _, al := ⟨[_], rfl, fun x hx => by simp at hx; subst hx; exact Nat.le_refl _⟩, nx := Nat.le_succ _ }
  | chain v m inc ms m' n _ hms hch hx =>
    exact { e with tr := one _, ch := ⟨[_], [_], rfl, rfl, rfl, fun c hm => by simp at hm; subst hm; exact ⟨Nat.le_refl _, hch⟩⟩, nx := xo_le hc (xo_eq.symm.trans hx) }
theorem DStep.low {G : Cx} {call : Call} {i : Nat} {o : XOper} {d : XD} {s s' : DS} (h : DStep G call i o d s s') (l : Low s i) : Low s' (i + 1) := by
  have up : Low s (i + 1) := ⟨fun c h => Nat.lt_succ_of_lt (l.ch c h), fun c h => Nat.lt_succ_of_lt (l.al c h), fun c h => Nat.lt_succ_of_lt (l.tr c h)⟩
  have one : ∀ (v : AV), ∀ c ∈ (i, o.dst, v) :: s.tr, c.1 < i + 1 := fun v c hc => by
    rcases List.mem_cons.1 hc with hc | hc
    · subst hc; exact Nat.lt_succ_self _
    · exact up.tr c hc
  cases h with
  | skip _ => exact { up with tr := one _ }
  | pure v _ _ => exact { up with tr := one _ }
  | read v _ _ => exact { up with tr := one _ }
  | alloc v ob _ _ =>
    refine { up with tr := one _, al := fun c hc => ?_ }
    rcases List.mem_cons.1 hc with hc | hc
    · subst hc; exact Nat.lt_succ_self _
    · exact up.al c hc
  | chain v m inc ms m' n _ hms hch hx =>
    refine { up with tr := one _, ch := fun c hc => ?_ }
    rcases List.mem_cons.1 hc with hc | hc
    · subst hc; exact Nat.lt_succ_self _
    · exact up.ch c hc
/-- The trace's own word. -/
theorem DStep.word {G : Cx} {call : Call} {i : Nat} {o : XOper} {d : XD} {s s' : DS} (h : DStep G call i o d s s') : ∃ v, s'.tr = (i, o.dst, v) :: s.tr ∧ s'.fr = putd s.fr o.dst v := by
  cases h <;> exact ⟨_, rfl, rfl⟩

end
end Go.Sy

/- Regions that draw their order: one operation, wherever it comes. No condition. -/
namespace Go.Sy

theorem compOper_dst {P : Program} {ops : Array Oper} {o : Oper} : (compOper P ops o).dst = o.dst := by
  unfold compOper
  split
  · rfl
  · split <;> rfl
/-- An operation that is no refusal is compiled, and so is its guard. -/
theorem compOper_none {P : Program} {ops : Array Oper} {o : Oper} (h : o.guard = none) : compOper P ops o = ⟨o.dst, (compOp P o.op).getD .bad, none⟩ := by
  simp [compOper, h]
theorem compOper_slot {P : Program} {ops : Array Oper} {o : Oper} {j s : Nat} {b : Bool} (h : o.guard = some (j, b)) (hs : (ops[j]?).bind (·.dst) = some s) : compOper P ops o = ⟨o.dst, (compOp P o.op).getD .bad, some (s, b)⟩ := by
  simp [compOper, h, hs]
theorem compOper_lost {P : Program} {ops : Array Oper} {o : Oper} {j : Nat} {b : Bool} (h : o.guard = some (j, b)) (hs : (ops[j]?).bind (·.dst) = none) : compOper P ops o = ⟨o.dst, .bad, none⟩ := by
  simp [compOper, h, hs]
theorem compOper_op {P : Program} {ops : Array Oper} {o : Oper} (h : (compOper P ops o).op ≠ .bad) : compOp P o.op = some (compOper P ops o).op := by
  have key : ((compOp P o.op).getD .bad) ≠ .bad → compOp P o.op = some ((compOp P o.op).getD .bad) := fun h => by
    cases hc : compOp P o.op with
    | none => simp [hc] at h
    | some y => rfl
  cases hg : o.guard with
  | none => rw [compOper_none hg] at *; exact key h
  | some jb =>
    obtain ⟨j, b⟩ := jb
    cases hs : (ops[j]?).bind (·.dst) with
    | none => rw [compOper_lost hg hs] at h; exact absurd rfl h
    | some s => rw [compOper_slot hg hs] at *; exact key h
theorem wantx_sound {P : Program} {ops : Array Oper} {o : Oper} {E : Env} {w : World} {fr : Fr} {a : Act} {nt : Nat} {b : Bool} (hf : FrR E w fr a nt) (h : wantx fr (compOper P ops o).guard = some b)
    (hb : b = false ∨ (compOper P ops o).op ≠ .bad) : Region.wanted o (yielded ops a.tmps) = b := by
  cases hg : o.guard with
  | none =>
    rw [compOper_none hg] at h
    simp only [wantx, Option.some.injEq] at h
    subst h
    simp [Region.wanted, hg]
  | some jb =>
    obtain ⟨j, want⟩ := jb
    cases hs : (ops[j]?).bind (·.dst) with
    | some s =>
      rw [compOper_slot hg hs] at h
      simp only [wantx] at h
      split at h
      · rename_i c hc
        have h1 := (hf.get s _ hc).of_bool
        have h2 : a.tmps[s]? = some (.bool c) := by
          rw [Array.getD_eq_getD_getElem?] at h1
          cases e : a.tmps[s]? with
          | none => rw [e] at h1; simp [undef] at h1
          | some u => rw [e] at h1; simpa using h1
        have h3 : yielded ops a.tmps j = some c := by simp [yielded, hs, h2]
        simp only [Region.wanted, hg, h3]
        simp only [Option.some.injEq] at h
        rw [← h]
        cases c <;> cases want <;> rfl
      · rename_i hc
        cases h
        have h1 : a.tmps.getD s undef = .tuple #[] := by
          obtain ⟨vs, e1, e2⟩ := (hf.get s _ hc).of_tup
          have : vs = #[] := by
            have := e2.of_nil
            cases vs; simp_all
          rw [e1, this]
        have h3 : yielded ops a.tmps j = none := by
          simp only [yielded, hs, Option.bind_some]
          rw [Array.getD_eq_getD_getElem?] at h1
          cases e : a.tmps[s]? with
          | none => rfl
          | some u => rw [e] at h1; simp at h1; subst h1; rfl
        simp [Region.wanted, hg, h3]
      · cases h
    | none =>
      rw [compOper_lost hg hs] at h hb
      simp only [wantx, Option.some.injEq] at h
      subst h
      simp at hb

structure DRun (P : Program) (G : Cx) (call : Call) (ops : Array Oper) (ds : List XD) (st : Nat → DS) (H0 : Heap) (fr0 : Fr) (nx0 nt : Nat) : Prop where
  step : ∀ (j : Nat) (o : Oper), ops[j]? = some o → ∃ d, ds[j]? = some d ∧ DStep G call j (compOper P ops o) d (st j) (st (j + 1))
  init : st 0 = ⟨fr0, nx0, [(H0, 0)], [], [], [], []⟩
  apart : ∀ (j k : Nat) (oj ok : Oper) (dj dk : XD), j < k → ops[j]? = some oj → ops[k]? = some ok → ds[j]? = some dj → ds[k]? = some dk → dk.preds.testBit j = true ∨ apartB oj.dst dj ok.dst dk = true
  low : ∀ (j : Nat) (d : XD) (k : Nat), ds[j]? = some d → d.preds.testBit k = true → k < j
  dst : ∀ (j : Nat) (o : Oper) (d : Nat), ops[j]? = some o → o.dst = some d → d < nt
  reads : ∀ r ∈ (st ops.size).rd, readOk G (st ops.size).al (st ops.size).nx r (st ops.size).ch (st ops.size).ms = true

namespace DRun
variable {P : Program} {G : Cx} {call : Call} {ops : Array Oper} {ds : List XD} {st : Nat → DS} {H0 : Heap} {fr0 : Fr} {nx0 nt : Nat}

theorem get (_ : DRun P G call ops ds st H0 fr0 nx0 nt) {j : Nat} (h : j < ops.size) : ∃ o, ops[j]? = some o := ⟨ops[j], Array.getElem?_eq_getElem h⟩

theorem lows (R : DRun P G call ops ds st H0 fr0 nx0 nt) : ∀ j, j ≤ ops.size → Low (st j) j
  | 0, _ => by rw [R.init]; exact ⟨fun c h => by simp at h, fun c h => by simp at h, fun c h => by simp at h⟩
  | j + 1, hj => by
    obtain ⟨o, ho⟩ := R.get (j := j) hj
    obtain ⟨d, _, hs⟩ := R.step j o ho
    exact hs.low (R.lows j (Nat.le_of_lt hj))
theorem later (hc : CallLe call) (R : DRun P G call ops ds st H0 fr0 nx0 nt) (i : Nat) : ∀ k, i + k ≤ ops.size → Later (st i) (st (i + k)) i
  | 0, _ => .refl _ _
  | k + 1, hj => by
    obtain ⟨o, ho⟩ := R.get (j := i + k) hj
    obtain ⟨d, _, hs⟩ := R.step _ o ho
    exact (R.later hc i k (Nat.le_of_lt hj)).trans (hs.ext hc) (Nat.le_add_right _ _)
theorem last (hc : CallLe call) (R : DRun P G call ops ds st H0 fr0 nx0 nt) {i : Nat} (hi : i ≤ ops.size) : Later (st i) (st ops.size) i := by
  have := R.later hc i (ops.size - i) (by omega)
  rwa [show i + (ops.size - i) = ops.size by omega] at this
theorem mono (hc : CallLe call) (R : DRun P G call ops ds st H0 fr0 nx0 nt) {i j : Nat} (hij : i ≤ j) (hj : j ≤ ops.size) : (st i).nx ≤ (st j).nx := by
  have := (R.later hc i (j - i) (by omega)).nx
  rwa [show i + (j - i) = j by omega] at this

theorem words (R : DRun P G call ops ds st H0 fr0 nx0 nt) : ∀ j, j ≤ ops.size → ∀ x ∈ (st j).tr, ∃ o, ops[x.1]? = some o ∧ x.2.1 = o.dst
  | 0, _ => by rw [R.init]; intro x h; simp at h
  | j + 1, hj => by
    obtain ⟨o, ho⟩ := R.get (j := j) hj
    obtain ⟨d, _, hs⟩ := R.step j o ho
    obtain ⟨v, e, _⟩ := hs.word
    intro x hx
    rw [e] at hx
    rcases List.mem_cons.1 hx with hx | hx
    · subst hx; exact ⟨o, ho, compOper_dst⟩
    · exact R.words j (Nat.le_of_lt hj) x hx
theorem frames (R : DRun P G call ops ds st H0 fr0 nx0 nt) (t : Nat) : ∀ j, j ≤ ops.size → scan (fun _ => true) fr0 t (st j).tr = (st j).fr.get t
  | 0, _ => by rw [R.init]; rfl
  | j + 1, hj => by
    obtain ⟨o, ho⟩ := R.get (j := j) hj
    obtain ⟨d, _, hs⟩ := R.step j o ho
    obtain ⟨v, e, e2⟩ := hs.word
    rw [e, e2]
    have ih := R.frames t j (Nat.le_of_lt hj)
    cases hd : (compOper P ops o).dst with
    | none => simpa [scan, putd] using ih
    | some s => simp only [scan, putd, Fr.get_put, ih]
theorem chains (R : DRun P G call ops ds st H0 fr0 nx0 nt) : ∀ j, j ≤ ops.size → ∀ c ∈ (st j).ch, ∃ d, ds[c.1]? = some d ∧ c.2 = d.preds
  | 0, _ => by rw [R.init]; intro x h; simp at h
  | j + 1, hj => by
    obtain ⟨o, ho⟩ := R.get (j := j) hj
    obtain ⟨d, hd, hs⟩ := R.step j o ho
    have ih := R.chains j (Nat.le_of_lt hj)
    generalize hst : st (j + 1) = s' at hs
    generalize hst0 : st j = s at hs ih
    cases hs with
    | chain v m inc ms m' n _ _ _ _ =>
      intro c hc
      rcases List.mem_cons.1 hc with hc | hc
      · subst hc; exact ⟨d, hd, rfl⟩
      · exact ih c hc
    | _ => exact ih

/-- What holds when the operations in L are done. -/
structure Inv (dl : List Deferred) (st : Nat → DS) (n : Nat) (E0 : Env) (H0 : Heap) (w0 : World) (fr0 : Fr) (nt : Nat) (L : Nat → Bool) (E : Env) (w : World) (a : Act) : Prop where
  size : a.tmps.size = nt
  defers : a.defers = dl
  fr : ∀ t v, scan L fr0 t (st n).tr = some v → VR E w v (a.tmps.getD t undef)
  heap : ∃ m inc, cur L (st n).ch (st n).ms = some (m, inc) ∧ (∀ j, inc.testBit j = true → L j = true) ∧ HR E (within (fun j => L j && !inc.testBit j) (st n).al ++ m) w ∧
    TrS E0 H0 w0 E (within (fun j => L j && !inc.testBit j) (st n).al ++ m) w fun h => ∃ j, j < n ∧ L j = true ∧ (st j).nx ≤ h ∧ h < (st (j + 1)).nx

theorem memb_iff {n : Nat} : ∀ {l : List Nat}, memb n l = true ↔ n ∈ l
  | [] => by simp [memb]
  | a :: r => by
    simp only [memb]
    split
    · rename_i h; simp [nbeq_true h]
    · rename_i h
      have := nbeq_false h
      rw [memb_iff]; simp [this]
theorem apartB_spec {x y : Option Nat} {dx dy : XD} (h : apartB x dx y dy = true) : (∀ d, x = some d → d ∉ dy.looks) ∧ (∀ d, y = some d → d ∉ dx.looks) ∧ (∀ d, x = some d → y ≠ some d) := by
  simp only [apartB, Bool.and_eq_true] at h
  obtain ⟨⟨h1, h2⟩, h3⟩ := h
  refine ⟨fun d e hm => ?_, fun d e hm => ?_, fun d e e2 => ?_⟩
  · subst e; simp [memb_iff.2 hm] at h1
  · subst e; simp [memb_iff.2 hm] at h2
  · subst e; subst e2; simp at h3

section
variable {dl : List Deferred} {E0 E : Env} {w0 w : World} {a : Act} {L L' : Nat → Bool} {i : Nat} {o : Oper} {d : XD}

/-- What an operation looks at is there. -/
theorem looked (hc : CallLe call) (R : DRun P G call ops ds st H0 fr0 nx0 nt) (ho : ops[i]? = some o) (hd : ds[i]? = some d) (hL : L i = false)
    (hcl : ∀ (k : Nat) (dk : XD), L k = true → ds[k]? = some dk → ∀ j, dk.preds.testBit j = true → L j = true) (hpre : ∀ j, d.preds.testBit j = true → L j = true)
    (inv : Inv dl st ops.size E0 H0 w0 fr0 nt L E w a) : FrR E w (only d.looks (st i).fr) a nt := by
  have hi : i < ops.size := (Array.getElem?_eq_some_iff.1 ho).1
  refine ⟨inv.size, fun t v ht => ?_⟩
  obtain ⟨m1, m2⟩ := only_get ht
  apply inv.fr
  rw [← m2, ← R.frames t i (Nat.le_of_lt hi)]
  obtain ⟨nw, e1, e2⟩ := (R.last hc (Nat.le_of_lt hi)).tr
  rw [e1, scan_skip]
  · apply scan_congr
    intro x hx hxt
    obtain ⟨oj, h1, h2⟩ := R.words i (Nat.le_of_lt hi) x hx
    have hlt := (R.lows i (Nat.le_of_lt hi)).tr x hx
    obtain ⟨dj, h3, _⟩ := R.step _ _ h1
    rcases R.apart _ _ _ _ _ _ hlt h1 ho h3 hd with h4 | h4
    · exact hpre _ h4
    · exact absurd m1 ((apartB_spec h4).1 t (by rw [← h2]; exact hxt))
  · intro x hx hl hxt
    obtain ⟨oj, h1, h2⟩ := R.words ops.size (Nat.le_refl _) x (e1 ▸ List.mem_append_left _ hx)
    have hge := e2 x hx
    have hlt : i < x.1 := by
      rcases Nat.eq_or_lt_of_le hge with h | h
      · rw [← h, hL] at hl; cases hl
      · exact h
    obtain ⟨dj, h3, _⟩ := R.step _ _ h1
    rcases R.apart _ _ _ _ _ _ hlt ho h1 hd h3 with h4 | h4
    · have := hcl _ _ hl h3 _ h4
      rw [hL] at this; cases this
    · exact (apartB_spec h4).2.1 t (by rw [← h2]; exact hxt) m1

/-- The frame behind an operation. -/
theorem behind (hc : CallLe call) (R : DRun P G call ops ds st H0 fr0 nx0 nt) (ho : ops[i]? = some o) (hd : ds[i]? = some d) (hL : L i = false) (hL' : ∀ j, L' j = (L j || j == i))
    (hcl : ∀ (k : Nat) (dk : XD), L k = true → ds[k]? = some dk → ∀ j, dk.preds.testBit j = true → L j = true)
    (inv : Inv dl st ops.size E0 H0 w0 fr0 nt L E w a) {E' : Env} {w' : World} {v : AV} {cv : Value} (hw : (st (i + 1)).tr = (i, (compOper P ops o).dst, v) :: (st i).tr)
    (hmono : ∀ {v cv}, VR E w v cv → VR E' w' v cv) (hv : VR E' w' v cv) : ∀ t u, scan L' fr0 t (st ops.size).tr = some u → VR E' w' u ((a.put o.dst cv).tmps.getD t undef) := by
  have hi : i < ops.size := (Array.getElem?_eq_some_iff.1 ho).1
  intro t u hu
  by_cases hdt : o.dst = some t
  · obtain ⟨nw, e1, e2⟩ := (R.last hc (i := i + 1) hi).tr
    rw [e1, scan_skip, hw] at hu
    · have h1 : L' i = true := by simp [hL']
      rw [compOper_dst, hdt] at hu
      simp only [scan, h1, if_true, Option.some.injEq] at hu
      subst hu
      have hlt : t < a.tmps.size := by rw [inv.size]; exact R.dst i o t ho hdt
      simpa [Act.put, hdt, Array.getElem?_setIfInBounds, hlt] using hv
    · intro x hx hl hxt
      have hge := e2 x hx
      have hl : L x.1 = true := by
        rw [hL'] at hl
        have : (x.1 == i) = false := by simp; omega
        simpa [this] using hl
      obtain ⟨oj, h1, h2⟩ := R.words ops.size (Nat.le_refl _) x (e1 ▸ List.mem_append_left _ hx)
      obtain ⟨dj, h3, _⟩ := R.step _ _ h1
      rcases R.apart i x.1 _ _ _ _ (by omega) ho h1 hd h3 with h4 | h4
      · have := hcl _ _ hl h3 _ h4
        rw [hL] at this; cases this
      · exact (apartB_spec h4).2.2 t hdt (by rw [← h2]; exact hxt)
  · rw [scan_congr (L' := L)] at hu
    · have h1 := hmono (inv.fr t u hu)
      have h2 : (a.put o.dst cv).tmps.getD t undef = a.tmps.getD t undef := by
        unfold Act.put
        split
        · rename_i dd hdd
          have : dd ≠ t := fun e => hdt (by rw [hdd, e])
          simp [Array.getElem?_setIfInBounds_ne this]
        · rfl
      rw [h2]; exact h1
    · intro x hx hxt
      obtain ⟨oj, h1, h2⟩ := R.words ops.size (Nat.le_refl _) x hx
      rw [hL']
      have : x.1 ≠ i := fun e => by
        rw [e, ho] at h1
        cases h1
        exact hdt (by rw [← h2]; exact hxt)
      simp [this]

/-- Indices at which nothing lies. -/
theorem no_al (hc : CallLe call) (R : DRun P G call ops ds st H0 fr0 nx0 nt) (hi : i < ops.size) (h : (st (i + 1)).al = (st i).al) : ∀ x ∈ (st ops.size).al, x.1 ≠ i := by
  obtain ⟨na, e1, e2⟩ := (R.last hc (i := i + 1) hi).al
  intro x hx
  rw [e1, h] at hx
  rcases List.mem_append.1 hx with hx | hx
  · have := e2 x hx; omega
  · have := (R.lows i (Nat.le_of_lt hi)).al x hx; omega
theorem no_ch (hc : CallLe call) (R : DRun P G call ops ds st H0 fr0 nx0 nt) (hi : i < ops.size) (h : (st (i + 1)).ch = (st i).ch) : ∀ x ∈ (st ops.size).ch, x.1 ≠ i := by
  obtain ⟨nc, nm, e1, _, _, e2⟩ := (R.last hc (i := i + 1) hi).ch
  intro x hx
  rw [e1, h] at hx
  rcases List.mem_append.1 hx with hx | hx
  · have := (e2 x hx).1; omega
  · have := (R.lows i (Nat.le_of_lt hi)).ch x hx; omega

theorem fresh_at (hc : CallLe call) (R : DRun P G call ops ds st H0 fr0 nx0 nt) (hi : i < ops.size) (hL : L i = false) (hfr : Fresh E0 nx0 (st ops.size).nx) {H : Heap}
    (ht : TrS E0 H0 w0 E H w fun h => ∃ j, j < ops.size ∧ L j = true ∧ (st j).nx ≤ h ∧ h < (st (j + 1)).nx) : Fresh E (st i).nx (st (i + 1)).nx := by
  intro h h1 h2 hD
  rcases (ht.dom h).1 hD with h3 | ⟨j, hj, hl, h4, h5⟩
  · have e0 : (st 0).nx = nx0 := by rw [R.init]
    have := R.mono hc (Nat.zero_le i) (Nat.le_of_lt hi)
    have := R.mono hc (i := i + 1) hi (Nat.le_refl _)
    exact hfr h (by omega) (by omega) h3
  · rcases Nat.lt_trichotomy i j with h | h | h
    · have := R.mono hc (i := i + 1) (j := j) h (Nat.le_of_lt hj); omega
    · subst h; rw [hL] at hl; cases hl
    · have := R.mono hc (i := j + 1) (j := i) h (Nat.le_of_lt hi); omega

theorem new_iff (hi : i < ops.size) (hL' : ∀ j, L' j = (L j || j == i)) (h : Nat) :
    (∃ j, j < ops.size ∧ L' j = true ∧ (st j).nx ≤ h ∧ h < (st (j + 1)).nx) ↔ (∃ j, j < ops.size ∧ L j = true ∧ (st j).nx ≤ h ∧ h < (st (j + 1)).nx) ∨ ((st i).nx ≤ h ∧ h < (st (i + 1)).nx) := by
  constructor
  · rintro ⟨j, h1, h2, h3⟩
    rw [hL', Bool.or_eq_true, beq_iff_eq] at h2
    rcases h2 with h2 | h2
    · exact .inl ⟨j, h1, h2, h3⟩
    · subst h2; exact .inr h3
  · rintro (⟨j, h1, h2, h3⟩ | h3)
    · exact ⟨j, h1, by rw [hL', h2]; rfl, h3⟩
    · exact ⟨i, hi, by simp [hL'], h3⟩

/-- A read sees nothing else, wherever it comes. -/
theorem read_sound {r : DRead} {al : List (Nat × Nat × HO)} {nx : Nat} (hi : L r.i = false) (hpre : ∀ j, r.preds.testBit j = true → L j = true) :
    ∀ {ch : List (Nat × Nat)} {ms : List (Heap × Nat)} {m : Heap} {inc : Nat}, (∀ c ∈ ch, L c.1 = true → ∀ j, c.2.testBit j = true → L j = true) → readOk G al nx r ch ms = true → cur L ch ms = some (m, inc) → readAt G al nx r m inc = true
  | [], x :: ms, m, inc, _, h, hcur => by
    simp only [cur, Option.some.injEq] at hcur
    subst hcur
    simpa [readOk] using h
  | [], [], m, inc, _, h, hcur => by simp [cur] at hcur
  | c :: ch, [], m, inc, _, h, hcur => by simp [cur] at hcur
  | (c, p) :: ch, (m0, inc0) :: ms, m, inc, hch, h, hcur => by
    have h1 : L c = true → ∀ j, p.testBit j = true → L j = true := hch _ (.head _)
    simp only [cur] at hcur
    simp only [readOk] at h
    split at hcur
    · rename_i hl
      cases hcur
      split at h
      · exact h
      · split at h
        · rename_i hp
          have := h1 hl _ hp
          rw [hi] at this; cases this
        · split at h
          · rename_i hr; exact hr
          · cases h
    · rename_i hl
      split at h
      · rename_i hp
        have := hpre _ hp
        rw [hl] at this; cases this
      · have ih := fun h => read_sound (al := al) (nx := nx) (ch := ch) (ms := ms) (m := m) (inc := inc) hi hpre (fun x hx => hch x (.tail _ hx)) h hcur
        split at h
        · exact ih h
        · split at h
          · exact ih h
          · cases h
end
end DRun
end Go.Sy

/- Regions that draw their order: every order. No condition. -/
namespace Go.Sy
namespace DRun
variable {P : Program} {G : Cx} {call : Call} {ops : Array Oper} {ds : List XD} {st : Nat → DS} {H0 : Heap} {fr0 : Fr} {nx0 nt : Nat}
variable {dl : List Deferred} {E0 E : Env} {w0 w : World} {a : Act} {L L' : Nat → Bool} {i : Nat} {o : Oper} {d : XD}

theorem put_defers {a : Act} {d : Option Nat} {v : Value} : (a.put d v).defers = a.defers := by
  unfold Act.put; split <;> rfl
theorem put_size {a : Act} {d : Option Nat} {v : Value} : (a.put d v).tmps.size = a.tmps.size := by
  unfold Act.put; split <;> simp

theorem wpOp_of {Q : Exit → Act → World → Prop} {K : Act → World → Prop} (ho : ops[i]? = some o) (hw : Region.wanted o (yielded ops a.tmps) = true) (h : o.wp P a w K Q) : wpOp P ops Q i K a w := by
  unfold wpOp
  simp only [ho, hw, if_true]
  exact .inl h
theorem wpOp_not {Q : Exit → Act → World → Prop} {K : Act → World → Prop} (ho : ops[i]? = some o) (hw : Region.wanted o (yielded ops a.tmps) = false) (h : K (a.put o.dst undef) w) : wpOp P ops Q i K a w := by
  unfold wpOp
  simp only [ho, hw]
  exact h

theorem perm3 {α : Type} (a b c : List α) : (a ++ b ++ c).Perm (a ++ c ++ b) := by
  rw [List.append_assoc, List.append_assoc]
  exact List.perm_append_comm.append_left a

theorem exec (hcall : CallOK P G call) (hm : MethOK P G) (R : DRun P G call ops ds st H0 fr0 nx0 nt) (hr0 : HR E0 H0 w0) (hg0 : GR G E0 w0) (hfr : Fresh E0 nx0 (st ops.size).nx)
    (ho : ops[i]? = some o) (hL : L i = false) (hL' : ∀ j, L' j = (L j || j == i))
    (hcl : ∀ (k : Nat) (dk : XD), L k = true → ds[k]? = some dk → ∀ j, dk.preds.testBit j = true → L j = true) (hpre : ∀ d, ds[i]? = some d → ∀ j, d.preds.testBit j = true → L j = true)
    (inv : Inv dl st ops.size E0 H0 w0 fr0 nt L E w a) {K : Act → World → Prop} {Q : Exit → Act → World → Prop} (hK : ∀ E' a' w', Inv dl st ops.size E0 H0 w0 fr0 nt L' E' w' a' → K a' w') : wpOp P ops Q i K a w := by
  have hc : CallLe call := hcall.le
  have hi : i < ops.size := (Array.getElem?_eq_some_iff.1 ho).1
  obtain ⟨d, hd, hs⟩ := R.step i o ho
  have hpre := hpre d hd
  have hfF := looked hc R ho hd hL hcl hpre inv
  obtain ⟨m, inc, hcur, hinc, hr, ht⟩ := inv.heap
  have hg : GR G E w := fun g v hv => ht.vr hr0 (hg0 g v hv)
  have hfE := fresh_at hc R hi hL hfr ht
  have hmem : ∀ {j : Nat}, L' j = true ↔ L j = true ∨ j = i := fun {j} => by rw [hL']; simp
  -- the new state
  have close : ∀ {E' : Env} {w' : World} {v : AV} {cv : Value} {m' : Heap} {inc' : Nat}, (st (i + 1)).tr = (i, (compOper P ops o).dst, v) :: (st i).tr → VR E' w' v cv → cur L' (st ops.size).ch (st ops.size).ms = some (m', inc') →
      (∀ j, inc'.testBit j = true → L' j = true) → HR E' (within (fun j => L' j && !inc'.testBit j) (st ops.size).al ++ m') w' →
      Tr E (within (fun j => L j && !inc.testBit j) (st ops.size).al ++ m) w E' (within (fun j => L' j && !inc'.testBit j) (st ops.size).al ++ m') w' (st i).nx (st (i + 1)).nx → K (a.put o.dst cv) w' := by
    intro E' w' v cv m' inc' hw hv h1 h2 h3 h4
    refine hK E' _ w' ⟨by rw [put_size]; exact inv.size, by rw [put_defers]; exact inv.defers, behind hc R ho hd hL hL' hcl inv hw (h4.vr hr) hv, m', inc', h1, h2, h3, ht.step h4 fun h => new_iff hi hL' h⟩
  -- a step that leaves handles and heaps as they lie
  have same : ∀ {E' : Env} {w' : World} {v : AV} {cv : Value}, (st (i + 1)).tr = (i, (compOper P ops o).dst, v) :: (st i).tr → VR E' w' v cv → (st (i + 1)).al = (st i).al → (st (i + 1)).ch = (st i).ch → (st (i + 1)).nx = (st i).nx →
      HR E' (within (fun j => L j && !inc.testBit j) (st ops.size).al ++ m) w' →
      Tr E (within (fun j => L j && !inc.testBit j) (st ops.size).al ++ m) w E' (within (fun j => L j && !inc.testBit j) (st ops.size).al ++ m) w' (st i).nx (st i).nx → K (a.put o.dst cv) w' := by
    intro E' w' v cv hw hv h1 h2 h3 h4 h5
    have e1 : cur L' (st ops.size).ch (st ops.size).ms = some (m, inc) := by
      rw [← hcur]
      refine cur_congr fun c hcm => ?_
      have := no_ch hc R hi h2 c hcm
      rw [hL']; simp [this]
    have e2 : within (fun j => L' j && !inc.testBit j) (st ops.size).al = within (fun j => L j && !inc.testBit j) (st ops.size).al := by
      refine within_congr fun x hx => ?_
      have := no_al hc R hi h1 x hx
      have e : L' x.1 = L x.1 := by rw [hL']; simp [this]
      simp only [e]
    refine close hw hv e1 (fun j hj => hmem.2 (.inl (hinc j hj))) (by rw [e2]; exact h4) ?_
    rw [e2, h3]; exact h5
  obtain ⟨nw, ew1, ew2⟩ := (R.last hc (i := i + 1) hi).al
  obtain ⟨nc, nm, ec1, ec2, ec3, ec4⟩ := (R.last hc (i := i + 1) hi).ch
  have low := R.lows i (Nat.le_of_lt hi)
  generalize hst : st (i + 1) = s1 at hs
  have hst' := hst
  cases hs with
  | skip hwant =>
    exact wpOp_not ho (wantx_sound hfF hwant (.inl rfl)) (same (v := .tup []) (cv := undef) (by rw [hst]) (VR.mk_tup (vs := #[]) VRs.nil) (by rw [hst]) (by rw [hst]) (by rw [hst]) hr (.refl _))
  | pure v hwant hx =>
    have hbad : (compOper P ops o).op ≠ .bad := fun e => by rw [e] at hx; simp [xo, xo_bad] at hx
    have hr' : HR E ([] ++ (within (fun j => L j && !inc.testBit j) (st ops.size).al ++ m)) w := hr
    refine wpOp_of ho (wantx_sound hfF hwant (.inr hbad)) (any_exec (hr.sub (List.nil_sublist _)) hfF hg hm callOK_none (compOper_op hbad) (fun h h1 h2 => by omega) (xo_eq.symm.trans hx) K Q fun cv E' w' h1 h2 h3 => ?_)
    obtain ⟨f1, f2⟩ := Tr.frame hr' h1 h2
    exact same (v := v) (by rw [hst]) h3 (by rw [hst]) (by rw [hst]) (by rw [hst]) f1 f2
  | read v hwant hk =>
    have hrd := R.reads _ ((R.last hc (i := i + 1) hi).rd ⟨i, (compOper P ops o).op, only d.looks (st i).fr, d.preds, v⟩ (by rw [hst]; exact .head _))
    have hat := read_sound (L := L) hL hpre (fun c hcm hl j hj => by
      obtain ⟨dc, h1, h2⟩ := R.chains ops.size (Nat.le_refl _) c hcm
      exact hcl _ _ hl h1 j (h2 ▸ hj)) hrd hcur
    unfold readAt at hat
    split at hat
    · rename_i v' H1 n1 hx
      have := aeq_sound _ _ _ hat
      simp only at this hx
      subst this
      obtain ⟨e1, e2⟩ := xo_read hk (xo_eq.symm.trans hx)
      subst e1; subst e2
      have hbad : (compOper P ops o).op ≠ .bad := fun e => by rw [e] at hk; cases hk
      have hp := within_split (f := fun j => L j && !inc.testBit j) (g := but d.preds inc) (al := (st ops.size).al) fun x _ hx => by
        simp only [but, Bool.and_eq_true] at hx
        simp only [hpre _ hx.1, hx.2, Bool.and_self]
      have hp2 := (hp.append_right m).trans (perm3 _ _ _)
      have hr2 := hr.perm hp2
      refine wpOp_of ho (wantx_sound hfF hwant (.inr hbad)) (any_exec (hr2.sub (List.sublist_append_left _ _)) hfF hg hm callOK_none (compOper_op hbad) (fun h h1 h2 => by omega) (xo_eq.symm.trans hx) K Q fun cv E' w' h1 h2 h3 => ?_)
      obtain ⟨f1, f2⟩ := Tr.frame hr2 h1 h2
      have f3 := f2.perm hp2.symm hp2.symm
      exact same (v := v') (by rw [hst]) h3 (by rw [hst]) (by rw [hst]) (by rw [hst]) (f1.perm hp2.symm) ⟨Nat.le_refl _, f3.agree, fun h => (f3.dom h).trans ⟨Or.imp id fun ⟨a, b⟩ => by omega, Or.imp id fun ⟨a, b⟩ => by omega⟩, f3.zmono, f3.znew, f3.own, f3.tape, f3.os, f3.output, f3.size, f3.old, f3.shapes, f3.sig⟩
    · cases hat
  | alloc v ob hwant hx =>
    have hbad : (compOper P ops o).op ≠ .bad := fun e => by rw [e] at hx; simp [xo, xo_bad] at hx
    have hr' : HR E ([] ++ (within (fun j => L j && !inc.testBit j) (st ops.size).al ++ m)) w := hr
    rw [hst] at hfE
    refine wpOp_of ho (wantx_sound hfF hwant (.inr hbad)) (any_exec (hr.sub (List.nil_sublist _)) hfF hg hm callOK_none (compOper_op hbad) hfE (xo_eq.symm.trans hx) K Q fun cv E' w' h1 h2 h3 => ?_)
    obtain ⟨f1, f2⟩ := Tr.frame hr' h1 h2
    have e1 : cur L' (st ops.size).ch (st ops.size).ms = some (m, inc) := by
      rw [← hcur]
      refine cur_congr fun c hcm => ?_
      have := no_ch hc R hi (by rw [hst]) c hcm
      rw [hL']; simp [this]
    have e2 : (within (fun j => L' j && !inc.testBit j) (st ops.size).al).Perm ((((st i).nx, ob)) :: within (fun j => L j && !inc.testBit j) (st ops.size).al) := by
      rw [ew1, hst]
      simp only [within_append]
      have g1 : within (fun j => L' j && !inc.testBit j) nw = within (fun j => L j && !inc.testBit j) nw := within_congr fun x hx => by
        have : x.1 ≠ i := by have := ew2 x hx; omega
        have e : L' x.1 = L x.1 := by rw [hL']; simp [this]
        simp only [e]
      have g2 : within (fun j => L' j && !inc.testBit j) (st i).al = within (fun j => L j && !inc.testBit j) (st i).al := within_congr fun x hx => by
        have : x.1 ≠ i := by have := low.al x hx; omega
        have e : L' x.1 = L x.1 := by rw [hL']; simp [this]
        simp only [e]
      have g3 : inc.testBit i = false := by
        cases h : inc.testBit i with
        | false => rfl
        | true => rw [hinc i h] at hL; cases hL
      have g4 : L' i = true := hmem.2 (.inr rfl)
      simp only [within, g1, g2, g3, g4, hL, Bool.not_false, Bool.and_true]
      exact List.perm_middle
    have e3 := e2.append_right m
    refine close (v := v) (by rw [hst]) h3 e1 (fun j hj => hmem.2 (.inl (hinc j hj))) (f1.perm e3.symm) ?_
    rw [hst]
    exact f2.perm (.refl _) e3.symm
  | chain v m0 inc0 ms m' n hwant hms hch hx =>
    have hbad : (compOper P ops o).op ≠ .bad := fun e => by rw [e] at hx; simp [xo, xo_bad] at hx
    -- the chain lies at this operation
    have hnot : ∀ c ∈ nc, L c.1 = false := fun c hcm => by
      cases h : L c.1 with
      | false => rfl
      | true =>
        obtain ⟨dc, h1, h2⟩ := R.chains ops.size (Nat.le_refl _) c (ec1 ▸ List.mem_append_left _ hcm)
        have h3 := (ec4 c hcm).2 (i, d.preds) (by rw [hst]; exact .head _)
        have h4 := hcl _ _ h h1 i (h2 ▸ h3)
        rw [hL] at h4; cases h4
    have hold : ∀ c ∈ (st i).ch, L c.1 = true := fun c hcm => hpre _ (hch c hcm)
    have ecur : some (m, inc) = some (m0, inc0) := by
      rw [← hcur, ec1, ec2, cur_skip ec3 hnot, hst]
      simp only [cur, hL]
      rw [hms]
      exact cur_head hold
    cases ecur
    have e1 : cur L' (st ops.size).ch (st ops.size).ms = some (m', inc ||| maskOf d.preds (st i).al) := by
      rw [ec1, ec2, cur_skip ec3 fun c hcm => ?_, hst]
      · have g4 : L' i = true := hmem.2 (.inr rfl)
        simp only [cur, g4]
      · have h1 := (ec4 c hcm).1
        have : c.1 ≠ i := by omega
        rw [hL', hnot c hcm]; simp [this]
    have hp := within_split (f := fun j => L j && !inc.testBit j) (g := but d.preds inc) (al := (st ops.size).al) fun x _ hx => by
      simp only [but, Bool.and_eq_true] at hx
      simp only [hpre _ hx.1, hx.2, Bool.and_self]
    have ein : within (but d.preds inc) (st ops.size).al = within (but d.preds inc) (st i).al := by
      rw [ew1, hst, within_append, within_none, List.nil_append]
      intro x hx
      have h1 := ew2 x hx
      cases h : but d.preds inc x.1 with
      | false => rfl
      | true =>
        simp only [but, Bool.and_eq_true] at h
        have := R.low i d _ hd h.1
        omega
    have hp2 := (hp.append_right m).trans (perm3 _ _ _)
    rw [ein] at hp2
    have hr2 := hr.perm hp2
    rw [hst] at hfE
    refine wpOp_of ho (wantx_sound hfF hwant (.inr hbad)) (any_exec (hr2.sub (List.sublist_append_left _ _)) hfF hg hm hcall (compOper_op hbad) hfE (xo_eq.symm.trans hx) K Q fun cv E' w' h1 h2 h3 => ?_)
    obtain ⟨f1, f2⟩ := Tr.frame hr2 h1 h2
    have e2 : within (fun j => L' j && !(inc ||| maskOf d.preds (st i).al).testBit j) (st ops.size).al = within (fun j => (L j && !inc.testBit j) && !but d.preds inc j) (st ops.size).al := by
      refine within_congr fun x hx => ?_
      have hne : x.1 ≠ i := no_al hc R hi (by rw [hst]) x hx
      have hmk : (maskOf d.preds (st i).al).testBit x.1 = d.preds.testBit x.1 := by
        rw [Bool.eq_iff_iff, mem_maskOf]
        refine ⟨And.left, fun h => ⟨h, ?_⟩⟩
        rw [ew1, hst] at hx
        rcases List.mem_append.1 hx with hx | hx
        · have := ew2 x hx
          have := R.low i d _ hd h
          omega
        · exact ⟨x, hx, rfl⟩
      have : (x.1 == i) = false := by simp [hne]
      simp only [hL', this, Bool.or_false, Nat.testBit_or, hmk, but]
      cases L x.1 <;> cases inc.testBit x.1 <;> cases d.preds.testBit x.1 <;> rfl
    have e3 : (m' ++ within (fun j => (L j && !inc.testBit j) && !but d.preds inc j) (st ops.size).al).Perm (within (fun j => L' j && !(inc ||| maskOf d.preds (st i).al).testBit j) (st ops.size).al ++ m') := by
      rw [e2]; exact List.perm_append_comm
    refine close (v := v) (by rw [hst]) h3 e1 (fun j hj => ?_) (f1.perm e3) ?_
    · rw [Nat.testBit_or, Bool.or_eq_true, mem_maskOf] at hj
      rcases hj with hj | hj
      · exact hmem.2 (.inl (hinc j hj))
      · exact hmem.2 (.inl (hpre j hj.1))
    · rw [hst]
      exact f2.perm hp2.symm e3
end DRun
end Go.Sy

/- Regions that draw their order, whole. No condition. -/
namespace Go.Sy

/-- What 'Region.before' says of one operation. -/
def beforeOf (r : Nat → Option Nat) (o : Oper) (m : Nat) : Prop :=
  ∀ k, m.testBit k = true → ∃ e ∈ o.after, Region.binds .any e = true ∧ (k = e.on ∨ ∃ m', r e.on = some m' ∧ m'.testBit k = true)

theorem before_one (acc : Array Nat) : ∀ (es : List Edge) (s k : Nat), (es.foldl (fun s e => if Region.binds .any e then s ||| 2 ^ e.on ||| acc.getD e.on 0 else s) s).testBit k = true →
    s.testBit k = true ∨ ∃ e ∈ es, Region.binds .any e = true ∧ (k = e.on ∨ ∃ m', acc[e.on]? = some m' ∧ m'.testBit k = true)
  | [], s, k, h => .inl h
  | e :: es, s, k, h => by
    rcases before_one acc es _ k h with h | ⟨e', h1, h2⟩
    · simp only at h
      split at h
      · rename_i hb
        rw [Nat.testBit_or, Nat.testBit_or, Bool.or_eq_true, Bool.or_eq_true] at h
        rcases h with (h | h) | h
        · exact .inl h
        · rw [Nat.testBit_two_pow] at h
          exact .inr ⟨e, .head _, hb, .inl (by have := of_decide_eq_true h; exact this.symm)⟩
        · refine .inr ⟨e, .head _, hb, .inr ?_⟩
          rw [Array.getD_eq_getD_getElem?] at h
          cases hm : acc[e.on]? with
          | none => rw [hm] at h; simp at h
          | some m' => rw [hm] at h; exact ⟨m', rfl, h⟩
      · exact .inl h
    · exact .inr ⟨e', .tail _ h1, h2⟩

theorem before_go : ∀ (os : List Oper) (acc : Array Nat), let r := os.foldl (fun acc o => acc.push (o.after.foldl (fun s e => if Region.binds .any e then s ||| 2 ^ e.on ||| acc.getD e.on 0 else s) 0)) acc
    (∀ (j m : Nat), acc[j]? = some m → r[j]? = some m) ∧ r.size = acc.size + os.length ∧ ∀ (j : Nat) (o : Oper), os[j]? = some o → ∃ m, r[acc.size + j]? = some m ∧ beforeOf (fun j => r[j]?) o m
  | [], acc => ⟨fun _ _ h => h, rfl, fun j o h => by simp at h⟩
  | o :: os, acc => by
    intro r
    obtain ⟨h1, h2, h3⟩ := before_go os (acc.push (o.after.foldl (fun s e => if Region.binds .any e then s ||| 2 ^ e.on ||| acc.getD e.on 0 else s) 0))
    have up : ∀ (j m : Nat), acc[j]? = some m → r[j]? = some m := fun j m h => h1 j m (by
      have := (Array.getElem?_eq_some_iff.1 h).1
      rw [Array.getElem?_push_lt this]
      rw [Array.getElem?_eq_getElem this] at h
      exact h)
    have h2' : r.size = acc.size + 1 + os.length := by rw [Array.size_push] at h2; exact h2
    refine ⟨up, by rw [h2', List.length_cons]; omega, fun j o' ho => ?_⟩
    cases j with
    | zero =>
      simp at ho
      subst ho
      refine ⟨_, h1 acc.size _ Array.getElem?_push_size, fun k hk => ?_⟩
      rw [← Array.foldl_toList] at hk
      rcases before_one acc _ 0 k hk with h | ⟨e, he, hb, h⟩
      · simp at h
      · exact ⟨e, by simpa using he, hb, h.imp id fun ⟨m', a, b⟩ => ⟨m', up _ _ a, b⟩⟩
    | succ j =>
      obtain ⟨m, a, b⟩ := h3 j o' (by simpa using ho)
      refine ⟨m, ?_, b⟩
      rw [← a]; congr 1; simp; omega

theorem before_spec {ops : Array Oper} : (Region.before ops).size = ops.size ∧ ∀ (j : Nat) (o : Oper), ops[j]? = some o → ∃ m, (Region.before ops)[j]? = some m ∧ beforeOf (fun j => (Region.before ops)[j]?) o m := by
  have h := before_go ops.toList #[]
  have e : Region.before ops = ops.toList.foldl (fun acc o => acc.push (o.after.foldl (fun s e => if Region.binds .any e then s ||| 2 ^ e.on ||| acc.getD e.on 0 else s) 0)) #[] := by
    rw [Array.foldl_toList]; rfl
  rw [e]
  refine ⟨by simpa using h.2.1, fun j o ho => ?_⟩
  obtain ⟨m, a, b⟩ := h.2.2 j o (by simpa using ho)
  exact ⟨m, by simpa using a, b⟩

theorem zipD_spec {ops : Array Oper} {P : Program} : ∀ {os : List Oper} {ms : List Nat} {i : Nat} {d : XD}, (zipD ops P os ms)[i]? = some d → ∃ m, ms[i]? = some m ∧ d.preds = m
  | o :: r, m :: ms, 0, d, h => by simp [zipD] at h; exact ⟨m, rfl, by rw [← h]⟩
  | o :: r, m :: ms, i + 1, d, h => by
    simp only [zipD, List.getElem?_cons_succ] at h
    obtain ⟨m', a, b⟩ := zipD_spec h
    exact ⟨m', by simpa using a, b⟩
  | [], ms, i, d, h => by simp [zipD] at h
  | _ :: _, [], i, d, h => by simp [zipD] at h

theorem downB_spec : ∀ {os : List Oper} {i : Nat}, downB i os = true → ∀ (j : Nat) (o : Oper), os[j]? = some o → ∀ e ∈ o.after, Region.binds .any e = true → e.on < i + j
  | o :: r, i, h, 0, o', ho, e, he, hb => by
    simp at ho; subst ho
    simp only [downB, Bool.and_eq_true, List.all_eq_true] at h
    have := h.1 e (by simpa using he)
    simp only [hb, Bool.not_true, Bool.false_or] at this
    rw [Nat.blt_eq] at this
    exact this
  | o :: r, i, h, j + 1, o', ho, e, he, hb => by
    simp only [downB, Bool.and_eq_true] at h
    have := downB_spec h.2 j o' (by simpa using ho) e he hb
    omega
  | [], i, h, j, o', ho, e, he, hb => by simp at ho

theorem pairsOk_spec : ∀ {xs : List XOper} {ds : List XD} {i : Nat} {es : List (Nat × Option Nat × XD)}, pairsOk i es xs ds = true → ∀ (k : Nat) (y : XOper) (dy : XD), xs[k]? = some y → ds[k]? = some dy →
    (∀ e ∈ es, dy.preds.testBit e.1 = true ∨ apartB e.2.1 e.2.2 y.dst dy = true) ∧ ∀ (j : Nat) (x : XOper) (dx : XD), j < k → xs[j]? = some x → ds[j]? = some dx → dy.preds.testBit (i + j) = true ∨ apartB x.dst dx y.dst dy = true
  | [], _, _, _, _, k, y, dy, h, _ => by simp at h
  | _ :: _, [], _, _, h, _, _, _, _, _ => by simp [pairsOk] at h
  | x0 :: xs, d0 :: ds, i, es, h, k, y, dy, hy, hd => by
    simp only [pairsOk, Bool.and_eq_true, List.all_eq_true, Bool.or_eq_true] at h
    cases k with
    | zero =>
      simp at hy hd
      subst hy; subst hd
      exact ⟨h.1, fun j x dx hj => by omega⟩
    | succ k =>
      obtain ⟨h1, h2⟩ := pairsOk_spec h.2 k y dy (by simpa using hy) (by simpa using hd)
      refine ⟨fun e he => h1 e (.tail _ he), fun j x dx hj hx hdx => ?_⟩
      cases j with
      | zero =>
        simp at hx hdx
        subst hx; subst hdx
        exact h1 _ (.head _)
      | succ j =>
        have := h2 j x dx (by omega) (by simpa using hx) (by simpa using hdx)
        rwa [show i + (j + 1) = i + 1 + j by omega]

namespace DRun
variable {dl : List Deferred} {P : Program} {G : Cx} {call : Call} {ops : Array Oper} {ds : List XD} {st : Nat → DS} {H0 : Heap} {fr0 : Fr} {nx0 nt : Nat}

/-- Of the operations ahead of one, each is a direct one, or ahead of a direct one. -/
def Ahead (ops : Array Oper) (ds : List XD) : Prop :=
  ∀ (j : Nat) (o : Oper) (d : XD), ops[j]? = some o → ds[j]? = some d → ∀ k, d.preds.testBit k = true → ∃ e ∈ o.after, Region.binds .any e = true ∧ (k = e.on ∨ ∃ d', ds[e.on]? = some d' ∧ d'.preds.testBit k = true)
def Down (ops : Array Oper) : Prop := ∀ (j : Nat) (o : Oper), ops[j]? = some o → ∀ e ∈ o.after, Region.binds .any e = true → e.on < j

theorem any_order (hcall : CallOK P G call) (hm : MethOK P G) (R : DRun P G call ops ds st H0 fr0 nx0 nt) {E0 : Env} {w0 : World} (hr0 : HR E0 H0 w0) (hg0 : GR G E0 w0) (hfr : Fresh E0 nx0 (st ops.size).nx)
    (ha : Ahead ops ds) (hdn : Down ops) {Q : Exit → Act → World → Prop} (hQ : ∀ L E w a, (∀ j, j < ops.size → L j = true) → Inv dl st ops.size E0 H0 w0 fr0 nt L E w a → Q .normal a w) :
    ∀ (fuel : Nat) (listed : Array Bool) (E : Env) (a : Act) (w : World), listed.size = ops.size → listed.toList.count false ≤ fuel →
      (∀ (k : Nat) (dk : XD), listed.getD k false = true → ds[k]? = some dk → ∀ j, dk.preds.testBit j = true → listed.getD j false = true) →
      Inv dl st ops.size E0 H0 w0 fr0 nt (fun j => listed.getD j false) E w a → wpAny P .any ops Q fuel listed a w := by
  -- nothing is ready: all is done
  have done : ∀ (listed : Array Bool), listed.size = ops.size → Region.ready .any ops listed = [] → ∀ j, j < ops.size → listed.getD j false = true := by
    intro listed hsz hr j
    induction j using Nat.strongRecOn with
    | _ j ih =>
      intro hj
      cases hl : listed.getD j false with
      | true => rfl
      | false =>
        have hj' : j < listed.size := hsz ▸ hj
        have : j ∈ Region.ready .any ops listed := by
          rw [mem_ready]
          refine ⟨?_, ops[j], Array.getElem?_eq_getElem hj, fun e he hb => ?_⟩
          · simpa [hj'] using hl
          · have := hdn j _ (Array.getElem?_eq_getElem hj) e he hb
            exact ih e.on this (by omega)
        rw [hr] at this
        cases this
  intro fuel
  induction fuel with
  | zero =>
    intro listed E a w hsz hc hcl inv
    have hall : ∀ j, j < ops.size → listed.getD j false = true := by
      intro j hj
      have hj' : j < listed.size := hsz ▸ hj
      cases hl : listed.getD j false with
      | true => rfl
      | false =>
        have : false ∈ listed.toList := by
          have h2 : listed[j] = false := by simpa [hj'] using hl
          rw [← h2]
          simp
        have := List.count_pos_iff.2 this
        omega
    refine ⟨?_, hQ _ E w a hall inv⟩
    cases hr : Region.ready .any ops listed with
    | nil => rfl
    | cons x r =>
      have hx : x ∈ Region.ready .any ops listed := by rw [hr]; exact .head _
      obtain ⟨h1, o, ho, _⟩ := mem_ready.1 hx
      have hlt := (Array.getElem?_eq_some_iff.1 ho).1
      have h2 := hall x hlt
      have hj' : x < listed.size := hsz ▸ hlt
      simp [hj'] at h1 h2
      rw [h2] at h1; cases h1
  | succ fuel ih =>
    intro listed E a w hsz hc hcl inv
    refine ⟨fun hr => hQ _ E w a (done listed hsz hr) inv, fun i hi => ?_⟩
    obtain ⟨h1, o, ho, h2⟩ := mem_ready.1 hi
    have hlt := (Array.getElem?_eq_some_iff.1 ho).1
    have hlt' : i < listed.size := hsz ▸ hlt
    have hL : listed.getD i false = false := by simpa [hlt'] using h1
    have hL' : ∀ j, (listed.setIfInBounds i true).getD j false = (listed.getD j false || j == i) := by
      intro j
      by_cases hj : i = j
      · subst hj; simp [hlt']
      · rw [getD_set_ne false hj]
        have : (j == i) = false := by simp; exact fun h => hj h.symm
        simp [this]
    have hpre : ∀ (d : XD), ds[i]? = some d → ∀ j, d.preds.testBit j = true → listed.getD j false = true := by
      intro d hd j hj
      obtain ⟨e, he, hb, h | ⟨d', h3, h4⟩⟩ := ha i o d ho hd j hj
      · rw [h]; exact h2 e he hb
      · exact hcl e.on d' (h2 e he hb) h3 j h4
    refine exec hcall hm R hr0 hg0 hfr ho hL hL' hcl hpre inv fun E' a' w' inv' => ih _ E' a' w' (by simpa using hsz) ?_ ?_ inv'
    · have h3 : listed.toList[i]? = some false := by
        have : listed[i] = false := by simpa [hlt'] using hL
        simp [hlt', this]
      have h4 : (listed.setIfInBounds i true).toList = listed.toList.set i true := by simp
      rw [h4, List.count_set (by simpa using hlt')]
      have h5 : listed.toList[i]'(by simpa using hlt') = false := by simpa [hlt'] using hL
      have h6 : 0 < listed.toList.count false := List.count_pos_iff.2 (by rw [← h5]; exact List.getElem_mem _)
      simp only [h5]
      simp
      simp at h6 hc
      omega
    · intro k dk hk hdk j hj
      rw [hL'] at hk ⊢
      rw [Bool.or_eq_true, beq_iff_eq] at hk
      rcases hk with hk | hk
      · rw [hcl k dk hk hdk j hj]; rfl
      · subst hk
        rw [hpre dk hdk j hj]; rfl
end DRun

theorem draw_sound {P : Program} {G : Cx} {call : Call} {id : Nat} {ops : Array Oper} {xs : List XOper} {ds : List XD} {nt : Nat} {fr fr' : Fr} {H H' : Heap} {nx nx' : Nat} (hcall : CallOK P G call) (hm : MethOK P G) (hmix : P.follows .mixedOrders = true)
    (hc : compCode P (.region id ops true) = some (.draw xs ds)) (hdst : dstOk nt (.draw xs ds) = true) (h : runDraw G call xs ds (fr, H, nx) = some (fr', H', nx')) :
    nx ≤ nx' ∧ ∀ (E : Env) (w : World) (a : Act) (Q : Exit → Act → World → Prop) (dl : List Deferred), HR E H w → FrR E w fr a nt → GR G E w → Fresh E nx nx' → a.defers = dl →
      (∀ E' w' a', HR E' H' w' → Tr E H w E' H' w' nx nx' → FrR E' w' fr' a' nt → a'.defers = dl → Q .normal a' w') → (Code.region id ops true).wp P Q a w := by
  simp only [compCode] at hc
  split at hc
  · rename_i hdn
    split at hc
    · rename_i hp
      simp only [Option.some.injEq, XC.draw.injEq] at hc
      obtain ⟨rfl, rfl⟩ := hc
      unfold runDraw at h
      split at h
      · rename_i s hs
        split at h
        · rename_i hrd
          split at h
          · rename_i m inc ms hms
            simp only [Option.some.injEq, Prod.mk.injEq] at h
            obtain ⟨rfl, rfl, rfl⟩ := h
            obtain ⟨st, e0, e1, e2⟩ := drawOps_states hs
            have hlen : (ops.toList.map (compOper P ops)).length = ops.size := by simp
            rw [hlen] at e1
            obtain ⟨b1, b2⟩ := before_spec (ops := ops)
            have hds : ∀ {j : Nat} {d : XD}, (zipD ops P ops.toList (Region.before ops).toList)[j]? = some d → (Region.before ops)[j]? = some d.preds := fun h => by
              obtain ⟨m, a, b⟩ := zipD_spec h
              rw [b]; simpa using a
            have zlen : ∀ (os : List Oper) (ms : List Nat), os.length = ms.length → (zipD ops P os ms).length = os.length := by
              intro os
              induction os with
              | nil => intro ms _; simp [zipD]
              | cons o os ih => intro ms hms; cases ms with
                | nil => simp at hms
                | cons m ms => simp [zipD, ih ms (by simpa using hms)]
            have hahead : DRun.Ahead ops (zipD ops P ops.toList (Region.before ops).toList) := by
              intro j o d ho hd k hk
              obtain ⟨m, c1, c2⟩ := b2 j o ho
              have := hds hd
              rw [c1] at this
              cases this
              obtain ⟨e, he, hb, h | ⟨m', h3, h4⟩⟩ := c2 k hk
              · exact ⟨e, he, hb, .inl h⟩
              · refine ⟨e, he, hb, .inr ?_⟩
                have hl : e.on < (zipD ops P ops.toList (Region.before ops).toList).length := by
                  rw [zlen _ _ (by simp [b1])]
                  have := (Array.getElem?_eq_some_iff.1 h3).1
                  simpa [b1] using this
                refine ⟨_, List.getElem?_eq_getElem hl, ?_⟩
                have h5 := hds (List.getElem?_eq_getElem hl)
                have h3' : (Region.before ops)[e.on]? = some m' := h3
                rw [h3'] at h5
                rw [← Option.some.inj h5]; exact h4
            have hdown : DRun.Down ops := fun j o ho e he hb => by
              have := downB_spec hdn j o (by simpa using ho) e he hb
              omega
            have hlow : ∀ (j : Nat) (d : XD) (k : Nat), (zipD ops P ops.toList (Region.before ops).toList)[j]? = some d → d.preds.testBit k = true → k < j := by
              intro j
              induction j using Nat.strongRecOn with
              | _ j ih =>
                intro d k hd hk
                have hj : j < ops.size := by
                  have := (Array.getElem?_eq_some_iff.1 (hds hd)).1
                  omega
                obtain ⟨e, he, hb, h | ⟨d', h3, h4⟩⟩ := hahead j _ d (Array.getElem?_eq_getElem hj) hd k hk
                · rw [h]; exact hdown j _ (Array.getElem?_eq_getElem hj) e he hb
                · have h5 := hdown j _ (Array.getElem?_eq_getElem hj) e he hb
                  have := ih e.on h5 d' k h3 h4
                  omega
            have hget : ∀ {j : Nat} {o : Oper}, ops[j]? = some o → (ops.toList.map (compOper P ops))[j]? = some (compOper P ops o) := fun h => by simp [h]
            have R : DRun P G call ops (zipD ops P ops.toList (Region.before ops).toList) st H fr nx nt := by
              refine ⟨fun j o ho => ?_, e0, fun j k oj ok dj dk hjk hj hk hdj hdk => ?_, hlow, fun j o d ho hd => ?_, fun r hr => ?_⟩
              · obtain ⟨d, h1, h2⟩ := e2 j _ (hget ho)
                exact ⟨d, h1, by simpa using h2⟩
              · have := (pairsOk_spec hp k _ dk (hget hk) hdk).2 j _ dj hjk (hget hj) hdj
                simpa [compOper_dst] using this
              · have h1 := List.all_eq_true.1 hdst _ (List.mem_of_getElem? (hget ho))
                rw [compOper_dst, hd] at h1
                simpa [Nat.blt_eq] using h1
              · rw [e1] at hr ⊢
                exact List.all_eq_true.1 hrd r hr
            have hle : nx ≤ s.nx := by
              have := R.mono hcall.le (Nat.zero_le ops.size) (Nat.le_refl _)
              rw [e0, e1] at this
              exact this
            refine ⟨hle, fun E w a Q dl hr hf hg hfr hdf hQ => ?_⟩
            refine wp_region_any hmix ?_
            obtain ⟨d1, d2⟩ := drew_step (w' := { w with drawn := w.drawn + 1 }) hr ⟨rfl, rfl, rfl, rfl⟩ nx
            refine DRun.any_order (dl := dl) (E0 := E) (w0 := { w with drawn := w.drawn + 1 }) hcall hm R d1 (fun g v hv => d2.vr hr (hg g v hv)) (by rw [e1]; exact hfr) hahead hdown (fun L E' w' a' hL inv => ?_) ops.size _ E a _ (by simp) ?_ ?_ ?_
            · obtain ⟨m', inc', i1, i2, i3, i4⟩ := inv.heap
              rw [e1] at i1 i3 i4
              have low := R.lows ops.size (Nat.le_refl _)
              rw [e1] at low
              have i5 : some (m', inc') = some (m, inc) := by
                rw [← i1, hms]
                exact cur_head fun c hc => hL _ (low.ch c hc)
              cases i5
              have e3 : within (fun j => L j && !inc.testBit j) s.al = within (fun j => !inc.testBit j) s.al := within_congr fun x hx => by
                simp only [hL _ (low.al x hx), Bool.true_and]
              rw [e3] at i3 i4
              have e4 : Tr E H { w with drawn := w.drawn + 1 } E' (within (fun j => !inc.testBit j) s.al ++ m) w' nx s.nx := by
                refine i4.to_tr hle fun h => ?_
                constructor
                · rintro ⟨j, hj, _, h1, h2⟩
                  have g1 := R.mono hcall.le (Nat.zero_le j) (Nat.le_of_lt hj)
                  have g2 := R.mono hcall.le (i := j + 1) hj (Nat.le_refl _)
                  rw [e0] at g1
                  rw [e1] at g2
                  exact ⟨Nat.le_trans g1 h1, Nat.lt_of_lt_of_le h2 g2⟩
                · rintro ⟨h1, h2⟩
                  -- the step at which the handle is made
                  have find : ∀ n, n ≤ ops.size → h < (st n).nx → ∃ j, j < n ∧ (st j).nx ≤ h ∧ h < (st (j + 1)).nx := by
                    intro n
                    induction n with
                    | zero => intro _ hh; rw [e0] at hh; exact absurd hh (by simpa using h1)
                    | succ n ih =>
                      intro hn hh
                      by_cases hx : h < (st n).nx
                      · obtain ⟨j, a, b⟩ := ih (by omega) hx
                        exact ⟨j, by omega, b⟩
                      · exact ⟨n, by omega, by omega, hh⟩
                  obtain ⟨j, a, b⟩ := find ops.size (Nat.le_refl _) (by rw [e1]; exact h2)
                  exact ⟨j, a, hL j a, b⟩
              refine hQ E' w' a' i3 (d2.trans d1 e4) ⟨inv.size, fun t v ht => inv.fr t v ?_⟩ inv.defers
              rw [← ht, ← e1, ← R.frames t ops.size (Nat.le_refl _)]
              refine scan_congr fun x hx _ => ?_
              have low := R.lows ops.size (Nat.le_refl _)
              exact hL _ (low.tr x hx)
            · simp
            · intro k dk hk
              rw [Array.getD_eq_getD_getElem?, Array.getElem?_replicate] at hk
              split at hk <;> simp at hk
            · have hF : ∀ j, (Array.replicate ops.size false).getD j false = false := fun j => by
                rw [Array.getD_eq_getD_getElem?, Array.getElem?_replicate]
                split <;> rfl
              refine ⟨hf.size, hdf, fun t v ht => ?_, H, 0, ?_, fun j hj => by simp at hj, ?_, ?_⟩
              · have : scan (fun j => (Array.replicate ops.size false).getD j false) fr t (st ops.size).tr = fr.get t := by
                  have := scan_skip (L := fun j => (Array.replicate ops.size false).getD j false) (fr0 := fr) (t := t) (r := []) (nw := (st ops.size).tr) fun x _ hx => by rw [hF] at hx; cases hx
                  simpa [scan] using this
                rw [this] at ht
                exact d2.vr hr (hf.get t v ht)
              · obtain ⟨nc, nm, k1, k2, k3, _⟩ := (R.last hcall.le (i := 0) (Nat.zero_le _)).ch
                rw [k1, k2, cur_skip k3 fun c _ => hF _, e0]
                rfl
              · have : within (fun j => (Array.replicate ops.size false).getD j false && !Nat.testBit 0 j) (st ops.size).al = [] := within_none fun x _ => by rw [hF]; rfl
                rw [this]; exact d1
              · have : within (fun j => (Array.replicate ops.size false).getD j false && !Nat.testBit 0 j) (st ops.size).al = [] := within_none fun x _ => by rw [hF]; rfl
                rw [this]
                exact TrS.of_tr (.refl nx) fun h => ⟨fun ⟨j, _, hj, _⟩ => by rw [hF] at hj; (cases hj), fun ⟨a, b⟩ => by omega⟩
          · cases h
        · cases h
      · cases h
    · cases hc
  · cases hc
end Go.Sy

/- Code: what the resolved machine runs is what the model runs. No condition. -/
namespace Go.Sy

def exitOf : Ext → Exit
  | .normal => .normal
  | .exit i => .exit i
  | .ret => .ret

/-- What running a piece of code gives. -/
def Runs (P : Program) (G : Cx) (nt : Nat) (c : Code) (s : St) (x : Ext) (s' : St) : Prop :=
  s.2.2 ≤ s'.2.2 ∧ ∀ (E : Env) (w : World) (a : Act) (Q : Exit → Act → World → Prop) (dl : List Deferred), HR E s.2.1 w → FrR E w s.1 a nt → GR G E w → Fresh E s.2.2 s'.2.2 → a.defers = dl →
    (∀ E' w' a', HR E' s'.2.1 w' → Tr E s.2.1 w E' s'.2.1 w' s.2.2 s'.2.2 → FrR E' w' s'.1 a' nt → a'.defers = dl → Q (exitOf x) a' w') → c.wp P Q a w

section
variable {P : Program} {G : Cx} {call : Call} {nt : Nat}

theorem Fresh.left {E : Env} {a b c : Nat} (h : Fresh E a c) (hb : b ≤ c) : Fresh E a b := fun x h1 h2 => h x h1 (Nat.lt_of_lt_of_le h2 hb)
theorem Fresh.right {E E' : Env} {H H' : Heap} {w w' : World} {a b c : Nat} (h : Fresh E a c) (t : Tr E H w E' H' w' a b) : Fresh E' b c := fun x h1 h2 hD => by
  rcases (t.dom x).1 hD with h3 | h3
  · exact h x (Nat.le_trans t.le h1) h2 h3
  · omega
theorem FrR.put {E E' : Env} {w w' : World} {fr : Fr} {a : Act} {d : Option Nat} {v : AV} {cv : Value} (hf : FrR E w fr a nt) (hm : ∀ {v cv}, VR E w v cv → VR E' w' v cv) (hd : ∀ n, d = some n → n < nt) (hv : VR E' w' v cv) : FrR E' w' (putd fr d v) (a.put d cv) nt := by
  cases d with
  | none => exact ⟨hf.size, fun t u h => hm (hf.get t u h)⟩
  | some n =>
    refine ⟨by rw [DRun.put_size]; exact hf.size, fun t u h => ?_⟩
    simp only [putd, Fr.get_put] at h
    have hn : n < a.tmps.size := by rw [hf.size]; exact hd n rfl
    split at h
    · rename_i e
      subst e
      cases h
      simpa [Act.put, hn] using hv
    · rename_i e
      have : (a.put (some n) cv).tmps.getD t undef = a.tmps.getD t undef := by simp [Act.put, Array.getElem?_setIfInBounds_ne e]
      rw [this]; exact hm (hf.get t u h)

theorem GR.step {E E' : Env} {H H' : Heap} {w w' : World} {a b : Nat} (hr : HR E H w) (hg : GR G E w) (t : Tr E H w E' H' w' a b) : GR G E' w' := fun g v h => t.vr hr (hg g v h)

/-- Operations in their order. -/
theorem ops_sound (hcall : CallOK P G call) (hm : MethOK P G) {ops : Array Oper} {Q : Exit → Act → World → Prop} : ∀ (os : List Oper) (k : Nat) {fr fr' : Fr} {H H' : Heap} {nx nx' : Nat}, (∀ j, os[j]? = ops[k + j]?) →
    (∀ o ∈ os, ∀ d, o.dst = some d → d < nt) → runOps G call (os.map (compOper P ops)) fr H nx = some (fr', H', nx') →
    nx ≤ nx' ∧ ∀ (E : Env) (w : World) (a : Act) (dl : List Deferred), HR E H w → FrR E w fr a nt → GR G E w → Fresh E nx nx' → a.defers = dl →
      (∀ E' w' a', HR E' H' w' → Tr E H w E' H' w' nx nx' → FrR E' w' fr' a' nt → a'.defers = dl → Q .normal a' w') → wpOps P ops Q (List.range' k os.length) a w
  | [], k, fr, fr', H, H', nx, nx', _, _, h => by
    simp only [List.map_nil, runOps, Option.some.injEq, Prod.mk.injEq] at h
    obtain ⟨rfl, rfl, rfl⟩ := h
    exact ⟨Nat.le_refl _, fun E w a dl hr hf hg _ hd hQ => hQ E w a hr (.refl _) hf hd⟩
  | o :: os, k, fr, fr', H, H', nx, nx', hos, hdst, h => by
    have ho : ops[k]? = some o := by have := hos 0; simpa using this.symm
    have hos' : ∀ j, os[j]? = ops[k + 1 + j]? := fun j => by have := hos (j + 1); rw [List.getElem?_cons_succ] at this; rw [this]; congr 1; omega
    have hd' : ∀ o' ∈ os, ∀ d, o'.dst = some d → d < nt := fun o' h' => hdst o' (.tail _ h')
    simp only [List.map_cons, runOps] at h
    split at h
    · rename_i hw
      split at h
      · rename_i v H1 n1 hx
        have hbad : (compOper P ops o).op ≠ .bad := fun e => by rw [e] at hx; simp [xo, xo_bad] at hx
        obtain ⟨l2, ih⟩ := ops_sound hcall hm os (k + 1) hos' hd' h
        have l1 := xo_le hcall.le (xo_eq.symm.trans hx)
        refine ⟨Nat.le_trans l1 l2, fun E w a dl hr hf hg hfr hdf hQ => ?_⟩
        rw [List.length_cons, List.range'_succ, wpOps_cons]
        refine DRun.wpOp_of ho (wantx_sound hf hw (.inr hbad)) (any_exec hr hf hg hm hcall (compOper_op hbad) (hfr.left l2) (xo_eq.symm.trans hx) _ _ fun cv E1 w1 h1 h2 h3 => ?_)
        refine ih E1 w1 _ _ h1 ?_ (hg.step hr h2) (hfr.right h2) (by rw [DRun.put_defers]; exact hdf) fun E' w' a' k1 k2 k3 k4 => hQ E' w' a' k1 (h2.trans h1 k2) k3 k4
        rw [compOper_dst]
        exact hf.put (h2.vr hr) (hdst o (.head _)) h3
      · cases h
    · rename_i hw
      obtain ⟨l2, ih⟩ := ops_sound hcall hm os (k + 1) hos' hd' h
      refine ⟨l2, fun E w a dl hr hf hg hfr hdf hQ => ?_⟩
      rw [List.length_cons, List.range'_succ, wpOps_cons]
      refine DRun.wpOp_not ho (wantx_sound hf hw (.inl rfl)) ?_
      refine ih E w _ _ hr ?_ hg hfr (by rw [DRun.put_defers]; exact hdf) hQ
      rw [compOper_dst]
      exact hf.put id (hdst o (.head _)) (VR.mk_tup (vs := #[]) VRs.nil)
    · cases h

theorem code_sound (hcall : CallOK P G call) (hm : MethOK P G) (hmix : P.follows .mixedOrders = true) (lf : Nat) : ∀ (c : Code) {xc : XC} {s s' : St} {x : Ext}, compCode P c = some xc → dstOk nt xc = true → run G call lf xc s = some (x, s') → Runs P G nt c s x s' := by
  intro c
  induction c with
  | skip =>
    intro xc s s' x hc _ h
    simp only [compCode, Option.some.injEq] at hc
    subst hc
    simp only [run, Option.some.injEq, Prod.mk.injEq] at h
    obtain ⟨rfl, rfl⟩ := h
    exact ⟨Nat.le_refl _, fun E w a Q dl hr hf hg _ hd hQ => wp_skip (hQ E w a hr (.refl _) hf hd)⟩
  | ret =>
    intro xc s s' x hc _ h
    simp only [compCode, Option.some.injEq] at hc
    subst hc
    simp only [run, Option.some.injEq, Prod.mk.injEq] at h
    obtain ⟨rfl, rfl⟩ := h
    exact ⟨Nat.le_refl _, fun E w a Q dl hr hf hg _ hd hQ => wp_ret (hQ E w a hr (.refl _) hf hd)⟩
  | exit i =>
    intro xc s s' x hc _ h
    simp only [compCode, Option.some.injEq] at hc
    subst hc
    simp only [run, Option.some.injEq, Prod.mk.injEq] at h
    obtain ⟨rfl, rfl⟩ := h
    exact ⟨Nat.le_refl _, fun E w a Q dl hr hf hg _ hd hQ => wp_exit (hQ E w a hr (.refl _) hf hd)⟩
  | region id ops draw =>
    intro xc s s' x hc hd h
    cases draw with
    | false =>
      simp only [compCode, Option.some.injEq] at hc
      subst hc
      simp only [run] at h
      split at h
      · rename_i s1 hs
        cases h
        obtain ⟨fr', H', nx'⟩ := s'
        have hdst : ∀ o ∈ ops.toList, ∀ d, o.dst = some d → d < nt := fun o ho d hod => by
          have h1 := List.all_eq_true.1 hd _ (List.mem_map_of_mem (f := compOper P ops) ho)
          rw [compOper_dst, hod] at h1
          simpa [Nat.blt_eq] using h1
        refine ⟨(ops_sound (Q := fun _ _ _ => True) hcall hm ops.toList 0 (fun j => by simp) hdst hs).1, fun E w a Q dl hr hf hg hfr hdf hQ => ?_⟩
        refine wp_region ?_
        have := (ops_sound (Q := Q) hcall hm ops.toList 0 (fun j => by simp) hdst hs).2 E w a _ hr hf hg hfr hdf hQ
        rw [List.range_eq_range']
        simpa using this
      · cases h
    | true =>
      have hc' := hc
      simp only [compCode] at hc
      split at hc
      · split at hc
        · simp only [Option.some.injEq] at hc
          subst hc
          simp only [run] at h
          split at h
          · rename_i s1 hs
            cases h
            obtain ⟨fr', H', nx'⟩ := s'
            obtain ⟨fr, H, nx⟩ := s
            obtain ⟨h1, h2⟩ := draw_sound hcall hm hmix hc' hd hs
            exact ⟨h1, h2⟩
          · cases h
        · cases hc
      · cases hc
  | seq a b iha ihb =>
    intro xc s s' x hc hd h
    simp only [compCode] at hc
    obtain ⟨xa, ha, hc⟩ := obind_some hc
    obtain ⟨xb, hb, hc⟩ := obind_some hc
    simp only [Option.some.injEq] at hc
    subst hc
    simp only [dstOk, Bool.and_eq_true] at hd
    simp only [run] at h
    split at h
    · rename_i s1 hs
      obtain ⟨l1, r1⟩ := iha ha hd.1 hs
      obtain ⟨l2, r2⟩ := ihb hb hd.2 h
      refine ⟨Nat.le_trans l1 l2, fun E w a Q dl hr hf hg hfr hdf hQ => ?_⟩
      refine wp_seq (r1 E w a _ _ hr hf hg (hfr.left l2) hdf fun E1 w1 a1 h1 h2 h3 h4 => ?_)
      exact r2 E1 w1 a1 Q _ h1 h3 (hg.step hr h2) (hfr.right h2) h4 fun E' w' a' k1 k2 k3 k4 => hQ E' w' a' k1 (h2.trans h1 k2) k3 k4
    · rename_i r hne
      have hx : x ≠ .normal := fun e => hne s' (by rw [← e]; exact h)
      obtain ⟨l1, r1⟩ := iha ha hd.1 h
      refine ⟨l1, fun E w a Q dl hr hf hg hfr hdf hQ => ?_⟩
      refine wp_seq (r1 E w a _ _ hr hf hg hfr hdf fun E1 w1 a1 h1 h2 h3 h4 => ?_)
      have := hQ E1 w1 a1 h1 h2 h3 h4
      cases x <;> first | exact absurd rfl hx | exact this
  | cond c a b iha ihb =>
    intro xc s s' x hc hd h
    simp only [compCode] at hc
    obtain ⟨xv, hv, hc⟩ := obind_some hc
    obtain ⟨xa, ha, hc⟩ := obind_some hc
    obtain ⟨xb, hb, hc⟩ := obind_some hc
    simp only [Option.some.injEq] at hc
    subst hc
    simp only [dstOk, Bool.and_eq_true] at hd
    simp only [run] at h
    split at h
    · rename_i hev
      obtain ⟨l1, r1⟩ := iha ha hd.1 h
      exact ⟨l1, fun E w a Q dl hr hf hg hfr hdf hQ => wp_cond_true (copd_sound hf hg hv hev).of_bool (r1 E w a Q _ hr hf hg hfr hdf hQ)⟩
    · rename_i hev
      obtain ⟨l1, r1⟩ := ihb hb hd.2 h
      exact ⟨l1, fun E w a Q dl hr hf hg hfr hdf hQ => wp_cond_false (copd_sound hf hg hv hev).of_bool (r1 E w a Q _ hr hf hg hfr hdf hQ)⟩
    · cases h
  | block i b ih =>
    intro xc s s' x hc hd h
    simp only [compCode] at hc
    obtain ⟨xb, hb, hc⟩ := obind_some hc
    simp only [Option.some.injEq] at hc
    subst hc
    simp only [dstOk] at hd
    simp only [run] at h
    split at h
    · rename_i j s1 hs
      obtain ⟨l1, r1⟩ := ih hb hd hs
      split at h
      · rename_i hj
        cases h
        refine ⟨l1, fun E w a Q dl hr hf hg hfr hdf hQ => wp_block (r1 E w a _ _ hr hf hg hfr hdf fun E1 w1 a1 h1 h2 h3 h4 => ?_)⟩
        show (if j = i then Q .normal a1 w1 else Q (.exit j) a1 w1)
        rw [if_pos (nbeq_true hj)]
        exact hQ E1 w1 a1 h1 h2 h3 h4
      · rename_i hj
        cases h
        refine ⟨l1, fun E w a Q dl hr hf hg hfr hdf hQ => wp_block (r1 E w a _ _ hr hf hg hfr hdf fun E1 w1 a1 h1 h2 h3 h4 => ?_)⟩
        show (if j = i then Q .normal a1 w1 else Q (.exit j) a1 w1)
        rw [if_neg (nbeq_false hj)]
        exact hQ E1 w1 a1 h1 h2 h3 h4
    · rename_i r hne
      obtain ⟨l1, r1⟩ := ih hb hd h
      refine ⟨l1, fun E w a Q dl hr hf hg hfr hdf hQ => wp_block (r1 E w a _ _ hr hf hg hfr hdf fun E1 w1 a1 h1 h2 h3 h4 => ?_)⟩
      have := hQ E1 w1 a1 h1 h2 h3 h4
      cases x with
      | normal => exact this
      | ret => exact this
      | exit j => exact absurd h (hne j s')
  | loop b ih =>
    intro xc s s' x hc hd h
    simp only [compCode] at hc
    obtain ⟨xb, hb, hc⟩ := obind_some hc
    simp only [Option.some.injEq] at hc
    subst hc
    simp only [dstOk] at hd
    simp only [run] at h
    have le : ∀ (n : Nat) (s : St), iter (run G call lf xb) n s = some (x, s') → s.2.2 ≤ s'.2.2 := by
      intro n
      induction n with
      | zero => intro s h; simp [iter] at h
      | succ n ihn =>
        intro s h
        simp only [iter] at h
        split at h
        · rename_i s1 hs
          exact Nat.le_trans (ih hb hd hs).1 (ihn s1 h)
        · exact (ih hb hd h).1
    refine ⟨le _ s h, fun E w a Q dl hr hf hg hfr hdf hQ => ?_⟩
    refine wp_loop_ghost (fun n a w1 => ∃ s1 E1, iter (run G call lf xb) n s1 = some (x, s') ∧ HR E1 s1.2.1 w1 ∧ FrR E1 w1 s1.1 a nt ∧ GR G E1 w1 ∧ Fresh E1 s1.2.2 s'.2.2 ∧ a.defers = dl ∧ Tr E s.2.1 w E1 s1.2.1 w1 s.2.2 s1.2.2) lf
      ⟨s, E, h, hr, hf, hg, hfr, hdf, .refl _⟩ ?_
    rintro n a1 w1 ⟨s1, E1, k1, k2, k3, k4, k5, k6, k7⟩
    cases n with
    | zero => simp [iter] at k1
    | succ n =>
      simp only [iter] at k1
      split at k1
      · rename_i s2 hs
        obtain ⟨l1, r1⟩ := ih hb hd hs
        refine r1 E1 w1 a1 _ _ k2 k3 k4 (k5.left (le n s2 k1)) k6 fun E2 w2 a2 m1 m2 m3 m4 => ?_
        exact ⟨n, Nat.lt_succ_self n, s2, E2, k1, m1, m3, k4.step k2 m2, k5.right m2, m4, k7.trans k2 m2⟩
      · rename_i r hne
        obtain ⟨l1, r1⟩ := ih hb hd k1
        refine r1 E1 w1 a1 _ _ k2 k3 k4 k5 k6 fun E2 w2 a2 m1 m2 m3 m4 => ?_
        have := hQ E2 w2 a2 m1 (k7.trans k2 m2) m3 m4
        cases x with
        | normal => exact absurd k1 (hne s')
        | ret => exact this
        | exit j => exact this
  | label l =>
    intro xc s s' x hc _ h
    simp only [compCode, Option.some.injEq] at hc
    subst hc
    simp only [run, Option.some.injEq, Prod.mk.injEq] at h
    obtain ⟨rfl, rfl⟩ := h
    exact ⟨Nat.le_refl _, fun E w a Q dl hr hf hg _ hd hQ => wp_label (hQ E w a hr (.refl _) hf hd)⟩
  | scope b ih =>
    intro xc s s' x hc hd h
    simp only [compCode] at hc
    obtain ⟨l1, r1⟩ := ih hc hd h
    refine ⟨l1, fun E w a Q dl hr hf hg hfr hdf hQ => ?_⟩
    intro b' k cs
    obtain ⟨e, a₁, w₁, ⟨hq, rfl⟩, harr⟩ := r1 E w a (fun e a w => Q e a w ∧ e = exitOf x) _ hr hf hg hfr hdf (fun E' w' a' h1 h2 h3 h4 => ⟨hQ E' w' a' h1 h2 h3 h4, rfl⟩) b' (.inScope b :: k) cs
    cases x with
    | normal => exact ⟨.normal, a₁, w₁, hq, .head step_scope (Steps.trans harr (.one step_inScope))⟩
    | exit id => exact ⟨.exit id, a₁, w₁, hq, fun k' hk => .head step_scope (harr k' (by simpa [exitTo] using hk))⟩
    | ret => exact ⟨.ret, a₁, w₁, hq, .of_steps (.one step_scope) harr⟩
  | refuse why =>
    intro xc s s' x hc _ h
    simp only [compCode, Option.some.injEq] at hc
    subst hc
    simp [run, XV.ev] at h
  | _ =>
    intro xc s s' x hc
    simp [compCode] at hc
end
end Go.Sy

/- A range over a map whose rounds come in any order. No condition. -/
namespace Go.Sy
set_option linter.unusedVariables false
set_option linter.unusedSimpArgs false

section
variable {P : Program} {G : Cx} {call : Call} {nt : Nat} {E : Env} {w : World} {fr : Fr} {a : Act} {H : Heap} {nx : Nat}

theorem wo_spec : ∀ {D : List Nat} {fr : Fr} {t : Nat} {v : AV}, (wo D fr).get t = some v → fr.get t = some v ∧ inN t D = false
  | D, [], t, v, h => by simp [wo, Fr.get] at h
  | D, (k, u) :: r, t, v, h => by
    simp only [wo] at h
    split at h
    · rename_i hk
      obtain ⟨h1, h2⟩ := wo_spec h
      refine ⟨?_, h2⟩
      simp only [Fr.get]
      split
      · rename_i e
        rw [nbeq_true e] at hk
        rw [hk] at h2; cases h2
      · exact h1
    · rename_i hk
      simp only [Fr.get] at h ⊢
      split at h
      · rename_i e
        cases h
        rw [nbeq_true e] at hk
        exact ⟨rfl, hk⟩
      · rename_i e
        obtain ⟨h1, h2⟩ := wo_spec h
        exact ⟨h1, h2⟩
theorem wo_none {D : List Nat} {fr : Fr} {t : Nat} (h : inN t D = true) : (wo D fr).get t = none := by
  cases h1 : (wo D fr).get t with
  | none => rfl
  | some v => rw [(wo_spec h1).2] at h; cases h
theorem FrR.wo (h : FrR E w fr a nt) (D : List Nat) : FrR E w (wo D fr) a nt := ⟨h.size, fun t v hv => h.get t v (wo_spec hv).1⟩
theorem FrR.putDead (h : FrR E w fr a nt) {d : Nat} {cv : Value} (hd : fr.get d = none) : FrR E w fr (a.put (some d) cv) nt := by
  refine ⟨by rw [DRun.put_size]; exact h.size, fun t v hv => ?_⟩
  have hne : d ≠ t := fun e => by rw [e, hv] at hd; cases hd
  have : (a.put (some d) cv).tmps.getD t undef = a.tmps.getD t undef := by simp [Act.put, Array.getElem?_setIfInBounds_ne hne]
  rw [this]; exact h.get t v hv
theorem put_get_same {d : Nat} {cv : Value} (hd : d < a.tmps.size) : (a.put (some d) cv).tmps.getD d undef = cv := by
  simp [Act.put, hd]
theorem put_get_other {d t : Nat} {cv : Value} (hd : d ≠ t) : (a.put (some d) cv).tmps.getD t undef = a.tmps.getD t undef := by
  simp [Act.put, Array.getElem?_setIfInBounds_ne hd]

/-- A new block that nobody owns; its handle. -/
theorem alloc_free (hr : HR E H w) {h : Nat} (ha : ¬ E.D h) (o : Obj) : HR (E.add h w.heap.size) H { w with heap := w.heap.push o } ∧
    Tr E H w (E.add h w.heap.size) H { w with heap := w.heap.push o } h (h + 1) ∧ ∀ {v cv}, VR E w v cv → VR (E.add h w.heap.size) { w with heap := w.heap.push o } v cv := by
  have hne : ∀ {x}, E.D x → x ≠ h := fun hx e => ha (e ▸ hx)
  have hS : Shapes w { w with heap := w.heap.push o } := fun b c e f hb => ⟨c, f, by
    have := (Array.getElem?_eq_some_iff.1 hb).1
    show (w.heap.push o)[b]? = _
    rw [heap_push_old this]; exact hb, rfl⟩
  have hold : ∀ {b}, b < w.heap.size → (w.heap.push o)[b]? = w.heap[b]? := fun hb => heap_push_old hb
  have hm : ∀ {v cv}, VR E w v cv → VR (E.add h w.heap.size) { w with heap := w.heap.push o } v cv := fun hv =>
    VR.mono (E := E) (E' := E.add h w.heap.size) (fun x hx => ⟨Or.inl hx, Env.add_ρ_old (hne hx)⟩) (fun b hb => ⟨hb, hold (hr.zlt b hb)⟩) hS hv
  have hρ : ∀ p ∈ H, (E.add h w.heap.size).ρ p.1 = E.ρ p.1 := fun p hp => Env.add_ρ_old (hne (hr.dom p hp))
  refine ⟨⟨hr.nodup, fun p hp => .inl (hr.dom p hp), fun p hp q hq e => hr.inj p hp q hq (by rw [hρ p hp, hρ q hq] at e; exact e), fun p hp => ?_, fun p hp hz => ?_, fun b hb => ?_⟩,
    ⟨Nat.le_succ _, fun x hx => Env.add_ρ_old (hne hx), fun x => ?_, fun _ hx => hx, fun _ hx => .inl hx, fun p hp => .inl ⟨p, hp, (hρ p hp).symm⟩, rfl, rfl, rfl, by simp, fun x hx _ => hold hx, hS, rfl⟩, hm⟩
  · rw [hρ p hp]; exact (hr.obj p hp).mono (hold (hr.lt hp)) hm
  · rw [hρ p hp] at hz; exact hr.nz p hp hz
  · have := hr.zlt b hb
    show b < (w.heap.push o).size
    simp; omega
  · show E.D x ∨ x = h ↔ _
    constructor
    · rintro (h1 | h1)
      · exact .inl h1
      · exact .inr ⟨by omega, by omega⟩
    · rintro (h1 | h1)
      · exact .inl h1
      · exact .inr (by omega)

/-- A block that nobody owns is written. -/
theorem free_set (hr : HR E H w) {b : Nat} {ob ob' : Obj} (hb : w.heap[b]? = some ob) (hn : ∀ c e f, ob ≠ .cells c e f) (hno : ∀ p ∈ H, E.ρ p.1 ≠ b) (hz : ¬ E.Z b) :
    HR E H { w with heap := w.heap.setIfInBounds b ob' } ∧ (∀ {v cv}, VR E w v cv → VR E { w with heap := w.heap.setIfInBounds b ob' } v cv) ∧ Shapes w { w with heap := w.heap.setIfInBounds b ob' } ∧
      (∀ x, x ≠ b → (w.heap.setIfInBounds b ob')[x]? = w.heap[x]?) ∧ (w.heap.setIfInBounds b ob')[b]? = some ob' := by
  have hlt := (Array.getElem?_eq_some_iff.1 hb).1
  have ho : ∀ x, x ≠ b → (w.heap.setIfInBounds b ob')[x]? = w.heap[x]? := fun x hx => by rw [Array.getElem?_setIfInBounds, if_neg (Ne.symm hx)]
  have hS : Shapes w { w with heap := w.heap.setIfInBounds b ob' } := fun x c e f hx => by
    by_cases e1 : x = b
    · subst e1
      rw [hb] at hx
      cases hx
      exact absurd rfl (hn _ _ _)
    · exact ⟨c, f, (ho x e1).trans hx, rfl⟩
  have hzn : ∀ x, E.Z x → x ≠ b := fun x hx e => hz (e ▸ hx)
  have hm : ∀ {v cv}, VR E w v cv → VR E { w with heap := w.heap.setIfInBounds b ob' } v cv := fun hv => VR.mono (E := E) (E' := E) (fun _ hx => ⟨hx, rfl⟩) (fun x hx => ⟨hx, ho x (hzn x hx)⟩) hS hv
  refine ⟨⟨hr.nodup, hr.dom, hr.inj, fun p hp => (hr.obj p hp).mono (ho _ (hno p hp)) hm, hr.nz, fun x hx => ?_⟩, hm, hS, ho, ?_⟩
  · show x < (w.heap.setIfInBounds b ob').size
    rw [Array.size_setIfInBounds]; exact hr.zlt x hx
  · rw [Array.getElem?_setIfInBounds, if_pos rfl, if_pos hlt]
theorem Tr.free {E0 : Env} {H0 : Heap} {w0 : World} {x y b : Nat} {ob' : Obj} (t : Tr E0 H0 w0 E H w x y) (hb : w0.heap.size ≤ b) (hS : Shapes w { w with heap := w.heap.setIfInBounds b ob' })
    (ho : ∀ x, x ≠ b → (w.heap.setIfInBounds b ob')[x]? = w.heap[x]?) : Tr E0 H0 w0 E H { w with heap := w.heap.setIfInBounds b ob' } x y :=
  { t with
    size := by show _ ≤ (w.heap.setIfInBounds b ob').size; rw [Array.size_setIfInBounds]; exact t.size
    old := fun z hz hp => (ho z (by omega)).trans (t.old z hz hp)
    shapes := t.shapes.trans hS }

theorem run_getObj {b : Nat} {o : Obj} (h : w.heap[b]? = some o) (hn : ∀ c e f, o ≠ .cells c e f) : (getObj b).run P w = .ok o w := by
  cases o <;> first | exact absurd rfl (hn _ _ _) | simp only [getObj, Sem.run, h]
theorem run_setObj {b : Nat} {o o' : Obj} (h : w.heap[b]? = some o) (hn : ∀ c e f, o ≠ .cells c e f) : (setObj b o').run P w = .ok () { w with heap := w.heap.setIfInBounds b o' } := by
  cases o <;> first | exact absurd rfl (hn _ _ _) | simp only [setObj, Sem.run, h]

theorem filter_none {α : Type} {p : α → Bool} {l : Array α} (h : ∀ x ∈ l, p x = false) : l.filter p = #[] := by
  apply Array.ext'
  simp only [Array.toList_filter, List.filter_eq_nil_iff]
  intro x hx
  simp [h x (by simpa using hx)]
theorem filter_all {α : Type} {p : α → Bool} {l : Array α} (h : ∀ x ∈ l, p x = true) : l.filter p = l := by
  apply Array.ext'
  simp only [Array.toList_filter, List.filter_eq_self]
  intro x hx
  exact h x (by simpa using hx)

/-- The next entry: any that has not come. -/
theorem run_next {b mb : Nat} {c : Array MapEntry} {clock : Nat} {seen : Array Nat} {ty : TypeId} (hb : w.heap[b]? = some (.mapIter (some mb) clock seen clock)) (hm : w.heap[mb]? = some (.map c clock)) (hborn : ∀ m ∈ c, m.born < clock) :
    (∃ (i : Nat) (m : MapEntry) (w1 : World), c[i]? = some m ∧ seen.contains m.born = false ∧ World.Drew w w1 ∧
      (Instr.next (.pointer (some ⟨b, 0, none⟩)) false ty).run P w = .ok (.tuple #[.bool true, m.key, m.val]) { w1 with heap := w1.heap.setIfInBounds b (.mapIter (some mb) clock (seen.push m.born) clock) })
    ∨ ((∀ m ∈ c, seen.contains m.born = true) ∧ ∃ w1, World.Drew w w1 ∧ (Instr.next (.pointer (some ⟨b, 0, none⟩)) false ty).run P w = .ok (.tuple #[.bool false]) w1) := by
  have hall : (!c.isEmpty && c.all (fun m => decide (m.born ≥ clock))) = false := by
    cases hc : c.isEmpty with
    | true => rfl
    | false =>
      have : 0 < c.size := by
        rcases Nat.eq_zero_or_pos c.size with h | h
        · rw [Array.isEmpty_iff.2 (Array.eq_empty_of_size_eq_zero h)] at hc; cases hc
        · exact h
      have h1 := hborn c[0] (Array.getElem_mem this)
      cases ha : c.all (fun m => decide (m.born ≥ clock)) with
      | false => rfl
      | true =>
        have := (Array.all_eq_true.1 ha) 0 this
        simp at this
        omega
  have hold : (c.filter fun (e : MapEntry) => !seen.contains e.born).filter (fun (e : MapEntry) => decide (e.born < clock)) = c.filter fun (e : MapEntry) => !seen.contains e.born := filter_all fun x hx => by
    have := (Array.mem_filter.1 hx).1
    simpa using hborn x this
  have hnew : (c.filter fun (e : MapEntry) => !seen.contains e.born).filter (fun (e : MapEntry) => decide (e.born ≥ clock)) = #[] := filter_none fun x hx => by
    have := hborn x (Array.mem_filter.1 hx).1
    simp; omega
  have hgo := run_getObj (P := P) hb (fun _ _ _ h => by cases h)
  have hgm := run_getObj (P := P) hm (fun _ _ _ h => by cases h)
  cases hl : (c.filter fun (e : MapEntry) => !seen.contains e.born).isEmpty with
  | true =>
    refine .inr ⟨fun m hmem => ?_, ?_⟩
    · have e0 := Array.isEmpty_iff.1 hl
      cases hs : seen.contains m.born with
      | true => rfl
      | false =>
        have : m ∈ c.filter fun (e : MapEntry) => !seen.contains e.born := Array.mem_filter.2 ⟨hmem, by simp only [hs, Bool.not_false]⟩
        rw [e0] at this
        simp at this
    · refine ⟨w, .refl w, ?_⟩
      have hall' : (!seen.isEmpty && !c.isEmpty && c.all (fun m => decide (m.born ≥ clock))) = false := by rw [Bool.and_assoc, hall, Bool.and_false]
      simp only [Instr.next, Sem.run_bind, hgo, Result.andThen_ok, hgm, hall', Bool.false_eq_true, if_false, hold, hnew, hl, if_true, Sem.run_pure]
      have e0 := Array.isEmpty_iff.1 hl
      simp only [e0]
      simp [run_choose, Question.forced]
  | false =>
    have hpos : 0 < (c.filter fun (e : MapEntry) => !seen.contains e.born).size := by
      rcases Nat.eq_zero_or_pos (c.filter fun (e : MapEntry) => !seen.contains e.born).size with h | h
      · rw [Array.isEmpty_iff.2 (Array.eq_empty_of_size_eq_zero h)] at hl; cases hl
      · exact h
    have pick : ∀ (k : Nat) (w1 : World), k < (c.filter fun (e : MapEntry) => !seen.contains e.born).size → World.Drew w w1 → ∃ (i : Nat) (m : MapEntry), c[i]? = some m ∧ seen.contains m.born = false ∧ (c.filter fun (e : MapEntry) => !seen.contains e.born)[k]? = some m := by
      intro k w1 hk _
      have hmem := Array.getElem_mem hk
      obtain ⟨h1, h2⟩ := Array.mem_filter.1 hmem
      obtain ⟨i, hi, e⟩ := Array.mem_iff_getElem.1 h1
      exact ⟨i, _, by rw [Array.getElem?_eq_getElem hi, e], by simpa using h2, Array.getElem?_eq_getElem hk⟩
    have hall' : (!seen.isEmpty && !c.isEmpty && c.all (fun m => decide (m.born ≥ clock))) = false := by rw [Bool.and_assoc, hall, Bool.and_false]
    have hch : ∃ (k : Nat) (w1 : World), k < (c.filter fun (e : MapEntry) => !seen.contains e.born).size ∧ World.Drew w w1 ∧ (choose (.mapNext (c.filter fun (e : MapEntry) => !seen.contains e.born).size)).run P w = .ok k w1 := by
      rw [run_choose]
      split
      · exact ⟨0, w, hpos, .refl w, rfl⟩
      · exact ⟨_, _, Nat.mod_lt _ hpos, .mk w _, rfl⟩
    obtain ⟨k, w1, hk, hdw, hrun⟩ := hch
    obtain ⟨i, m, h1, h2, h3⟩ := pick k w1 hk hdw
    refine .inl ⟨i, m, w1, h1, h2, hdw, ?_⟩
    have hb1 : w1.heap[b]? = some (.mapIter (some mb) clock seen clock) := by rw [hdw.1]; exact hb
    have hset := run_setObj (P := P) (o' := .mapIter (some mb) clock (seen.push m.born) clock) hb1 (fun _ _ _ h => by cases h)
    have hsz : ((#[] : Array (Option MapEntry)) ++ ((c.filter fun (e : MapEntry) => !seen.contains e.born) ++ #[]).map some).size = (c.filter fun (e : MapEntry) => !seen.contains e.born).size := by simp
    have hget : ((#[] : Array (Option MapEntry)) ++ ((c.filter fun (e : MapEntry) => !seen.contains e.born) ++ #[]).map some)[k]? = some (some m) := by rw [Array.empty_append, Array.append_empty, Array.getElem?_map, h3]; rfl
    simp only [Instr.next, Sem.run_bind, hgo, Result.andThen_ok, hgm, hall', Bool.false_eq_true, if_false, hold, hnew, hl, hsz, hrun, hget, hset, Sem.run_pure]

theorem aeqs_eq : ∀ {a b : List AV}, allb (aeq 40) a b = true → a = b
  | [], [], _ => rfl
  | x :: a, y :: b, h => by
    simp only [allb] at h
    split at h
    · rename_i h1; rw [aeq_sound 40 x y h1, aeqs_eq h]
    · cases h
  | [], _ :: _, h => by simp [allb] at h
  | _ :: _, [], h => by simp [allb] at h
theorem allp_eq : ∀ {a b : List (AV × AV)}, allp (aeq 40) (aeq 40) a b = true → a = b
  | [], [], _ => rfl
  | (x, u) :: a, (y, v) :: b, h => by
    simp only [allp] at h
    split at h
    · rename_i h1
      rw [Bool.and_eq_true] at h1
      rw [aeq_sound 40 x y h1.1, aeq_sound 40 u v h1.2, allp_eq h]
    · cases h
  | [], _ :: _, h => by simp [allp] at h
  | _ :: _, [], h => by simp [allp] at h
theorem hoEq_eq {a b : HO} (h : hoEq a b = true) : a = b := by
  unfold hoEq at h
  split at h
  · simp only [Bool.and_eq_true, beq_iff_eq] at h
    rw [h.1, aeqs_eq h.2]
  · rw [allp_eq h]
  · simp only [Bool.and_eq_true] at h
    rw [seqb_eq h.1, nbeq_true h.2]
  · cases h
theorem frEq_eq : ∀ {a b : Fr}, frEq a b = true → a = b
  | [], [], _ => rfl
  | (n, x) :: a, (m, y) :: b, h => by
    simp only [frEq] at h
    split at h
    · rename_i h1
      rw [Bool.and_eq_true] at h1
      rw [nbeq_true h1.1, aeq_sound 40 x y h1.2, frEq_eq h]
    · cases h
  | [], _ :: _, h => by simp [frEq] at h
  | _ :: _, [], h => by simp [frEq] at h
theorem hEq_eq : ∀ {a b : Heap}, hEq a b = true → a = b
  | [], [], _ => rfl
  | (n, x) :: a, (m, y) :: b, h => by
    simp only [hEq] at h
    split at h
    · rename_i h1
      rw [Bool.and_eq_true] at h1
      rw [nbeq_true h1.1, hoEq_eq h1.2, hEq_eq h]
    · cases h
  | [], _ :: _, h => by simp [hEq] at h
  | _ :: _, [], h => by simp [hEq] at h
theorem stEq_eq {a b : St} (h : stEq a b = true) : a = b := by
  obtain ⟨a1, a2, a3⟩ := a
  obtain ⟨b1, b2, b3⟩ := b
  simp only [stEq, Bool.and_eq_true] at h
  rw [frEq_eq h.1.1, hEq_eq h.1.2, nbeq_true h.2]

theorem mchk1_spec {f : AV × AV → St → Option St} {T : List St} {top M : Nat} : ∀ {es : List (AV × AV)} {k : Nat}, mchk1 f T top M k es = true → ∀ (i : Nat) e, es[i]? = some e → M.testBit (k + i) = false →
    ∃ a b, T[M]? = some a ∧ T[M ||| 2 ^ (k + i)]? = some b ∧ f e a = some b ∧ b.2.2 ≤ top
  | [], k, h, i, e, he, _ => by simp at he
  | e0 :: es, k, h, i, e, he, hb => by
    simp only [mchk1, Bool.and_eq_true] at h
    cases i with
    | zero =>
      simp at he
      subst he
      have h1 := h.1
      rw [Nat.add_zero] at hb ⊢
      rw [hb] at h1
      simp only at h1
      split at h1
      · rename_i a b ha hb2
        split at h1
        · rename_i c hc
          rw [Bool.and_eq_true] at h1
          exact ⟨a, b, ha, hb2, by rw [hc, stEq_eq h1.1], Nat.le_of_ble_eq_true h1.2⟩
        · cases h1
      · cases h1
    | succ i =>
      have := mchk1_spec h.2 i e (by simpa using he) (by rw [← hb]; congr 1; omega)
      rwa [show k + 1 + i = k + (i + 1) by omega] at this
theorem mchk_spec {f : AV × AV → St → Option St} {es : List (AV × AV)} {T : List St} {top : Nat} : ∀ {N : Nat}, mchk f es T top N = true → ∀ (M : Nat), M < N → ∀ (i : Nat) e, es[i]? = some e → M.testBit i = false →
    ∃ a b, T[M]? = some a ∧ T[M ||| 2 ^ i]? = some b ∧ f e a = some b ∧ b.2.2 ≤ top
  | 0, _, M, h, _, _, _, _ => by omega
  | N + 1, h, M, hM, i, e, he, hb => by
    simp only [mchk, Bool.and_eq_true] at h
    by_cases e1 : M = N
    · subst e1
      have := mchk1_spec h.1 i e he (by rw [Nat.zero_add]; exact hb)
      simpa using this
    · exact mchk_spec h.2 M (by omega) i e he hb

theorem dropW_sub : ∀ (nx : Nat) (H : Heap), (dropW nx H).Sublist H
  | _, [] => .slnil
  | nx, (h, o) :: r => by
    simp only [dropW]
    split
    · exact List.Sublist.refl _
    · exact (dropW_sub nx r).cons _
theorem widen (hr : HR E H w) {x y : Nat} (hxy : x ≤ y) : HR { E with D := fun h => E.D h ∨ (x ≤ h ∧ h < y) } H w ∧ Tr E H w { E with D := fun h => E.D h ∨ (x ≤ h ∧ h < y) } H w x y ∧
    ∀ {v cv}, VR E w v cv → VR { E with D := fun h => E.D h ∨ (x ≤ h ∧ h < y) } w v cv := by
  have hm : ∀ {v cv}, VR E w v cv → VR { E with D := fun h => E.D h ∨ (x ≤ h ∧ h < y) } w v cv := fun hv => VR.mono (E := E) (E' := { E with D := fun h => E.D h ∨ (x ≤ h ∧ h < y) }) (fun _ h => ⟨Or.inl h, rfl⟩) (fun _ h => ⟨h, rfl⟩) (.refl w) hv
  exact ⟨⟨hr.nodup, fun p hp => .inl (hr.dom p hp), hr.inj, fun p hp => (hr.obj p hp).mono rfl hm, hr.nz, hr.zlt⟩,
    ⟨hxy, fun _ _ => rfl, fun _ => Iff.rfl, fun _ h => h, fun _ h => .inl h, fun p hp => .inl ⟨p, hp, rfl⟩, rfl, rfl, rfl, Nat.le_refl _, fun _ _ _ => rfl, .refl w, rfl⟩, hm⟩

theorem splitLast_spec : ∀ {l a : List Oper} {o : Oper}, splitLast l = some (a, o) → l = a ++ [o]
  | [], a, o, h => by simp [splitLast] at h
  | [x], a, o, h => by
    simp only [splitLast, Option.some.injEq, Prod.mk.injEq] at h
    obtain ⟨rfl, rfl⟩ := h
    rfl
  | x :: y :: r, a, o, h => by
    simp only [splitLast] at h
    split at h
    · rename_i a' l hs
      simp only [Option.some.injEq, Prod.mk.injEq] at h
      obtain ⟨rfl, rfl⟩ := h
      have := splitLast_spec hs
      rw [this]; rfl
    · cases h

/-- Operations in their order, more behind them. -/
theorem ops_prefix (hcall : CallOK P G call) (hm : MethOK P G) {ops : Array Oper} {Q : Exit → Act → World → Prop} (l : List Nat) : ∀ (os : List Oper) (k : Nat) {fr fr' : Fr} {H H' : Heap} {nx nx' : Nat}, (∀ j o, os[j]? = some o → ops[k + j]? = some o) →
    (∀ o ∈ os, ∀ d, o.dst = some d → d < nt) → runOps G call (os.map (compOper P ops)) fr H nx = some (fr', H', nx') →
    nx ≤ nx' ∧ ∀ (E : Env) (w : World) (a : Act) (dl : List Deferred), HR E H w → FrR E w fr a nt → GR G E w → Fresh E nx nx' → a.defers = dl →
      (∀ E' w' a', HR E' H' w' → Tr E H w E' H' w' nx nx' → FrR E' w' fr' a' nt → a'.defers = dl → wpOps P ops Q l a' w') → wpOps P ops Q (List.range' k os.length ++ l) a w
  | [], k, fr, fr', H, H', nx, nx', _, _, h => by
    simp only [List.map_nil, runOps, Option.some.injEq, Prod.mk.injEq] at h
    obtain ⟨rfl, rfl, rfl⟩ := h
    exact ⟨Nat.le_refl _, fun E w a dl hr hf hg _ hd hQ => hQ E w a hr (.refl _) hf hd⟩
  | o :: os, k, fr, fr', H, H', nx, nx', hos, hdst, h => by
    have ho : ops[k]? = some o := by have := hos 0 o rfl; simpa using this
    have hos' : ∀ j o, os[j]? = some o → ops[k + 1 + j]? = some o := fun j o h => by have := hos (j + 1) o (by simpa using h); rw [← this]; congr 1; omega
    have hd' : ∀ o' ∈ os, ∀ d, o'.dst = some d → d < nt := fun o' h' => hdst o' (.tail _ h')
    simp only [List.map_cons, runOps] at h
    split at h
    · rename_i hw
      split at h
      · rename_i v H1 n1 hx
        have hbad : (compOper P ops o).op ≠ .bad := fun e => by rw [e] at hx; simp [xo, xo_bad] at hx
        obtain ⟨l2, ih⟩ := ops_prefix hcall hm (Q := Q) l os (k + 1) hos' hd' h
        have l1 := xo_le hcall.le (xo_eq.symm.trans hx)
        refine ⟨Nat.le_trans l1 l2, fun E w a dl hr hf hg hfr hdf hQ => ?_⟩
        rw [List.length_cons, List.range'_succ, List.cons_append, wpOps_cons]
        refine DRun.wpOp_of ho (wantx_sound hf hw (.inr hbad)) (any_exec hr hf hg hm hcall (compOper_op hbad) (hfr.left l2) (xo_eq.symm.trans hx) _ _ fun cv E1 w1 h1 h2 h3 => ?_)
        refine ih E1 w1 _ _ h1 ?_ (hg.step hr h2) (hfr.right h2) (by rw [DRun.put_defers]; exact hdf) fun E' w' a' k1 k2 k3 k4 => hQ E' w' a' k1 (h2.trans h1 k2) k3 k4
        rw [compOper_dst]
        exact hf.put (h2.vr hr) (hdst o (.head _)) h3
      · cases h
    · rename_i hw
      obtain ⟨l2, ih⟩ := ops_prefix hcall hm (Q := Q) l os (k + 1) hos' hd' h
      refine ⟨l2, fun E w a dl hr hf hg hfr hdf hQ => ?_⟩
      rw [List.length_cons, List.range'_succ, List.cons_append, wpOps_cons]
      refine DRun.wpOp_not ho (wantx_sound hf hw (.inl rfl)) ?_
      refine ih E w _ _ hr ?_ hg hfr (by rw [DRun.put_defers]; exact hdf) hQ
      rw [compOper_dst]
      exact hf.put id (hdst o (.head _)) (VR.mk_tup (vs := #[]) VRs.nil)
    · cases h

theorem Heap.perm_del : ∀ {H : Heap} {h : Nat} {o : HO}, H.get h = some o → H.Perm (H.del h ++ [(h, o)])
  | (k, o') :: r, h, o, e => by
    simp only [Heap.get] at e
    simp only [Heap.del]
    split at e
    · rename_i hb
      cases e
      rw [nbeq_true hb]
      exact (List.perm_append_comm (l₁ := [(h, _)]) (l₂ := r))
    · rename_i hb
      exact (Heap.perm_del e).cons _

theorem wp_value {o : Oper} {w' : World} {v : Value} {next : Act → World → Prop} {Q : Exit → Act → World → Prop} (h : (execOp a.eval o).run P w = .ok (.value v) w') (hn : next (a.put o.dst v) w') : o.wp P a w next Q := by
  unfold Oper.wp
  rw [h]
  exact hn
theorem mgrow_keep {f : AV × AV → St → Option St} : ∀ {es : List (AV × AV)} {T T' : List St}, mgrow f es T = some T' → ∀ (i : Nat) s, T[i]? = some s → T'[i]? = some s
  | [], T, T', h, i, s, hs => by simp only [mgrow, Option.some.injEq] at h; rw [← h]; exact hs
  | e :: es, T, T', h, i, s, hs => by
    simp only [mgrow] at h
    split at h
    · rename_i T1 h1
      refine mgrow_keep h i s ?_
      rw [List.getElem?_append_left (List.getElem?_eq_some_iff.1 hs).1]; exact hs
    · cases h
theorem isIt_spec {hit : Nat} {o : Option AV} (h : isIt hit o = true) : o = some (.ptr hit 0) := by
  unfold isIt at h
  split at h
  · rw [nbeq_true h]
  · cases h
theorem mstep_spec {rb : St → Option (Ext × St)} {it : Nat} {D : List Nat} {en W id1 hit : Nat} {e : AV × AV} {s s' : St} (h : mstep rb it D en W id1 hit e s = some s') :
    ∃ x fr H n, rb (s.1.put en (.tup [e.1, e.2]), s.2.1, s.2.2) = some (x, fr, H, n) ∧ (x = .normal ∨ x = .exit id1) ∧ n ≤ s.2.2 + W ∧ (wo D fr).get it = some (.ptr hit 0) ∧ s' = (wo D fr, dropW s.2.2 H, s.2.2 + W) := by
  unfold mstep at h
  split at h
  · rename_i x fr H n hx
    split at h
    · rename_i hb
      simp only [Bool.and_eq_true] at hb
      cases h
      refine ⟨x, fr, H, n, hx, ?_, Nat.le_of_ble_eq_true hb.1.2, isIt_spec hb.2, rfl⟩
      cases x with
      | normal => exact .inl rfl
      | exit i => exact .inr (by rw [nbeq_true hb.1.1])
      | ret => simp [goesOn] at hb
    · cases h
  · cases h
theorem run_entry {b mb : Nat} {c : Array MapEntry} {clock : Nat} {seen : Array Nat} {m : MapEntry} {i : Nat} (hb : w.heap[b]? = some (.mapIter (some mb) clock (seen.push m.born) clock)) (hm : w.heap[mb]? = some (.map c clock)) (hi : c[i]? = some m)
    (huniq : ∀ (i j : Nat) m n, c[i]? = some m → c[j]? = some n → m.born = n.born → i = j) : (Instr.entry (.pointer (some ⟨b, 0, none⟩))).run P w = .ok (.tuple #[m.key, m.val]) w := by
  have hgo := run_getObj (P := P) hb (fun _ _ _ h => by cases h)
  have hgm := run_getObj (P := P) hm (fun _ _ _ h => by cases h)
  have hf : c.find? (fun e => e.born == m.born) = some m := by
    cases hf : c.find? (fun e => e.born == m.born) with
    | none =>
      have := Array.find?_eq_none.1 hf m (Array.mem_of_getElem? hi)
      simp at this
    | some m' =>
      have h1 := Array.find?_some hf
      have h2 := Array.mem_of_find?_eq_some hf
      obtain ⟨j, hj⟩ := Array.getElem?_of_mem h2
      have h3 : m'.born = m.born := by simpa using h1
      have := huniq j i m' m hj hi h3
      subst this
      rw [hj] at hi
      rw [hi]
  simp only [Instr.entry, Sem.run_bind, hgo, Result.andThen_ok, hgm]
  simp [hf, hgm]
theorem or_lt {M i n : Nat} (hM : M < 2 ^ n) (hi : i < n) : M ||| 2 ^ i < 2 ^ n := Nat.or_lt_two_pow hM (Nat.pow_lt_pow_right (by omega) hi)
theorem lt_or {M i : Nat} (h : M.testBit i = false) : M < M ||| 2 ^ i := by
  rcases Nat.lt_or_ge M (M ||| 2 ^ i) with h1 | h1
  · exact h1
  · have e : M ||| 2 ^ i = M := Nat.le_antisymm h1 Nat.left_le_or
    have : (M ||| 2 ^ i).testBit i = true := by rw [Nat.testBit_or, Nat.testBit_two_pow_self, Bool.or_true]
    rw [e, h] at this; cases this
theorem full_of {M n : Nat} (hM : M < 2 ^ n) (h : ∀ i, i < n → M.testBit i = true) : M = 2 ^ n - 1 := by
  apply Nat.eq_of_testBit_eq
  intro i
  rw [Nat.testBit_two_pow_sub_one]
  by_cases hi : i < n
  · rw [h i hi]; simp [hi]
  · rw [Nat.testBit_lt_two_pow (Nat.lt_of_lt_of_le hM (Nat.pow_le_pow_right (by omega) (by omega)))]
    simp [hi]

theorem mrange_sound (hcall : CallOK P G call) (hm : MethOK P G) (hmix : P.follows .mixedOrders = true) (lf : Nat) {a b : Code} {xc : XC} {s s' : St} {x : Ext} (hc : mpat P a b = some xc) (hd : dstOk nt xc = true)
    (h : run G call lf xc s = some (x, s')) : Runs P G nt (.seq a b) s x s' := by
  unfold mpat at hc
  split at hc
  rotate_left
  · cases hc
  split at hc
  rotate_left
  · cases hc
  split at hc
  rotate_left
  · cases hc
  rename_i _ _ ida opsA id0 r1id r1 ok idx id1 r2id r2 body _ _ _ pre it t m ty1 ps1 af1 nx it1 ty2 ps2 af2 ok1 nx1 ty3 ps3 af3 en it2 ty4 ps4 af4 rest hA hr1 hr2 _ _ kt et hb ht
  simp only [Bool.and_eq_true, Bool.not_eq_true'] at hb
  obtain ⟨⟨⟨⟨⟨⟨⟨⟨⟨b1, b2⟩, b3⟩, b4⟩, b5⟩, b6⟩, b7⟩, b8⟩, b9⟩, b10⟩ := hb
  have b1 := nbeq_true b1
  have b2 := nbeq_true b2
  have b3 := nbeq_true b3
  have b4 := nbeq_true b4
  have b5 := nbeq_true b5
  have b6 := nbeq_false b6
  have b7 := nbeq_false b7
  have b8 := nbeq_false b8
  have b9 := nbeq_false b9
  have b10 := nbeq_false b10
  subst b1 b2 b3 b4 b5
  obtain ⟨xm, hxm, hc⟩ := obind_some hc
  obtain ⟨xb, hxb, hc⟩ := obind_some hc
  simp only [Option.some.injEq] at hc
  subst hc
  generalize hD : nx :: ok :: en :: dstsOf rest ++ deadOf body = D at h hd
  have hDnx : inN nx D = true := by rw [← hD]; simp [inN, Nat.beq_refl]
  have hDok : inN ok D = true := by
    rw [← hD]
    have := Nat.beq_refl ok
    simp only [List.cons_append, inN]
    split
    · rfl
    · simp [this]
  simp only [dstOk, Bool.and_eq_true] at hd
  obtain ⟨hdA, ⟨⟨⟨hit', hen'⟩, hDall⟩, hrest⟩, hbody⟩ := hd
  have hitn : it < nt := by simpa [Nat.blt_eq] using hit'
  have henn : en < nt := by simpa [Nat.blt_eq] using hen'
  have hDlt : ∀ d ∈ D, d < nt := fun d hd => by have := List.all_eq_true.1 hDall d hd; simpa [Nat.blt_eq] using this
  have hnxn : nx < nt := hDlt nx (by rw [← hD]; simp)
  have hokn : ok < nt := hDlt ok (by rw [← hD]; simp)
  have hdst : ∀ o ∈ pre, ∀ d, o.dst = some d → d < nt := fun o ho d hod => by
    have h1 := List.all_eq_true.1 hdA _ (List.mem_map_of_mem (f := compOper P opsA) ho)
    rw [compOper_dst, hod] at h1
    simpa [Nat.blt_eq] using h1
  have hdstr : ∀ o ∈ rest, ∀ d, o.dst = some d → d < nt := fun o ho d hod => by
    have h1 := List.all_eq_true.1 hrest _ (List.mem_map_of_mem (f := compOper P r2) ho)
    rw [compOper_dst, hod] at h1
    simpa [Nat.blt_eq] using h1
  have hAl := splitLast_spec hA
  have hAs : opsA.size = pre.length + 1 := by
    have := congrArg List.length hAl
    simpa using this
  have hAr : List.range opsA.size = List.range' 0 pre.length ++ [pre.length] := by rw [hAs, List.range_succ, List.range_eq_range']
  have hApre : ∀ (j : Nat) o, pre[j]? = some o → opsA[0 + j]? = some o := fun j o ho => by
    have h1 : opsA.toList[j]? = some o := by rw [hAl, List.getElem?_append_left (List.getElem?_eq_some_iff.1 ho).1]; exact ho
    simpa using h1
  have hAlast : opsA[pre.length]? = some ⟨some it, .range t m, ty1, ps1, af1, none⟩ := by
    have h1 : opsA.toList[pre.length]? = some ⟨some it, .range t m, ty1, ps1, af1, none⟩ := by rw [hAl]; simp
    simpa using h1
  have h1s : r1.size = 2 := by have := congrArg List.length hr1; simpa using this
  have h1r : List.range r1.size = [0, 1] := by rw [h1s]; rfl
  have h10 : r1[0]? = some ⟨some nx, .next (.tmp it) false, ty2, ps2, af2, none⟩ := by
    have : r1.toList[0]? = some ⟨some nx, .next (.tmp it) false, ty2, ps2, af2, none⟩ := by rw [hr1]; rfl
    simpa using this
  have h11 : r1[1]? = some ⟨some ok, .extract (.tmp nx) 0, ty3, ps3, af3, none⟩ := by
    have : r1.toList[1]? = some ⟨some ok, .extract (.tmp nx) 0, ty3, ps3, af3, none⟩ := by rw [hr1]; rfl
    simpa using this
  have h2s : r2.size = rest.length + 1 := by have := congrArg List.length hr2; simpa using this
  have h2r : List.range r2.size = 0 :: List.range' 1 rest.length := by rw [h2s, List.range_eq_range', List.range'_succ]
  have h20 : r2[0]? = some ⟨some en, .entry (.tmp it), ty4, ps4, af4, none⟩ := by
    have : r2.toList[0]? = some ⟨some en, .entry (.tmp it), ty4, ps4, af4, none⟩ := by rw [hr2]; rfl
    simpa using this
  have h2rest : ∀ (j : Nat) o, rest[j]? = some o → r2[1 + j]? = some o := fun j o ho => by
    have h1 : r2.toList[1 + j]? = some o := by rw [hr2, Nat.add_comm, List.getElem?_cons_succ]; exact ho
    simpa using h1
  obtain ⟨rb, hrb⟩ : ∃ rb, rb = (fun s : St => match runOps G call (rest.map (compOper P r2)) s.1 s.2.1 s.2.2 with
      | some s' => run G call lf xb s'
      | none => none) := ⟨_, rfl⟩
  simp only [run] at h
  cases hro : runOps G call (pre.map (compOper P opsA)) s.1 s.2.1 s.2.2 with
  | none => rw [hro] at h; cases h
  | some s1 =>
  rw [hro] at h
  have e : ∀ o, runM G rb xm it D en 100000 id1 s1 = o → (match o with | some s' => some (Ext.normal, s') | none => none) = some (x, s') := by
    intro o ho
    rw [← ho, hrb]
    exact h
  cases hrm : runM G rb xm it D en 100000 id1 s1 with
  | none => have := e _ hrm; cases this
  | some s2 =>
  have h := e _ hrm
  simp only [Option.some.injEq, Prod.mk.injEq] at h
  obtain ⟨rfl, rfl⟩ := h
  -- a round's own operations
  have body_ok : ∀ {s3 s4 : St} {x4 : Ext}, rb s3 = some (x4, s4) → s3.2.2 ≤ s4.2.2 ∧ ∀ (E : Env) (w : World) (a : Act) (Q : Exit → Act → World → Prop) (dl : List Deferred), HR E s3.2.1 w → FrR E w s3.1 a nt → GR G E w → Fresh E s3.2.2 s4.2.2 → a.defers = dl →
      (∀ E' w' a', HR E' s4.2.1 w' → Tr E s3.2.1 w E' s4.2.1 w' s3.2.2 s4.2.2 → FrR E' w' s4.1 a' nt → a'.defers = dl → Q (exitOf x4) a' w') →
      wpOps P r2 (Exit.then (body.wp P Q) Q) (List.range' 1 rest.length) a w := by
    intro s3 s4 x4 h3
    rw [hrb] at h3
    simp only at h3
    split at h3
    · rename_i s5 h5
      obtain ⟨fr5, H5, n5⟩ := s5
      obtain ⟨l1, r1'⟩ := code_sound hcall hm hmix lf body hxb hbody h3
      have l0 := (ops_prefix (Q := fun _ _ _ => True) hcall hm [] rest 1 h2rest hdstr h5).1
      refine ⟨Nat.le_trans l0 l1, fun E w a Q dl hr hf hg hfr hdf hQ => ?_⟩
      have := (ops_prefix (Q := Exit.then (body.wp P Q) Q) hcall hm [] rest 1 h2rest hdstr h5).2 E w a _ hr hf hg (hfr.left l1) hdf fun E1 w1 a1 k1 k2 k3 k4 => ?_
      · rw [List.append_nil] at this
        exact this
      · exact r1' E1 w1 a1 Q _ k1 k3 (hg.step hr k2) (hfr.right k2) k4 fun E' w' a' m1 m2 m3 m4 => hQ E' w' a' m1 (k2.trans k1 m2) m3 m4
    · cases h3
  obtain ⟨fr1, H1, n1⟩ := s1
  have l0 := (ops_prefix (Q := fun _ _ _ => True) hcall hm [pre.length] pre 0 hApre hdst hro).1
  unfold runM at hrm
  split at hrm
  · -- no map
    rename_i hev
    simp only at hev
    cases hrm
    refine ⟨by show s.2.2 ≤ n1 + 1; omega, fun E w a Q dl hr hf hg hfr hdf hQ => ?_⟩
    simp only at hfr hQ
    refine wp_seq (wp_region ?_)
    rw [hAr]
    refine (ops_prefix hcall hm [pre.length] pre 0 hApre hdst hro).2 E w a _ hr hf hg (hfr.left (by omega)) hdf fun E1 w1 a1 k1 k2 k3 k4 => ?_
    have hg1 := hg.step hr k2
    have hfr1 : Fresh E1 n1 (n1 + 1) := hfr.right k2
    have hnD : ¬ E1.D n1 := hfr1 n1 (Nat.le_refl _) (by omega)
    have emv : a1.eval m = .map none := by
      have hmv : VR E1 w1 .nilmap (a1.eval m) := copd_sound k3 hg1 hxm hev
      generalize a1.eval m = cm at hmv
      cases hmv
      rfl
    rw [wpOps_cons]
    refine DRun.wpOp_of hAlast (by simp [Region.wanted]) ?_
    have hx : (execOp a1.eval ⟨some it, .range t m, ty1, ps1, af1, none⟩).run P w1 = .ok (.value (.pointer (some ⟨w1.heap.size, 0, none⟩))) { w1 with heap := w1.heap.push (.mapIter none 0 #[] 0) } := by
      simp [execOp, Instr.range, run_underlying ht, emv]
    refine wp_value hx ?_
    simp only [wpOps]
    obtain ⟨q1, q2, q3⟩ := alloc_free k1 hnD (.mapIter none 0 #[] 0)
    have hw2 : ({ w1 with heap := w1.heap.push (.mapIter none 0 #[] 0) } : World).heap[w1.heap.size]? = some (.mapIter none 0 #[] 0) := heap_push_new
    generalize ({ w1 with heap := w1.heap.push (.mapIter none 0 #[] 0) } : World) = w2 at q1 q2 q3 hw2
    have ea2 : (a1.put (some it) (.pointer (some ⟨w1.heap.size, 0, none⟩))).tmps.getD it undef = .pointer (some ⟨w1.heap.size, 0, none⟩) := put_get_same (by rw [k3.size]; exact hitn)
    refine wp_block (wp_loop_ghost (fun n a' w' => a' = a1.put (some it) (.pointer (some ⟨w1.heap.size, 0, none⟩)) ∧ w' = w2) 0 ⟨rfl, rfl⟩ ?_)
    rintro n a3 w3 ⟨ea, ew⟩
    rw [ea, ew]
    have hgo := run_getObj (P := P) hw2 (fun _ _ _ h => by cases h)
    refine wp_seq (wp_region ?_)
    rw [h1r, wpOps_cons]
    refine DRun.wpOp_of h10 (by simp [Region.wanted]) ?_
    have hx1 : (execOp (a1.put (some it) (.pointer (some ⟨w1.heap.size, 0, none⟩))).eval ⟨some nx, .next (.tmp it) false, ty2, ps2, af2, none⟩).run P w2 = .ok (.value (.tuple #[.bool false])) w2 := by
      simp only [execOp, Act.eval, ea2, Sem.run_bind, Instr.next, hgo, Result.andThen_ok, Sem.run_pure]
    refine wp_value hx1 ?_
    have hsz2 : (a1.put (some it) (.pointer (some ⟨w1.heap.size, 0, none⟩))).tmps.size = nt := by rw [DRun.put_size, k3.size]
    have ea3 : ((a1.put (some it) (.pointer (some ⟨w1.heap.size, 0, none⟩))).put (some nx) (.tuple #[.bool false])).tmps.getD nx undef = .tuple #[.bool false] := put_get_same (by rw [hsz2]; exact hnxn)
    rw [wpOps_cons]
    refine DRun.wpOp_of h11 (by simp [Region.wanted]) ?_
    have hx2 : ∀ wz, (execOp ((a1.put (some it) (.pointer (some ⟨w1.heap.size, 0, none⟩))).put (some nx) (.tuple #[.bool false])).eval ⟨some ok, .extract (.tmp nx) 0, ty3, ps3, af3, none⟩).run P wz = .ok (.value (.bool false)) wz := fun wz => by
      simp only [execOp, Act.eval, ea3]
      simp [Instr.extract]
    refine wp_value (hx2 _) ?_
    simp only [wpOps]
    have ea4 : (((a1.put (some it) (.pointer (some ⟨w1.heap.size, 0, none⟩))).put (some nx) (.tuple #[.bool false])).put (some ok) (.bool false)).tmps.getD ok undef = .bool false := put_get_same (by rw [DRun.put_size, hsz2]; exact hokn)
    refine wp_seq (wp_cond_false (show Act.eval _ (.tmp ok) = .bool false from ea4) (wp_exit ?_))
    show (if id0 = id0 then _ else _)
    rw [if_pos rfl]
    have hff : FrR (E1.add n1 w1.heap.size) w2 (wo D (wo [it] fr1)) (a1.put (some it) (.pointer (some ⟨w1.heap.size, 0, none⟩))) nt := by
      have h1 : FrR (E1.add n1 w1.heap.size) w2 (wo [it] fr1) (a1.put (some it) (.pointer (some ⟨w1.heap.size, 0, none⟩))) nt :=
        FrR.putDead ⟨k3.size, fun t v h => q3 ((k3.wo [it]).get t v h)⟩ (wo_none (by simp [inN, Nat.beq_refl]))
      exact h1.wo D
    exact hQ _ w2 _ q1 (k2.trans k1 q2) (FrR.putDead (FrR.putDead hff (wo_none hDnx)) (wo_none hDok)) (by rw [DRun.put_defers, DRun.put_defers, DRun.put_defers]; exact k4)
  rotate_left
  · cases hrm
  rename_i hm1 hev
  simp only at hrm hev
  split at hrm
  rotate_left
  · cases hrm
  rename_i es hget
  split at hrm
  rotate_left
  · cases hrm
  rename_i T hgrow
  split at hrm
  rotate_left
  · cases hrm
  rename_i ff hT
  split at hrm
  rotate_left
  · cases hrm
  rename_i hchk
  cases hrm
  -- the table of states
  have hT0 : T[0]? = some ((wo D fr1).put it (.ptr n1 0), H1.del hm1, n1 + 1) := mgrow_keep hgrow 0 _ rfl
  have hpow : 0 < 2 ^ es.length := Nat.two_pow_pos _
  have htop : n1 + 1 ≤ ff.2.2 := by
    cases es with
    | nil =>
      have : T[0]? = some ff := hT
      rw [hT0] at this
      cases this
      exact Nat.le_refl _
    | cons e0 er =>
      have hlt : 0 < 2 ^ (e0 :: er).length - 1 := by
        have := Nat.one_lt_two_pow (n := (e0 :: er).length) (by simp)
        omega
      obtain ⟨a0, b0, e1, e2, e3, e4⟩ := mchk_spec hchk 0 hlt 0 e0 rfl (by simp)
      rw [hT0] at e1
      cases e1
      obtain ⟨_, _, _, _, _, _, _, _, rfl⟩ := mstep_spec e3
      simp only at e4
      omega
  refine ⟨by show s.2.2 ≤ ff.2.2; omega, fun E w a Q dl hr hf hg hfr hdf hQ => ?_⟩
  simp only at hfr hQ
  refine wp_seq (wp_region ?_)
  rw [hAr]
  refine (ops_prefix hcall hm [pre.length] pre 0 hApre hdst hro).2 E w a _ hr hf hg (hfr.left (by omega)) hdf fun E1 w1 a1 k1 k2 k3 k4 => ?_
  have hg1 := hg.step hr k2
  have hfr1 : Fresh E1 n1 ff.2.2 := hfr.right k2
  have hnD : ¬ E1.D n1 := hfr1 n1 (Nat.le_refl _) (by omega)
  have hmv : VR E1 w1 (.map hm1) (a1.eval m) := copd_sound k3 hg1 hxm hev
  obtain ⟨emv, hmD⟩ := hmv.of_map
  obtain ⟨c, clock, hmb, hlen, hent, huniq⟩ := k1.obj _ (Heap.mem_of_get hget)
  simp only at hmb
  generalize hmbe : E1.ρ hm1 = mb at hmb emv
  have hborn : ∀ x ∈ c, x.born < clock := fun x hx => by
    obtain ⟨j, hj⟩ := Array.getElem?_of_mem hx
    have hjl : j < es.length := by rw [hlen]; exact (Array.getElem?_eq_some_iff.1 hj).1
    obtain ⟨x', e1, _, _, e2⟩ := hent j es[j].1 es[j].2 (by rw [List.getElem?_eq_getElem hjl])
    rw [hj] at e1
    cases e1
    exact e2
  rw [wpOps_cons]
  refine DRun.wpOp_of hAlast (by simp [Region.wanted]) ?_
  have hgm := run_getObj (P := P) hmb (fun _ _ _ h => by cases h)
  have hx : (execOp a1.eval ⟨some it, .range t m, ty1, ps1, af1, none⟩).run P w1 = .ok (.value (.pointer (some ⟨w1.heap.size, 0, none⟩))) { w1 with heap := w1.heap.push (.mapIter (some mb) clock #[] clock) } := by
    simp [execOp, Instr.range, run_underlying ht, emv, hgm]
  refine wp_value hx ?_
  simp only [wpOps]
  have k1' : HR E1 (H1.del hm1) w1 := k1.sub (Heap.sub_del H1 hm1)
  obtain ⟨q1, q2, q3⟩ := alloc_free k1' hnD (.mapIter (some mb) clock #[] clock)
  have hmbl : mb < w1.heap.size := (Array.getElem?_eq_some_iff.1 hmb).1
  have hmbno : ∀ p ∈ H1.del hm1, E1.ρ p.1 ≠ mb := fun p hp e => by
    obtain ⟨p1, p2⟩ := Heap.mem_del k1.nodup hp
    exact p2 (k1.inj p p1 _ (Heap.mem_of_get hget) (by rw [e]; exact hmbe.symm))
  refine wp_block ?_
  refine wp_loop_ghost (fun n a w => ∃ (M : Nat) (f : St) (E' : Env) (seen : Array Nat), n = 2 ^ es.length - M ∧ M < 2 ^ es.length ∧ T[M]? = some f ∧ f.1.get nx = none ∧ f.1.get ok = none ∧ f.1.get it = some (.ptr n1 0) ∧ HR E' f.2.1 w ∧ FrR E' w f.1 a nt ∧ GR G E' w ∧ a.defers = dl ∧
      Tr E1 (H1.del hm1) w1 E' f.2.1 w n1 f.2.2 ∧ E'.ρ n1 = w1.heap.size ∧ (∀ p ∈ f.2.1, E'.ρ p.1 ≠ w1.heap.size) ∧ ¬ E'.Z w1.heap.size ∧ w.heap[w1.heap.size]? = some (.mapIter (some mb) clock seen clock) ∧ (∀ (i : Nat) x, c[i]? = some x → seen.contains x.born = M.testBit i)) (2 ^ es.length) ?_ ?_
  · refine ⟨0, _, E1.add n1 w1.heap.size, #[], rfl, hpow, hT0, ?_, ?_, ?_, q1, ?_, fun g v h => q3 (hg1 g v h), by rw [DRun.put_defers]; exact k4, q2, Env.add_ρ_new _ _ _, fun p hp => ?_, ?_, heap_push_new, fun i x hx => by simp⟩
    · show ((wo D fr1).put it (.ptr n1 0)).get nx = none
      rw [Fr.get_put, if_neg (Ne.symm b7)]
      exact wo_none hDnx
    · show ((wo D fr1).put it (.ptr n1 0)).get ok = none
      rw [Fr.get_put, if_neg (Ne.symm b8)]
      exact wo_none hDok
    · show ((wo D fr1).put it (.ptr n1 0)).get it = _
      rw [Fr.get_put, if_pos rfl]
    · have hv : VR (E1.add n1 w1.heap.size) { w1 with heap := w1.heap.push (.mapIter (some mb) clock #[] clock) } (.ptr n1 0) (.pointer (some ⟨w1.heap.size, 0, none⟩)) := by
        have := VR.ptr (E := E1.add n1 w1.heap.size) (w := { w1 with heap := w1.heap.push (.mapIter (some mb) clock #[] clock) }) n1 0 (.inr rfl)
        rwa [Env.add_ρ_new] at this
      exact (k3.wo D).put (d := some it) q3 (fun n hn => by cases hn; exact hitn) hv
    · have h1 := k1'.dom p hp
      have hne : p.1 ≠ n1 := fun e => hnD (e ▸ h1)
      rw [Env.add_ρ_old hne]
      have := k1'.lt hp
      omega
    · intro hz
      have := k1'.zlt _ hz
      omega
  · rintro n a2 w2 ⟨M, f, E2, seen, rfl, hM, hTM, g1, g2, g3, v1, v2, v3, v4, t1, u1, u2, u3, u4, u5⟩
    have hmb2 : w2.heap[mb]? = some (.map c clock) := (t1.old mb hmbl hmbno).trans hmb
    obtain ⟨hitv, hitD⟩ := (v2.get it _ g3).of_ptr
    rw [u1] at hitv
    refine wp_seq (wp_region ?_)
    rw [h1r, wpOps_cons]
    refine DRun.wpOp_of h10 (by simp [Region.wanted]) ?_
    have hb2l : w1.heap.size < w2.heap.size := (Array.getElem?_eq_some_iff.1 u4).1
    rcases run_next (P := P) (ty := ty2) u4 hmb2 hborn with ⟨i, x, w3, e1, e2, e3, e4⟩ | ⟨e1, w3, e2, e3⟩
    · have hx1 : (execOp a2.eval ⟨some nx, .next (.tmp it) false, ty2, ps2, af2, none⟩).run P w2 = .ok (.value (.tuple #[.bool true, x.key, x.val])) { w3 with heap := w3.heap.setIfInBounds w1.heap.size (.mapIter (some mb) clock (seen.push x.born) clock) } := by
        simp only [execOp, Act.eval, hitv, Sem.run_bind, e4, Result.andThen_ok, Sem.run_pure]
      refine wp_value hx1 ?_
      -- the frames behind the two first operations
      have ea3 : (a2.put (some nx) (.tuple #[.bool true, x.key, x.val])).tmps.getD nx undef = .tuple #[.bool true, x.key, x.val] := put_get_same (by rw [v2.size]; exact hnxn)
      rw [wpOps_cons]
      refine DRun.wpOp_of h11 (by simp [Region.wanted]) ?_
      have hx2 : ∀ wz, (execOp (a2.put (some nx) (.tuple #[.bool true, x.key, x.val])).eval ⟨some ok, .extract (.tmp nx) 0, ty3, ps3, af3, none⟩).run P wz = .ok (.value (.bool true)) wz := fun wz => by
        simp only [execOp, Act.eval, ea3]
        simp [Instr.extract]
      refine wp_value (hx2 _) ?_
      simp only [wpOps]
      have ea4 : ((a2.put (some nx) (.tuple #[.bool true, x.key, x.val])).put (some ok) (.bool true)).tmps.getD ok undef = .bool true := put_get_same (by rw [DRun.put_size, v2.size]; exact hokn)
      refine wp_seq (wp_cond_true (show Act.eval _ (.tmp ok) = .bool true from ea4) (wp_skip ?_))
      -- the entry
      have hil : i < es.length := by rw [hlen]; exact (Array.getElem?_eq_some_iff.1 e1).1
      have hie : es[i]? = some es[i] := List.getElem?_eq_getElem hil
      obtain ⟨x', ex, vk, vv, _⟩ := hent i es[i].1 es[i].2 hie
      rw [e1] at ex
      cases ex
      have hbit : M.testBit i = false := by rw [← u5 i x e1]; exact e2
      have hMlt : M < 2 ^ es.length - 1 := by
        rcases Nat.lt_or_ge M (2 ^ es.length - 1) with h1 | h1
        · exact h1
        · have : M = 2 ^ es.length - 1 := by omega
          rw [this, Nat.testBit_two_pow_sub_one] at hbit
          simp [hil] at hbit
      obtain ⟨f', b', o1, o2, o3, o4⟩ := mchk_spec hchk M hMlt i es[i] hie hbit
      rw [hTM] at o1
      cases o1
      obtain ⟨x4, fr4, H4, n4, y1, y2, y3, y4, rfl⟩ := mstep_spec o3
      simp only at o4 y1 y3
      -- the world with the iterator turned
      obtain ⟨d1, d2⟩ := drew_step v1 e3 f.2.2
      have dv : ∀ {v cv}, VR E2 w2 v cv → VR E2 w3 v cv := fun h => drew_vr e3 h
      have u4' : w3.heap[w1.heap.size]? = some (.mapIter (some mb) clock seen clock) := by rw [e3.1]; exact u4
      obtain ⟨z1, z2, z3, z4, z5⟩ := free_set (ob' := .mapIter (some mb) clock (seen.push x.born) clock) d1 u4' (fun _ _ _ h => by cases h) u2 u3
      have t2 := (t1.trans v1 d2).free (Nat.le_refl _) z3 z4
      generalize hw4 : ({ w3 with heap := w3.heap.setIfInBounds w1.heap.size (.mapIter (some mb) clock (seen.push x.born) clock) } : World) = w4 at z1 z2 z3 t2
      have z5' : w4.heap[w1.heap.size]? = some (.mapIter (some mb) clock (seen.push x.born) clock) := by rw [← hw4]; exact z5
      have hmb4 : w4.heap[mb]? = some (.map c clock) := (t2.old mb hmbl hmbno).trans hmb
      have hv4 : ∀ {v cv}, VR E2 w2 v cv → VR E2 w4 v cv := fun h => z2 (dv h)
      have hf4 : FrR E2 w4 f.1 ((a2.put (some nx) (.tuple #[.bool true, x.key, x.val])).put (some ok) (.bool true)) nt :=
        FrR.putDead (FrR.putDead ⟨v2.size, fun t v h => hv4 (v2.get t v h)⟩ g1) g2
      have ea4it : ((a2.put (some nx) (.tuple #[.bool true, x.key, x.val])).put (some ok) (.bool true)).tmps.getD it undef = .pointer (some ⟨w1.heap.size, 0, none⟩) := by
        rw [put_get_other b8, put_get_other b7]; exact hitv
      have hent4 := run_entry (P := P) z5' hmb4 e1 huniq
      have hx3 : (execOp ((a2.put (some nx) (.tuple #[.bool true, x.key, x.val])).put (some ok) (.bool true)).eval ⟨some en, .entry (.tmp it), ty4, ps4, af4, none⟩).run P w4 = .ok (.value (.tuple #[x.key, x.val])) w4 := by
        simp only [execOp, Act.eval, ea4it, Sem.run_bind, hent4, Result.andThen_ok, Sem.run_pure]
      refine wp_block (wp_seq (wp_region ?_))
      rw [h2r, wpOps_cons]
      refine DRun.wpOp_of h20 (by simp [Region.wanted]) ?_
      refine wp_value hx3 ?_
      have hkv : VR E2 w4 (.tup [es[i].1, es[i].2]) (.tuple #[x.key, x.val]) := VR.mk_tup (vs := #[x.key, x.val]) (VRs.cons (t2.vr k1' vk) (VRs.cons (t2.vr k1' vv) VRs.nil))
      have hf5 := hf4.put (d := some en) (fun h => h) (fun n hn => by cases hn; exact henn) hkv
      have hg4 : GR G E2 w4 := fun g v h => hv4 (v3 g v h)
      have hfr4 : Fresh E2 f.2.2 ff.2.2 := hfr1.right t2
      obtain ⟨l3, body3⟩ := body_ok y1
      refine body3 E2 w4 _ _ dl z1 hf5 hg4 (hfr4.left (by simp only; omega)) (by rw [DRun.put_defers, DRun.put_defers, DRun.put_defers]; exact v4) fun E5 w5 a6 m1 m2 m3 m4 => ?_
      -- behind the round
      have goal : ∀ (K : Act → World → Prop), K = (fun a' w' => ∃ n', n' < 2 ^ es.length - M ∧ ∃ (M : Nat) (f : St) (E' : Env) (seen : Array Nat), n' = 2 ^ es.length - M ∧ M < 2 ^ es.length ∧ T[M]? = some f ∧ f.1.get nx = none ∧ f.1.get ok = none ∧ f.1.get it = some (.ptr n1 0) ∧ HR E' f.2.1 w' ∧ FrR E' w' f.1 a' nt ∧ GR G E' w' ∧ a'.defers = dl ∧
          Tr E1 (H1.del hm1) w1 E' f.2.1 w' n1 f.2.2 ∧ E'.ρ n1 = w1.heap.size ∧ (∀ p ∈ f.2.1, E'.ρ p.1 ≠ w1.heap.size) ∧ ¬ E'.Z w1.heap.size ∧ w'.heap[w1.heap.size]? = some (.mapIter (some mb) clock seen clock) ∧ (∀ (i : Nat) x, c[i]? = some x → seen.contains x.born = M.testBit i)) → K a6 w5 := by
        rintro K rfl
        have hw5l : w1.heap.size < w4.heap.size := (Array.getElem?_eq_some_iff.1 z5').1
        have hno5 : ∀ p ∈ H4, E5.ρ p.1 ≠ w1.heap.size := fun p hp e => by
          rcases m2.own p hp with ⟨q, hq, eq⟩ | h1
          · exact u2 q hq (eq.trans e)
          · omega
        have hz5 : ¬ E5.Z w1.heap.size := fun hz => by
          rcases m2.znew _ hz with h1 | ⟨q, hq, eq⟩ | h1
          · exact u3 h1
          · exact u2 q hq eq
          · omega
        have hit5 : w5.heap[w1.heap.size]? = some (.mapIter (some mb) clock (seen.push x.born) clock) := (m2.old _ hw5l u2).trans z5'
        have hsub := dropW_sub f.2.2 H4
        have m1' : HR E5 (dropW f.2.2 H4) w5 := m1.sub hsub
        obtain ⟨s1, s2, s3⟩ := widen m1' y3
        have t3 := (t2.trans z1 (m2.sub hsub)).trans m1' s2
        refine ⟨2 ^ es.length - (M ||| 2 ^ i), ?_, M ||| 2 ^ i, _, _, seen.push x.born, rfl, or_lt hM hil, o2, wo_none hDnx, wo_none hDok, y4, s1, ?_, fun g v h => s3 (m2.vr z1 (hg4 g v h)), m4, t3, ?_, fun p hp => hno5 p (hsub.subset hp), hz5, hit5, fun j x' hj => ?_⟩
        · have h1 := lt_or hbit
          have h2 := or_lt hM hil
          omega
        · exact ⟨m3.size, fun t v h => s3 ((m3.wo D).get t v h)⟩
        · show E5.ρ n1 = _
          rw [m2.agree n1 hitD]; exact u1
        · rw [Array.contains_push, u5 j x' hj, Nat.testBit_or, Nat.testBit_two_pow]
          congr 1
          by_cases e : i = j
          · subst e
            rw [e1] at hj
            cases hj
            simp
          · have : ¬ x'.born = x.born := fun h1 => e (huniq j i x' x hj e1 h1).symm
            simp [e, this]
      rcases y2 with rfl | rfl
      · exact goal _ rfl
      · show (if id1 = id1 then _ else _)
        rw [if_pos rfl]
        exact goal _ rfl
    · -- all have come
      have hx1 : (execOp a2.eval ⟨some nx, .next (.tmp it) false, ty2, ps2, af2, none⟩).run P w2 = .ok (.value (.tuple #[.bool false])) w3 := by
        simp only [execOp, Act.eval, hitv, Sem.run_bind, e3, Result.andThen_ok, Sem.run_pure]
      refine wp_value hx1 ?_
      have ea3 : (a2.put (some nx) (.tuple #[.bool false])).tmps.getD nx undef = .tuple #[.bool false] := put_get_same (by rw [v2.size]; exact hnxn)
      rw [wpOps_cons]
      refine DRun.wpOp_of h11 (by simp [Region.wanted]) ?_
      have hx2 : ∀ wz, (execOp (a2.put (some nx) (.tuple #[.bool false])).eval ⟨some ok, .extract (.tmp nx) 0, ty3, ps3, af3, none⟩).run P wz = .ok (.value (.bool false)) wz := fun wz => by
        simp only [execOp, Act.eval, ea3]
        simp [Instr.extract]
      refine wp_value (hx2 _) ?_
      simp only [wpOps]
      have ea4 : ((a2.put (some nx) (.tuple #[.bool false])).put (some ok) (.bool false)).tmps.getD ok undef = .bool false := put_get_same (by rw [DRun.put_size, v2.size]; exact hokn)
      refine wp_seq (wp_cond_false (show Act.eval _ (.tmp ok) = .bool false from ea4) (wp_exit ?_))
      have hfull : M = 2 ^ es.length - 1 := full_of hM fun i hi => by
        have hic : i < c.size := by rw [← hlen]; exact hi
        rw [← u5 i c[i] (Array.getElem?_eq_getElem hic)]
        exact e1 _ (Array.getElem_mem hic)
      rw [hfull, hT] at hTM
      cases hTM
      obtain ⟨d1, d2⟩ := drew_step v1 e2 ff.2.2
      have dv : ∀ {v cv}, VR E2 w2 v cv → VR E2 w3 v cv := fun h => drew_vr e2 h
      have t2 := t1.trans v1 d2
      have hperm := Heap.perm_del hget
      obtain ⟨p1, p2⟩ := Tr.frame (k1.perm hperm) d1 t2
      have p3 := p2.perm hperm.symm (List.Perm.refl _)
      show (if id0 = id0 then _ else _)
      rw [if_pos rfl]
      exact hQ E2 w3 _ p1 (k2.trans k1 p3) (FrR.putDead (FrR.putDead ⟨v2.size, fun t v h => dv (v2.get t v h)⟩ g1) g2) (by rw [DRun.put_defers, DRun.put_defers]; exact v4)

/-- A function's body, its ranges over maps too. -/
theorem top_sound (hcall : CallOK P G call) (hm : MethOK P G) (hmix : P.follows .mixedOrders = true) (lf : Nat) : ∀ (c : Code) {xc : XC} {s s' : St} {x : Ext}, compTop P c = some xc → dstOk nt xc = true → run G call lf xc s = some (x, s') → Runs P G nt c s x s' := by
  intro c
  induction c with
  | seq a b iha ihb =>
    intro xc s s' x hc hd h
    simp only [compTop] at hc
    split at hc
    · rename_i y hy
      cases hc
      exact mrange_sound hcall hm hmix lf hy hd h
    obtain ⟨xa, ha, hc⟩ := obind_some hc
    obtain ⟨xb, hb, hc⟩ := obind_some hc
    simp only [Option.some.injEq] at hc
    subst hc
    simp only [dstOk, Bool.and_eq_true] at hd
    simp only [run] at h
    split at h
    · rename_i s1 hs
      obtain ⟨l1, r1⟩ := iha ha hd.1 hs
      obtain ⟨l2, r2⟩ := ihb hb hd.2 h
      refine ⟨Nat.le_trans l1 l2, fun E w a Q dl hr hf hg hfr hdf hQ => ?_⟩
      refine wp_seq (r1 E w a _ _ hr hf hg (hfr.left l2) hdf fun E1 w1 a1 h1 h2 h3 h4 => ?_)
      exact r2 E1 w1 a1 Q _ h1 h3 (hg.step hr h2) (hfr.right h2) h4 fun E' w' a' k1 k2 k3 k4 => hQ E' w' a' k1 (h2.trans h1 k2) k3 k4
    · rename_i r hne
      have hx : x ≠ .normal := fun e => hne s' (by rw [← e]; exact h)
      obtain ⟨l1, r1⟩ := iha ha hd.1 h
      refine ⟨l1, fun E w a Q dl hr hf hg hfr hdf hQ => ?_⟩
      refine wp_seq (r1 E w a _ _ hr hf hg hfr hdf fun E1 w1 a1 h1 h2 h3 h4 => ?_)
      have := hQ E1 w1 a1 h1 h2 h3 h4
      cases x <;> first | exact absurd rfl hx | exact this
  | _ => exact fun hc hd h => code_sound hcall hm hmix lf _ hc hd h
end
end Go.Sy

/- Functions: entered, run, left. No condition. -/
namespace Go.Sy

section
variable {P : Program} {G : Cx} {E : Env} {w : World} {H : Heap} {nx : Nat}

/-- The objects above a mark are never written any more. -/
def Env.close (E : Env) (H : Heap) (nx : Nat) : Env := { E with Z := fun x => E.Z x ∨ ∃ p ∈ H, nx ≤ p.1 ∧ E.ρ p.1 = x }

theorem VR.close {v : AV} {cv : Value} (h : VR E w v cv) : VR (E.close H nx) w v cv :=
  VR.mono (E := E) (E' := E.close H nx) (fun _ hx => ⟨hx, rfl⟩) (fun _ hb => ⟨Or.inl hb, rfl⟩) (.refl w) h

theorem below_sub : ∀ (H : Heap), (below nx H).Sublist H
  | [] => .slnil
  | (h, o) :: r => by
    simp only [below]
    split
    · exact (below_sub r).cons_cons _
    · exact (below_sub r).cons _
theorem mem_below : ∀ {H : Heap} {p : Nat × HO}, p ∈ below nx H → p ∈ H ∧ p.1 < nx
  | (h, o) :: r, p, hp => by
    simp only [below] at hp
    split at hp
    · rename_i hb
      rcases List.mem_cons.1 hp with hp | hp
      · subst hp; exact ⟨.head _, by simpa [Nat.blt_eq] using hb⟩
      · exact ⟨.tail _ (mem_below hp).1, (mem_below hp).2⟩
    · exact ⟨.tail _ (mem_below hp).1, (mem_below hp).2⟩

theorem HR.close (hr : HR E H w) : HR (E.close H nx) (below nx H) w := by
  have hs := hr.sub (below_sub (nx := nx) H)
  refine ⟨hs.nodup, hs.dom, hs.inj, fun p hp => (hs.obj p hp).mono rfl VR.close, fun p hp hz => ?_, fun b hb => ?_⟩
  · rcases hz with hz | ⟨q, hq, hle, he⟩
    · exact hs.nz p hp hz
    · have h1 := hr.inj q hq p (mem_below hp).1 he
      have := (mem_below hp).2
      omega
  · rcases hb with hb | ⟨q, hq, _, he⟩
    · exact hr.zlt b hb
    · rw [← he]; exact hr.lt hq

theorem Tr.close {E0 : Env} {H0 : Heap} {w0 : World} {a b : Nat} (t : Tr E0 H0 w0 E H w a b) : Tr E0 H0 w0 (E.close H nx) (below nx H) w a b :=
  { t.sub (below_sub (nx := nx) H) with
    agree := t.agree
    dom := t.dom
    zmono := fun x hx => .inl (t.zmono x hx)
    znew := fun x hx => by
      rcases hx with hx | ⟨p, hp, _, he⟩
      · exact t.znew x hx
      · rw [← he]; exact .inr (t.own p hp)
    own := (t.sub (below_sub (nx := nx) H)).own }

theorem mapo_spec {f : AV → Option AV} : ∀ {xs ys : List AV}, mapo f xs = some ys → ys.length = xs.length ∧ ∀ (i : Nat) x y, xs[i]? = some x → ys[i]? = some y → f x = some y
  | [], ys, h => by simp [mapo] at h; subst h; exact ⟨rfl, fun i x y hx => by simp at hx⟩
  | x :: xs, ys, h => by
    simp only [mapo] at h
    split at h
    · rename_i v hv
      split at h
      · rename_i r hr
        cases h
        obtain ⟨h1, h2⟩ := mapo_spec hr
        refine ⟨by simp [h1], fun i x' y hx hy => ?_⟩
        cases i with
        | zero => simp at hx hy; subst hx; subst hy; exact hv
        | succ i => exact h2 i x' y (by simpa using hx) (by simpa using hy)
      · cases h
    · cases h

theorem VRs.of_mapo {f : AV → Option AV} {xs ys : List AV} {vs : List Value} {E' : Env} (h : mapo f xs = some ys) (hv : VRs E w xs vs) (hf : ∀ x y cv, VR E w x cv → f x = some y → VR E' w y cv) : VRs E' w ys vs := by
  obtain ⟨h1, h2⟩ := mapo_spec h
  refine ⟨h1.trans hv.1, fun i y v hy hv' => ?_⟩
  have hi : i < xs.length := by
    have := (List.getElem?_eq_some_iff.1 hy).1
    omega
  have hx : xs[i]? = some xs[i] := List.getElem?_eq_getElem hi
  exact hf _ _ _ (hv.2 i _ v hx hv') (h2 i _ y hx hy)

theorem chunks_length (sz : Nat) : ∀ (n : Nat) (cs : List AV), (chunks sz n cs).length = n
  | 0, _ => rfl
  | n + 1, cs => by simp only [chunks, List.length_cons, chunks_length sz n]

/-- The elements of a row. -/
theorem chunks_sound {sz : Nat} (hsz : 0 < sz) : ∀ (n : Nat) (cs : List AV) (vs : List Value), VRs E w cs vs → (∀ v ∈ vs, v.oneCell' = true) → cs.length = n * sz → ∀ (i : Nat) x, (chunks sz n cs)[i]? = some x →
    ∃ u, VR E w x u ∧ x.flat = true ∧ u.cells.toList = (vs.drop (i * sz)).take sz ∧ i < n
  | 0, cs, vs, hv, h1, hl, i, x, hx => by simp [chunks] at hx
  | n + 1, cs, vs, hv, h1, hl, i, x, hx => by
    have hl' : cs.length = n * sz + sz := by rw [hl, Nat.succ_mul]
    cases i with
    | zero =>
      simp only [chunks, List.getElem?_cons_zero, Option.some.injEq] at hx
      subst hx
      rw [Nat.zero_mul, List.drop_zero]
      split
      · cases cs with
        | nil => simp at hl'
        | cons c cs =>
          obtain ⟨v, vs', rfl, k1, k2⟩ := hv.of_cons
          have h2 : v.oneCell' = true := h1 v (.head _)
          refine ⟨v, k1, ?_, ?_, Nat.zero_lt_succ _⟩
          · cases c with
            | tup cs => obtain ⟨us, rfl, _⟩ := k1.of_tup; simp [Value.oneCell'] at h2
            | _ => rfl
          · cases v <;> first | (simp [Value.oneCell'] at h2; done) | simp [Value.cells]
      · have h2 := hv.extract 0 sz
        simp only [List.drop_zero] at h2
        refine ⟨.agg (vs.take sz).toArray, VR.mk_agg (by simpa using h2) (fun v hv => h1 v (List.mem_of_mem_take (by simpa using hv))), rfl, by simp [Value.cells], Nat.zero_lt_succ _⟩
    | succ i =>
      simp only [chunks, List.getElem?_cons_succ] at hx
      have hd : VRs E w (cs.drop sz) (vs.drop sz) := by
        have := hv.extract sz (cs.length)
        have e1 : ((cs.drop sz).take cs.length) = cs.drop sz := List.take_of_length_le (by simp)
        have e2 : ((vs.drop sz).take cs.length) = vs.drop sz := List.take_of_length_le (by rw [hv.1]; simp)
        rw [e1, e2] at this
        exact this
      obtain ⟨u, a, b, c, d⟩ := chunks_sound hsz n (cs.drop sz) (vs.drop sz) hd (fun v hv => h1 v (List.mem_of_mem_drop hv)) (by simp; omega) i x hx
      refine ⟨u, a, b, ?_, Nat.succ_lt_succ d⟩
      rw [c, List.drop_drop]
      congr 2
      rw [Nat.succ_mul]; omega

theorem content_row {H : Heap} {sz hd off len cp n : Nat} {ex : Bool} {cs : List AV} (h : content H sz (.row hd off len sz cp ex) = some (n, cs)) : ∃ str cs0, H.get hd = some (.cells str cs0) ∧ cs = (cs0.drop off).take (len * sz) := by
  simp only [content] at h
  split at h
  · split at h
    · rename_i str cs0 hg
      split at h
      · cases h; exact ⟨str, cs0, hg, rfl⟩
      · cases h
    · cases h
  · cases h

theorem shutV_sound (P : Program) (hr : HR E H w) : ∀ (d : Nat) {v v' : AV} {cv : Value}, VR E w v cv → shutV nx H d v = some v' → VR (E.close H nx) w v' cv ∧ (v.flat = true → v'.flat = true) := by
  intro d
  induction d with
  | zero => intro v v' cv _ h; simp [shutV] at h
  | succ d ih =>
    intro v v' cv hv h
    simp only [shutV] at h
    split at h
    · rename_i hd off len sz cp ex
      split at h
      · cases h; exact ⟨hv.close, fun _ => rfl⟩
      · rename_i hge
        have hge' : nx ≤ hd := by
          rcases Nat.lt_or_ge hd nx with h1 | h1
          · have : Nat.blt hd nx = true := by rw [Nat.blt_eq]; exact h1
            rw [this] at hge; cases hge
          · exact h1
        split at h
        · rename_i n cs hcont
          split at h
          · rename_i es hes
            cases h
            refine ⟨?_, fun _ => rfl⟩
            obtain ⟨m1, m2⟩ := mapo_spec hes
            rw [chunks_length] at m1
            cases len with
            | zero =>
              have : es = [] := List.eq_nil_of_length_eq_zero m1
              subst this
              cases hv with
              | row0 _ _ _ _ a => exact .lst0 _ _ _ (Nat.zero_le _)
              | row _ _ _ _ _ cap _ hD hlen hcap hsz0 hcp hex hbk => exact .lst0 _ _ _ hcap
            | succ len =>
              have hcont' := hcont
              obtain ⟨str, cs0, hget, rfl⟩ := content_row hcont
              cases hv with
              | row _ _ _ _ _ cap _ hD hlen hcap hsz0 hcp hex hbk =>
                obtain ⟨vs, k1, k2, k3, k4, k5, k6, k7⟩ := content_sound (P := P) hr (.row _ _ _ _ _ _ _ hD hlen hcap hsz0 hcp hex hbk) hcont'
                rcases k7 with ⟨a, c, e1, k8⟩ | ⟨s, e1, _⟩
                rotate_left
                · cases e1
                cases e1
                obtain ⟨ad, e2, k9⟩ := k8 (by rw [Nat.succ_mul]; omega)
                cases e2
                have hlist := chunks_sound hsz0 (len + 1) _ vs k1 k2 (by rw [k1.1, k3])
                have key : ∀ i, ∃ u : Value, ∀ e, es[i]? = some e → VR (E.close H nx) w e u ∧ e.flat = true ∧ u.cells.toList = (vs.drop (i * sz)).take sz := by
                  intro i
                  cases he : es[i]? with
                  | none => exact ⟨.bool true, fun e h => by cases h⟩
                  | some e =>
                    have hi : i < len + 1 := by
                      have := (List.getElem?_eq_some_iff.1 he).1
                      omega
                    have hx : (chunks sz (len + 1) (List.take ((len + 1) * sz) (List.drop off cs0)))[i]? = some ((chunks sz (len + 1) (List.take ((len + 1) * sz) (List.drop off cs0)))[i]'(by rw [chunks_length]; exact hi)) := List.getElem?_eq_getElem _
                    obtain ⟨u, a, b, c, _⟩ := hlist i _ hx
                    obtain ⟨q1, q2⟩ := ih a (m2 i _ e hx he)
                    exact ⟨u, fun e' h => by cases h; exact ⟨q1, q2 b, c⟩⟩
                have hf := Classical.axiomOfChoice key
                obtain ⟨f, hf⟩ := hf
                have hz : (E.close H nx).Z (E.ρ hd) := .inr ⟨_, Heap.mem_of_get hget, hge', rfl⟩
                rw [← m1]
                refine .lst es (E.ρ hd) off cap sz f hz (by omega) hcap (fun i e he => ?_) (fun i e he => (hf i e he).1) (fun i hi => ?_)
                · have := (hf i e he).2.1
                  unfold AV.flat at this
                  exact this
                · have he : es[i]? = some es[i] := List.getElem?_eq_getElem hi
                  obtain ⟨_, _, h3⟩ := hf i _ he
                  have hil : i * sz + sz ≤ vs.length := by
                    rw [k3, ← Nat.succ_mul]
                    exact Nat.mul_le_mul_right _ (by omega)
                  refine ⟨?_, fun j c hc => ?_⟩
                  · have : (f i).cells.toList.length = sz := by rw [h3]; simp; omega
                    simpa using this
                  · have hc' : (f i).cells.toList[j]? = some c := by simpa using hc
                    rw [h3, List.getElem?_take] at hc'
                    split at hc'
                    · rw [List.getElem?_drop] at hc'
                      have := k9 _ c hc'
                      rw [add_addr] at this
                      rw [Nat.add_assoc]; exact this
                    · cases hc'
          · cases h
        · cases h
    · split at h
      · rename_i cs cs' hm
        cases h
        obtain ⟨vs, rfl, k1, k2⟩ := hv.of_agg
        exact ⟨VR.mk_agg (VRs.of_mapo hm k1 fun x y cv hx hf => (ih hx hf).1) k2, fun _ => rfl⟩
      · cases h
    · split at h
      · rename_i cs cs' hm
        cases h
        obtain ⟨vs, rfl, k1⟩ := hv.of_tup
        exact ⟨VR.mk_tup (VRs.of_mapo hm k1 fun x y cv hx hf => (ih hx hf).1), fun h => h⟩
      · cases h
    · cases h
      exact ⟨hv.close, id⟩

theorem finish_sound (P : Program) {E0 : Env} {H0 : Heap} {w0 : World} {pol : Pol} {v v' : AV} {cv : Value} {H' : Heap} {n a b : Nat} (hr : HR E H w) (t : Tr E0 H0 w0 E H w a b) (hv : VR E w v cv) (h : finish pol nx v H b = some (v', H', n)) :
    n = b ∧ ∃ E', HR E' H' w ∧ Tr E0 H0 w0 E' H' w a b ∧ VR E' w v' cv := by
  unfold finish at h
  cases pol with
  | keep => cases h; exact ⟨rfl, E, hr, t, hv⟩
  | drop => cases h; exact ⟨rfl, E, hr.sub (dropW_sub _ H), t.sub (dropW_sub _ H), hv⟩
  | shut =>
    simp only at h
    split at h
    · rename_i u hu
      cases h
      exact ⟨rfl, E.close H nx, hr.close, t.close, (shutV_sound P hr 20 hv hu).1⟩
    · cases h

/-- The results of a function. -/
theorem ress_sound {fr : Fr} {a : Act} {nt : Nat} (hr : HR E H w) (hf : FrR E w fr a nt) : ∀ {rs : List ResultVar} {xs : List XR} {vs : List AV}, compRess P rs = some xs → ress H fr xs = some vs →
    ∃ cvs : List Value, (rs.mapM (m := Sem) fun | .tmp t => pure (a.tmps.getD t undef) | .cell x t => do loadVar t (← asAddr (a.tmps.getD x undef))).run P w = .ok cvs w ∧ VRs E w vs cvs
  | [], xs, vs, hc, h => by
    simp only [compRess, Option.some.injEq] at hc
    subst hc
    simp only [ress, Option.some.injEq] at h
    subst h
    exact ⟨[], by simp, VRs.nil⟩
  | r :: rs, xs, vs, hc, h => by
    simp only [compRess] at hc
    split at hc
    · rename_i x xs' hx hxs
      cases hc
      simp only [ress] at h
      split at h
      · rename_i v hv
        split at h
        · rename_i vs' hvs
          cases h
          obtain ⟨cvs, k1, k2⟩ := ress_sound hr hf hxs hvs
          cases r with
          | tmp t =>
            simp only [compRes, Option.some.injEq] at hx
            subst hx
            exact ⟨_ :: cvs, by simp only [List.mapM_cons, Sem.run_bind, Sem.run_pure, Result.andThen_ok, k1], VRs.cons (hf.get t v hv) k2⟩
          | cell b t =>
            simp only [compRes] at hx
            obtain ⟨sz, hsz, hx⟩ := obind_some hx
            obtain ⟨ag, hag, hx⟩ := obind_some hx
            cases hx
            simp only [resOf] at hv
            split at hv
            · rename_i ab hab
              obtain ⟨ad, cv, e1, e2, e3⟩ := load_sound (P := P) hr (hf.get b ab hab) hsz hag hv
              have ea : (asAddr (.pointer (some ad))).run P w = .ok ad w := by simp [asAddr]
              refine ⟨cv :: cvs, ?_, VRs.cons e3 k2⟩
              simp only [List.mapM_cons, Sem.run_bind, e1, ea, Sem.run_pure, Result.andThen_ok, e2, k1]
            · cases hv
        · cases h
      · cases h
    · cases hc

def oneVal : List Value → Value
  | [v] => v
  | vs => .tuple vs.toArray

theorem results_sound {fr : Fr} {a : Act} {nt : Nat} {fn : Func} {xs : List XR} {vs : List AV} (hr : HR E H w) (hf : FrR E w fr a nt) (hc : compRess P fn.results.toList = some xs) (h : ress H fr xs = some vs) :
    ∃ cv, (results fn a.tmps).run P w = .ok cv w ∧ VR E w (oneOr vs) cv := by
  obtain ⟨cvs, k1, k2⟩ := ress_sound hr hf hc h
  unfold results
  rw [Array.mapM_eq_mapM_toList]
  refine ⟨oneVal cvs, ?_, ?_⟩
  · rw [Sem.run_bind, Sem.run_map]
    refine (congrArg (fun r => Result.andThen (Result.andThen r _) _) k1).trans ?_
    rw [Result.andThen_ok, Result.andThen_ok]
    cases cvs with
    | nil => simp [oneVal]
    | cons v r => cases r with
      | nil => simp [oneVal]
      | cons u r => simp [oneVal]
  · cases vs with
    | nil =>
      rw [k2.of_nil]
      exact VR.mk_tup (vs := #[]) VRs.nil
    | cons v r =>
      obtain ⟨cv, cr, rfl, h1, h2⟩ := k2.of_cons
      cases r with
      | nil => rw [h2.of_nil]; exact h1
      | cons u r =>
        obtain ⟨cu, cr', rfl, h3, h4⟩ := h2.of_cons
        exact VR.mk_tup (vs := (cv :: cu :: cr').toArray) (VRs.cons h1 (VRs.cons h3 h4))

/-- The arguments as they lie in the frame. -/
theorem slots_get : ∀ {n : Nat} {args : List AV} {t : Nat} {v : AV}, (slots n args).get t = some v → ∃ i, t = n + i ∧ args[i]? = some v
  | n, [], t, v, h => by simp [slots, Fr.get] at h
  | n, x :: r, t, v, h => by
    simp only [slots, Fr.get] at h
    split at h
    · rename_i e
      cases h
      exact ⟨0, by rw [← nbeq_true e]; rfl, rfl⟩
    · obtain ⟨i, e, h⟩ := slots_get h
      exact ⟨i + 1, by omega, by simpa using h⟩

theorem pad_get : ∀ {n : Nat} {l : List AV} {i : Nat} {v : AV}, (pad n l)[i]? = some v → l[i]? = some v ∨ (l[i]? = none ∧ v = .tup [])
  | 0, l, i, v, h => .inl h
  | n + 1, [], i, v, h => by
    refine .inr ⟨by simp, ?_⟩
    cases i with
    | zero => simp [pad] at h; exact h.symm
    | succ i =>
      simp only [pad, List.getElem?_cons_succ] at h
      rcases pad_get h with h | ⟨_, h⟩
      · simp at h
      · exact h
  | n + 1, a :: r, i, v, h => by
    cases i with
    | zero => exact .inl (by simpa [pad] using h)
    | succ i =>
      simp only [pad, List.getElem?_cons_succ] at h
      simpa using pad_get h
/-- A table of functions, each compiled. -/
def TableOK (P : Program) (F : Nat → Option (XF × Pol)) : Prop := ∀ f xf pol, F f = some (xf, pol) → ∃ fn, P.funcs[f]? = some fn ∧ compF P fn = some xf ∧ (fn.name == "runtime.NumGoroutine") = false

theorem enter1_sound {F : Nat → Option (XF × Pol)} (hF : TableOK P F) (hm : MethOK P G) (hmix : P.follows .mixedOrders = true) (lf : Nat) {call : Call} (hcall : CallOK P G call) : CallOK P G (enter1 F G lf call) := by
    intro f args H nx v H' nx' h
    simp only [enter1] at h
    split at h
    · cases h
    rename_i xf pol hff
    split at h
    · cases h
    rename_i hlen
    have hlen := nbeq_true hlen
    obtain ⟨fn, hfn, hcf, hname⟩ := hF f xf pol hff
    unfold compF at hcf
    obtain ⟨body, hbody, hcf⟩ := obind_some hcf
    obtain ⟨xc, hxc, hcf⟩ := obind_some hcf
    obtain ⟨rs, hrs, hcf⟩ := obind_some hcf
    split at hcf
    rotate_left
    · cases hcf
    rename_i hok
    rw [Bool.and_eq_true] at hok
    cases hcf
    have hnp : fn.params.size + fn.nfree ≤ fn.ntmps := Nat.le_of_ble_eq_true hok.2
    simp only at hlen h
    split at h
    · cases h
    · rename_i x fr1 H1 n1 hne hrun
      split at h
      · rename_i vs hvs
        obtain ⟨l1, r1⟩ := top_sound hcall hm hmix lf body hxc hok.1 hrun
        have hn : nx' = n1 := by
          unfold finish at h
          cases pol with
          | keep => cases h; rfl
          | drop => cases h; rfl
          | shut =>
            simp only at h
            split at h
            · cases h; rfl
            · cases h
        subst hn
        refine ⟨⟨fn, body, hfn, hbody, hname⟩, l1, fun E w cargs hr hv hg hfr => ?_⟩
        have hsz : cargs.size = args.length := by rw [hv.1]; simp
        refine calls_of_wp hfn hbody (r1 E w _ _ _ hr ⟨?_, fun t u ht => ?_⟩ hg hfr rfl fun E' w' a' k1 k2 k3 k4 => ?_)
        · simp; omega
        · obtain ⟨i, rfl, hi⟩ := slots_get ht
          rcases pad_get hi with hi | ⟨hj, rfl⟩
          rotate_left
          · simp only [Nat.zero_add]
            have hle : cargs.size ≤ i := by
              rw [hsz]
              rcases Nat.lt_or_ge i args.length with h1 | h1
              · rw [List.getElem?_eq_getElem h1] at hj; cases hj
              · exact h1
            rw [Array.getD_eq_getD_getElem?, Array.getElem?_append_right hle]
            have hu : ∀ m j, ((Array.replicate m undef)[j]?).getD undef = undef := fun m j => by
              rw [Array.getElem?_replicate]; split <;> rfl
            rw [hu]
            exact VR.mk_tup (vs := #[]) VRs.nil
          obtain ⟨cv, h1, h2⟩ := hv.getElem? hi
          have h3 : cargs[i]? = some cv := by simpa using h1
          have h4 := (Array.getElem?_eq_some_iff.1 h3).1
          simp only [Nat.zero_add]
          rw [Array.getD_eq_getD_getElem?, Array.getElem?_append_left h4, h3]
          exact h2
        · obtain ⟨cv, e1, e2⟩ := results_sound k1 k3 hrs hvs
          obtain ⟨_, E2, m1, m2, m3⟩ := finish_sound P k1 k2 e2 h
          have post : a'.defers = [] ∧ ∃ v_1, (results fn a'.tmps).run P w' = .ok v_1 w' ∧ ∃ cv E', (Ending.returned v_1) = .returned cv ∧ HR E' H' w' ∧ Tr E H w E' H' w' nx nx' ∧ VR E' w' v cv :=
            ⟨k4, cv, e1, cv, E2, rfl, m1, m2, m3⟩
          cases x with
          | normal => exact post
          | ret => exact post
          | exit i => exact (hne i rfl).elim
      · cases h
    · cases h
theorem enter_sound {F : Nat → Option (XF × Pol)} (hF : TableOK P F) (hm : MethOK P G) (hmix : P.follows .mixedOrders = true) (lf : Nat) : ∀ d, CallOK P G (enter F G lf d)
  | 0 => fun _ _ _ _ _ _ _ h => by cases h
  | d + 1 => enter1_sound hF hm hmix lf (enter_sound hF hm hmix lf d)
end
end Go.Sy
