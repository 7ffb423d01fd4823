/- A CACHE'S RING, PLAINLY. No condition. -/
import Derived.Test.YtmmmpgnkglhkjaaGreatDoorCacheWalk
set_option linter.unusedVariables false
set_option linter.unusedSimpArgs false
namespace Go.Proofs.YtmmmpgnkglhkjaaGreatDoor.cacheW
open Go.Sy
/-- A list of neighbours. -/
def Chn (fa fb : Nat → Nat) : List Nat → Prop
  | x :: y :: r => fa x = y ∧ fb y = x ∧ Chn fa fb (y :: r)
  | _ => True
def upd (f : Nat → Nat) (i v : Nat) : Nat → Nat := fun j => if j = i then v else f j
theorem upd_same {f : Nat → Nat} {i v : Nat} : upd f i v i = v := if_pos rfl
theorem upd_ne {f : Nat → Nat} {i v j : Nat} (h : j ≠ i) : upd f i v j = f j := if_neg h
theorem Chn.congr {fa fb ga gb : Nat → Nat} : ∀ {l : List Nat}, Chn fa fb l → (∀ x ∈ l.dropLast, ga x = fa x) → (∀ x ∈ l.tail, gb x = fb x) → Chn ga gb l
  | [], _, _, _ => trivial
  | [_], _, _, _ => trivial
  | x :: y :: r, h, ha, hb => by
    obtain ⟨h1, h2, h3⟩ := h
    refine ⟨(ha x (by simp)).trans h1, (hb y (by simp)).trans h2, h3.congr (fun z hz => ha z ?_) (fun z hz => hb z ?_)⟩
    · rw [List.dropLast_cons_cons]; exact .tail _ hz
    · exact .tail _ hz
theorem chn_append {fa fb : Nat → Nat} : ∀ {A : List Nat} {x : Nat} {B : List Nat}, Chn fa fb (A ++ x :: B) ↔ Chn fa fb (A ++ [x]) ∧ Chn fa fb (x :: B)
  | [], x, B => by simp [Chn]
  | [a], x, B => by simp [Chn, and_assoc]
  | a :: b :: A, x, B => by
    have := chn_append (fa := fa) (fb := fb) (A := b :: A) (x := x) (B := B)
    simp only [List.cons_append] at this ⊢
    simp only [Chn, this, and_assoc]
/-- One is cut out. -/
theorem Chn.cut {fa fb : Nat → Nat} {A B : List Nat} {p x s : Nat} (h : Chn fa fb (A ++ p :: x :: s :: B)) (h1 : (A ++ p :: x :: s :: B).dropLast.Nodup) (h2 : (A ++ p :: x :: s :: B).tail.Nodup) :
    fa x = s ∧ fb x = p ∧ Chn (upd fa p s) (upd fb s p) (A ++ p :: s :: B) := by
  obtain ⟨hA, hx⟩ := chn_append.1 h
  obtain ⟨e1, e2, e3, e4, hB⟩ := hx
  have e5 : Chn fa fb (s :: B) := hB
  refine ⟨e3, e2, chn_append.2 ⟨hA.congr (fun z hz => upd_ne ?_) (fun z hz => upd_ne ?_), upd_same, upd_same, e5.congr (fun z hz => upd_ne ?_) (fun z hz => upd_ne ?_)⟩⟩
  · rintro rfl
    have : (A ++ [z]).dropLast = A := by simp
    rw [this] at hz
    have h3 : (A ++ z :: x :: s :: B).dropLast = A ++ z :: x :: (s :: B).dropLast := by
      rw [List.dropLast_append_of_ne_nil (by simp)]; rfl
    rw [h3, List.nodup_append] at h1
    exact h1.2.2 z hz z (by simp) rfl
  · rintro rfl
    cases A with
    | nil => simp at hz
    | cons a A =>
      simp only [List.cons_append, List.tail_cons] at hz h2
      rw [List.nodup_append] at h2
      rcases List.mem_append.1 hz with hz | hz
      · exact h2.2.2 z hz z (by simp) rfl
      · have : z = p := by simpa using hz
        subst this
        have := h2.2.1
        simp at this
  · rintro rfl
    have h3 : (A ++ z :: x :: s :: B).dropLast = A ++ z :: x :: (s :: B).dropLast := by
      rw [List.dropLast_append_of_ne_nil (by simp)]; rfl
    rw [h3, List.nodup_append] at h1
    have := h1.2.1
    simp only [List.nodup_cons] at this
    exact this.1 (.tail _ hz)
  · rintro rfl
    have h3 : (z :: B).Nodup := by
      have : List.Sublist (z :: B) (A ++ p :: x :: z :: B).tail := by
        cases A with
        | nil => simp only [List.nil_append, List.tail_cons]; exact (List.sublist_cons_self _ _)
        | cons a A => simp only [List.cons_append, List.tail_cons]; exact ((List.sublist_cons_self _ _).trans (List.sublist_cons_self _ _)).trans (List.sublist_append_right _ _)
      exact h2.sublist this
    exact (List.nodup_cons.1 h3).1 hz
/-- One is put in ahead of the end. -/
theorem Chn.join {fa fb : Nat → Nat} {A : List Nat} {p x r : Nat} (h : Chn fa fb (A ++ [p, r])) (h1 : (A ++ [p, r]).dropLast.Nodup) (h2 : (A ++ [p, r]).tail.Nodup) (hx : x ∉ A ++ [p, r]) :
    fb r = p ∧ Chn (upd (upd fa x r) p x) (upd (upd fb x p) r x) (A ++ [p, x, r]) := by
  obtain ⟨hA, e1, e2, _⟩ := chn_append.1 h
  have hxp : x ≠ p := fun e => hx (by simp [e])
  have hxr : x ≠ r := fun e => hx (by simp [e])
  have hd : (A ++ [p, r]).dropLast = A ++ [p] := by rw [List.dropLast_append_of_ne_nil (by simp)]; rfl
  rw [hd] at h1
  refine ⟨e2, chn_append.2 ⟨hA.congr (fun z hz => ?_) (fun z hz => ?_), upd_same, ?_, ?_, upd_same, trivial⟩⟩
  · have : (A ++ [p]).dropLast = A := by simp
    rw [this] at hz
    have hzp : z ≠ p := by
      rintro rfl
      rw [List.nodup_append] at h1
      exact h1.2.2 z hz z (by simp) rfl
    have hzx : z ≠ x := by
      rintro rfl
      exact hx (by simp [hz])
    rw [upd_ne hzp, upd_ne hzx]
  · have hzx : z ≠ x := by
      rintro rfl
      exact hx (by
        have := List.mem_of_mem_tail hz
        rcases List.mem_append.1 this with h | h
        · simp [h]
        · have : z = p := by simpa using h
          simp [this])
    have hzr : z ≠ r := by
      rintro rfl
      cases A with
      | nil => simp at hz
      | cons a A =>
        simp only [List.cons_append, List.tail_cons] at hz h2
        have h3 : (A ++ [p] ++ [z]).Nodup := by simpa using h2
        rw [List.nodup_append] at h3
        exact h3.2.2 z hz z (by simp) rfl
    rw [upd_ne hzr, upd_ne hzx]
  · rw [upd_ne hxr, upd_same]
  · rw [upd_ne hxp, upd_same]
abbrev Cel := Nat → Nat → AV
def nodeV (z : Cel) (fa fb : Nat → Nat) (x : Nat) : HO := .cells false [z x 0, z x 1, z x 2, z x 3, z x 4, .ptr (fa x) 0, .ptr (fb x) 0]
def RingH (H : Heap) (z : Cel) (fa fb : Nat → Nat) (S : List Nat) : Prop := ∀ x ∈ S, H.get x = some (nodeV z fa fb x)
theorem get_put {H : Heap} {h k : Nat} {o o' : HO} (hh : H.get h = some o') : (H.put h o).get k = if k = h then some o else H.get k := by
  by_cases e : k = h
  · subst e; rw [if_pos rfl]; exact get_put_self hh
  · rw [if_neg e]; exact get_put_ne (fun e' => e e'.symm)
theorem cut_ring {H : Heap} {z : Cel} {fa fb : Nat → Nat} {S : List Nat} {x : Nat} (hr : RingH H z fa fb S) (hx : x ∈ S) (ha : fa x ∈ S) (hb : fb x ∈ S) (nx : Nat) :
    ∃ H', cutF [.ptr x 0] H nx = some (.tup [], H', nx) ∧ RingH H' z (upd fa (fb x) (fa x)) (upd fb (fa x) (fb x)) S ∧ ∀ y, y ∉ S → H'.get y = H.get y := by
  have e1 := hr x hx
  have e2 := hr _ ha
  have e3 := hr _ hb
  simp only [nodeV] at e1 e2 e3
  have e4 : (H.put (fa x) (.cells false [z (fa x) 0, z (fa x) 1, z (fa x) 2, z (fa x) 3, z (fa x) 4, .ptr (fa (fa x)) 0, .ptr (fb x) 0])).get (fb x) = some (.cells false [z (fb x) 0, z (fb x) 1, z (fb x) 2, z (fb x) 3, z (fb x) 4, .ptr (fa (fb x)) 0, .ptr (upd fb (fa x) (fb x) (fb x)) 0]) := by
    rw [get_put e2]
    by_cases e : fb x = fa x
    · rw [if_pos e, e, upd_same]
    · rw [if_neg e, upd_ne e, e3]
  refine ⟨_, by simp only [cutF, e1, e2, e4]; rfl, fun y hy => ?_, fun y hy => ?_⟩
  · rw [get_put e4]
    by_cases h1 : y = fb x
    · rw [if_pos h1, h1, nodeV, upd_same]
    · rw [if_neg h1, get_put e2]
      by_cases h2 : y = fa x
      · rw [if_pos h2, h2, nodeV, upd_same, upd_ne (fun e => h1 (h2.trans e))]
      · rw [if_neg h2, hr y hy, nodeV, nodeV, upd_ne h1, upd_ne h2]
  · rw [get_put e4, if_neg (fun e => hy (by rw [e]; exact hb)), get_put e2, if_neg (fun e => hy (by rw [e]; exact ha))]
theorem join_ring {H : Heap} {z : Cel} {fa fb : Nat → Nat} {S : List Nat} {x r : Nat} {a b : AV} (hr : RingH H z fa fb S) (hrS : r ∈ S) (hp : fb r ∈ S) (hx : H.get x = some (.cells false [z x 0, z x 1, z x 2, z x 3, z x 4, a, b])) (h1 : x ≠ r) (h2 : x ≠ fb r) (nx : Nat) :
    ∃ H', joinF [.ptr x 0, .ptr r 0] H nx = some (.tup [], H', nx) ∧ RingH H' z (upd (upd fa x r) (fb r) x) (upd (upd fb x (fb r)) r x) (x :: S) ∧ ∀ y, y ∉ x :: S → H'.get y = H.get y := by
  have e1 := hr r hrS
  have e2 := hr _ hp
  simp only [nodeV] at e1 e2
  generalize hH1 : H.put x (.cells false [z x 0, z x 1, z x 2, z x 3, z x 4, .ptr r 0, b]) = H1
  have g1 : ∀ k, H1.get k = if k = x then some (.cells false [z x 0, z x 1, z x 2, z x 3, z x 4, .ptr r 0, b]) else H.get k := fun k => by rw [← hH1]; exact get_put hx
  have g1x := g1 x
  rw [if_pos rfl] at g1x
  generalize hH2 : H1.put x (.cells false [z x 0, z x 1, z x 2, z x 3, z x 4, .ptr r 0, .ptr (fb r) 0]) = H2
  have g2 : ∀ k, H2.get k = if k = x then some (.cells false [z x 0, z x 1, z x 2, z x 3, z x 4, .ptr r 0, .ptr (fb r) 0]) else H.get k := fun k => by
    rw [← hH2, get_put g1x]
    by_cases e : k = x
    · rw [if_pos e, if_pos e]
    · rw [if_neg e, if_neg e, g1, if_neg e]
  have g2r : H2.get r = some (.cells false [z r 0, z r 1, z r 2, z r 3, z r 4, .ptr (fa r) 0, .ptr (fb r) 0]) := by rw [g2, if_neg (fun e => h1 e.symm), e1]
  have g2p : H2.get (fb r) = some (.cells false [z (fb r) 0, z (fb r) 1, z (fb r) 2, z (fb r) 3, z (fb r) 4, .ptr (fa (fb r)) 0, .ptr (fb (fb r)) 0]) := by rw [g2, if_neg (fun e => h2 e.symm), e2]
  generalize hH3 : H2.put (fb r) (.cells false [z (fb r) 0, z (fb r) 1, z (fb r) 2, z (fb r) 3, z (fb r) 4, .ptr x 0, .ptr (fb (fb r)) 0]) = H3
  have g3 : ∀ k, H3.get k = if k = fb r then some (.cells false [z (fb r) 0, z (fb r) 1, z (fb r) 2, z (fb r) 3, z (fb r) 4, .ptr x 0, .ptr (fb (fb r)) 0]) else H2.get k := fun k => by rw [← hH3]; exact get_put g2p
  have g3r : H3.get r = some (.cells false [z r 0, z r 1, z r 2, z r 3, z r 4, .ptr (upd (upd fa x r) (fb r) x r) 0, .ptr (fb r) 0]) := by
    rw [g3]
    by_cases e : r = fb r
    · rw [if_pos e]
      have : upd (upd fa x r) (fb r) x r = x := by rw [← e]; exact upd_same
      rw [this, ← e, ← e]
    · rw [if_neg e, g2r, upd_ne e, upd_ne (fun e => h1 e.symm)]
  refine ⟨_, by simp only [joinF, e1, hx, hH1, hH2, g2r, g2p, hH3, g3r]; rfl, fun y hy => ?_, fun y hy => ?_⟩
  · rw [get_put g3r]
    by_cases h4 : y = r
    · rw [if_pos h4, h4, nodeV, upd_same]
    · rw [if_neg h4, g3]
      by_cases h5 : y = fb r
      · rw [if_pos h5, h5, nodeV, upd_same, upd_ne (fun e => h4 (h5.trans e)), upd_ne (fun e => h2 e.symm)]
      · rw [if_neg h5, g2]
        by_cases h6 : y = x
        · rw [if_pos h6, h6, nodeV, upd_ne h2, upd_same, upd_ne h1, upd_same]
        · rw [if_neg h6]
          have hyS : y ∈ S := by
            rcases List.mem_cons.1 hy with h | h
            · exact absurd h h6
            · exact h
          rw [hr y hyS, nodeV, nodeV, upd_ne h5, upd_ne h6, upd_ne h4, upd_ne h6]
  · have a1 : y ≠ x := fun e => hy (by simp [e])
    have a2 : y ≠ r := fun e => hy (by rw [e]; exact .tail _ hrS)
    have a3 : y ≠ fb r := fun e => hy (by rw [e]; exact .tail _ hp)
    rw [get_put g3r, if_neg a2, g3, if_neg a3, g2, if_neg a1]
theorem chn_nod {r : Nat} {hs : List Nat} (h : (r :: hs).Nodup) : (r :: hs ++ [r]).dropLast.Nodup ∧ (r :: hs ++ [r]).tail.Nodup := by
  constructor
  · rw [List.dropLast_concat]; exact h
  · simp only [List.cons_append, List.tail_cons]
    rw [List.nodup_append]
    refine ⟨(List.nodup_cons.1 h).2, by simp, fun a ha b hb => ?_⟩
    have : b = r := by simpa using hb
    rintro rfl
    rw [this] at ha
    exact (List.nodup_cons.1 h).1 ha
theorem chn_cut' {fa fb : Nat → Nat} {r x : Nat} {A B : List Nat} (h : Chn fa fb (r :: (A ++ x :: B) ++ [r])) (hn : (r :: (A ++ x :: B)).Nodup) :
    fb x ∈ r :: (A ++ B) ∧ fa x ∈ r :: (A ++ B) ∧ Chn (upd fa (fb x) (fa x)) (upd fb (fa x) (fb x)) (r :: (A ++ B) ++ [r]) := by
  obtain ⟨h1, h2⟩ := chn_nod hn
  obtain ⟨A0, p, hA⟩ : ∃ A0 p, r :: A = A0 ++ [p] := by
    rcases List.eq_nil_or_concat (r :: A) with h | ⟨l, a, h⟩
    · cases h
    · exact ⟨l, a, by rw [h]; simp⟩
  obtain ⟨s, B0, hB⟩ : ∃ s B0, B ++ [r] = s :: B0 := by
    cases B with
    | nil => exact ⟨r, [], rfl⟩
    | cons b B => exact ⟨b, B ++ [r], rfl⟩
  have e : r :: (A ++ x :: B) ++ [r] = A0 ++ p :: x :: s :: B0 := by
    have : r :: (A ++ x :: B) ++ [r] = (r :: A) ++ x :: (B ++ [r]) := by simp
    rw [this, hA, hB]; simp
  rw [e] at h h1 h2
  obtain ⟨k1, k2, k3⟩ := h.cut h1 h2
  rw [k1, k2]
  have e2 : r :: (A ++ B) ++ [r] = A0 ++ p :: s :: B0 := by
    have : r :: (A ++ B) ++ [r] = (r :: A) ++ (B ++ [r]) := by simp
    rw [this, hA, hB]; simp
  rw [e2]
  refine ⟨?_, ?_, k3⟩
  · have : p ∈ r :: A := by rw [hA]; simp
    rcases List.mem_cons.1 this with h | h
    · rw [h]; exact .head _
    · exact .tail _ (List.mem_append_left _ h)
  · have : s ∈ B ++ [r] := by rw [hB]; exact .head _
    rcases List.mem_append.1 this with h | h
    · exact .tail _ (List.mem_append_right _ h)
    · have : s = r := by simpa using h
      rw [this]; exact .head _
theorem chn_join' {fa fb : Nat → Nat} {r x : Nat} {hs : List Nat} (h : Chn fa fb (r :: hs ++ [r])) (hn : (r :: hs).Nodup) (hx : x ∉ r :: hs) :
    fb r ∈ r :: hs ∧ Chn (upd (upd fa x r) (fb r) x) (upd (upd fb x (fb r)) r x) (r :: (hs ++ [x]) ++ [r]) := by
  obtain ⟨h1, h2⟩ := chn_nod hn
  obtain ⟨A0, p, hA⟩ : ∃ A0 p, r :: hs = A0 ++ [p] := by
    rcases List.eq_nil_or_concat (r :: hs) with h | ⟨l, a, h⟩
    · cases h
    · exact ⟨l, a, by rw [h]; simp⟩
  have e : r :: hs ++ [r] = A0 ++ [p, r] := by
    have : r :: hs ++ [r] = (r :: hs) ++ [r] := rfl
    rw [this, hA]; simp
  rw [e] at h h1 h2
  have hx' : x ∉ A0 ++ [p, r] := by
    rw [← e]
    intro hm
    rcases List.mem_append.1 hm with h | h
    · exact hx h
    · exact hx (by simp at h; simp [h])
  obtain ⟨k1, k2⟩ := h.join h1 h2 hx'
  rw [k1]
  have e2 : r :: (hs ++ [x]) ++ [r] = A0 ++ [p, x, r] := by
    have : r :: (hs ++ [x]) ++ [r] = (r :: hs) ++ [x, r] := by simp
    rw [this, hA]; simp
  rw [e2]
  exact ⟨by rw [hA]; simp, k2⟩
/- The map. -/
abbrev Key := List Nat × List Nat
def keyV (k : Key) : AV := .agg [.str k.1, .str k.2]
def encE (p : Key × Nat) : AV × AV := (keyV p.1, .ptr p.2 0)
theorem eqk_key (a b : Key) : eqk true [.s, .s] (keyV a) (keyV b) = some (decide (a = b)) := by
  obtain ⟨a1, a2⟩ := a
  obtain ⟨b1, b2⟩ := b
  simp only [keyV, eqk, eqs, List.length_cons, List.length_nil, eqbs, eqb, seqb_dec]
  by_cases h1 : a1 = b1 <;> by_cases h2 : a2 = b2 <;> simp [h1, h2, Nat.beq]
theorem mfind_enc (k : Key) : ∀ L : List (Key × Nat), mfind true [.s, .s] (keyV k) (L.map encE) = some ((L.find? fun p => p.1 == k).map fun p => .ptr p.2 0)
  | [] => rfl
  | p :: L => by
    simp only [List.map_cons, encE, mfind, eqk_key, List.find?_cons]
    by_cases h : k = p.1
    · have : (p.1 == k) = true := by simp [h]
      simp [h]
    · have h' : (p.1 == k) = false := by simpa using fun e => h e.symm
      simp only [h, decide_false, h']
      exact mfind_enc k L
theorem mput_enc (k : Key) (x : Nat) : ∀ L : List (Key × Nat), (∀ p ∈ L, p.1 ≠ k) → mput true [.s, .s] (keyV k) (.ptr x 0) (L.map encE) = some ((L ++ [(k, x)]).map encE)
  | [], _ => rfl
  | p :: L, h => by
    have h1 : k ≠ p.1 := fun e => h p (.head _) e.symm
    have ih := mput_enc k x L fun q hq => h q (.tail _ hq)
    simp only [List.map_cons, encE, mput, eqk_key, h1, decide_false, List.cons_append] at ih ⊢
    simp only [ih]
theorem mdel_enc (k : Key) : ∀ L : List (Key × Nat), mdel true [.s, .s] (keyV k) (L.map encE) = some ((L.eraseP fun p => p.1 == k).map encE)
  | [] => rfl
  | p :: L => by
    simp only [List.map_cons, encE, mdel, eqk_key, List.eraseP_cons]
    by_cases h : k = p.1
    · simp [h]
    · have h' : (p.1 == k) = false := by simpa using fun e => h e.symm
      have ih := mdel_enc k L
      simp only [h, decide_false, h', cond_false]
      simp only [ih]
      rfl
/- A cache as it lies in memory. -/
structure Ent where
  k : Key
  w : Int
  s : Int
  f : Bool
def Ent.cell (e : Ent) : Nat → AV
  | 0 => .str e.k.1
  | 1 => .str e.k.2
  | 2 => .int .u64 e.w
  | 3 => .int .i64 e.s
  | _ => .bool e.f
abbrev hsOf (C : List (Nat × Ent)) : List Nat := C.map Prod.fst
abbrev ksOf (C : List (Nat × Ent)) : List Key := C.map fun p => p.2.k
structure RepX (c r mp : Nat) (hits : Int) (z : Cel) (fa fb : Nat → Nat) (L : List (Key × Nat)) (C : List (Nat × Ent)) (H : Heap) (nx : Nat) : Prop where
  hc : H.get c = some (.cells false [.ptr r 0, .map mp, .int .u64 hits])
  hm : H.get mp = some (.map (L.map encE))
  ring : RingH H z fa fb (r :: hsOf C)
  dat : ∀ p ∈ C, z p.1 = p.2.cell
  chn : Chn fa fb (r :: hsOf C ++ [r])
  nod : (r :: hsOf C).Nodup
  cS : c ∉ r :: hsOf C
  mS : mp ∉ r :: hsOf C
  cm : c ≠ mp
  perm : L.Perm (C.map fun p => (p.2.k, p.1))
  ndk : (ksOf C).Nodup
  low : c < nx ∧ mp < nx ∧ ∀ x ∈ r :: hsOf C, x < nx
def Rep (c r mp : Nat) (C : List (Nat × Ent)) (H : Heap) (nx : Nat) : Prop := ∃ hits z fa fb L, RepX c r mp hits z fa fb L C H nx
theorem RepX.same {c r mp : Nat} {hits : Int} {z : Cel} {fa fb : Nat → Nat} {L : List (Key × Nat)} {C : List (Nat × Ent)} {H H' : Heap} {nx nx' : Nat} (h : RepX c r mp hits z fa fb L C H nx) (hn : nx ≤ nx') (he : ∀ y, y < nx → H'.get y = H.get y) : RepX c r mp hits z fa fb L C H' nx' :=
  { h with
    hc := (he _ h.low.1).trans h.hc
    hm := (he _ h.low.2.1).trans h.hm
    ring := fun x hx => (he _ (h.low.2.2 x hx)).trans (h.ring x hx)
    low := ⟨Nat.lt_of_lt_of_le h.low.1 hn, Nat.lt_of_lt_of_le h.low.2.1 hn, fun x hx => Nat.lt_of_lt_of_le (h.low.2.2 x hx) hn⟩ }
theorem RepX.push {c r mp : Nat} {hits : Int} {z : Cel} {fa fb : Nat → Nat} {L : List (Key × Nat)} {C : List (Nat × Ent)} {H : Heap} {nx : Nat} (h : RepX c r mp hits z fa fb L C H nx) (o : HO) : RepX c r mp hits z fa fb L C ((nx, o) :: H) (nx + 1) :=
  h.same (Nat.le_succ _) fun y hy => get_cons_ne (by omega)
theorem RepX.len {c r mp : Nat} {hits : Int} {z : Cel} {fa fb : Nat → Nat} {L : List (Key × Nat)} {C : List (Nat × Ent)} {H : Heap} {nx : Nat} (h : RepX c r mp hits z fa fb L C H nx) : L.length = C.length := by rw [h.perm.length_eq, List.length_map]
theorem RepX.absent {c r mp : Nat} {hits : Int} {z : Cel} {fa fb : Nat → Nat} {L : List (Key × Nat)} {C : List (Nat × Ent)} {H : Heap} {nx : Nat} (h : RepX c r mp hits z fa fb L C H nx) {k : Key} (hk : k ∉ ksOf C) : (∀ p ∈ L, p.1 ≠ k) ∧ (L.find? fun p => p.1 == k) = none := by
  have h1 : ∀ p ∈ L, p.1 ≠ k := fun p hp e => by
    have := h.perm.mem_iff.1 hp
    obtain ⟨q, hq, e2⟩ := List.mem_map.1 this
    refine hk (List.mem_map.2 ⟨q, hq, ?_⟩)
    rw [← e, ← e2]
  refine ⟨h1, ?_⟩
  rw [List.find?_eq_none]
  intro p hp
  simpa using h1 p hp
theorem nodup_map_inj {α β : Type} {f : α → β} {l : List α} (h : (l.map f).Nodup) {a b : α} (ha : a ∈ l) (hb : b ∈ l) (e : f a = f b) : a = b := by
  induction l with
  | nil => cases ha
  | cons x l ih =>
    simp only [List.map_cons, List.nodup_cons] at h
    rcases List.mem_cons.1 ha with h1 | h1 <;> rcases List.mem_cons.1 hb with h2 | h2
    · rw [h1, h2]
    · exact absurd (by rw [← h1, e]; exact List.mem_map_of_mem h2) h.1
    · exact absurd (by rw [← h2, ← e]; exact List.mem_map_of_mem h1) h.1
    · exact ih h.2 h1 h2
theorem RepX.ndL {c r mp : Nat} {hits : Int} {z : Cel} {fa fb : Nat → Nat} {L : List (Key × Nat)} {C : List (Nat × Ent)} {H : Heap} {nx : Nat} (h : RepX c r mp hits z fa fb L C H nx) : (L.map Prod.fst).Nodup := by
  have := (h.perm.map Prod.fst).nodup_iff.2 (by rw [List.map_map]; exact h.ndk)
  exact this
theorem RepX.there {c r mp : Nat} {hits : Int} {z : Cel} {fa fb : Nat → Nat} {L : List (Key × Nat)} {C : List (Nat × Ent)} {H : Heap} {nx : Nat} (h : RepX c r mp hits z fa fb L C H nx) {p : Nat × Ent} (hp : p ∈ C) : (L.find? fun q => q.1 == p.2.k) = some (p.2.k, p.1) := by
  have hm : (p.2.k, p.1) ∈ L := h.perm.mem_iff.2 (List.mem_map.2 ⟨p, hp, rfl⟩)
  cases hf : L.find? fun q => q.1 == p.2.k with
  | none =>
    have := List.find?_eq_none.1 hf _ hm
    simp at this
  | some q =>
    have h1 := List.find?_some hf
    have h2 := List.mem_of_find?_eq_some hf
    have h3 : q.1 = p.2.k := by simpa using h1
    rw [nodup_map_inj h.ndL h2 hm h3]
/-- A look-up. -/
theorem RepX.find {c r mp : Nat} {hits : Int} {z : Cel} {fa fb : Nat → Nat} {L : List (Key × Nat)} {C : List (Nat × Ent)} {H : Heap} {nx : Nat} (h : RepX c r mp hits z fa fb L C H nx) (k : Key) (w : Int) :
    (k ∉ ksOf C → ∃ o, findF [.ptr c 0, .agg [.str k.1, .str k.2], .int .u64 w] H nx = some (.tup [.nilptr, .bool false], (nx, o) :: H, nx + 1)) ∧
    (∀ p ∈ C, p.2.k = k → ∃ o, findF [.ptr c 0, .agg [.str k.1, .str k.2], .int .u64 w] H nx = some (.tup [.ptr p.1 0, .bool (p.2.w == w)], (nx, o) :: H, nx + 1)) := by
  have hp := h.push (.cells false [.str k.1, .str k.2])
  have e1 := hp.hc
  have e2 := hp.hm
  have hf := mfind_enc k L
  unfold keyV at hf
  refine ⟨fun hk => ⟨.cells false [.str k.1, .str k.2], ?_⟩, fun p hpC hpk => ⟨.cells false [.str k.1, .str k.2], ?_⟩⟩
  · rw [(h.absent hk).2] at hf
    simp only [findF, e1, e2, hf]
    rfl
  · subst hpk
    rw [h.there hpC] at hf
    have e3 := hp.ring p.1 (.tail _ (List.mem_map_of_mem hpC))
    simp only [nodeV, hp.dat p hpC, Ent.cell] at e3
    simp only [findF, e1, e2, hf, Option.map_some, e3]
/-- One is dropped. -/
theorem Rep.drop {c r mp : Nat} {A B : List (Nat × Ent)} {x : Nat} {e : Ent} {H : Heap} {nx : Nat} (h : Rep c r mp (A ++ (x, e) :: B) H nx) :
    ∃ H', dropF [.ptr c 0, .ptr x 0] H nx = some (.tup [], H', nx) ∧ Rep c r mp (A ++ B) H' nx ∧ ∀ y, y ∉ c :: mp :: r :: hsOf (A ++ (x, e) :: B) → H'.get y = H.get y := by
  obtain ⟨hits, z, fa, fb, L, h⟩ := h
  have hmap : hsOf (A ++ (x, e) :: B) = hsOf A ++ x :: hsOf B := by simp [hsOf]
  have hmap2 : hsOf (A ++ B) = hsOf A ++ hsOf B := by simp [hsOf]
  have hch := h.chn
  have hnod := h.nod
  have hring := h.ring
  rw [hmap] at hch hnod hring
  obtain ⟨k1, k2, k3⟩ := chn_cut' hch hnod
  have hsub : ∀ y, y ∈ r :: (hsOf A ++ hsOf B) → y ∈ r :: (hsOf A ++ x :: hsOf B) := fun y hy => by
    rcases List.mem_cons.1 hy with h | h
    · rw [h]; exact .head _
    · rcases List.mem_append.1 h with h | h
      · exact .tail _ (List.mem_append_left _ h)
      · exact .tail _ (List.mem_append_right _ (.tail _ h))
  have hxS : x ∈ r :: (hsOf A ++ x :: hsOf B) := .tail _ (List.mem_append_right _ (.head _))
  obtain ⟨H1, c1, c2, c3⟩ := cut_ring hring hxS (hsub _ k2) (hsub _ k1) nx
  have cS := h.cS
  have mS := h.mS
  rw [hmap] at cS mS
  have ec : H1.get c = some (.cells false [.ptr r 0, .map mp, .int .u64 hits]) := (c3 c cS).trans h.hc
  have em : H1.get mp = some (.map (L.map encE)) := (c3 mp mS).trans h.hm
  have ex := c2 x hxS
  have hdx : z x = e.cell := h.dat (x, e) (List.mem_append_right _ (.head _))
  simp only [nodeV, hdx, Ent.cell] at ex
  have hd := mdel_enc e.k L
  unfold keyV at hd
  have hg : ∀ y, (H1.put mp (.map ((L.eraseP fun p => p.1 == e.k).map encE))).get y = if y = mp then some (.map ((L.eraseP fun p => p.1 == e.k).map encE)) else H1.get y := fun y => get_put em
  have hnx : x ∉ r :: (hsOf A ++ hsOf B) := by
    intro hm
    have h1 : (r :: (hsOf A ++ x :: hsOf B)).Nodup := hnod
    rcases List.mem_cons.1 hm with h2 | h2
    · exact (List.nodup_cons.1 h1).1 (by rw [← h2]; simp)
    · have h3 := (List.nodup_cons.1 h1).2
      rw [List.nodup_append] at h3
      rcases List.mem_append.1 h2 with h4 | h4
      · exact h3.2.2 x h4 x (.head _) rfl
      · exact (List.nodup_cons.1 h3.2.1).1 h4
  have hsubl : List.Sublist (A ++ B) (A ++ (x, e) :: B) := (List.sublist_cons_self _ _).append_left A
  refine ⟨_, by simp only [dropF, c1, ec, ex, em, hd]; rfl, ⟨hits, z, upd fa (fb x) (fa x), upd fb (fa x) (fb x), L.eraseP fun p => p.1 == e.k, ⟨?_, ?_, ?_, ?_, ?_, ?_, ?_, ?_, h.cm, ?_, ?_, ?_⟩⟩, ?_⟩
  · rw [hg, if_neg h.cm]; exact ec
  · rw [hg, if_pos rfl]
  · intro y hy
    rw [hmap2] at hy
    have : y ≠ mp := fun e => mS (by rw [← e]; exact hsub y hy)
    rw [hg, if_neg this]
    exact c2 y (hsub y hy)
  · exact fun p hp => h.dat p (hsubl.subset hp)
  · rw [hmap2]; exact k3
  · rw [hmap2]
    exact hnod.sublist (((List.sublist_cons_self _ _).append_left _).cons_cons r)
  · rw [hmap2]; exact fun hm => cS (hsub _ hm)
  · rw [hmap2]; exact fun hm => mS (hsub _ hm)
  · -- the keys
    have hp := h.perm
    have h1 : (e.k, x) ∈ L := hp.mem_iff.2 (by simp)
    have h2 : L.Perm ((e.k, x) :: L.eraseP fun p => p.1 == e.k) := by
      have hex : ∃ a ∈ L, (a.1 == e.k) = true := ⟨_, h1, by simp⟩
      obtain ⟨a, l1, l2, g1, g2, g3, g4⟩ := List.exists_of_eraseP h1 (p := fun p => p.1 == e.k) (by simp)
      have ha : a = (e.k, x) := nodup_map_inj h.ndL (by rw [g3]; simp) h1 (by simpa using g2)
      rw [g4, g3, ha]
      exact List.perm_middle
    have h3 : ((A ++ (x, e) :: B).map fun p => (p.2.k, p.1)).Perm ((e.k, x) :: (A ++ B).map fun p => (p.2.k, p.1)) := by
      simp only [List.map_append, List.map_cons]
      exact List.perm_middle
    exact List.Perm.cons_inv (h2.symm.trans (hp.trans h3))
  · exact h.ndk.sublist (hsubl.map _)
  · refine ⟨h.low.1, h.low.2.1, fun y hy => h.low.2.2 y ?_⟩
    rw [hmap2] at hy
    rw [hmap]
    exact hsub y hy
  · intro y hy
    rw [hg, if_neg (fun e => hy (by rw [e]; simp)), c3 y (fun hm => hy (by rw [hmap]; exact .tail _ (.tail _ hm)))]
/-- A new one is linked in. -/
theorem Rep.link {c r mp b : Nat} {C : List (Nat × Ent)} {e : Ent} {H : Heap} {nx : Nat} (h : Rep c r mp C H nx) (hk : e.k ∉ ksOf C) (hb : H.get b = some (.cells false [.str e.k.1, .str e.k.2, .int .u64 e.w, .int .i64 e.s, .bool e.f])) (hbn : b < nx) (hbS : b ∉ c :: mp :: r :: hsOf C) :
    ∃ H', putC c b H nx = some (H', nx + 1) ∧ Rep c r mp (C ++ [(nx, e)]) H' (nx + 1) ∧ ∀ y, y < nx → y ∉ c :: mp :: r :: hsOf C → H'.get y = H.get y := by
  obtain ⟨hits, z, fa, fb, L, h⟩ := h
  have hp := h.push (.cells false [.str e.k.1, .str e.k.2, .int .u64 e.w, .int .i64 e.s, .bool e.f, .nilptr, .nilptr])
  have hnx : nx ∉ r :: hsOf C := fun hm => by have := h.low.2.2 nx hm; omega
  have hne : ∀ y, y ∈ r :: hsOf C → y ≠ nx := fun y hy e => hnx (e ▸ hy)
  obtain ⟨k1, k2⟩ := chn_join' h.chn h.nod hnx
  -- the data of the new one
  have hz : ∀ (z' : Cel), z' = (fun j => if j = nx then e.cell else z j) → RingH ((nx, .cells false [.str e.k.1, .str e.k.2, .int .u64 e.w, .int .i64 e.s, .bool e.f, .nilptr, .nilptr]) :: H) z' fa fb (r :: hsOf C) ∧ z' nx = e.cell ∧ ∀ y, y ≠ nx → z' y = z y := by
    rintro z' rfl
    refine ⟨fun y hy => ?_, if_pos rfl, fun y hy => if_neg hy⟩
    rw [hp.ring y hy]
    simp only [nodeV, if_neg (hne y hy)]
  generalize hz' : (fun j => if j = nx then e.cell else z j) = z' at hz
  obtain ⟨z1, z2, z3⟩ := hz z' rfl
  obtain ⟨H1, j1, j2, j3⟩ := join_ring (x := nx) (a := .nilptr) (b := .nilptr) z1 (.head _) k1 (by rw [z2]; exact get_cons_self) (fun e => hne r (.head _) e.symm) (fun e => hne _ k1 e.symm) (nx + 1)
  have hcn : c ∉ nx :: r :: hsOf C := fun hm => by
    rcases List.mem_cons.1 hm with e | hm
    · have := h.low.1; omega
    · exact h.cS hm
  have hmn : mp ∉ nx :: r :: hsOf C := fun hm => by
    rcases List.mem_cons.1 hm with e | hm
    · have := h.low.2.1; omega
    · exact h.mS hm
  have hbn' : b ∉ nx :: r :: hsOf C := fun hm => by
    rcases List.mem_cons.1 hm with e | hm
    · omega
    · exact hbS (.tail _ (.tail _ hm))
  have ec := (j3 c hcn).trans hp.hc
  have em := (j3 mp hmn).trans hp.hm
  have eb : H1.get b = some (.cells false [.str e.k.1, .str e.k.2, .int .u64 e.w, .int .i64 e.s, .bool e.f]) := (j3 b hbn').trans ((get_cons_ne (by omega)).trans hb)
  have hm := mput_enc e.k nx L (h.absent hk).1
  unfold keyV at hm
  have ec0 := hp.hc
  have hg : ∀ y, (H1.put mp (.map ((L ++ [(e.k, nx)]).map encE))).get y = if y = mp then some (.map ((L ++ [(e.k, nx)]).map encE)) else H1.get y := fun y => get_put em
  have hmap : hsOf (C ++ [(nx, e)]) = hsOf C ++ [nx] := by simp [hsOf]
  have hin : ∀ y, y ∈ r :: (hsOf C ++ [nx]) → y ∈ nx :: r :: hsOf C := fun y hy => by
    rcases List.mem_cons.1 hy with h | h
    · rw [h]; simp
    · rcases List.mem_append.1 h with h | h
      · exact .tail _ (.tail _ h)
      · have : y = nx := by simpa using h
        rw [this]; exact .head _
  refine ⟨H1.put mp (.map ((L ++ [(e.k, nx)]).map encE)), by simp only [putC, hb, ec0, j1, ec, eb, em, hm], ⟨hits, z', upd (upd fa nx r) (fb r) nx, upd (upd fb nx (fb r)) r nx, L ++ [(e.k, nx)], ⟨?_, ?_, ?_, ?_, ?_, ?_, ?_, ?_, h.cm, ?_, ?_, ?_⟩⟩, ?_⟩
  · rw [hg, if_neg h.cm]; exact ec
  · rw [hg, if_pos rfl]
  · intro y hy
    rw [hmap] at hy
    rw [hg, if_neg (fun e => hmn (by rw [← e]; exact hin y hy))]
    exact j2 y (hin y hy)
  · intro p hpC
    rcases List.mem_append.1 hpC with h1 | h1
    · rw [z3 p.1 (hne _ (.tail _ (List.mem_map_of_mem h1)))]; exact h.dat p h1
    · have : p = (nx, e) := by simpa using h1
      rw [this]; exact z2
  · rw [hmap]; exact k2
  · rw [hmap, List.nodup_cons]
    refine ⟨fun hm => ?_, ?_⟩
    · rcases List.mem_append.1 hm with h1 | h1
      · exact (List.nodup_cons.1 h.nod).1 h1
      · have : r = nx := by simpa using h1
        exact hnx (by rw [← this]; exact .head _)
    · rw [List.nodup_append]
      refine ⟨(List.nodup_cons.1 h.nod).2, by simp, fun a ha b hb => ?_⟩
      have : b = nx := by simpa using hb
      rw [this]
      exact hne a (.tail _ ha)
  · rw [hmap]; exact fun hm => hcn (hin _ hm)
  · rw [hmap]; exact fun hm => hmn (hin _ hm)
  · rw [List.map_append]
    exact h.perm.append (List.Perm.refl _)
  · rw [ksOf, List.map_append, List.nodup_append]
    refine ⟨h.ndk, by simp, fun a ha b hb => ?_⟩
    have : b = e.k := by simpa using hb
    rw [this]
    rintro rfl
    exact hk ha
  · refine ⟨Nat.lt_succ_of_lt h.low.1, Nat.lt_succ_of_lt h.low.2.1, fun y hy => ?_⟩
    rw [hmap] at hy
    rcases List.mem_cons.1 (hin y hy) with h1 | h1
    · omega
    · exact Nat.lt_succ_of_lt (h.low.2.2 y h1)
  · intro y hy hyS
    have h1 : y ≠ mp := fun e => hyS (by rw [e]; simp)
    rw [hg, if_neg h1, j3 y (fun hm => by
      rcases List.mem_cons.1 hm with e | hm
      · omega
      · exact hyS (.tail _ (.tail _ hm))), get_cons_ne (by omega)]
/-- What is held behind something new. -/
def held1 (C : List (Nat × Ent)) : List (Nat × Ent) := match Nat.blt C.length 4096 with
  | true => C
  | false => C.tail
/-- A put of what was not there. -/
theorem Rep.put {c r mp : Nat} {C : List (Nat × Ent)} {e : Ent} {H : Heap} {nx : Nat} (h : Rep c r mp C H nx) (hk : e.k ∉ ksOf C) (hlen : C.length ≤ 9223372036854775807) :
    ∃ H' x, putF [.ptr c 0, .agg [.str e.k.1, .str e.k.2, .int .u64 e.w, .int .i64 e.s, .bool e.f]] H nx = some (.tup [], H', nx + 2) ∧ Rep c r mp (held1 C ++ [(x, e)]) H' (nx + 2) := by
  obtain ⟨hits, z, fa, fb, L, h⟩ := h
  have hp := h.push (.cells false [.str e.k.1, .str e.k.2, .int .u64 e.w, .int .i64 e.s, .bool e.f])
  have hbS : nx ∉ c :: mp :: r :: hsOf C := fun hm => by
    rcases List.mem_cons.1 hm with e | hm
    · have := h.low.1; omega
    · rcases List.mem_cons.1 hm with e | hm
      · have := h.low.2.1; omega
      · have := h.low.2.2 _ hm; omega
  have hA : putA c e.k.1 e.k.2 ((nx, .cells false [.str e.k.1, .str e.k.2, .int .u64 e.w, .int .i64 e.s, .bool e.f]) :: H) (nx + 1) = some ((nx, .cells false [.str e.k.1, .str e.k.2, .int .u64 e.w, .int .i64 e.s, .bool e.f]) :: H, nx + 1) := by
    have hf := mfind_enc e.k L
    unfold keyV at hf
    rw [(h.absent hk).2] at hf
    have e1 := hp.hc
    have e2 := hp.hm
    simp only [putA, e1, e2, hf]
    rfl
  have hB : ∃ H2, putB c ((nx, .cells false [.str e.k.1, .str e.k.2, .int .u64 e.w, .int .i64 e.s, .bool e.f]) :: H) (nx + 1) = some (H2, nx + 1) ∧ Rep c r mp (held1 C) H2 (nx + 1) ∧ H2.get nx = some (.cells false [.str e.k.1, .str e.k.2, .int .u64 e.w, .int .i64 e.s, .bool e.f]) := by
    have e1 := hp.hc
    have e2 := hp.hm
    have hl : (L.map encE).length = C.length := by rw [List.length_map, h.len]
    cases hc : Nat.blt C.length 4096 with
    | true =>
      refine ⟨_, by simp only [putB, e1, e2, hl, hc]; rfl, ?_, get_cons_self⟩
      simp only [held1, hc]
      exact ⟨hits, z, fa, fb, L, hp⟩
    | false =>
      have hle : Nat.ble C.length 9223372036854775807 = true := by rw [Nat.ble_eq]; exact hlen
      cases C with
      | nil => cases hc
      | cons p C =>
        obtain ⟨x0, e0⟩ := p
        have er := hp.ring r (.head _)
        simp only [nodeV] at er
        have hfa : fa r = x0 := by
          have := hp.chn
          simp only [hsOf, List.map_cons, List.cons_append, Chn] at this
          exact this.1
        rw [hfa] at er
        obtain ⟨H2, d1, d2, d3⟩ := Rep.drop (A := []) (B := C) (x := x0) (e := e0) ⟨hits, z, fa, fb, L, hp⟩
        refine ⟨H2, by simp only [putB, e1, e2, hl, hc, hle, er, d1], ?_, ?_⟩
        · simp only [held1, hc, List.tail_cons]; exact d2
        · rw [d3 nx hbS]; exact get_cons_self
  obtain ⟨H2, hB, hR2, hb2⟩ := hB
  have hsub : ∀ y, y ∈ hsOf (held1 C) → y ∈ hsOf C := fun y hy => by
    unfold held1 at hy
    split at hy
    · exact hy
    · obtain ⟨p, hp, rfl⟩ := List.mem_map.1 hy
      exact List.mem_map_of_mem (List.mem_of_mem_tail hp)
  have hk2 : e.k ∉ ksOf (held1 C) := fun hm => by
    unfold held1 at hm
    split at hm
    · exact hk hm
    · obtain ⟨p, hp, hpe⟩ := List.mem_map.1 hm
      exact hk (List.mem_map.2 ⟨p, List.mem_of_mem_tail hp, hpe⟩)
  obtain ⟨H3, l1, l2, _⟩ := hR2.link hk2 hb2 (Nat.lt_succ_self nx) fun hm => hbS (by
    rcases List.mem_cons.1 hm with h | hm
    · rw [h]; exact .head _
    · rcases List.mem_cons.1 hm with h | hm
      · rw [h]; exact .tail _ (.head _)
      · rcases List.mem_cons.1 hm with h | hm
        · rw [h]; simp
        · exact .tail _ (.tail _ (.tail _ (hsub _ hm))))
  exact ⟨H3, nx + 1, by simp only [putF, hA, hB, l1], l2⟩
def answ (e : Ent) : AV := match e.f with
  | true => .tup [.int .i64 e.s, .int .i64 0]
  | false => .tup [.int .i64 0, .int .i64 14]
/-- One that is asked for again goes behind all others. -/
theorem Rep.hit {c r mp : Nat} {A B : List (Nat × Ent)} {x : Nat} {e : Ent} {H : Heap} {nx : Nat} (h : Rep c r mp (A ++ (x, e) :: B) H nx) :
    ∃ H', hitF c x H nx = some (answ e, H', nx) ∧ Rep c r mp (A ++ B ++ [(x, e)]) H' nx := by
  obtain ⟨hits, z, fa, fb, L, h⟩ := h
  have hmap : hsOf (A ++ (x, e) :: B) = hsOf A ++ x :: hsOf B := by simp [hsOf]
  have hmap2 : hsOf (A ++ B ++ [(x, e)]) = hsOf A ++ hsOf B ++ [x] := by simp [hsOf]
  have hch := h.chn
  have hnod := h.nod
  have hring := h.ring
  have cS := h.cS
  have mS := h.mS
  rw [hmap] at hch hnod hring cS mS
  obtain ⟨k1, k2, k3⟩ := chn_cut' hch hnod
  have hsub : ∀ y, y ∈ r :: (hsOf A ++ hsOf B) → y ∈ r :: (hsOf A ++ x :: hsOf B) := fun y hy => by
    rcases List.mem_cons.1 hy with h | h
    · rw [h]; exact .head _
    · rcases List.mem_append.1 h with h | h
      · exact .tail _ (List.mem_append_left _ h)
      · exact .tail _ (List.mem_append_right _ (.tail _ h))
  have hxS : x ∈ r :: (hsOf A ++ x :: hsOf B) := .tail _ (List.mem_append_right _ (.head _))
  have hnx : x ∉ r :: (hsOf A ++ hsOf B) := by
    intro hm
    rcases List.mem_cons.1 hm with h2 | h2
    · exact (List.nodup_cons.1 hnod).1 (by rw [← h2]; simp)
    · have h3 := (List.nodup_cons.1 hnod).2
      rw [List.nodup_append] at h3
      rcases List.mem_append.1 h2 with h4 | h4
      · exact h3.2.2 x h4 x (.head _) rfl
      · exact (List.nodup_cons.1 h3.2.1).1 h4
  have hnod' : (r :: (hsOf A ++ hsOf B)).Nodup := hnod.sublist (((List.sublist_cons_self _ _).append_left _).cons_cons r)
  generalize hH5 : H.put c (.cells false [.ptr r 0, .map mp, .int .u64 (wrapx .u64 (hits + 1))]) = H5
  have g5 : ∀ y, H5.get y = if y = c then some (.cells false [.ptr r 0, .map mp, .int .u64 (wrapx .u64 (hits + 1))]) else H.get y := fun y => by rw [← hH5]; exact get_put h.hc
  have ring5 : RingH H5 z fa fb (r :: (hsOf A ++ x :: hsOf B)) := fun y hy => by
    rw [g5, if_neg (fun e => cS (by rw [← e]; exact hy))]; exact hring y hy
  obtain ⟨H6, c1, c2, c3⟩ := cut_ring ring5 hxS (hsub _ k2) (hsub _ k1) nx
  have ec6 : H6.get c = some (.cells false [.ptr r 0, .map mp, .int .u64 (wrapx .u64 (hits + 1))]) := by rw [c3 c cS, g5, if_pos rfl]
  obtain ⟨j1, j2⟩ := chn_join' k3 hnod' hnx
  have ex6 := c2 x hxS
  obtain ⟨H7, q1, q2, q3⟩ := join_ring (S := r :: (hsOf A ++ hsOf B)) (fun y hy => c2 y (hsub y hy)) (.head _) j1 ex6 (fun e => hnx (by rw [e]; exact .head _)) (fun e => hnx (by rw [e]; exact j1)) nx
  have ex7 := q2 x (.head _)
  have hdx : z x = e.cell := h.dat (x, e) (List.mem_append_right _ (.head _))
  simp only [nodeV, hdx, Ent.cell] at ex7
  have hin : ∀ y, y ∈ r :: (hsOf A ++ hsOf B ++ [x]) → y ∈ x :: r :: (hsOf A ++ hsOf B) := fun y hy => by
    rcases List.mem_cons.1 hy with h | h
    · rw [h]; simp
    · rcases List.mem_append.1 h with h | h
      · exact .tail _ (.tail _ h)
      · have : y = x := by simpa using h
        rw [this]; exact .head _
  have hin2 : ∀ y, y ∈ x :: r :: (hsOf A ++ hsOf B) → y ∈ r :: (hsOf A ++ x :: hsOf B) := fun y hy => by
    rcases List.mem_cons.1 hy with h | h
    · rw [h]; exact hxS
    · exact hsub y h
  have hperm : (A ++ B ++ [(x, e)]).Perm (A ++ (x, e) :: B) := by
    rw [List.append_assoc]
    exact List.Perm.append_left A (List.perm_append_comm.trans (by simp))
  have h0 := h.hc
  refine ⟨H7, ?_, ⟨wrapx .u64 (hits + 1), z, upd (upd (upd fa (fb x) (fa x)) x r) (upd fb (fa x) (fb x) r) x, upd (upd (upd fb (fa x) (fb x)) x (upd fb (fa x) (fb x) r)) r x, L, ⟨?_, ?_, ?_, ?_, ?_, ?_, ?_, ?_, h.cm, ?_, ?_, ?_⟩⟩⟩
  · simp only [hitF, h0, hH5, c1, ec6, q1, ex7, answF]
    cases hf : e.f <;> simp only [answ, hf]
  · rw [q3 c (fun hm => cS (hin2 c hm))]; exact ec6
  · rw [q3 mp (fun hm => mS (hin2 mp hm)), c3 mp mS, g5, if_neg (fun e => h.cm e.symm)]; exact h.hm
  · intro y hy
    rw [hmap2] at hy
    exact q2 y (hin y hy)
  · intro p hp
    exact h.dat p (hperm.mem_iff.1 hp)
  · rw [hmap2]; exact j2
  · rw [hmap2, List.nodup_cons]
    refine ⟨fun hm => ?_, ?_⟩
    · rcases List.mem_append.1 hm with h1 | h1
      · exact (List.nodup_cons.1 hnod').1 h1
      · have : r = x := by simpa using h1
        exact hnx (by rw [← this]; exact .head _)
    · rw [List.nodup_append]
      refine ⟨(List.nodup_cons.1 hnod').2, by simp, fun a ha b hb => ?_⟩
      have : b = x := by simpa using hb
      rw [this]
      rintro rfl
      exact hnx (.tail _ ha)
  · rw [hmap2]; exact fun hm => cS (hin2 _ (hin _ hm))
  · rw [hmap2]; exact fun hm => mS (hin2 _ (hin _ hm))
  · exact h.perm.trans (hperm.map _).symm
  · exact (hperm.map _).nodup_iff.2 h.ndk
  · refine ⟨h.low.1, h.low.2.1, fun y hy => h.low.2.2 y ?_⟩
    rw [hmap2] at hy
    rw [hmap]
    exact hin2 y (hin y hy)
theorem Rep.same {c r mp : Nat} {C : List (Nat × Ent)} {H H' : Heap} {nx nx' : Nat} (h : Rep c r mp C H nx) (hn : nx ≤ nx') (he : ∀ y, y < nx → H'.get y = H.get y) : Rep c r mp C H' nx' := by
  obtain ⟨hits, z, fa, fb, L, h⟩ := h
  exact ⟨hits, z, fa, fb, L, h.same hn he⟩
theorem Rep.push {c r mp : Nat} {C : List (Nat × Ent)} {H : Heap} {nx : Nat} (h : Rep c r mp C H nx) (o : HO) : Rep c r mp C ((nx, o) :: H) (nx + 1) := by
  obtain ⟨hits, z, fa, fb, L, h⟩ := h
  exact ⟨hits, z, fa, fb, L, h.push o⟩
theorem Rep.none {c r mp : Nat} {C : List (Nat × Ent)} {H : Heap} {nx : Nat} (h : Rep c r mp C H nx) : noneF [.ptr c 0] H nx = some (.bool false, H, nx) := by
  obtain ⟨hits, z, fa, fb, L, h⟩ := h
  have e1 := h.hc
  simp only [noneF, e1]
theorem Rep.find {c r mp : Nat} {C : List (Nat × Ent)} {H : Heap} {nx : Nat} (h : Rep c r mp C H nx) (k : Key) (w : Int) :
    (k ∉ ksOf C → ∃ o, findF [.ptr c 0, .agg [.str k.1, .str k.2], .int .u64 w] H nx = some (.tup [.nilptr, .bool false], (nx, o) :: H, nx + 1)) ∧
    (∀ p ∈ C, p.2.k = k → ∃ o, findF [.ptr c 0, .agg [.str k.1, .str k.2], .int .u64 w] H nx = some (.tup [.ptr p.1 0, .bool (p.2.w == w)], (nx, o) :: H, nx + 1)) := by
  obtain ⟨hits, z, fa, fb, L, h⟩ := h
  exact h.find k w
theorem Rep.held {c r mp : Nat} {C : List (Nat × Ent)} {H : Heap} {nx : Nat} (h : Rep c r mp C H nx) (hlen : C.length ≤ 9223372036854775807) : heldF [.ptr c 0] H nx = some (.int .i64 (.ofNat C.length), H, nx) := by
  obtain ⟨hits, z, fa, fb, L, h⟩ := h
  have e1 := h.hc
  have e2 := h.hm
  have hl : (L.map encE).length = C.length := by rw [List.length_map, h.len]
  have hle : Nat.ble C.length 9223372036854775807 = true := by rw [Nat.ble_eq]; exact hlen
  simp only [heldF, e1, e2, hl, hle]
theorem Rep.known {c r mp : Nat} {C : List (Nat × Ent)} {H : Heap} {nx : Nat} (h : Rep c r mp C H nx) (k : Key) (w : Int) :
    (k ∉ ksOf C → ∃ o, knownF [.ptr c 0, .str k.1, .str k.2, .int .u64 w] H nx = some (.bool false, (nx, o) :: H, nx + 1)) ∧
    (∀ p ∈ C, p.2.k = k → ∃ o, knownF [.ptr c 0, .str k.1, .str k.2, .int .u64 w] H nx = some (.bool (p.2.w == w), (nx, o) :: H, nx + 1)) := by
  have h1 := h.none
  obtain ⟨f1, f2⟩ := h.find k w
  refine ⟨fun hk => ?_, fun p hp hpk => ?_⟩
  · obtain ⟨o, ho⟩ := f1 hk
    exact ⟨o, by simp only [knownF, h1, ho]⟩
  · obtain ⟨o, ho⟩ := f2 p hp hpk
    exact ⟨o, by simp only [knownF, h1, ho]⟩
/-- A new cache. -/
theorem rep_new (H : Heap) (nx : Nat) : ∃ H', newF [] H nx = some (.ptr (nx + 2) 0, H', nx + 3) ∧ Rep (nx + 2) nx (nx + 1) [] H' (nx + 3) := by
  refine ⟨_, rfl, 0, fun _ i => match i with | 0 => .str [] | 1 => .str [] | 2 => .int .u64 0 | 3 => .int .i64 0 | _ => .bool false, fun _ => nx, fun _ => nx, [], ⟨get_cons_self, ?_, ?_, fun p hp => (by cases hp), ⟨rfl, rfl, trivial⟩, by simp [hsOf], ?_, ?_, ?_, .refl _, by simp [ksOf], ?_⟩⟩
  · rw [get_cons_ne (by omega), get_cons_self]; rfl
  · intro y hy
    have : y = nx := by simpa [hsOf] using hy
    rw [this, get_cons_ne (by omega), get_cons_ne (by omega), get_cons_self]
    rfl
  · simp [hsOf]
  · simp [hsOf]
  · omega
  · refine ⟨by omega, by omega, fun y hy => ?_⟩
    have : y = nx := by simpa [hsOf] using hy
    omega
/-- A score that was not known. -/
theorem Rep.miss {c r mp : Nat} {C : List (Nat × Ent)} {H : Heap} {nx : Nat} (h : Rep c r mp C H nx) (hlen : C.length ≤ 9223372036854775807) {gS : List AV → Option AV} {key name : List Nat} {ver s e : Int} {nv vr : List AV} (hn : nv.length = 8) (hv : vr.length = 7) (hk1 : 1 ≤ key.length) (hk2 : key.length ≤ 2048)
    (hg : gS [.agg nv, .agg (.str name :: vr)] = some (.tup [.int .i64 s, .int .i64 e])) (he : (e == 0 || e == 14) = true) (hk : (key, name) ∉ ksOf C) :
    ∃ H' nx' x, scoreF gS [.ptr c 0, .str key, .int .u64 ver, .agg nv, .agg (.str name :: vr)] H nx = some (.tup [.int .i64 s, .int .i64 e], H', nx') ∧ nx ≤ nx' ∧ Rep c r mp (held1 C ++ [(x, ⟨(key, name), ver, s, e == 0⟩)]) H' nx' := by
  have h2 := (h.push (.cells false nv)).push (.cells false (.str name :: vr))
  have h3 := h2.push (.cells false [.str key, .str name])
  obtain ⟨o, ho⟩ := (h3.find (key, name) ver).1 hk
  have h4 := h3.push o
  obtain ⟨H5, x, p1, p2⟩ := h4.put (e := ⟨(key, name), ver, s, e == 0⟩) hk hlen
  have b1 : Nat.beq nv.length 8 = true := by rw [hn]; rfl
  have b2 : Nat.beq vr.length 7 = true := by rw [hv]; rfl
  have b3 : Nat.ble 1 key.length = true := by rw [Nat.ble_eq]; exact hk1
  have b4 : Nat.ble key.length 2048 = true := by rw [Nat.ble_eq]; exact hk2
  have hno := h2.none
  refine ⟨H5, _, x, ?_, ?_, p2⟩
  · simp only [scoreF, b1, b2, b3, b4, Bool.and_true, hno, ho, missF, hg, he, p1]
  · omega
/-- A score that was known. -/
theorem Rep.again {c r mp : Nat} {A B : List (Nat × Ent)} {x : Nat} {en : Ent} {H : Heap} {nx : Nat} (h : Rep c r mp (A ++ (x, en) :: B) H nx) {gS : List AV → Option AV} {key name : List Nat} {nv vr : List AV} (hn : nv.length = 8) (hv : vr.length = 7) (hk1 : 1 ≤ key.length) (hk2 : key.length ≤ 2048) (hk : en.k = (key, name)) :
    ∃ H' nx', scoreF gS [.ptr c 0, .str key, .int .u64 en.w, .agg nv, .agg (.str name :: vr)] H nx = some (answ en, H', nx') ∧ nx ≤ nx' ∧ Rep c r mp (A ++ B ++ [(x, en)]) H' nx' := by
  have h2 := (h.push (.cells false nv)).push (.cells false (.str name :: vr))
  have h3 := h2.push (.cells false [.str key, .str name])
  obtain ⟨o, ho⟩ := (h3.find (key, name) en.w).2 (x, en) (List.mem_append_right _ (.head _)) hk
  have h4 := h3.push o
  obtain ⟨H5, p1, p2⟩ := h4.hit
  have b1 : Nat.beq nv.length 8 = true := by rw [hn]; rfl
  have b2 : Nat.beq vr.length 7 = true := by rw [hv]; rfl
  have b3 : Nat.ble 1 key.length = true := by rw [Nat.ble_eq]; exact hk1
  have b4 : Nat.ble key.length 2048 = true := by rw [Nat.ble_eq]; exact hk2
  have hno := h2.none
  have hw : (en.w == en.w) = true := by simp
  simp only [hw] at ho
  refine ⟨H5, _, ?_, ?_, p2⟩
  · simp only [scoreF, b1, b2, b3, b4, Bool.and_true, hno, ho, p1]
  · omega

end Go.Proofs.YtmmmpgnkglhkjaaGreatDoor.cacheW
