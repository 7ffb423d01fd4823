/- A LIBRARY FOR RUNNING A PROGRAM IN THE KERNEL, OVER ABSTRACT VALUES, AND THAT ITS WORD IS THE MODEL'S: part 1 of 5. No condition. -/
import Derived.Calls
import Derived.Orders
import Derived.Laws.Sem
import Derived.Laws.Strings
import Derived.Laws.Small
import Derived.Laws.Entries
import Derived.Laws.StructEq
import Derived.Laws.Externs
import Derived.Laws.Cells
import Derived.Laws.Pointers
import Derived.Laws.AppendOwn
import Derived.Laws.MakeOwn
import Derived.Laws.IdiomStrings
import Derived.Laws.RangeString
import Derived.Laws.IdiomRangeMap
set_option linter.unusedVariables false
set_option linter.unusedSimpArgs false
/- Abstract values and an abstract heap, and what it means that they stand for a world of the model. No condition. -/
namespace Go.Sy

/-- Abstract values. Slices are nil, or lists of elements that nobody writes any more, or rows of an owned object. -/
inductive AV where
  | bool (b : Bool)
  | int (k : IntKind) (n : Int)
  | str (s : List Nat)
  | nilptr
  | ptr (h off : Nat)
  | eptr (e : AV) (off : Nat)
  | nilslice
  | lst (sz : Nat) (es : List AV)
  | row (h off len sz cp : Nat) (ex : Bool)
  | nilmap
  | map (h : Nat)
  | nilfunc
  | func (fn : Fn) (first caps : List AV)
  | niliface
  | iface (t : Nat) (v : AV)
  | agg (cs : List AV)
  | tup (vs : List AV)
  | sym (i : Nat)

/-- What an owned object holds. -/
inductive HO where
  | cells (str : Bool) (cs : List AV)
  | map (es : List (AV × AV))
  | siter (s : List Nat) (pos : Nat)

abbrev Heap := List (Nat × HO)

def AV.cells : AV → List AV
  | .agg cs => cs
  | v => [v]

/-- Where handles lie, which handles are in use, which blocks are never written any more, what the unknown cells are. -/
structure Env where
  ρ : Nat → Nat
  D : Nat → Prop
  Z : Nat → Prop
  σ : Nat → Value

def maxStr : Nat := 9223372036854775807

def has (k : IntKind) (n : Int) : Prop := k.min ≤ n ∧ n ≤ k.max

inductive VR (E : Env) (w : World) : AV → Value → Prop where
  | bool (b : Bool) : VR E w (.bool b) (.bool b)
  | int (k : IntKind) (n : Int) (h : has k n) : VR E w (.int k n) (.int k n)
  | str (l : List Nat) (s : ByteArray) (h : s.data.toList.map UInt8.toNat = l) (hl : l.length ≤ maxStr) : VR E w (.str l) (.string s)
  | nilptr : VR E w .nilptr (.pointer none)
  | ptr (h off : Nat) (hd : E.D h) : VR E w (.ptr h off) (.pointer (some ⟨E.ρ h, off, none⟩))
  | eptr (e : AV) (off b o : Nat) (cv : Value) (hfl : (match e with | .tup _ => false | _ => true) = true) (hz : E.Z b) (hv : VR E w e cv)
      (hc : ∀ j c, cv.cells[j]? = some c → w.cell? ⟨b, o + j, none⟩ = some c) : VR E w (.eptr e off) (.pointer (some ⟨b, o + off, none⟩))
  | nilslice : VR E w .nilslice (.slice none 0 0)
  | lst0 (sz : Nat) (a : Option Addr) (c : Nat) (hc : c ≤ maxStr) : VR E w (.lst sz []) (.slice a 0 c)
  | lst (es : List AV) (b o cap sz : Nat) (f : Nat → Value) (hz : E.Z b) (hcap : es.length ≤ cap) (hcm : cap ≤ maxStr) (hfl : ∀ (i : Nat) e, es[i]? = some e → (match e with | .tup _ => false | _ => true) = true)
      (hv : ∀ i e, es[i]? = some e → VR E w e (f i))
      (hc : ∀ i, i < es.length → (f i).cells.size = sz ∧ ∀ j c, (f i).cells[j]? = some c → w.cell? ⟨b, o + i * sz + j, none⟩ = some c) :
      VR E w (.lst sz es) (.slice (some ⟨b, o, none⟩) es.length cap)
  | row (h off len sz cp cap : Nat) (ex : Bool) (hd : E.D h) (hlen : len ≤ cap) (hcap : cap ≤ maxStr) (hsz : 0 < sz) (hcp : cp ≤ cap) (hex : ex = true → cap = cp)
      (hb : ∃ c e f, w.heap[E.ρ h]? = some (.cells c e f) ∧ off + cap * sz ≤ c.size) : VR E w (.row h off len sz cp ex) (.slice (some ⟨E.ρ h, off, none⟩) len cap)
  | row0 (h off sz : Nat) (ex : Bool) (a : Addr) : VR E w (.row h off 0 sz 0 ex) (.slice (some a) 0 0)
  | nilmap : VR E w .nilmap (.map none)
  | map (h : Nat) (hd : E.D h) : VR E w (.map h) (.map (some (E.ρ h)))
  | nilfunc : VR E w .nilfunc .nilFunc
  | func (fn : Fn) (f c : List AV) (vf vc : Array Value) (hf : f.length = vf.size) (hc : c.length = vc.size)
      (rf : ∀ (i : Nat) x v, f[i]? = some x → vf[i]? = some v → VR E w x v) (rc : ∀ (i : Nat) x v, c[i]? = some x → vc[i]? = some v → VR E w x v) :
      VR E w (.func fn f c) (.func fn vf vc)
  | niliface : VR E w .niliface .nilIface
  | iface (t : Nat) (v : AV) (cv : Value) (h : VR E w v cv) : VR E w (.iface t v) (.iface t cv)
  | agg (cs : List AV) (vs : Array Value) (hl : cs.length = vs.size) (h : ∀ (i : Nat) x v, cs[i]? = some x → vs[i]? = some v → VR E w x v)
      (h1 : ∀ (i : Nat) v, vs[i]? = some v → v.oneCell' = true) : VR E w (.agg cs) (.agg vs)
  | tup (cs : List AV) (vs : Array Value) (hl : cs.length = vs.size) (h : ∀ (i : Nat) x v, cs[i]? = some x → vs[i]? = some v → VR E w x v) :
      VR E w (.tup cs) (.tuple vs)
  | sym (i : Nat) (cv : Value) (he : cv = E.σ i) (h1 : cv.oneCell' = true) : VR E w (.sym i) cv

/-- Every block of cells keeps its size and its type. -/
def Shapes (w w' : World) : Prop :=
  ∀ (b : Nat) (c : Array Value) (e : TypeId) (f : Nat × Nat), w.heap[b]? = some (Obj.cells c e f) → ∃ (c' : Array Value) (f' : Nat × Nat), w'.heap[b]? = some (Obj.cells c' e f') ∧ c'.size = c.size

theorem Shapes.refl (w : World) : Shapes w w := fun _ c _ f h => ⟨c, f, h, rfl⟩
theorem Shapes.trans {a b c : World} (h : Shapes a b) (k : Shapes b c) : Shapes a c := fun x y e f hx =>
  let ⟨_, f1, h1, h2⟩ := h x y e f hx
  let ⟨c', f', k1, k2⟩ := k x _ e f1 h1
  ⟨c', f', k1, k2.trans h2⟩

theorem cell_of_block {w w' : World} {b o : Nat} (h : w'.heap[b]? = w.heap[b]?) : w'.cell? ⟨b, o, none⟩ = w.cell? ⟨b, o, none⟩ := by
  simp only [World.cell?, h]

theorem VR.mono {E E' : Env} {w w' : World} (hD : ∀ h, E.D h → E'.D h ∧ E'.ρ h = E.ρ h) (hZ : ∀ b, E.Z b → E'.Z b ∧ w'.heap[b]? = w.heap[b]?)
    (hS : Shapes w w') {v : AV} {cv : Value} (h : VR E w v cv) (hσ : E'.σ = E.σ := by rfl) : VR E' w' v cv := by
  induction h with
  | bool b => exact .bool b
  | int k n h => exact .int k n h
  | str l s h hl => exact .str l s h hl
  | nilptr => exact .nilptr
  | ptr h off hd => rw [← (hD h hd).2]; exact .ptr h off (hD h hd).1
  | eptr e off b o cv hfl hz _ hc ih => exact .eptr e off b o cv hfl (hZ b hz).1 ih fun j c hj => by rw [cell_of_block (hZ b hz).2]; exact hc j c hj
  | nilslice => exact .nilslice
  | lst0 sz a c hc => exact .lst0 sz a c hc
  | lst es b o cap sz f hz hcap hcm hfl _ hc ih =>
    exact .lst es b o cap sz f (hZ b hz).1 hcap hcm hfl ih fun i hi => ⟨(hc i hi).1, fun j c hj => by rw [cell_of_block (hZ b hz).2]; exact (hc i hi).2 j c hj⟩
  | row h off len sz cp cap ex hd hlen hcap hsz hcp hex hb =>
    obtain ⟨c, e, f, h1, h2⟩ := hb
    obtain ⟨c', f', k1, k2⟩ := hS _ c e f h1
    rw [← (hD h hd).2]
    exact .row h off len sz cp cap ex (hD h hd).1 hlen hcap hsz hcp hex ⟨c', e, f', by rw [(hD h hd).2]; exact k1, by omega⟩
  | row0 h off sz ex a => exact .row0 h off sz ex a
  | nilmap => exact .nilmap
  | map h hd => rw [← (hD h hd).2]; exact .map h (hD h hd).1
  | nilfunc => exact .nilfunc
  | func fn f c vf vc hf hc _ _ rf rc => exact .func fn f c vf vc hf hc rf rc
  | niliface => exact .niliface
  | iface t v cv _ ih => exact .iface t v cv ih
  | agg cs vs hl _ h1 ih => exact .agg cs vs hl ih h1
  | tup cs vs hl _ ih => exact .tup cs vs hl ih
  | sym i cv he h1 => exact .sym i cv (he.trans (congrFun hσ i).symm) h1

/-- Lists of values. -/
def VRs (E : Env) (w : World) (xs : List AV) (vs : List Value) : Prop := xs.length = vs.length ∧ ∀ (i : Nat) x v, xs[i]? = some x → vs[i]? = some v → VR E w x v

theorem VRs.nil {E : Env} {w : World} : VRs E w [] [] := ⟨rfl, fun i x v h => by simp at h⟩
theorem VRs.cons {E : Env} {w : World} {x : AV} {v : Value} {xs : List AV} {vs : List Value} (h : VR E w x v) (hs : VRs E w xs vs) : VRs E w (x :: xs) (v :: vs) :=
  ⟨by simp [hs.1], fun i y u hy hu => by
    cases i with
    | zero => simp at hy hu; subst hy; subst hu; exact h
    | succ i => simp at hy hu; exact hs.2 i y u hy hu⟩
theorem VRs.of_cons {E : Env} {w : World} {x : AV} {xs : List AV} {vs : List Value} (h : VRs E w (x :: xs) vs) : ∃ v vs', vs = v :: vs' ∧ VR E w x v ∧ VRs E w xs vs' := by
  cases vs with
  | nil => have := h.1; simp at this
  | cons v vs => exact ⟨v, vs, rfl, h.2 0 x v rfl rfl, by have := h.1; simpa using this, fun i y u hy hu => h.2 (i + 1) y u (by simpa using hy) (by simpa using hu)⟩
theorem VRs.of_nil {E : Env} {w : World} {vs : List Value} (h : VRs E w [] vs) : vs = [] := by
  have := h.1; cases vs <;> simp_all
theorem VRs.mono {E E' : Env} {w w' : World} (hm : ∀ {v cv}, VR E w v cv → VR E' w' v cv) {xs : List AV} {vs : List Value} (h : VRs E w xs vs) : VRs E' w' xs vs :=
  ⟨h.1, fun i x v hx hv => hm (h.2 i x v hx hv)⟩
theorem VRs.append {E : Env} {w : World} : ∀ {xs : List AV} {vs : List Value} {ys : List AV} {us : List Value}, VRs E w xs vs → VRs E w ys us → VRs E w (xs ++ ys) (vs ++ us)
  | [], vs, ys, us, h, k => by rw [h.of_nil]; simpa using k
  | x :: xs, vs, ys, us, h, k => by
    obtain ⟨v, vs', rfl, h1, h2⟩ := h.of_cons
    exact .cons h1 (h2.append k)
theorem VRs.getElem? {E : Env} {w : World} {xs : List AV} {vs : List Value} (h : VRs E w xs vs) {i : Nat} {x : AV} (hx : xs[i]? = some x) : ∃ v, vs[i]? = some v ∧ VR E w x v := by
  have hi : i < xs.length := by
    rcases Nat.lt_or_ge i xs.length with h' | h'
    · exact h'
    · rw [List.getElem?_eq_none h'] at hx; cases hx
  have hv : vs[i]? = some (vs[i]'(h.1 ▸ hi)) := List.getElem?_eq_getElem _
  exact ⟨_, hv, h.2 i x _ hx hv⟩
theorem VRs.extract {E : Env} {w : World} {xs : List AV} {vs : List Value} (h : VRs E w xs vs) (a n : Nat) : VRs E w ((xs.drop a).take n) ((vs.drop a).take n) :=
  ⟨by simp [h.1], fun i x v hx hv => by
    rw [List.getElem?_take] at hx hv
    split at hx
    · rename_i hi
      simp only [hi, if_true, List.getElem?_drop] at hx hv
      exact h.2 _ x v hx hv
    · cases hx⟩

theorem VR.of_agg {E : Env} {w : World} {cs : List AV} {cv : Value} (h : VR E w (.agg cs) cv) : ∃ vs : Array Value, cv = .agg vs ∧ VRs E w cs vs.toList ∧ ∀ v ∈ vs.toList, v.oneCell' = true := by
  cases h with
  | agg _ vs hl h h1 =>
    refine ⟨vs, rfl, ⟨by simpa using hl, fun i x v hx hv => h i x v hx (by simpa using hv)⟩, fun v hv => ?_⟩
    obtain ⟨i, hi⟩ := List.getElem?_of_mem hv
    exact h1 i v (by simpa using hi)
theorem VR.mk_agg {E : Env} {w : World} {cs : List AV} {vs : Array Value} (h : VRs E w cs vs.toList) (h1 : ∀ v ∈ vs.toList, v.oneCell' = true) : VR E w (.agg cs) (.agg vs) :=
  .agg cs vs (by simpa using h.1) (fun i x v hx hv => h.2 i x v hx (by simpa using hv)) fun i v hv => h1 v (by
    have := List.mem_of_getElem? (l := vs.toList) (i := i) (a := v) (by simpa using hv)
    exact this)
theorem VR.of_tup {E : Env} {w : World} {cs : List AV} {cv : Value} (h : VR E w (.tup cs) cv) : ∃ vs : Array Value, cv = .tuple vs ∧ VRs E w cs vs.toList := by
  cases h with
  | tup _ vs hl h => exact ⟨vs, rfl, ⟨by simpa using hl, fun i x v hx hv => h i x v hx (by simpa using hv)⟩⟩
theorem VR.mk_tup {E : Env} {w : World} {cs : List AV} {vs : Array Value} (h : VRs E w cs vs.toList) : VR E w (.tup cs) (.tuple vs) :=
  .tup cs vs (by simpa using h.1) fun i x v hx hv => h.2 i x v hx (by simpa using hv)

/-- A value that is no struct and no tuple. -/
def AV.one : AV → Bool
  | .agg _ | .tup _ => false
  | _ => true
theorem VR.oneCell {E : Env} {w : World} {v : AV} {cv : Value} (h : VR E w v cv) (h1 : v.one = true) : cv.oneCell' = true := by
  cases h <;> simp_all [AV.one, Value.oneCell']
theorem VR.not_agg {E : Env} {w : World} {v : AV} {cv : Value} (h : VR E w v cv) (h1 : v.one = true) : cv.cells = #[cv] := by
  have h2 := h.oneCell h1
  cases cv <;> simp_all [Value.cells, Value.oneCell']
/-- The cells of a value, none of them a struct. -/
def AV.flat : AV → Bool
  | .tup _ => false
  | _ => true
theorem VR.cells {E : Env} {w : World} {v : AV} {cv : Value} (h : VR E w v cv) (hf : v.flat = true) : VRs E w v.cells cv.cells.toList ∧ ∀ u ∈ cv.cells.toList, u.oneCell' = true := by
  cases v with
  | agg cs =>
    obtain ⟨vs, rfl, h2, h3⟩ := h.of_agg
    exact ⟨h2, h3⟩
  | tup vs => simp [AV.flat] at hf
  | _ =>
    have h1 := h.not_agg rfl
    have h2 := h.oneCell rfl
    rw [h1]
    exact ⟨VRs.cons h VRs.nil, fun u hu => by
      have : u = cv := by simpa using hu
      rw [this]; exact h2⟩
end Go.Sy

/- When an abstract heap stands for what a world holds, and how a step turns both. No condition. -/
namespace Go.Sy

def Heap.get : Heap → Nat → Option HO
  | [], _ => none
  | (k, o) :: r, h => match Nat.beq k h with
    | true => some o
    | false => Heap.get r h
def Heap.put : Heap → Nat → HO → Heap
  | [], _, _ => []
  | (k, o) :: r, h, n => match Nat.beq k h with
    | true => (k, n) :: r
    | false => (k, o) :: Heap.put r h n
def Heap.del : Heap → Nat → Heap
  | [], _ => []
  | (k, o) :: r, h => match Nat.beq k h with
    | true => r
    | false => (k, o) :: Heap.del r h

def Heap.keys (H : Heap) : List Nat := H.map (·.1)

theorem nbeq_true {a b : Nat} (h : Nat.beq a b = true) : a = b := Nat.eq_of_beq_eq_true h
theorem nbeq_false {a b : Nat} (h : Nat.beq a b = false) : a ≠ b := Nat.ne_of_beq_eq_false h

theorem Heap.mem_of_get : ∀ {H : Heap} {h : Nat} {o : HO}, H.get h = some o → (h, o) ∈ H
  | (k, o') :: r, h, o, e => by
    simp only [Heap.get] at e
    split at e
    · rename_i hb; cases e; rw [nbeq_true hb]; exact .head _
    · exact .tail _ (Heap.mem_of_get e)
theorem Heap.keys_put : ∀ (H : Heap) (h : Nat) (o : HO), (H.put h o).keys = H.keys
  | [], _, _ => rfl
  | (k, o') :: r, h, o => by
    simp only [Heap.put]
    split
    · rfl
    · show k :: (Heap.put r h o).keys = k :: Heap.keys r
      rw [Heap.keys_put r h o]
theorem Heap.mem_put : ∀ {H : Heap} {h : Nat} {o : HO} {p : Nat × HO}, H.keys.Nodup → p ∈ H.put h o → p = (h, o) ∨ (p ∈ H ∧ p.1 ≠ h)
  | (k, o') :: r, h, o, p, hn, hp => by
    simp only [Heap.put] at hp
    have hn' : k ∉ Heap.keys r ∧ (Heap.keys r).Nodup := List.nodup_cons.1 hn
    split at hp
    · rename_i hb
      have := nbeq_true hb
      subst this
      cases hp with
      | head => exact .inl rfl
      | tail _ hp => exact .inr ⟨.tail _ hp, fun e => hn'.1 (e ▸ List.mem_map_of_mem hp)⟩
    · rename_i hb
      cases hp with
      | head => exact .inr ⟨.head _, nbeq_false hb⟩
      | tail _ hp => exact (Heap.mem_put hn'.2 hp).imp id fun ⟨a, b⟩ => ⟨.tail _ a, b⟩
theorem Heap.mem_del : ∀ {H : Heap} {h : Nat} {p : Nat × HO}, H.keys.Nodup → p ∈ H.del h → p ∈ H ∧ p.1 ≠ h
  | (k, o') :: r, h, p, hn, hp => by
    simp only [Heap.del] at hp
    have hn' : k ∉ Heap.keys r ∧ (Heap.keys r).Nodup := List.nodup_cons.1 hn
    split at hp
    · rename_i hb
      have := nbeq_true hb
      subst this
      exact ⟨.tail _ hp, fun e => hn'.1 (e ▸ List.mem_map_of_mem hp)⟩
    · rename_i hb
      cases hp with
      | head => exact ⟨.head _, nbeq_false hb⟩
      | tail _ hp => exact let ⟨a, b⟩ := Heap.mem_del hn'.2 hp; ⟨.tail _ a, b⟩
theorem Heap.sub_del : ∀ (H : Heap) (h : Nat), (H.del h).Sublist H
  | [], _ => .slnil
  | (k, o) :: r, h => by
    simp only [Heap.del]
    split
    · exact List.sublist_cons_self _ _
    · exact (Heap.sub_del r h).cons_cons _

/-- Block b holds what the object says. -/
def OR (E : Env) (w : World) (b : Nat) : HO → Prop
  | .cells str cs => ∃ (c : Array Value) (e : TypeId) (f : Nat × Nat), w.heap[b]? = some (Obj.cells c e f) ∧ cs.length ≤ c.size ∧ (f.2 = f.1 ∨ (str = true ∧ c.size ≤ f.1)) ∧
      ∀ (i : Nat) x, cs[i]? = some x → ∃ v, c[i]? = some v ∧ v.oneCell' = true ∧ VR E w x v
  | .map es => ∃ (c : Array MapEntry) (clock : Nat), w.heap[b]? = some (Obj.map c clock) ∧ es.length = c.size ∧
      (∀ (i : Nat) k x, es[i]? = some (k, x) → ∃ m, c[i]? = some m ∧ VR E w k m.key ∧ VR E w x m.val ∧ m.born < clock) ∧
      ∀ (i j : Nat) m n, c[i]? = some m → c[j]? = some n → m.born = n.born → i = j
  | .siter s pos => ∃ bs : ByteArray, w.heap[b]? = some (Obj.stringIter bs pos) ∧ bs.data.toList.map UInt8.toNat = s

theorem OR.lt {E : Env} {w : World} {b : Nat} {o : HO} (h : OR E w b o) : b < w.heap.size := by
  cases o with
  | cells _ cs => obtain ⟨c, e, f, h, _⟩ := h; exact (Array.getElem?_eq_some_iff.1 h).1
  | map es => obtain ⟨c, e, h, _⟩ := h; exact (Array.getElem?_eq_some_iff.1 h).1
  | siter s pos => obtain ⟨c, h, _⟩ := h; exact (Array.getElem?_eq_some_iff.1 h).1

theorem OR.mono {E E' : Env} {w w' : World} {b : Nat} {o : HO} (hb : w'.heap[b]? = w.heap[b]?) (hm : ∀ {v cv}, VR E w v cv → VR E' w' v cv) (h : OR E w b o) : OR E' w' b o := by
  cases o with
  | cells _ cs =>
    obtain ⟨c, e, f, h1, h2, h3, h4⟩ := h
    exact ⟨c, e, f, hb.trans h1, h2, h3, fun i x hx => let ⟨v, a, b, d⟩ := h4 i x hx; ⟨v, a, b, hm d⟩⟩
  | map es =>
    obtain ⟨c, clock, h1, h2, h3, h4⟩ := h
    exact ⟨c, clock, hb.trans h1, h2, fun i k x hx => let ⟨m, a, b, d, e⟩ := h3 i k x hx; ⟨m, a, hm b, hm d, e⟩, h4⟩
  | siter s pos =>
    obtain ⟨bs, h1, h2⟩ := h
    exact ⟨bs, hb.trans h1, h2⟩

structure HR (E : Env) (H : Heap) (w : World) : Prop where
  nodup : H.keys.Nodup
  dom : ∀ p ∈ H, E.D p.1
  inj : ∀ p ∈ H, ∀ q ∈ H, E.ρ p.1 = E.ρ q.1 → p.1 = q.1
  obj : ∀ p ∈ H, OR E w (E.ρ p.1) p.2
  nz : ∀ p ∈ H, ¬ E.Z (E.ρ p.1)
  zlt : ∀ b, E.Z b → b < w.heap.size

theorem HR.lt {E : Env} {H : Heap} {w : World} (h : HR E H w) {p : Nat × HO} (hp : p ∈ H) : E.ρ p.1 < w.heap.size := (h.obj p hp).lt

theorem HR.sub {E : Env} {H H' : Heap} {w : World} (h : HR E H w) (hs : H'.Sublist H) : HR E H' w :=
  ⟨h.nodup.sublist (hs.map _), fun p hp => h.dom p (hs.subset hp), fun p hp q hq => h.inj p (hs.subset hp) q (hs.subset hq),
    fun p hp => h.obj p (hs.subset hp), fun p hp => h.nz p (hs.subset hp), h.zlt⟩

/-- A step from one state to another; its new handles lie from a up to b. -/
structure Tr (E : Env) (H : Heap) (w : World) (E' : Env) (H' : Heap) (w' : World) (a b : Nat) : Prop where
  le : a ≤ b
  agree : ∀ h, E.D h → E'.ρ h = E.ρ h
  dom : ∀ h, E'.D h ↔ E.D h ∨ (a ≤ h ∧ h < b)
  zmono : ∀ x, E.Z x → E'.Z x
  znew : ∀ x, E'.Z x → E.Z x ∨ (∃ p ∈ H, E.ρ p.1 = x) ∨ w.heap.size ≤ x
  own : ∀ p ∈ H', (∃ q ∈ H, E.ρ q.1 = E'.ρ p.1) ∨ w.heap.size ≤ E'.ρ p.1
  tape : w'.tape = w.tape
  os : w'.os = w.os
  output : w'.output = w.output
  size : w.heap.size ≤ w'.heap.size
  old : ∀ x, x < w.heap.size → (∀ p ∈ H, E.ρ p.1 ≠ x) → w'.heap[x]? = w.heap[x]?
  shapes : Shapes w w'
  sig : E'.σ = E.σ := by rfl

theorem Tr.refl {E : Env} {H : Heap} {w : World} (a : Nat) : Tr E H w E H w a a :=
  ⟨Nat.le_refl _, fun _ _ => rfl, fun h => ⟨.inl, fun h => h.elim id fun ⟨x, y⟩ => by omega⟩, fun _ h => h, fun _ h => .inl h, fun p hp => .inl ⟨p, hp, rfl⟩, rfl, rfl, rfl, Nat.le_refl _, fun _ _ _ => rfl, .refl w, rfl⟩

theorem Tr.sub {E : Env} {H : Heap} {w : World} {E' : Env} {H' H2 : Heap} {w' : World} {a b : Nat} (h : Tr E H w E' H' w' a b) (hs : H2.Sublist H') : Tr E H w E' H2 w' a b :=
  { h with own := fun p hp => h.own p (hs.subset hp) }

theorem Tr.vr {E : Env} {H : Heap} {w : World} {E' : Env} {H' : Heap} {w' : World} {a b : Nat} (hr : HR E H w) (h : Tr E H w E' H' w' a b) {v : AV} {cv : Value} (hv : VR E w v cv) : VR E' w' v cv :=
  hv.mono (fun x hx => ⟨(h.dom x).2 (.inl hx), h.agree x hx⟩)
    (fun x hx => ⟨h.zmono x hx, h.old x (hr.zlt x hx) fun p hp e => hr.nz p hp (e ▸ hx)⟩) h.shapes h.sig

theorem Tr.trans {E : Env} {H : Heap} {w : World} {E1 : Env} {H1 : Heap} {w1 : World} {E2 : Env} {H2 : Heap} {w2 : World} {a b c : Nat}
    (_ : HR E1 H1 w1) (h : Tr E H w E1 H1 w1 a b) (k : Tr E1 H1 w1 E2 H2 w2 b c) : Tr E H w E2 H2 w2 a c where
  le := Nat.le_trans h.le k.le
  agree x hx := (k.agree x ((h.dom x).2 (.inl hx))).trans (h.agree x hx)
  dom x := by
    rw [k.dom, h.dom]
    have := h.le; have := k.le
    constructor
    · rintro ((h | h) | h)
      · exact .inl h
      · exact .inr ⟨by omega, by omega⟩
      · exact .inr ⟨by omega, by omega⟩
    · rintro (h | h)
      · exact .inl (.inl h)
      · by_cases hx : x < b
        · exact .inl (.inr ⟨by omega, hx⟩)
        · exact .inr ⟨by omega, by omega⟩
  zmono x hx := k.zmono x (h.zmono x hx)
  znew x hx := by
    rcases k.znew x hx with h1 | ⟨p, hp, rfl⟩ | h1
    · exact h.znew x h1
    · exact .inr (h.own p hp)
    · exact .inr (.inr (Nat.le_trans h.size h1))
  own p hp := by
    rcases k.own p hp with ⟨q, hq, e⟩ | h1
    · rw [← e]; exact h.own q hq
    · exact .inr (Nat.le_trans h.size h1)
  tape := k.tape.trans h.tape
  os := k.os.trans h.os
  output := k.output.trans h.output
  size := Nat.le_trans h.size k.size
  old x hx hp := by
    rw [k.old x (Nat.lt_of_lt_of_le hx h.size) fun p hp1 e => by
      rcases h.own p hp1 with ⟨q, hq, e2⟩ | h1
      · exact hp q hq (e2.trans e)
      · omega]
    exact h.old x hx hp
  shapes := h.shapes.trans k.shapes
  sig := k.sig.trans h.sig

/-- What a step does not touch stays. -/
theorem Tr.frame {E : Env} {H R : Heap} {w : World} {E' : Env} {H' : Heap} {w' : World} {a b : Nat}
    (hr : HR E (H ++ R) w) (hr' : HR E' H' w') (h : Tr E H w E' H' w' a b) : HR E' (H' ++ R) w' ∧ Tr E (H ++ R) w E' (H' ++ R) w' a b := by
  have hH : HR E H w := hr.sub (List.sublist_append_left _ _)
  have hnd : (H.map (·.1) ++ R.map (·.1)).Nodup := by have := hr.nodup; simpa [Heap.keys] using this
  have hdis : ∀ p ∈ H, ∀ q ∈ R, E.ρ p.1 ≠ E.ρ q.1 := fun p hp q hq e => by
    have e1 := hr.inj p (List.mem_append_left _ hp) q (List.mem_append_right _ hq) e
    exact (List.nodup_append.1 hnd).2.2 p.1 (List.mem_map_of_mem hp) q.1 (List.mem_map_of_mem hq) e1
  have hRD : ∀ q ∈ R, E.D q.1 := fun q hq => hr.dom q (List.mem_append_right _ hq)
  have hRlt : ∀ q ∈ R, E.ρ q.1 < w.heap.size := fun q hq => hr.lt (List.mem_append_right _ hq)
  have hcross : ∀ p ∈ H', ∀ q ∈ R, E'.ρ p.1 ≠ E.ρ q.1 := fun p hp q hq e => by
    rcases h.own p hp with ⟨p', hp', e'⟩ | hs
    · exact hdis p' hp' q hq (e'.trans e)
    · have := hRlt q hq; omega
  have hρ : ∀ q ∈ R, E'.ρ q.1 = E.ρ q.1 := fun q hq => h.agree _ (hRD q hq)
  refine ⟨⟨?_, ?_, ?_, ?_, ?_, hr'.zlt⟩, { h with znew := ?_, own := ?_, old := ?_ }⟩
  · show ((H' ++ R).map (·.1)).Nodup
    rw [List.map_append, List.nodup_append]
    refine ⟨hr'.nodup, (List.nodup_append.1 hnd).2.1, ?_⟩
    intro x hx y hy e
    obtain ⟨p, hp, rfl⟩ := List.mem_map.1 hx
    obtain ⟨q, hq, rfl⟩ := List.mem_map.1 hy
    exact hcross p hp q hq (by rw [e]; exact hρ q hq)
  · intro p hp
    rcases List.mem_append.1 hp with hp | hp
    · exact hr'.dom p hp
    · exact (h.dom _).2 (.inl (hRD p hp))
  · intro p hp q hq e
    rcases List.mem_append.1 hp with hp | hp <;> rcases List.mem_append.1 hq with hq | hq
    · exact hr'.inj p hp q hq e
    · exact absurd (e.trans (hρ q hq)) (hcross p hp q hq)
    · exact absurd (e.symm.trans (hρ p hp)) (hcross q hq p hp)
    · rw [hρ p hp, hρ q hq] at e
      exact hr.inj p (List.mem_append_right _ hp) q (List.mem_append_right _ hq) e
  · intro p hp
    rcases List.mem_append.1 hp with hp | hp
    · exact hr'.obj p hp
    · rw [hρ p hp]
      exact (hr.obj p (List.mem_append_right _ hp)).mono (h.old _ (hRlt p hp) fun q hq => hdis q hq p hp) (h.vr hH)
  · intro p hp
    rcases List.mem_append.1 hp with hp | hp
    · exact hr'.nz p hp
    · rw [hρ p hp]
      intro hz
      rcases h.znew _ hz with h1 | ⟨q, hq, e⟩ | h1
      · exact hr.nz p (List.mem_append_right _ hp) h1
      · exact hdis q hq p hp e
      · have := hRlt p hp; omega
  · intro x hx
    rcases h.znew x hx with h1 | ⟨q, hq, e⟩ | h1
    · exact .inl h1
    · exact .inr (.inl ⟨q, List.mem_append_left _ hq, e⟩)
    · exact .inr (.inr h1)
  · intro p hp
    rcases List.mem_append.1 hp with hp | hp
    · exact (h.own p hp).imp (fun ⟨q, hq, e⟩ => ⟨q, List.mem_append_left _ hq, e⟩) id
    · exact .inl ⟨p, List.mem_append_right _ hp, (hρ p hp).symm⟩
  · intro x hx hp
    exact h.old x hx fun p hp' => hp p (List.mem_append_left _ hp')

/-- The order in which a heap is listed says nothing. -/
theorem HR.perm {E : Env} {H H' : Heap} {w : World} (h : HR E H w) (hp : H.Perm H') : HR E H' w :=
  ⟨(hp.map _).nodup_iff.1 h.nodup, fun p k => h.dom p (hp.mem_iff.2 k), fun p k q l => h.inj p (hp.mem_iff.2 k) q (hp.mem_iff.2 l),
    fun p k => h.obj p (hp.mem_iff.2 k), fun p k => h.nz p (hp.mem_iff.2 k), h.zlt⟩
theorem Tr.perm {E : Env} {H H2 : Heap} {w : World} {E' : Env} {H' H2' : Heap} {w' : World} {a b : Nat} (h : Tr E H w E' H' w' a b) (hp : H.Perm H2) (hp' : H'.Perm H2') : Tr E H2 w E' H2' w' a b :=
  { h with
    znew := fun x hx => (h.znew x hx).imp id (Or.imp (fun ⟨p, k, e⟩ => ⟨p, hp.mem_iff.1 k, e⟩) id)
    own := fun p k => (h.own p (hp'.mem_iff.2 k)).imp (fun ⟨q, k, e⟩ => ⟨q, hp.mem_iff.1 k, e⟩) id
    old := fun x hx k => h.old x hx fun p kp => k p (hp.mem_iff.1 kp) }
end Go.Sy

/- The primitive turns of a world: a new block, a block that is turned, a draw, a row that nobody writes any more. No condition. -/
namespace Go.Sy

theorem heap_push_old {h : Array Obj} {o : Obj} {b : Nat} (hb : b < h.size) : (h.push o)[b]? = h[b]? := by
  rw [Array.getElem?_push, if_neg (by omega)]
theorem heap_push_new {h : Array Obj} {o : Obj} : (h.push o)[h.size]? = some o := by
  rw [Array.getElem?_push, if_pos rfl]

/-- The environment with one handle more. -/
def Env.add (E : Env) (a b : Nat) : Env := ⟨fun h => if h = a then b else E.ρ h, fun h => E.D h ∨ h = a, E.Z, E.σ⟩

theorem Env.add_ρ_new (E : Env) (a b : Nat) : (E.add a b).ρ a = b := by simp [Env.add]
theorem Env.add_ρ_old {E : Env} {a b h : Nat} (hh : h ≠ a) : (E.add a b).ρ h = E.ρ h := by simp [Env.add, hh]

/-- A world that parts from another in nothing but what it has drawn. -/
def World.Drew (w w' : World) : Prop := w'.heap = w.heap ∧ w'.tape = w.tape ∧ w'.os = w.os ∧ w'.output = w.output
theorem World.Drew.refl (w : World) : World.Drew w w := ⟨rfl, rfl, rfl, rfl⟩
theorem World.Drew.mk (w : World) (n : Nat) : World.Drew w { w with drawn := n } := ⟨rfl, rfl, rfl, rfl⟩

theorem Shapes.of_heap {w w' : World} (h : w'.heap = w.heap) : Shapes w w' := fun b c e f hb => ⟨c, f, by rw [h]; exact hb, rfl⟩

theorem drew_step {E : Env} {H : Heap} {w w' : World} (hr : HR E H w) (hd : World.Drew w w') (a : Nat) : HR E H w' ∧ Tr E H w E H w' a a := by
  obtain ⟨h1, h2, h3, h4⟩ := hd
  have hm : ∀ {v cv}, VR E w v cv → VR E w' v cv := fun h => h.mono (fun _ h => ⟨h, rfl⟩) (fun b h => ⟨h, by rw [h1]⟩) (.of_heap h1)
  refine ⟨⟨hr.nodup, hr.dom, hr.inj, fun p hp => (hr.obj p hp).mono (by rw [h1]) hm, hr.nz, fun b hb => by rw [h1]; exact hr.zlt b hb⟩,
    { Tr.refl (E := E) (H := H) (w := w) a with tape := h2, os := h3, output := h4, size := by rw [h1]; exact Nat.le_refl _, old := fun _ _ _ => by rw [h1], shapes := .of_heap h1 }⟩

/-- A new block. -/
theorem alloc_step {E : Env} {H : Heap} {w : World} (hr : HR E H w) {a : Nat} (ha : ¬ E.D a) {o : Obj} {ho : HO}
    (hob : ∀ w' : World, w'.heap = w.heap.push o → Shapes w w' → (∀ {v cv}, VR E w v cv → VR (E.add a w.heap.size) w' v cv) → OR (E.add a w.heap.size) w' w.heap.size ho) :
    HR (E.add a w.heap.size) ((a, ho) :: H) { w with heap := w.heap.push o } ∧
    Tr E H w (E.add a w.heap.size) ((a, ho) :: H) { w with heap := w.heap.push o } a (a + 1) ∧
    ∀ {v cv}, VR E w v cv → VR (E.add a w.heap.size) { w with heap := w.heap.push o } v cv := by
  have hne : ∀ {h}, E.D h → h ≠ a := fun h e => ha (e ▸ h)
  have hS : Shapes w { w with heap := w.heap.push o } := fun b c e f hb => ⟨c, f, by
    have := (Array.getElem?_eq_some_iff.1 hb).1
    show (w.heap.push o)[b]? = _
    rw [heap_push_old this]; exact hb, rfl⟩
  have hm : ∀ {v cv}, VR E w v cv → VR (E.add a w.heap.size) { w with heap := w.heap.push o } v cv := fun h =>
    h.mono (fun x hx => ⟨Or.inl hx, Env.add_ρ_old (hne hx)⟩) (fun b hb => ⟨hb, heap_push_old (hr.zlt b hb)⟩) hS
  have hρ : ∀ p ∈ H, (E.add a w.heap.size).ρ p.1 = E.ρ p.1 := fun p hp => Env.add_ρ_old (hne (hr.dom p hp))
  refine ⟨⟨?_, ?_, ?_, ?_, ?_, ?_⟩, ⟨by omega, fun h hh => Env.add_ρ_old (hne hh), ?_, fun _ h => h, fun _ h => .inl h, ?_, rfl, rfl, rfl, by simp, fun x hx _ => heap_push_old hx, hS, rfl⟩, hm⟩
  · show (a :: Heap.keys H).Nodup
    refine List.nodup_cons.2 ⟨fun hm => ?_, hr.nodup⟩
    obtain ⟨p, hp, e⟩ := List.mem_map.1 hm
    exact hne (hr.dom p hp) e
  · intro p hp
    cases hp with
    | head => exact .inr rfl
    | tail _ hp => exact .inl (hr.dom p hp)
  · intro p hp q hq e
    cases hp with
    | head =>
      cases hq with
      | head => rfl
      | tail _ hq =>
        rw [hρ q hq, Env.add_ρ_new] at e
        have := hr.lt hq
        omega
    | tail _ hp =>
      cases hq with
      | head =>
        rw [hρ p hp, Env.add_ρ_new] at e
        have := hr.lt hp
        omega
      | tail _ hq =>
        rw [hρ p hp, hρ q hq] at e
        exact hr.inj p hp q hq e
  · intro p hp
    cases hp with
    | head => rw [Env.add_ρ_new]; exact hob _ rfl hS hm
    | tail _ hp =>
      rw [hρ p hp]
      exact (hr.obj p hp).mono (heap_push_old (hr.lt hp)) hm
  · intro p hp
    cases hp with
    | head =>
      rw [Env.add_ρ_new]
      intro hz
      have := hr.zlt _ hz
      omega
    | tail _ hp => rw [hρ p hp]; exact hr.nz p hp
  · intro b hb
    have := hr.zlt b hb
    simp; omega
  · intro h
    show E.D h ∨ h = a ↔ _
    constructor
    · rintro (h | h)
      · exact .inl h
      · exact .inr (by omega)
    · rintro (h | h)
      · exact .inl h
      · exact .inr (by omega)
  · intro p hp
    cases hp with
    | head => rw [Env.add_ρ_new]; exact .inr (Nat.le_refl _)
    | tail _ hp => exact .inl ⟨p, hp, (hρ p hp).symm⟩

/-- A block of one object is turned. -/
theorem modify_step {E : Env} {H : Heap} {w w' : World} (hr : HR E H w) {h : Nat} {o o' : HO} (hg : H.get h = some o)
    (h1 : w'.tape = w.tape) (h2 : w'.os = w.os) (h3 : w'.output = w.output) (h4 : w'.heap.size = w.heap.size) (h5 : ∀ b, b ≠ E.ρ h → w'.heap[b]? = w.heap[b]?)
    (hS : Shapes w w') (hob : (∀ {v cv}, VR E w v cv → VR E w' v cv) → OR E w' (E.ρ h) o') (a : Nat) :
    HR E (H.put h o') w' ∧ Tr E H w E (H.put h o') w' a a ∧ ∀ {v cv}, VR E w v cv → VR E w' v cv := by
  have hmem := Heap.mem_of_get hg
  have hzne : ∀ b, E.Z b → b ≠ E.ρ h := fun b hb e => hr.nz _ hmem (e ▸ hb)
  have hm : ∀ {v cv}, VR E w v cv → VR E w' v cv := fun hv => hv.mono (fun _ hx => ⟨hx, rfl⟩) (fun b hb => ⟨hb, h5 b (hzne b hb)⟩) hS
  have hback : ∀ p ∈ H.put h o', ∃ q ∈ H, q.1 = p.1 := fun p hp => by
    rcases Heap.mem_put hr.nodup hp with rfl | ⟨hp, _⟩
    · exact ⟨_, hmem, rfl⟩
    · exact ⟨p, hp, rfl⟩
  refine ⟨⟨by rw [Heap.keys_put]; exact hr.nodup, ?_, ?_, ?_, ?_, fun b hb => by rw [h4]; exact hr.zlt b hb⟩, ⟨Nat.le_refl _, fun _ _ => rfl, ?_, fun _ h => h, fun _ h => .inl h, ?_, h1, h2, h3, by omega, ?_, hS, rfl⟩, hm⟩
  · intro p hp
    obtain ⟨q, hq, e⟩ := hback p hp
    rw [← e]; exact hr.dom q hq
  · intro p hp q hq e
    obtain ⟨p', hp', e1⟩ := hback p hp
    obtain ⟨q', hq', e2⟩ := hback q hq
    rw [← e1, ← e2] at e
    rw [← e1, ← e2]
    exact hr.inj p' hp' q' hq' e
  · intro p hp
    rcases Heap.mem_put hr.nodup hp with rfl | ⟨hp, hne⟩
    · exact hob hm
    · exact (hr.obj p hp).mono (h5 _ fun e => hne (hr.inj p hp _ hmem e)) hm
  · intro p hp
    obtain ⟨q, hq, e⟩ := hback p hp
    rw [← e]; exact hr.nz q hq
  · exact fun h => ⟨.inl, fun h => h.elim id fun ⟨x, y⟩ => by omega⟩
  · intro p hp
    obtain ⟨q, hq, e⟩ := hback p hp
    exact .inl ⟨q, hq, by rw [e]⟩
  · intro x _ hx
    exact h5 x fun e => hx _ hmem e.symm

/-- An object gets another name. -/
theorem rename_step {E : Env} {H : Heap} {w : World} (hr : HR E H w) {h a : Nat} {o : HO} (hg : H.get h = some o) (ha : ¬ E.D a) :
    HR (E.add a (E.ρ h)) ((a, o) :: H.del h) w ∧ Tr E H w (E.add a (E.ρ h)) ((a, o) :: H.del h) w a (a + 1) ∧ ∀ {v cv}, VR E w v cv → VR (E.add a (E.ρ h)) w v cv := by
  have hmem := Heap.mem_of_get hg
  have hne : ∀ {h}, E.D h → h ≠ a := fun h e => ha (e ▸ h)
  have hm : ∀ {v cv}, VR E w v cv → VR (E.add a (E.ρ h)) w v cv := fun hv =>
    hv.mono (fun x hx => ⟨Or.inl hx, Env.add_ρ_old (hne hx)⟩) (fun b hb => ⟨hb, rfl⟩) (.refl w)
  have hρ : ∀ p ∈ H.del h, (E.add a (E.ρ h)).ρ p.1 = E.ρ p.1 ∧ p ∈ H ∧ p.1 ≠ h := fun p hp =>
    let ⟨k, n⟩ := Heap.mem_del hr.nodup hp
    ⟨Env.add_ρ_old (hne (hr.dom p k)), k, n⟩
  refine ⟨⟨?_, ?_, ?_, ?_, ?_, hr.zlt⟩, ⟨by omega, fun h hh => Env.add_ρ_old (hne hh), ?_, fun _ h => h, fun _ h => .inl h, ?_, rfl, rfl, rfl, Nat.le_refl _, fun _ _ _ => rfl, .refl w, rfl⟩, hm⟩
  · show (a :: Heap.keys (H.del h)).Nodup
    refine List.nodup_cons.2 ⟨fun hm => ?_, hr.nodup.sublist ((Heap.sub_del H h).map _)⟩
    obtain ⟨p, hp, e⟩ := List.mem_map.1 hm
    exact hne (hr.dom p (hρ p hp).2.1) e
  · intro p hp
    cases hp with
    | head => exact .inr rfl
    | tail _ hp => exact .inl (hr.dom p (hρ p hp).2.1)
  · intro p hp q hq e
    cases hp with
    | head =>
      cases hq with
      | head => rfl
      | tail _ hq =>
        obtain ⟨e1, k, n⟩ := hρ q hq
        rw [e1, Env.add_ρ_new] at e
        exact absurd (hr.inj _ hmem q k e).symm n
    | tail _ hp =>
      obtain ⟨e0, k0, n0⟩ := hρ p hp
      cases hq with
      | head =>
        rw [e0, Env.add_ρ_new] at e
        exact absurd (hr.inj p k0 _ hmem e) n0
      | tail _ hq =>
        obtain ⟨e1, k, n⟩ := hρ q hq
        rw [e0, e1] at e
        exact hr.inj p k0 q k e
  · intro p hp
    cases hp with
    | head => rw [Env.add_ρ_new]; exact (hr.obj _ hmem).mono rfl hm
    | tail _ hp =>
      obtain ⟨e0, k0, n0⟩ := hρ p hp
      rw [e0]
      exact (hr.obj p k0).mono rfl hm
  · intro p hp
    cases hp with
    | head => rw [Env.add_ρ_new]; exact hr.nz _ hmem
    | tail _ hp =>
      obtain ⟨e0, k0, n0⟩ := hρ p hp
      rw [e0]; exact hr.nz p k0
  · intro h
    show E.D h ∨ h = a ↔ _
    constructor
    · rintro (h | h)
      · exact .inl h
      · exact .inr (by omega)
    · rintro (h | h)
      · exact .inl h
      · exact .inr (by omega)
  · intro p hp
    cases hp with
    | head => rw [Env.add_ρ_new]; exact .inl ⟨_, hmem, rfl⟩
    | tail _ hp => exact .inl ⟨p, (hρ p hp).2.1, (hρ p hp).1.symm⟩

/-- Nobody writes an object any more. -/
def Env.shut (E : Env) (b : Nat) : Env := ⟨E.ρ, E.D, fun x => E.Z x ∨ x = b, E.σ⟩
theorem shut_step {E : Env} {H : Heap} {w : World} (hr : HR E H w) {h : Nat} {o : HO} (hg : H.get h = some o) (a : Nat) :
    HR (E.shut (E.ρ h)) (H.del h) w ∧ Tr E H w (E.shut (E.ρ h)) (H.del h) w a a ∧ ∀ {v cv}, VR E w v cv → VR (E.shut (E.ρ h)) w v cv := by
  have hmem := Heap.mem_of_get hg
  have hm : ∀ {v cv}, VR E w v cv → VR (E.shut (E.ρ h)) w v cv := fun hv => VR.mono (E := E) (E' := E.shut (E.ρ h)) (fun x hx => ⟨hx, rfl⟩) (fun b hb => ⟨Or.inl hb, rfl⟩) (.refl w) hv
  have hs := hr.sub (Heap.sub_del H h)
  refine ⟨⟨hs.nodup, hs.dom, hs.inj, fun p hp => (hs.obj p hp).mono rfl hm, ?_, ?_⟩, ⟨Nat.le_refl _, fun _ _ => rfl, ?_, fun _ h => .inl h, ?_, ?_, rfl, rfl, rfl, Nat.le_refl _, fun _ _ _ => rfl, .refl w, rfl⟩, hm⟩
  · intro p hp hz
    rcases hz with hz | hz
    · exact hs.nz p hp hz
    · obtain ⟨k, n⟩ := Heap.mem_del hr.nodup hp
      exact n (hr.inj p k _ hmem hz)
  · rintro b (hb | rfl)
    · exact hr.zlt b hb
    · exact hr.lt hmem
  · exact fun h => ⟨.inl, fun h => h.elim id fun ⟨x, y⟩ => by omega⟩
  · rintro x (hx | rfl)
    · exact .inl hx
    · exact .inr (.inl ⟨_, hmem, rfl⟩)
  · intro p hp
    exact .inl ⟨p, (Heap.mem_del hr.nodup hp).1, rfl⟩
end Go.Sy

/- The resolved code, and the machine that runs it over abstract values. No condition. -/
namespace Go.Sy

inductive XV where
  | t (n : Nat)
  | c (v : AV)
  | g (n : Nat)

/-- Kinds of plain cells: bools, numbers, strings. -/
inductive Kd where
  | b
  | i
  | s

/-- Operations, resolved: sizes, offsets and zero values stand in them. -/
inductive XO where
  | bad
  | mov (x : XV)
  | pick (c a b : XV)
  | bin (op : BinOp) (x y : XV)
  | beq (neg : Bool) (x y : XV)
  | peq (neg : Bool) (x y : XV)
  | aeq (neg : Bool) (ks : List Kd) (x y : XV)
  | ieq (neg lit : Bool) (kt : Nat → Option Kd) (x y : XV)
  | seq (neg : Bool) (x y : XV)
  | meq (neg : Bool) (x y : XV)
  | feq (neg : Bool) (x y : XV)
  | un (op : UnOp) (x : XV)
  | conv (k : IntKind) (x : XV)
  | s2b (x : XV)
  | b2s (x : XV)
  | s2s (x : XV)
  | mark (x : XV)
  | idxb (x c : XV)
  | cntb (x c : XV)
  | fld (x : XV) (off sz : Nat) (ag : Bool)
  | ext (x : XV) (i : Nat)
  | idxS (x i : XV)
  | idxA (x i : XV) (len sz : Nat) (ag : Bool)
  | box (x : XV) (sz : Nat)
  | alloc (z : List AV)
  | build (z : List AV) (ps : List (Nat × Nat × XV))
  | bslice (len sz : Nat) (z : List AV) (ps : List (Nat × Nat × XV))
  | load (x : XV) (sz : Nat) (ag : Bool)
  | store (a x : XV) (sz : Nat)
  | nilchk (x : XV)
  | faddr (x : XV) (off : Nat)
  | iaddrS (x i : XV) (sz : Nat)
  | iaddrA (x i : XV) (len sz : Nat)
  | slcS (x : XV) (lo hi : Option XV)
  | slcL (x : XV) (lo hi mx : Option XV) (sz : Nat)
  | slcA (x : XV) (lo hi : Option XV) (len sz : Nat)
  | lenS (x : XV)
  | lenL (x : XV)
  | lenM (x : XV)
  | lenK (n : Nat)
  | cap (x : XV)
  | append (x y : XV) (sz bytes : Nat)
  | copy (x y : XV) (sz : Nat)
  | clrL (x : XV) (sz : Nat) (z : List AV)
  | clrM (x : XV)
  | min (x y : XV)
  | max (x y : XV)
  | mkslice (l c : XV) (sz bytes : Nat) (z : List AV)
  | mkmap
  | lookup (ag : Bool) (ks : List Kd) (m k : XV) (z : AV) (ok : Bool)
  | mupd (ag : Bool) (ks : List Kd) (m k v : XV)
  | del (ag : Bool) (ks : List Kd) (m k : XV)
  | mkfunc (fn : Fn) (first caps : List XV)
  | mkif (t : Nat) (x : XV)
  | tas (x : XV) (t : Nat) (ok : Bool) (z : AV)
  | rngS (x : XV)
  | nextS (x : XV)
  | call (f : Nat) (args : List XV)
  | callv (f : XV) (args : List XV)
  | invoke (r : XV) (m : String) (args : List XV)

structure XOper where
  dst : Option Nat
  op : XO
  guard : Option (Nat × Bool)

/-- In a region that draws its order: the operations that always come ahead, and the temporaries looked at. -/
structure XD where
  preds : Nat
  looks : List Nat

inductive XC where
  | skip
  | reg (ops : List XOper)
  | draw (ops : List XOper) (ds : List XD)
  | seq (a b : XC)
  | cond (c : XV) (a b : XC)
  | block (id : Nat) (b : XC)
  | loop (b : XC)
  | exit (id : Nat)
  | ret
  | mrange (m : XV) (it : Nat) (D : List Nat) (en W id1 : Nat) (rest : List XOper) (body : XC)

inductive XR where
  | t (n : Nat)
  | cell (n sz : Nat) (ag : Bool)

structure XF where
  np : Nat
  nt : Nat
  body : XC
  res : List XR

/-- What becomes of the objects that a call has made, when it returns: they stay; or slices in its result are shut, and all other new objects are forgotten. -/
inductive Pol where
  | keep
  | shut
  | drop

abbrev Fr := List (Nat × AV)
def Fr.get : Fr → Nat → Option AV
  | [], _ => none
  | (k, v) :: r, n => match Nat.beq k n with
    | true => some v
    | false => Fr.get r n
def Fr.put : Fr → Nat → AV → Fr
  | [], n, v => [(n, v)]
  | (k, u) :: r, n, v => match Nat.beq k n with
    | true => (n, v) :: r
    | false => (k, u) :: Fr.put r n v

abbrev Out := AV × Heap × Nat

structure Cx where
  glob : Nat → Option AV
  meth : Nat → String → Option Nat

def XV.ev (G : Cx) (fr : Fr) : XV → Option AV
  | .t n => fr.get n
  | .c v => some v
  | .g n => G.glob n

def evs (G : Cx) (fr : Fr) : List XV → Option (List AV)
  | [] => some []
  | x :: r => match x.ev G fr with
    | some v => match evs G fr r with
      | some vs => some (v :: vs)
      | none => none
    | none => none
def evo (G : Cx) (fr : Fr) : Option XV → Option (Option AV)
  | none => some none
  | some x => match x.ev G fr with
    | some v => some (some v)
    | none => none

def kbits : IntKind → Nat
  | .i8 | .u8 => 8
  | .i16 | .u16 => 16
  | .i32 | .u32 => 32
  | .i64 | .u64 => 64
def ksame : IntKind → IntKind → Bool
  | .i8, .i8 => true | .i16, .i16 => true | .i32, .i32 => true | .i64, .i64 => true
  | .u8, .u8 => true | .u16, .u16 => true | .u32, .u32 => true | .u64, .u64 => true
  | _, _ => false

/-- wrap, at once where nothing is to be done. -/
def wrapx (k : IntKind) : Int → Int
  | .ofNat m => match k with
    | .i64 => cond (Nat.ble m 9223372036854775807) (.ofNat m) (IntKind.i64.wrap (.ofNat m))
    | .u64 => cond (Nat.ble m 18446744073709551615) (.ofNat m) (IntKind.u64.wrap (.ofNat m))
    | .u8 => cond (Nat.ble m 255) (.ofNat m) (IntKind.u8.wrap (.ofNat m))
    | .u32 => cond (Nat.ble m 4294967295) (.ofNat m) (IntKind.u32.wrap (.ofNat m))
    | .i32 => cond (Nat.ble m 2147483647) (.ofNat m) (IntKind.i32.wrap (.ofNat m))
    | .i8 => IntKind.i8.wrap (.ofNat m)
    | .i16 => IntKind.i16.wrap (.ofNat m)
    | .u16 => IntKind.u16.wrap (.ofNat m)
  | .negSucc m => match k with
    | .i64 => cond (Nat.ble m 9223372036854775807) (.negSucc m) (IntKind.i64.wrap (.negSucc m))
    | k => k.wrap (.negSucc m)

/-- The order of strings. -/
def slt : List Nat → List Nat → Bool
  | _, [] => false
  | [], _ :: _ => true
  | a :: x, b :: y => match Nat.blt a b with
    | true => true
    | false => match Nat.beq a b with
      | true => slt x y
      | false => false
def seqb : List Nat → List Nat → Bool
  | [], [] => true
  | a :: x, b :: y => match Nat.beq a b with
    | true => seqb x y
    | false => false
  | _, _ => false

def xcmp (op : BinOp) (a b : Int) : Option AV :=
  match op with
  | .eql => some (.bool (a == b))
  | .neq => some (.bool (a != b))
  | .lss => some (.bool (decide (a < b)))
  | .leq => some (.bool (decide (a ≤ b)))
  | .gtr => some (.bool (decide (a > b)))
  | .geq => some (.bool (decide (a ≥ b)))
  | _ => none

def xbits (op : BinOp) (k : IntKind) (x y : Int) : Option AV :=
  match op with
  | .and => some (.int k (k.wrap (BitVec.ofInt k.bits x &&& BitVec.ofInt k.bits y).toNat))
  | .or => some (.int k (k.wrap (BitVec.ofInt k.bits x ||| BitVec.ofInt k.bits y).toNat))
  | .xor => some (.int k (k.wrap (BitVec.ofInt k.bits x ^^^ BitVec.ofInt k.bits y).toNat))
  | .andNot => some (.int k (k.wrap (BitVec.ofInt k.bits x &&& ~~~(BitVec.ofInt k.bits y)).toNat))
  | _ => none

def xbin (op : BinOp) : AV → AV → Option AV
  | .int k a, .int k' b =>
    match op with
    | .shl => match decide (b < 0) with
      | true => none
      | false => some (.int k (wrapx k (a * 2 ^ (Min.min b.toNat k.bits))))
    | .shr => match decide (b < 0) with
      | true => none
      | false => some (.int k (a.fdiv (2 ^ (Min.min b.toNat k.bits))))
    | op => match ksame k k' with
      | false => none
      | true => match op with
        | .add => some (.int k (wrapx k (a + b)))
        | .sub => some (.int k (wrapx k (a - b)))
        | .mul => some (.int k (wrapx k (a * b)))
        | .quo => match b == 0 with
          | true => none
          | false => some (.int k (wrapx k (a.tdiv b)))
        | .rem => match b == 0 with
          | true => none
          | false => some (.int k (a.tmod b))
        | .and | .or | .xor | .andNot => xbits op k a b
        | op => xcmp op a b
  | .str a, .str b =>
    match op with
    | .add => match Nat.ble (a.length + b.length) maxStr with
      | true => some (.str (a ++ b))
      | false => none
    | .eql => some (.bool (seqb a b))
    | .neq => some (.bool (!seqb a b))
    | .lss => some (.bool (slt a b))
    | .leq => some (.bool (slt a b || seqb a b))
    | .gtr => some (.bool (!(slt a b || seqb a b)))
    | .geq => some (.bool (!slt a b))
    | _ => none
  | _, _ => none

def bneg (neg b : Bool) : AV := .bool (match neg with | true => !b | false => b)

def isCells : Option HO → Bool
  | some (.cells false _) => true
  | _ => false

def xpeq (H : Heap) : AV → AV → Option Bool
  | .nilptr, .nilptr => some true
  | .nilptr, .ptr _ _ => some false
  | .ptr _ _, .nilptr => some false
  | .nilptr, .eptr _ _ => some false
  | .eptr _ _, .nilptr => some false
  | .ptr h o, .ptr h' o' => match isCells (H.get h) with
    | true => match isCells (H.get h') with
      | true => some (Nat.beq h h' && Nat.beq o o')
      | false => none
    | false => none
  | _, _ => none

/-- Plain values: numbers, strings, bools. -/
def eqb : Kd → AV → AV → Option Bool
  | .b, .bool a, .bool b => some (a == b)
  | .i, .int k a, .int k' b => match ksame k k' with
    | true => some (a == b)
    | false => none
  | .s, .str a, .str b => some (seqb a b)
  | _, _, _ => none
def eqbs : List Kd → List AV → List AV → Option Bool
  | [], [], [] => some true
  | k :: ks, a :: x, b :: y => match eqb k a b with
    | some true => eqbs ks x y
    | some false => some false
    | none => none
  | _, _, _ => none
def eqs (ks : List Kd) (a b : List AV) : Option Bool :=
  match Nat.beq a.length ks.length, Nat.beq b.length ks.length with
  | true, true => eqbs ks a b
  | _, _ => none
/-- Keys of a map: plain values and structs of them. -/
def eqk (ag : Bool) (ks : List Kd) : AV → AV → Option Bool
  | .agg a, .agg b => match ag with
    | true => eqs ks a b
    | false => none
  | a, b => match ag with
    | true => none
    | false => match ks with
      | [k] => eqb k a b
      | _ => none

def xieq (lit : Bool) (kt : Nat → Option Kd) : AV → AV → Option Bool
  | .niliface, .niliface => match lit with | true => some true | false => none
  | .niliface, .iface _ _ => some false
  | .iface _ _, .niliface => some false
  | .iface t a, .iface u b => match Nat.beq t u with
    | false => some false
    | true => match kt t with
      | some k => eqb k a b
      | none => none
  | _, _ => none
def xseq : AV → AV → Option Bool
  | .nilslice, .nilslice => some true
  | .nilslice, .row _ _ _ _ _ _ => some false
  | .row _ _ _ _ _ _, .nilslice => some false
  | .nilslice, .lst _ (_ :: _) => some false
  | .lst _ (_ :: _), .nilslice => some false
  | _, _ => none
def xmeq : AV → AV → Option Bool
  | .nilmap, .nilmap => some true
  | .nilmap, .map _ => some false
  | .map _, .nilmap => some false
  | _, _ => none
def xfeq : AV → AV → Option Bool
  | .nilfunc, .nilfunc => some true
  | .nilfunc, .func _ _ _ => some false
  | .func _ _ _, .nilfunc => some false
  | _, _ => none

def xun (op : UnOp) : AV → Option AV
  | .int k n => match op with
    | .neg => some (.int k (wrapx k (0 - n)))
    | .xor => xbits .xor k n (if k.signed then -1 else k.max)
    | _ => none
  | .bool b => match op with
    | .not => some (.bool !b)
    | _ => none
  | _ => none

/-- A part of cells: a struct's, or the one. -/
def part (cs : List AV) (off sz : Nat) (ag : Bool) : Option AV :=
  match ag with
  | true => match Nat.ble (off + sz) cs.length with
    | true => some (.agg ((cs.drop off).take sz))
    | false => none
  | false => cs[off]?

/-- Cells written into cells. -/
def splice (cs : List AV) (off : Nat) (new : List AV) : List AV := cs.take off ++ new ++ cs.drop (off + new.length)

def cellsOf (v : AV) (sz : Nat) : Option (List AV) :=
  match v.flat with
  | true => match Nat.beq v.cells.length sz with
    | true => some v.cells
    | false => none
  | false => none

def fillx (G : Cx) (fr : Fr) (cs : List AV) : List (Nat × Nat × XV) → Option (List AV)
  | [] => some cs
  | (off, sz, x) :: r => match x.ev G fr with
    | some v => match cellsOf v sz with
      | some new => match Nat.ble (off + sz) cs.length with
        | true => fillx G fr (splice cs off new) r
        | false => none
      | none => none
    | none => none

def asIdx : AV → Option Int
  | .int _ n => some n
  | _ => none

/-- The cells of elements. -/
def flatten (sz : Nat) : List AV → Option (List AV)
  | [] => some []
  | e :: r => match cellsOf e sz with
    | some c => match flatten sz r with
      | some cs => some (c ++ cs)
      | none => none
    | none => none

/-- What a slice (or a string) holds: how many elements, their cells. -/
def content (H : Heap) (sz : Nat) : AV → Option (Nat × List AV)
  | .nilslice => some (0, [])
  | .lst sz' es => match Nat.beq sz sz' with
    | true => match flatten sz es with
      | some cs => some (es.length, cs)
      | none => none
    | false => none
  | .row h off len sz' _ _ => match Nat.beq sz sz' with
    | true => match H.get h with
      | some (.cells _ cs) => match Nat.ble (off + len * sz) cs.length with
        | true => some (len, (cs.drop off).take (len * sz))
        | false => none
      | _ => none
    | false => none
  | .str s => match Nat.beq sz 1 with
    | true => some (s.length, s.map fun b => .int .u8 (.ofNat b))
    | false => none
  | _ => none

def roomBits : Nat := 70368744177664

def xappend (H : Heap) (nx : Nat) (s y : AV) (sz bytes : Nat) : Option Out :=
  match content H sz y with
  | none => none
  | some (n, ys) =>
    match s with
    | .nilslice => match n with
      | 0 => some (.nilslice, H, nx)
      | n + 1 => match Nat.ble ((n + 1) * bytes) roomBits with
        | true => some (.row nx 0 (n + 1) sz (n + 1) false, (nx, .cells false ys) :: H, nx + 1)
        | false => none
    | .row h off len sz' cp ex => match Nat.beq sz sz' with
      | false => none
      | true => match H.get h with
        | some (.cells str cs) => match Nat.ble (off + len * sz) cs.length with
          | false => none
          | true => match Nat.ble ((len + n) * bytes) roomBits && Nat.ble (len + n) roomBits with
            | false => none
            | true => match Nat.ble (len + n) cp with
              | true => some (.row h off (len + n) sz cp ex, H.put h (.cells str (splice cs (off + len * sz) ys)), nx)
              | false => match ex with
                | true => some (.row nx 0 (len + n) sz (len + n) false, (nx, .cells false ((cs.drop off).take (len * sz) ++ ys)) :: H, nx + 1)
                | false => match n with
                  | 0 => some (s, H, nx)
                  | _ => match off with
                    | 0 => some (.row nx 0 (len + n) sz (len + n) false, (nx, .cells str (cs.take (len * sz) ++ ys)) :: H.del h, nx + 1)
                    | _ => none
        | _ => none
    | .lst z es => match n with
      | 0 => some (.lst z es, H, nx)
      | _ => none
    | _ => none

/-- A key as the cells of a plain type. -/
def keyOk (ag : Bool) (ks : List Kd) : AV → Bool
  | .agg a => ag && Nat.beq a.length ks.length
  | .bool _ | .int _ _ | .str _ => !ag && Nat.beq ks.length 1
  | _ => false

def mfind (ag : Bool) (ks : List Kd) (k : AV) : List (AV × AV) → Option (Option AV)
  | [] => some none
  | (j, v) :: r => match eqk ag ks k j with
    | some true => some (some v)
    | some false => mfind ag ks k r
    | none => none
def mput (ag : Bool) (ks : List Kd) (k v : AV) : List (AV × AV) → Option (List (AV × AV))
  | [] => some [(k, v)]
  | (j, u) :: r => match eqk ag ks k j with
    | some true => some ((k, v) :: r)
    | some false => match mput ag ks k v r with
      | some r' => some ((j, u) :: r')
      | none => none
    | none => none
def mdel (ag : Bool) (ks : List Kd) (k : AV) : List (AV × AV) → Option (List (AV × AV))
  | [] => some []
  | (j, u) :: r => match eqk ag ks k j with
    | some true => some r
    | some false => match mdel ag ks k r with
      | some r' => some ((j, u) :: r')
      | none => none
    | none => none

def bnd (v : Option AV) (dflt top : Nat) : Option Nat :=
  match v with
  | none => some dflt
  | some (.int _ (.ofNat n)) => match Nat.ble n top with
    | true => some n
    | false => none
  | _ => none

def xslice (sz : Nat) (lo hi mx : Option AV) : AV → Option AV
  | .nilslice => match bnd mx 0 0 with
    | some m => match bnd hi 0 m with
      | some h => match bnd lo 0 h with
        | some _ => some .nilslice
        | none => none
      | none => none
    | none => none
  | .lst sz' es => match Nat.beq sz sz' with
    | false => none
    | true => match mx with
      | some _ => none
      | none => match bnd hi es.length es.length with
        | some h => match bnd lo 0 h with
          | some l => some (.lst sz ((es.take h).drop l))
          | none => none
        | none => none
  | .row h off len sz' cp ex => match Nat.beq sz sz' with
    | false => none
    | true => match mx with
      | some m => match bnd (some m) 0 cp with
        | some m => match bnd hi len m with
          | some t => match bnd lo 0 t with
            | some l => some (.row h (off + l * sz) (t - l) sz (m - l) true)
            | none => none
          | none => none
        | none => none
      | none => match bnd hi len (Nat.max len cp) with
        | some t => match bnd lo 0 t with
          | some l => some (.row h (off + l * sz) (t - l) sz (Nat.max len cp - l) ex)
          | none => none
        | none => none
  | _ => none

def xload (H : Heap) (sz : Nat) (ag : Bool) : AV → Option AV
  | .ptr h off => match H.get h with
    | some (.cells _ cs) => part cs off sz ag
    | _ => none
  | .eptr e off => part e.cells off sz ag
  | _ => none

def idx (es : List AV) : AV → Option AV
  | .int _ (.ofNat n) => es[n]?
  | _ => none
def idxLt (n : Nat) : AV → Option Nat
  | .int _ (.ofNat i) => match Nat.blt i n with
    | true => some i
    | false => none
  | _ => none

def xcopy (H : Heap) (nx : Nat) (d y : AV) (sz : Nat) : Option Out :=
  match content H sz y with
  | none => none
  | some (n, ys) => match d with
    | .nilslice => some (.int .i64 0, H, nx)
    | .row h off len sz' _ _ => match Nat.beq sz sz' with
      | false => none
      | true => match H.get h with
        | some (.cells str cs) => match Nat.ble (off + len * sz) cs.length with
          | true => some (.int .i64 (.ofNat (Nat.min n len)), H.put h (.cells str (splice cs off (ys.take (Nat.min n len * sz)))), nx)
          | false => none
        | _ => none
    | _ => none

def rep (n : Nat) (z : List AV) : List AV := match n with
  | 0 => []
  | n + 1 => z ++ rep n z

def toBytes : List AV → Option (List Nat)
  | [] => some []
  | .int .u8 (.ofNat b) :: r => match toBytes r with
    | some s => some (b :: s)
    | none => none
  | _ => none

/-- One letter of a string, as a range over it takes it: ASCII alone. -/
def rune (s : List Nat) (pos : Nat) : Option Nat :=
  match s[pos]? with
  | some b => match Nat.blt b 128 with
    | true => some b
    | false => none
  | none => none

abbrev Call := Nat → List AV → Heap → Nat → Option Out

def applyf (call : Call) (H : Heap) (nx : Nat) (args : List AV) : AV → Option Out
  | .func (.func f) first caps => call f (first ++ args ++ caps) H nx
  | _ => none

/-- Where a byte lies first; how often it lies there. -/
def bidx (b : Nat) : Nat → List Nat → Int
  | _, [] => -1
  | i, a :: r => match Nat.beq a b with
    | true => .ofNat i
    | false => bidx b (i + 1) r
def bcnt (b : Nat) : List Nat → Nat
  | [] => 0
  | a :: r => match Nat.beq a b with
    | true => bcnt b r + 1
    | false => bcnt b r

/-- What an operation does, in one text: for the proofs. -/
def xoS (G : Cx) (call : Call) (fr : Fr) (H : Heap) (nx : Nat) : XO → Option Out
  | .bad => none
  | .mov x => match x.ev G fr with
    | some v => some (v, H, nx)
    | none => none
  | .pick c a b => match c.ev G fr with
    | some (.bool true) => match a.ev G fr with
      | some v => some (v, H, nx)
      | none => none
    | some (.bool false) => match b.ev G fr with
      | some v => some (v, H, nx)
      | none => none
    | _ => none
  | .bin op x y => match x.ev G fr, y.ev G fr with
    | some a, some b => match xbin op a b with
      | some v => some (v, H, nx)
      | none => none
    | _, _ => none
  | .beq neg x y => match x.ev G fr, y.ev G fr with
    | some (.bool a), some (.bool b) => some (bneg neg (a == b), H, nx)
    | _, _ => none
  | .peq neg x y => match x.ev G fr, y.ev G fr with
    | some a, some b => match xpeq H a b with
      | some v => some (bneg neg v, H, nx)
      | none => none
    | _, _ => none
  | .aeq neg ks x y => match x.ev G fr, y.ev G fr with
    | some (.agg a), some (.agg b) => match eqs ks a b with
      | some v => some (bneg neg v, H, nx)
      | none => none
    | _, _ => none
  | .ieq neg lit kt x y => match x.ev G fr, y.ev G fr with
    | some a, some b => match xieq lit kt a b with
      | some v => some (bneg neg v, H, nx)
      | none => none
    | _, _ => none
  | .seq neg x y => match x.ev G fr, y.ev G fr with
    | some a, some b => match xseq a b with
      | some v => some (bneg neg v, H, nx)
      | none => none
    | _, _ => none
  | .meq neg x y => match x.ev G fr, y.ev G fr with
    | some a, some b => match xmeq a b with
      | some v => some (bneg neg v, H, nx)
      | none => none
    | _, _ => none
  | .feq neg x y => match x.ev G fr, y.ev G fr with
    | some a, some b => match xfeq a b with
      | some v => some (bneg neg v, H, nx)
      | none => none
    | _, _ => none
  | .un op x => match x.ev G fr with
    | some a => match xun op a with
      | some v => some (v, H, nx)
      | none => none
    | none => none
  | .conv k x => match x.ev G fr with
    | some (.int _ n) => some (.int k (wrapx k n), H, nx)
    | _ => none
  | .s2b x => match x.ev G fr with
    | some (.str s) => some (.row nx 0 s.length 1 s.length false, (nx, .cells true (s.map fun b => .int .u8 (.ofNat b))) :: H, nx + 1)
    | _ => none
  | .b2s x => match x.ev G fr with
    | some (.str _) => none
    | some v => match content H 1 v with
      | some (_, cs) => match toBytes cs with
        | some s => some (.str s, H, nx)
        | none => none
      | none => none
    | none => none
  | .s2s x => match x.ev G fr with
    | some (.str s) => some (.str s, H, nx)
    | _ => none
  | .mark x => match x.ev G fr with
    | some (.row h off len sz cp ex) => match Nat.blt 0 len with
      | true => match H.get h with
        | some (.cells _ cs) => some (.row h off len sz cp ex, H.put h (.cells true cs), nx)
        | _ => none
      | false => none
    | _ => none
  | .idxb x c => match x.ev G fr, c.ev G fr with
    | some (.str s), some (.int .u8 (.ofNat b)) => some (.int .i64 (bidx b 0 s), H, nx)
    | _, _ => none
  | .cntb x c => match x.ev G fr, c.ev G fr with
    | some (.str s), some (.int .u8 (.ofNat b)) => some (.int .i64 (.ofNat (bcnt b s)), H, nx)
    | _, _ => none
  | .fld x off sz ag => match x.ev G fr with
    | some (.agg cs) => match part cs off sz ag with
      | some v => some (v, H, nx)
      | none => none
    | _ => none
  | .ext x i => match x.ev G fr with
    | some (.tup vs) => match vs[i]? with
      | some v => some (v, H, nx)
      | none => none
    | _ => none
  | .idxS x i => match x.ev G fr, i.ev G fr with
    | some (.str s), some (.int _ (.ofNat n)) => match s[n]? with
      | some b => some (.int .u8 (.ofNat b), H, nx)
      | none => none
    | _, _ => none
  | .idxA x i len sz ag => match x.ev G fr, i.ev G fr with
    | some (.agg cs), some i => match idxLt len i with
      | some n => match part cs (n * sz) sz ag with
        | some v => some (v, H, nx)
        | none => none
      | none => none
    | _, _ => none
  | .box x sz => match x.ev G fr with
    | some v => match cellsOf v sz with
      | some cs => some (.ptr nx 0, (nx, .cells false cs) :: H, nx + 1)
      | none => none
    | none => none
  | .alloc z => some (.ptr nx 0, (nx, .cells false z) :: H, nx + 1)
  | .build z ps => match fillx G fr z ps with
    | some cs => some (.agg cs, H, nx)
    | none => none
  | .bslice len sz z ps => match fillx G fr z ps with
    | some cs => some (.row nx 0 len sz len true, (nx, .cells false cs) :: H, nx + 1)
    | none => none
  | .load x sz ag => match x.ev G fr with
    | some a => match xload H sz ag a with
      | some v => some (v, H, nx)
      | none => none
    | none => none
  | .store a x sz => match a.ev G fr, x.ev G fr with
    | some (.ptr h off), some v => match H.get h with
      | some (.cells str cs) => match cellsOf v sz with
        | some new => match Nat.ble (off + sz) cs.length with
          | true => some (.tup [], H.put h (.cells str (splice cs off new)), nx)
          | false => none
        | none => none
      | _ => none
    | _, _ => none
  | .nilchk x => match x.ev G fr with
    | some (.ptr h o) => some (.ptr h o, H, nx)
    | some (.eptr e o) => some (.eptr e o, H, nx)
    | some (.iface t v) => some (.iface t v, H, nx)
    | some (.func (.func f) a b) => some (.func (.func f) a b, H, nx)
    | _ => none
  | .faddr x off => match x.ev G fr with
    | some (.ptr h o) => some (.ptr h (o + off), H, nx)
    | some (.eptr e o) => some (.eptr e (o + off), H, nx)
    | _ => none
  | .iaddrS x i sz => match x.ev G fr, i.ev G fr with
    | some (.lst sz' es), some i => match Nat.beq sz sz' with
      | true => match idx es i with
        | some e => some (.eptr e 0, H, nx)
        | none => none
      | false => none
    | some (.row h off len sz' _ _), some i => match Nat.beq sz sz' with
      | true => match idxLt len i with
        | some n => some (.ptr h (off + n * sz), H, nx)
        | none => none
      | false => none
    | _, _ => none
  | .iaddrA x i len sz => match x.ev G fr, i.ev G fr with
    | some (.ptr h o), some i => match idxLt len i with
      | some n => some (.ptr h (o + n * sz), H, nx)
      | none => none
    | some (.eptr e o), some i => match idxLt len i with
      | some n => some (.eptr e (o + n * sz), H, nx)
      | none => none
    | _, _ => none
  | .slcS x lo hi => match x.ev G fr, evo G fr lo, evo G fr hi with
    | some (.str s), some lo, some hi => match bnd hi s.length s.length with
      | some h => match bnd lo 0 h with
        | some l => some (.str ((s.take h).drop l), H, nx)
        | none => none
      | none => none
    | _, _, _ => none
  | .slcL x lo hi mx sz => match x.ev G fr, evo G fr lo, evo G fr hi, evo G fr mx with
    | some v, some lo, some hi, some mx => match xslice sz lo hi mx v with
      | some v => some (v, H, nx)
      | none => none
    | _, _, _, _ => none
  | .slcA x lo hi len sz => match x.ev G fr, evo G fr lo, evo G fr hi with
    | some (.ptr h off), some lo, some hi => match H.get h with
      | some (.cells _ cs) => match Nat.ble (off + len * sz) cs.length with
        | true => match bnd hi len len with
          | some t => match bnd lo 0 t with
            | some l => some (.row h (off + l * sz) (t - l) sz (len - l) true, H, nx)
            | none => none
          | none => none
        | false => none
      | _ => none
    | _, _, _ => none
  | .lenS x => match x.ev G fr with
    | some (.str s) => some (.int .i64 (.ofNat s.length), H, nx)
    | _ => none
  | .lenL x => match x.ev G fr with
    | some .nilslice => some (.int .i64 (.ofNat 0), H, nx)
    | some (.lst _ es) => some (.int .i64 (.ofNat es.length), H, nx)
    | some (.row _ _ len _ _ _) => some (.int .i64 (.ofNat len), H, nx)
    | _ => none
  | .lenM x => match x.ev G fr with
    | some .nilmap => some (.int .i64 (.ofNat 0), H, nx)
    | some (.map h) => match H.get h with
      | some (.map es) => match Nat.ble es.length maxStr with
        | true => some (.int .i64 (.ofNat es.length), H, nx)
        | false => none
      | _ => none
    | _ => none
  | .lenK n => some (.int .i64 (.ofNat n), H, nx)
  | .cap x => match x.ev G fr with
    | some .nilslice => some (.int .i64 (.ofNat 0), H, nx)
    | some (.row _ _ _ _ cp true) => some (.int .i64 (.ofNat cp), H, nx)
    | _ => none
  | .append x y sz bytes => match x.ev G fr, y.ev G fr with
    | some s, some y => xappend H nx s y sz bytes
    | _, _ => none
  | .copy x y sz => match x.ev G fr, y.ev G fr with
    | some d, some y => xcopy H nx d y sz
    | _, _ => none
  | .clrL x sz z => match x.ev G fr with
    | some .nilslice => some (.tup [], H, nx)
    | some (.row h off len sz' _ _) => match Nat.beq sz sz' with
      | false => none
      | true => match H.get h with
        | some (.cells str cs) => match Nat.ble (off + len * sz) cs.length with
          | true => some (.tup [], H.put h (.cells str (splice cs off (rep len z))), nx)
          | false => none
        | _ => none
    | _ => none
  | .clrM x => match x.ev G fr with
    | some .nilmap => some (.tup [], H, nx)
    | some (.map h) => match H.get h with
      | some (.map _) => some (.tup [], H.put h (.map []), nx)
      | _ => none
    | _ => none
  | .min x y => match x.ev G fr, y.ev G fr with
    | some (.int k a), some (.int k' b) => match ksame k k' with
      | true => some (.int k (if b < a then b else a), H, nx)
      | false => none
    | _, _ => none
  | .max x y => match x.ev G fr, y.ev G fr with
    | some (.int k a), some (.int k' b) => match ksame k k' with
      | true => some (.int k (if b > a then b else a), H, nx)
      | false => none
    | _, _ => none
  | .mkslice l c sz bytes z => match l.ev G fr, c.ev G fr with
    | some (.int _ (.ofNat l)), some (.int _ (.ofNat c)) => match Nat.ble l c with
      | true => match Nat.ble (c * bytes) roomBits with
        | true => match Nat.ble c roomBits with
          | true => some (.row nx 0 l sz c true, (nx, .cells false (rep c z)) :: H, nx + 1)
          | false => none
        | false => none
      | false => none
    | _, _ => none
  | .mkmap => some (.map nx, (nx, .map []) :: H, nx + 1)
  | .lookup ag ks m k z ok => match m.ev G fr, k.ev G fr with
    | some m, some k => match keyOk ag ks k with
      | false => none
      | true => match m with
        | .nilmap => some (match ok with | true => .tup [z, .bool false] | false => z, H, nx)
        | .map h => match H.get h with
          | some (.map es) => match mfind ag ks k es with
            | some (some v) => some (match ok with | true => .tup [v, .bool true] | false => v, H, nx)
            | some none => some (match ok with | true => .tup [z, .bool false] | false => z, H, nx)
            | none => none
          | _ => none
        | _ => none
    | _, _ => none
  | .mupd ag ks m k v => match m.ev G fr, k.ev G fr, v.ev G fr with
    | some (.map h), some k, some v => match keyOk ag ks k with
      | false => none
      | true => match H.get h with
        | some (.map es) => match mput ag ks k v es with
          | some es => some (.tup [], H.put h (.map es), nx)
          | none => none
        | _ => none
    | _, _, _ => none
  | .del ag ks m k => match m.ev G fr, k.ev G fr with
    | some m, some k => match keyOk ag ks k with
      | false => none
      | true => match m with
        | .nilmap => some (.tup [], H, nx)
        | .map h => match H.get h with
          | some (.map es) => match mdel ag ks k es with
            | some es => some (.tup [], H.put h (.map es), nx)
            | none => none
          | _ => none
        | _ => none
    | _, _ => none
  | .mkfunc fn first caps => match evs G fr first, evs G fr caps with
    | some a, some b => some (.func fn a b, H, nx)
    | _, _ => none
  | .mkif t x => match x.ev G fr with
    | some v => some (.iface t v, H, nx)
    | none => none
  | .tas x t ok z => match x.ev G fr with
    | some (.iface u v) => match Nat.beq u t with
      | true => some (match ok with | true => .tup [v, .bool true] | false => v, H, nx)
      | false => match ok with
        | true => some (.tup [z, .bool false], H, nx)
        | false => none
    | some .niliface => match ok with
      | true => some (.tup [z, .bool false], H, nx)
      | false => none
    | _ => none
  | .rngS x => match x.ev G fr with
    | some (.str s) => some (.ptr nx 0, (nx, .siter s 0) :: H, nx + 1)
    | _ => none
  | .nextS x => match x.ev G fr with
    | some (.ptr h 0) => match H.get h with
      | some (.siter s pos) => match Nat.ble s.length maxStr with
        | true => match Nat.blt pos s.length with
          | true => match rune s pos with
            | some b => some (.tup [.bool true, .int .i64 (.ofNat pos), .int .i32 (.ofNat b)], H.put h (.siter s (pos + 1)), nx)
            | none => none
          | false => some (.tup [.bool false], H, nx)
        | false => none
      | _ => none
    | _ => none
  | .call f args => match evs G fr args with
    | some vs => call f vs H nx
    | none => none
  | .callv f args => match f.ev G fr, evs G fr args with
    | some fv, some vs => applyf call H nx vs fv
    | _, _ => none
  | .invoke r m args => match r.ev G fr, evs G fr args with
    | some (.iface t v), some vs => match G.meth t m with
      | some f => call f (v :: vs) H nx
      | none => none
    | _, _ => none

def xo_bad   : Option Out :=
  none

def xo_mov (G : Cx) (fr : Fr) (H : Heap) (nx : Nat) (x : XV) : Option Out :=
  match x.ev G fr with
  | some v => some (v, H, nx)
  | none => none

def xo_pick (G : Cx) (fr : Fr) (H : Heap) (nx : Nat) (c : XV) (a : XV) (b : XV) : Option Out :=
  match c.ev G fr with
  | some (.bool true) => match a.ev G fr with
    | some v => some (v, H, nx)
    | none => none
  | some (.bool false) => match b.ev G fr with
    | some v => some (v, H, nx)
    | none => none
  | _ => none

def xo_bin (G : Cx) (fr : Fr) (H : Heap) (nx : Nat) (op : BinOp) (x : XV) (y : XV) : Option Out :=
  match x.ev G fr, y.ev G fr with
  | some a, some b => match xbin op a b with
    | some v => some (v, H, nx)
    | none => none
  | _, _ => none

def xo_beq (G : Cx) (fr : Fr) (H : Heap) (nx : Nat) (neg : Bool) (x : XV) (y : XV) : Option Out :=
  match x.ev G fr, y.ev G fr with
  | some (.bool a), some (.bool b) => some (bneg neg (a == b), H, nx)
  | _, _ => none

def xo_peq (G : Cx) (fr : Fr) (H : Heap) (nx : Nat) (neg : Bool) (x : XV) (y : XV) : Option Out :=
  match x.ev G fr, y.ev G fr with
  | some a, some b => match xpeq H a b with
    | some v => some (bneg neg v, H, nx)
    | none => none
  | _, _ => none

def xo_aeq (G : Cx) (fr : Fr) (H : Heap) (nx : Nat) (neg : Bool) (ks : List Kd) (x : XV) (y : XV) : Option Out :=
  match x.ev G fr, y.ev G fr with
  | some (.agg a), some (.agg b) => match eqs ks a b with
    | some v => some (bneg neg v, H, nx)
    | none => none
  | _, _ => none

def xo_ieq (G : Cx) (fr : Fr) (H : Heap) (nx : Nat) (neg : Bool) (lit : Bool) (kt : Nat → Option Kd) (x : XV) (y : XV) : Option Out :=
  match x.ev G fr, y.ev G fr with
  | some a, some b => match xieq lit kt a b with
    | some v => some (bneg neg v, H, nx)
    | none => none
  | _, _ => none

def xo_seq (G : Cx) (fr : Fr) (H : Heap) (nx : Nat) (neg : Bool) (x : XV) (y : XV) : Option Out :=
  match x.ev G fr, y.ev G fr with
  | some a, some b => match xseq a b with
    | some v => some (bneg neg v, H, nx)
    | none => none
  | _, _ => none

def xo_meq (G : Cx) (fr : Fr) (H : Heap) (nx : Nat) (neg : Bool) (x : XV) (y : XV) : Option Out :=
  match x.ev G fr, y.ev G fr with
  | some a, some b => match xmeq a b with
    | some v => some (bneg neg v, H, nx)
    | none => none
  | _, _ => none

def xo_feq (G : Cx) (fr : Fr) (H : Heap) (nx : Nat) (neg : Bool) (x : XV) (y : XV) : Option Out :=
  match x.ev G fr, y.ev G fr with
  | some a, some b => match xfeq a b with
    | some v => some (bneg neg v, H, nx)
    | none => none
  | _, _ => none

def xo_un (G : Cx) (fr : Fr) (H : Heap) (nx : Nat) (op : UnOp) (x : XV) : Option Out :=
  match x.ev G fr with
  | some a => match xun op a with
    | some v => some (v, H, nx)
    | none => none
  | none => none

def xo_conv (G : Cx) (fr : Fr) (H : Heap) (nx : Nat) (k : IntKind) (x : XV) : Option Out :=
  match x.ev G fr with
  | some (.int _ n) => some (.int k (wrapx k n), H, nx)
  | _ => none

def xo_s2b (G : Cx) (fr : Fr) (H : Heap) (nx : Nat) (x : XV) : Option Out :=
  match x.ev G fr with
  | some (.str s) => some (.row nx 0 s.length 1 s.length false, (nx, .cells true (s.map fun b => .int .u8 (.ofNat b))) :: H, nx + 1)
  | _ => none

def xo_b2s (G : Cx) (fr : Fr) (H : Heap) (nx : Nat) (x : XV) : Option Out :=
  match x.ev G fr with
  | some (.str _) => none
  | some v => match content H 1 v with
    | some (_, cs) => match toBytes cs with
      | some s => some (.str s, H, nx)
      | none => none
    | none => none
  | none => none

def xo_s2s (G : Cx) (fr : Fr) (H : Heap) (nx : Nat) (x : XV) : Option Out :=
  match x.ev G fr with
  | some (.str s) => some (.str s, H, nx)
  | _ => none

def xo_mark (G : Cx) (fr : Fr) (H : Heap) (nx : Nat) (x : XV) : Option Out :=
  match x.ev G fr with
  | some (.row h off len sz cp ex) => match Nat.blt 0 len with
    | true => match H.get h with
      | some (.cells _ cs) => some (.row h off len sz cp ex, H.put h (.cells true cs), nx)
      | _ => none
    | false => none
  | _ => none

def xo_idxb (G : Cx) (fr : Fr) (H : Heap) (nx : Nat) (x : XV) (c : XV) : Option Out :=
  match x.ev G fr, c.ev G fr with
  | some (.str s), some (.int .u8 (.ofNat b)) => some (.int .i64 (bidx b 0 s), H, nx)
  | _, _ => none

def xo_cntb (G : Cx) (fr : Fr) (H : Heap) (nx : Nat) (x : XV) (c : XV) : Option Out :=
  match x.ev G fr, c.ev G fr with
  | some (.str s), some (.int .u8 (.ofNat b)) => some (.int .i64 (.ofNat (bcnt b s)), H, nx)
  | _, _ => none

def xo_fld (G : Cx) (fr : Fr) (H : Heap) (nx : Nat) (x : XV) (off : Nat) (sz : Nat) (ag : Bool) : Option Out :=
  match x.ev G fr with
  | some (.agg cs) => match part cs off sz ag with
    | some v => some (v, H, nx)
    | none => none
  | _ => none

def xo_ext (G : Cx) (fr : Fr) (H : Heap) (nx : Nat) (x : XV) (i : Nat) : Option Out :=
  match x.ev G fr with
  | some (.tup vs) => match vs[i]? with
    | some v => some (v, H, nx)
    | none => none
  | _ => none

def xo_idxS (G : Cx) (fr : Fr) (H : Heap) (nx : Nat) (x : XV) (i : XV) : Option Out :=
  match x.ev G fr, i.ev G fr with
  | some (.str s), some (.int _ (.ofNat n)) => match s[n]? with
    | some b => some (.int .u8 (.ofNat b), H, nx)
    | none => none
  | _, _ => none

def xo_idxA (G : Cx) (fr : Fr) (H : Heap) (nx : Nat) (x : XV) (i : XV) (len : Nat) (sz : Nat) (ag : Bool) : Option Out :=
  match x.ev G fr, i.ev G fr with
  | some (.agg cs), some i => match idxLt len i with
    | some n => match part cs (n * sz) sz ag with
      | some v => some (v, H, nx)
      | none => none
    | none => none
  | _, _ => none

def xo_box (G : Cx) (fr : Fr) (H : Heap) (nx : Nat) (x : XV) (sz : Nat) : Option Out :=
  match x.ev G fr with
  | some v => match cellsOf v sz with
    | some cs => some (.ptr nx 0, (nx, .cells false cs) :: H, nx + 1)
    | none => none
  | none => none

def xo_alloc (H : Heap) (nx : Nat) (z : List AV) : Option Out :=
  some (.ptr nx 0, (nx, .cells false z) :: H, nx + 1)

def xo_build (G : Cx) (fr : Fr) (H : Heap) (nx : Nat) (z : List AV) (ps : List (Nat × Nat × XV)) : Option Out :=
  match fillx G fr z ps with
  | some cs => some (.agg cs, H, nx)
  | none => none

def xo_bslice (G : Cx) (fr : Fr) (H : Heap) (nx : Nat) (len : Nat) (sz : Nat) (z : List AV) (ps : List (Nat × Nat × XV)) : Option Out :=
  match fillx G fr z ps with
  | some cs => some (.row nx 0 len sz len true, (nx, .cells false cs) :: H, nx + 1)
  | none => none

def xo_load (G : Cx) (fr : Fr) (H : Heap) (nx : Nat) (x : XV) (sz : Nat) (ag : Bool) : Option Out :=
  match x.ev G fr with
  | some a => match xload H sz ag a with
    | some v => some (v, H, nx)
    | none => none
  | none => none

def xo_store (G : Cx) (fr : Fr) (H : Heap) (nx : Nat) (a : XV) (x : XV) (sz : Nat) : Option Out :=
  match a.ev G fr, x.ev G fr with
  | some (.ptr h off), some v => match H.get h with
    | some (.cells str cs) => match cellsOf v sz with
      | some new => match Nat.ble (off + sz) cs.length with
        | true => some (.tup [], H.put h (.cells str (splice cs off new)), nx)
        | false => none
      | none => none
    | _ => none
  | _, _ => none

def xo_nilchk (G : Cx) (fr : Fr) (H : Heap) (nx : Nat) (x : XV) : Option Out :=
  match x.ev G fr with
  | some (.ptr h o) => some (.ptr h o, H, nx)
  | some (.eptr e o) => some (.eptr e o, H, nx)
  | some (.iface t v) => some (.iface t v, H, nx)
  | some (.func (.func f) a b) => some (.func (.func f) a b, H, nx)
  | _ => none

def xo_faddr (G : Cx) (fr : Fr) (H : Heap) (nx : Nat) (x : XV) (off : Nat) : Option Out :=
  match x.ev G fr with
  | some (.ptr h o) => some (.ptr h (o + off), H, nx)
  | some (.eptr e o) => some (.eptr e (o + off), H, nx)
  | _ => none

def xo_iaddrS (G : Cx) (fr : Fr) (H : Heap) (nx : Nat) (x : XV) (i : XV) (sz : Nat) : Option Out :=
  match x.ev G fr, i.ev G fr with
  | some (.lst sz' es), some i => match Nat.beq sz sz' with
    | true => match idx es i with
      | some e => some (.eptr e 0, H, nx)
      | none => none
    | false => none
  | some (.row h off len sz' _ _), some i => match Nat.beq sz sz' with
    | true => match idxLt len i with
      | some n => some (.ptr h (off + n * sz), H, nx)
      | none => none
    | false => none
  | _, _ => none

def xo_iaddrA (G : Cx) (fr : Fr) (H : Heap) (nx : Nat) (x : XV) (i : XV) (len : Nat) (sz : Nat) : Option Out :=
  match x.ev G fr, i.ev G fr with
  | some (.ptr h o), some i => match idxLt len i with
    | some n => some (.ptr h (o + n * sz), H, nx)
    | none => none
  | some (.eptr e o), some i => match idxLt len i with
    | some n => some (.eptr e (o + n * sz), H, nx)
    | none => none
  | _, _ => none

def xo_slcS (G : Cx) (fr : Fr) (H : Heap) (nx : Nat) (x : XV) (lo : Option XV) (hi : Option XV) : Option Out :=
  match x.ev G fr, evo G fr lo, evo G fr hi with
  | some (.str s), some lo, some hi => match bnd hi s.length s.length with
    | some h => match bnd lo 0 h with
      | some l => some (.str ((s.take h).drop l), H, nx)
      | none => none
    | none => none
  | _, _, _ => none

def xo_slcL (G : Cx) (fr : Fr) (H : Heap) (nx : Nat) (x : XV) (lo : Option XV) (hi : Option XV) (mx : Option XV) (sz : Nat) : Option Out :=
  match x.ev G fr, evo G fr lo, evo G fr hi, evo G fr mx with
  | some v, some lo, some hi, some mx => match xslice sz lo hi mx v with
    | some v => some (v, H, nx)
    | none => none
  | _, _, _, _ => none

def xo_slcA (G : Cx) (fr : Fr) (H : Heap) (nx : Nat) (x : XV) (lo : Option XV) (hi : Option XV) (len : Nat) (sz : Nat) : Option Out :=
  match x.ev G fr, evo G fr lo, evo G fr hi with
  | some (.ptr h off), some lo, some hi => match H.get h with
    | some (.cells _ cs) => match Nat.ble (off + len * sz) cs.length with
      | true => match bnd hi len len with
        | some t => match bnd lo 0 t with
          | some l => some (.row h (off + l * sz) (t - l) sz (len - l) true, H, nx)
          | none => none
        | none => none
      | false => none
    | _ => none
  | _, _, _ => none

def xo_lenS (G : Cx) (fr : Fr) (H : Heap) (nx : Nat) (x : XV) : Option Out :=
  match x.ev G fr with
  | some (.str s) => some (.int .i64 (.ofNat s.length), H, nx)
  | _ => none

def xo_lenL (G : Cx) (fr : Fr) (H : Heap) (nx : Nat) (x : XV) : Option Out :=
  match x.ev G fr with
  | some .nilslice => some (.int .i64 (.ofNat 0), H, nx)
  | some (.lst _ es) => some (.int .i64 (.ofNat es.length), H, nx)
  | some (.row _ _ len _ _ _) => some (.int .i64 (.ofNat len), H, nx)
  | _ => none

def xo_lenM (G : Cx) (fr : Fr) (H : Heap) (nx : Nat) (x : XV) : Option Out :=
  match x.ev G fr with
  | some .nilmap => some (.int .i64 (.ofNat 0), H, nx)
  | some (.map h) => match H.get h with
    | some (.map es) => match Nat.ble es.length maxStr with
      | true => some (.int .i64 (.ofNat es.length), H, nx)
      | false => none
    | _ => none
  | _ => none

def xo_lenK (H : Heap) (nx : Nat) (n : Nat) : Option Out :=
  some (.int .i64 (.ofNat n), H, nx)

def xo_cap (G : Cx) (fr : Fr) (H : Heap) (nx : Nat) (x : XV) : Option Out :=
  match x.ev G fr with
  | some .nilslice => some (.int .i64 (.ofNat 0), H, nx)
  | some (.row _ _ _ _ cp true) => some (.int .i64 (.ofNat cp), H, nx)
  | _ => none

def xo_append (G : Cx) (fr : Fr) (H : Heap) (nx : Nat) (x : XV) (y : XV) (sz : Nat) (bytes : Nat) : Option Out :=
  match x.ev G fr, y.ev G fr with
  | some s, some y => xappend H nx s y sz bytes
  | _, _ => none

def xo_copy (G : Cx) (fr : Fr) (H : Heap) (nx : Nat) (x : XV) (y : XV) (sz : Nat) : Option Out :=
  match x.ev G fr, y.ev G fr with
  | some d, some y => xcopy H nx d y sz
  | _, _ => none

def xo_clrL (G : Cx) (fr : Fr) (H : Heap) (nx : Nat) (x : XV) (sz : Nat) (z : List AV) : Option Out :=
  match x.ev G fr with
  | some .nilslice => some (.tup [], H, nx)
  | some (.row h off len sz' _ _) => match Nat.beq sz sz' with
    | false => none
    | true => match H.get h with
      | some (.cells str cs) => match Nat.ble (off + len * sz) cs.length with
        | true => some (.tup [], H.put h (.cells str (splice cs off (rep len z))), nx)
        | false => none
      | _ => none
  | _ => none

def xo_clrM (G : Cx) (fr : Fr) (H : Heap) (nx : Nat) (x : XV) : Option Out :=
  match x.ev G fr with
  | some .nilmap => some (.tup [], H, nx)
  | some (.map h) => match H.get h with
    | some (.map _) => some (.tup [], H.put h (.map []), nx)
    | _ => none
  | _ => none

def xo_min (G : Cx) (fr : Fr) (H : Heap) (nx : Nat) (x : XV) (y : XV) : Option Out :=
  match x.ev G fr, y.ev G fr with
  | some (.int k a), some (.int k' b) => match ksame k k' with
    | true => some (.int k (if b < a then b else a), H, nx)
    | false => none
  | _, _ => none

def xo_max (G : Cx) (fr : Fr) (H : Heap) (nx : Nat) (x : XV) (y : XV) : Option Out :=
  match x.ev G fr, y.ev G fr with
  | some (.int k a), some (.int k' b) => match ksame k k' with
    | true => some (.int k (if b > a then b else a), H, nx)
    | false => none
  | _, _ => none

def xo_mkslice (G : Cx) (fr : Fr) (H : Heap) (nx : Nat) (l : XV) (c : XV) (sz : Nat) (bytes : Nat) (z : List AV) : Option Out :=
  match l.ev G fr, c.ev G fr with
  | some (.int _ (.ofNat l)), some (.int _ (.ofNat c)) => match Nat.ble l c with
    | true => match Nat.ble (c * bytes) roomBits with
      | true => match Nat.ble c roomBits with
        | true => some (.row nx 0 l sz c true, (nx, .cells false (rep c z)) :: H, nx + 1)
        | false => none
      | false => none
    | false => none
  | _, _ => none

def xo_mkmap (H : Heap) (nx : Nat)  : Option Out :=
  some (.map nx, (nx, .map []) :: H, nx + 1)

def xo_lookup (G : Cx) (fr : Fr) (H : Heap) (nx : Nat) (ag : Bool) (ks : List Kd) (m : XV) (k : XV) (z : AV) (ok : Bool) : Option Out :=
  match m.ev G fr, k.ev G fr with
  | some m, some k => match keyOk ag ks k with
    | false => none
    | true => match m with
      | .nilmap => some (match ok with | true => .tup [z, .bool false] | false => z, H, nx)
      | .map h => match H.get h with
        | some (.map es) => match mfind ag ks k es with
          | some (some v) => some (match ok with | true => .tup [v, .bool true] | false => v, H, nx)
          | some none => some (match ok with | true => .tup [z, .bool false] | false => z, H, nx)
          | none => none
        | _ => none
      | _ => none
  | _, _ => none

def xo_mupd (G : Cx) (fr : Fr) (H : Heap) (nx : Nat) (ag : Bool) (ks : List Kd) (m : XV) (k : XV) (v : XV) : Option Out :=
  match m.ev G fr, k.ev G fr, v.ev G fr with
  | some (.map h), some k, some v => match keyOk ag ks k with
    | false => none
    | true => match H.get h with
      | some (.map es) => match mput ag ks k v es with
        | some es => some (.tup [], H.put h (.map es), nx)
        | none => none
      | _ => none
  | _, _, _ => none

def xo_del (G : Cx) (fr : Fr) (H : Heap) (nx : Nat) (ag : Bool) (ks : List Kd) (m : XV) (k : XV) : Option Out :=
  match m.ev G fr, k.ev G fr with
  | some m, some k => match keyOk ag ks k with
    | false => none
    | true => match m with
      | .nilmap => some (.tup [], H, nx)
      | .map h => match H.get h with
        | some (.map es) => match mdel ag ks k es with
          | some es => some (.tup [], H.put h (.map es), nx)
          | none => none
        | _ => none
      | _ => none
  | _, _ => none

def xo_mkfunc (G : Cx) (fr : Fr) (H : Heap) (nx : Nat) (fn : Fn) (first : List XV) (caps : List XV) : Option Out :=
  match evs G fr first, evs G fr caps with
  | some a, some b => some (.func fn a b, H, nx)
  | _, _ => none

def xo_mkif (G : Cx) (fr : Fr) (H : Heap) (nx : Nat) (t : Nat) (x : XV) : Option Out :=
  match x.ev G fr with
  | some v => some (.iface t v, H, nx)
  | none => none

def xo_tas (G : Cx) (fr : Fr) (H : Heap) (nx : Nat) (x : XV) (t : Nat) (ok : Bool) (z : AV) : Option Out :=
  match x.ev G fr with
  | some (.iface u v) => match Nat.beq u t with
    | true => some (match ok with | true => .tup [v, .bool true] | false => v, H, nx)
    | false => match ok with
      | true => some (.tup [z, .bool false], H, nx)
      | false => none
  | some .niliface => match ok with
    | true => some (.tup [z, .bool false], H, nx)
    | false => none
  | _ => none

def xo_rngS (G : Cx) (fr : Fr) (H : Heap) (nx : Nat) (x : XV) : Option Out :=
  match x.ev G fr with
  | some (.str s) => some (.ptr nx 0, (nx, .siter s 0) :: H, nx + 1)
  | _ => none

def xo_nextS (G : Cx) (fr : Fr) (H : Heap) (nx : Nat) (x : XV) : Option Out :=
  match x.ev G fr with
  | some (.ptr h 0) => match H.get h with
    | some (.siter s pos) => match Nat.ble s.length maxStr with
      | true => match Nat.blt pos s.length with
        | true => match rune s pos with
          | some b => some (.tup [.bool true, .int .i64 (.ofNat pos), .int .i32 (.ofNat b)], H.put h (.siter s (pos + 1)), nx)
          | none => none
        | false => some (.tup [.bool false], H, nx)
      | false => none
    | _ => none
  | _ => none

def xo_call (G : Cx) (call : Call) (fr : Fr) (H : Heap) (nx : Nat) (f : Nat) (args : List XV) : Option Out :=
  match evs G fr args with
  | some vs => call f vs H nx
  | none => none

def xo_callv (G : Cx) (call : Call) (fr : Fr) (H : Heap) (nx : Nat) (f : XV) (args : List XV) : Option Out :=
  match f.ev G fr, evs G fr args with
  | some fv, some vs => applyf call H nx vs fv
  | _, _ => none

def xo_invoke (G : Cx) (call : Call) (fr : Fr) (H : Heap) (nx : Nat) (r : XV) (m : String) (args : List XV) : Option Out :=
  match r.ev G fr, evs G fr args with
  | some (.iface t v), some vs => match G.meth t m with
    | some f => call f (v :: vs) H nx
    | none => none
  | _, _ => none

/-- What an operation does: for the kernel, which reads small texts faster. -/
def xo (G : Cx) (call : Call) (fr : Fr) (H : Heap) (nx : Nat) : XO → Option Out
  | .bad => xo_bad  
  | .mov x => xo_mov G fr H nx x
  | .pick c a b => xo_pick G fr H nx c a b
  | .bin op x y => xo_bin G fr H nx op x y
  | .beq neg x y => xo_beq G fr H nx neg x y
  | .peq neg x y => xo_peq G fr H nx neg x y
  | .aeq neg ks x y => xo_aeq G fr H nx neg ks x y
  | .ieq neg lit kt x y => xo_ieq G fr H nx neg lit kt x y
  | .seq neg x y => xo_seq G fr H nx neg x y
  | .meq neg x y => xo_meq G fr H nx neg x y
  | .feq neg x y => xo_feq G fr H nx neg x y
  | .un op x => xo_un G fr H nx op x
  | .conv k x => xo_conv G fr H nx k x
  | .s2b x => xo_s2b G fr H nx x
  | .b2s x => xo_b2s G fr H nx x
  | .s2s x => xo_s2s G fr H nx x
  | .mark x => xo_mark G fr H nx x
  | .idxb x c => xo_idxb G fr H nx x c
  | .cntb x c => xo_cntb G fr H nx x c
  | .fld x off sz ag => xo_fld G fr H nx x off sz ag
  | .ext x i => xo_ext G fr H nx x i
  | .idxS x i => xo_idxS G fr H nx x i
  | .idxA x i len sz ag => xo_idxA G fr H nx x i len sz ag
  | .box x sz => xo_box G fr H nx x sz
  | .alloc z => xo_alloc H nx z
  | .build z ps => xo_build G fr H nx z ps
  | .bslice len sz z ps => xo_bslice G fr H nx len sz z ps
  | .load x sz ag => xo_load G fr H nx x sz ag
  | .store a x sz => xo_store G fr H nx a x sz
  | .nilchk x => xo_nilchk G fr H nx x
  | .faddr x off => xo_faddr G fr H nx x off
  | .iaddrS x i sz => xo_iaddrS G fr H nx x i sz
  | .iaddrA x i len sz => xo_iaddrA G fr H nx x i len sz
  | .slcS x lo hi => xo_slcS G fr H nx x lo hi
  | .slcL x lo hi mx sz => xo_slcL G fr H nx x lo hi mx sz
  | .slcA x lo hi len sz => xo_slcA G fr H nx x lo hi len sz
  | .lenS x => xo_lenS G fr H nx x
  | .lenL x => xo_lenL G fr H nx x
  | .lenM x => xo_lenM G fr H nx x
  | .lenK n => xo_lenK H nx n
  | .cap x => xo_cap G fr H nx x
  | .append x y sz bytes => xo_append G fr H nx x y sz bytes
  | .copy x y sz => xo_copy G fr H nx x y sz
  | .clrL x sz z => xo_clrL G fr H nx x sz z
  | .clrM x => xo_clrM G fr H nx x
  | .min x y => xo_min G fr H nx x y
  | .max x y => xo_max G fr H nx x y
  | .mkslice l c sz bytes z => xo_mkslice G fr H nx l c sz bytes z
  | .mkmap => xo_mkmap H nx 
  | .lookup ag ks m k z ok => xo_lookup G fr H nx ag ks m k z ok
  | .mupd ag ks m k v => xo_mupd G fr H nx ag ks m k v
  | .del ag ks m k => xo_del G fr H nx ag ks m k
  | .mkfunc fn first caps => xo_mkfunc G fr H nx fn first caps
  | .mkif t x => xo_mkif G fr H nx t x
  | .tas x t ok z => xo_tas G fr H nx x t ok z
  | .rngS x => xo_rngS G fr H nx x
  | .nextS x => xo_nextS G fr H nx x
  | .call f args => xo_call G call fr H nx f args
  | .callv f args => xo_callv G call fr H nx f args
  | .invoke r m args => xo_invoke G call fr H nx r m args

theorem xo_eq {G : Cx} {call : Call} {fr : Fr} {H : Heap} {nx : Nat} {o : XO} : xo G call fr H nx o = xoS G call fr H nx o := by cases o <;> rfl

def putd (fr : Fr) (d : Option Nat) (v : AV) : Fr :=
  match d with
  | some n => fr.put n v
  | none => fr

/-- Is an operation wanted? -/
def wantx (fr : Fr) : Option (Nat × Bool) → Option Bool
  | none => some true
  | some (s, b) => match fr.get s with
    | some (.bool c) => some (match c, b with | true, true => true | false, false => true | _, _ => false)
    | some (.tup []) => some false
    | _ => none

def runOps (G : Cx) (call : Call) : List XOper → Fr → Heap → Nat → Option (Fr × Heap × Nat)
  | [], fr, H, nx => some (fr, H, nx)
  | o :: r, fr, H, nx => match wantx fr o.guard with
    | some true => match xo G call fr H nx o.op with
      | some (v, H', nx') => runOps G call r (putd fr o.dst v) H' nx'
      | none => none
    | some false => runOps G call r (putd fr o.dst (.tup [])) H nx
    | none => none

inductive Ext where
  | normal
  | exit (id : Nat)
  | ret

abbrev St := Fr × Heap × Nat

def iter (body : St → Option (Ext × St)) : Nat → St → Option (Ext × St)
  | 0, _ => none
  | n + 1, s => match body s with
    | some (.normal, s') => iter body n s'
    | r => r

def allb (f : AV → AV → Bool) : List AV → List AV → Bool
  | [], [] => true
  | a :: x, b :: y => match f a b with
    | true => allb f x y
    | false => false
  | _, _ => false

/-- The same value? To a depth. -/
def aeq : Nat → AV → AV → Bool
  | 0, _, _ => false
  | d + 1, a, b => match a, b with
    | .bool a, .bool b => a == b
    | .int k a, .int k' b => match ksame k k' with | true => a == b | false => false
    | .str a, .str b => seqb a b
    | .nilptr, .nilptr => true
    | .ptr h o, .ptr h' o' => Nat.beq h h' && Nat.beq o o'
    | .eptr e o, .eptr e' o' => aeq d e e' && Nat.beq o o'
    | .nilslice, .nilslice => true
    | .lst n a, .lst m b => Nat.beq n m && allb (aeq d) a b
    | .row a b c e f g, .row a' b' c' e' f' g' => Nat.beq a a' && Nat.beq b b' && Nat.beq c c' && Nat.beq e e' && Nat.beq f f' && g == g'
    | .nilmap, .nilmap => true
    | .map h, .map h' => Nat.beq h h'
    | .nilfunc, .nilfunc => true
    | .func (.func f) a b, .func (.func f') a' b' => Nat.beq f f' && allb (aeq d) a a' && allb (aeq d) b b'
    | .niliface, .niliface => true
    | .iface t v, .iface t' v' => Nat.beq t t' && aeq d v v'
    | .agg a, .agg b => allb (aeq d) a b
    | .tup a, .tup b => allb (aeq d) a b
    | .sym i, .sym j => Nat.beq i j
    | _, _ => false

/-- What an operation may do to memory: 0: nothing, 1: it reads, 2: it makes an object, 3: it may write. -/
def kindOf : XO → Nat
  | .mov _ | .pick _ _ _ | .bin _ _ _ | .beq _ _ _ | .aeq _ _ _ _ | .ieq _ _ _ _ _ | .idxb _ _ | .cntb _ _ | .seq _ _ _ | .meq _ _ _ | .feq _ _ _ | .un _ _ | .conv _ _ | .s2s _ | .fld _ _ _ _ | .ext _ _ | .idxS _ _ | .idxA _ _ _ _ _ | .build _ _ | .nilchk _
  | .faddr _ _ | .iaddrS _ _ _ | .iaddrA _ _ _ _ | .slcS _ _ _ | .slcL _ _ _ _ _ | .lenS _ | .lenL _ | .lenK _ | .cap _ | .min _ _ | .max _ _ | .mkfunc _ _ _ | .mkif _ _ | .tas _ _ _ _ => 0
  | .peq _ _ _ | .b2s _ | .load _ _ _ | .slcA _ _ _ _ _ | .lenM _ | .lookup _ _ _ _ _ _ => 1
  | .s2b _ | .box _ _ | .alloc _ | .bslice _ _ _ _ | .mkslice _ _ _ _ _ | .mkmap | .rngS _ => 2
  | _ => 3

structure DRead where
  i : Nat
  op : XO
  fr : Fr
  preds : Nat
  v : AV

structure DS where
  fr : Fr
  nx : Nat
  ms : List (Heap × Nat)
  ch : List (Nat × Nat)
  al : List (Nat × Nat × HO)
  rd : List DRead
  tr : List (Nat × Option Nat × AV)

/-- The objects made by some operations. -/
def within (f : Nat → Bool) : List (Nat × Nat × HO) → Heap
  | [] => []
  | (i, h, o) :: r => match f i with
    | true => (h, o) :: within f r
    | false => within f r
def maskOf (mask : Nat) : List (Nat × Nat × HO) → Nat
  | [] => 0
  | (i, _, _) :: r => match mask.testBit i with
    | true => 2 ^ i ||| maskOf mask r
    | false => maskOf mask r
def but (mask inc : Nat) (i : Nat) : Bool := mask.testBit i && !inc.testBit i

def noCall : Call := fun _ _ _ _ => none

def only : List Nat → Fr → Fr
  | [], _ => []
  | t :: ts, fr => match fr.get t with
    | some v => (t, v) :: only ts fr
    | none => only ts fr

def drawOp (G : Cx) (call : Call) (i : Nat) (o : XOper) (d : XD) (s : DS) : Option DS :=
  let fr := only d.looks s.fr
  match wantx fr o.guard with
  | some false => some { s with fr := putd s.fr o.dst (.tup []), tr := (i, o.dst, .tup []) :: s.tr }
  | some true => match kindOf o.op with
    | 0 => match xo G noCall fr [] s.nx o.op with
      | some (v, [], n) => match Nat.beq n s.nx with
        | true => some { s with fr := putd s.fr o.dst v, tr := (i, o.dst, v) :: s.tr }
        | false => none
      | _ => none
    | 1 => match s.ms with
      | (m, inc) :: _ => match xo G noCall fr (within (but d.preds inc) s.al ++ m) s.nx o.op with
        | some (v, _, _) => some { s with fr := putd s.fr o.dst v, rd := ⟨i, o.op, fr, d.preds, v⟩ :: s.rd, tr := (i, o.dst, v) :: s.tr }
        | none => none
      | [] => none
    | 2 => match xo G noCall fr [] s.nx o.op with
      | some (v, [(h, ob)], n) => match Nat.beq n (h + 1) with
        | true => match Nat.beq h s.nx with
          | true => some { s with fr := putd s.fr o.dst v, nx := n, al := (i, h, ob) :: s.al, tr := (i, o.dst, v) :: s.tr }
          | false => none
        | false => none
      | some (v, [], n) => match Nat.beq n s.nx with
        | true => some { s with fr := putd s.fr o.dst v, tr := (i, o.dst, v) :: s.tr }
        | false => none
      | _ => none
    | _ => match s.ms with
      | (m, inc) :: _ => match s.ch.all fun c => d.preds.testBit c.1 with
        | true => match xo G call fr (within (but d.preds inc) s.al ++ m) s.nx o.op with
          | some (v, m', n) => some { s with fr := putd s.fr o.dst v, nx := n, ms := (m', inc ||| maskOf d.preds s.al) :: s.ms, ch := (i, d.preds) :: s.ch, tr := (i, o.dst, v) :: s.tr }
          | none => none
        | false => none
      | [] => none
  | none => none

def drawOps (G : Cx) (call : Call) : Nat → List XOper → List XD → DS → Option DS
  | _, [], _, s => some s
  | i, o :: r, d :: ds, s => match drawOp G call i o d s with
    | some s' => drawOps G call (i + 1) r ds s'
    | none => none
  | _, _ :: _, [], _ => none

def readAt (G : Cx) (al : List (Nat × Nat × HO)) (nx : Nat) (r : DRead) (m : Heap) (inc : Nat) : Bool :=
  match xo G noCall r.fr (within (but r.preds inc) al ++ m) nx r.op with
  | some (v, _, _) => aeq 40 v r.v
  | none => false

/-- A read gives the same in each heap that it may see: 'ch', 'ms': newest first. -/
def readOk (G : Cx) (al : List (Nat × Nat × HO)) (nx : Nat) (r : DRead) : List (Nat × Nat) → List (Heap × Nat) → Bool
  | (c, p) :: ch, (m, inc) :: ms =>
    match r.preds.testBit c with
    | true => readAt G al nx r m inc
    | false => match p.testBit r.i with
      | true => readOk G al nx r ch ms
      | false => match readAt G al nx r m inc with
        | true => readOk G al nx r ch ms
        | false => false
  | [], (m, inc) :: _ => readAt G al nx r m inc
  | _, [] => false

def runDraw (G : Cx) (call : Call) (ops : List XOper) (ds : List XD) (st : St) : Option St :=
  match drawOps G call 0 ops ds ⟨st.1, st.2.2, [(st.2.1, 0)], [], [], [], []⟩ with
  | some s => match s.rd.all fun r => readOk G s.al s.nx r s.ch s.ms with
    | true => match s.ms with
      | (m, inc) :: _ => some (s.fr, within (fun i => !inc.testBit i) s.al ++ m, s.nx)
      | [] => none
    | false => none
  | none => none

/-- The newest objects forgotten, down to the first old one. -/
def dropW (nx : Nat) : Heap → Heap
  | [] => []
  | (h, o) :: r => match Nat.blt h nx with
    | true => (h, o) :: r
    | false => dropW nx r

/-- A frame without some temporaries. -/
def inN (n : Nat) : List Nat → Bool
  | [] => false
  | a :: r => match Nat.beq n a with
    | true => true
    | false => inN n r
def wo (D : List Nat) : Fr → Fr
  | [] => []
  | (t, v) :: r => match inN t D with
    | true => wo D r
    | false => (t, v) :: wo D r
def goesOn (id1 : Nat) : Ext → Bool
  | .normal => true
  | .exit i => Nat.beq i id1
  | .ret => false
def isIt (hit : Nat) : Option AV → Bool
  | some (.ptr h 0) => Nat.beq h hit
  | _ => false
/-- A round of a range over a map. -/
def mstep (rb : St → Option (Ext × St)) (it : Nat) (D : List Nat) (en W id1 hit : Nat) (e : AV × AV) (s : St) : Option St :=
  match rb (s.1.put en (.tup [e.1, e.2]), s.2.1, s.2.2) with
  | some (x, fr, H, n) => match goesOn id1 x && Nat.ble n (s.2.2 + W) && isIt hit ((wo D fr).get it) with
    | true => some (wo D fr, dropW s.2.2 H, s.2.2 + W)
    | false => none
  | none => none
def mapS (f : St → Option St) : List St → Option (List St)
  | [] => some []
  | s :: r => match f s with
    | some t => match mapS f r with
      | some ts => some (t :: ts)
      | none => none
    | none => none
/-- The states behind each set of rounds: set m's state is the m-th. -/
def mgrow (f : AV × AV → St → Option St) : List (AV × AV) → List St → Option (List St)
  | [], T => some T
  | e :: r, T => match mapS (f e) T with
    | some T' => mgrow f r (T ++ T')
    | none => none
def allp (f g : AV → AV → Bool) : List (AV × AV) → List (AV × AV) → Bool
  | [], [] => true
  | (a, b) :: x, (c, d) :: y => match f a c && g b d with
    | true => allp f g x y
    | false => false
  | _, _ => false
def hoEq : HO → HO → Bool
  | .cells s a, .cells t b => s == t && allb (aeq 40) a b
  | .map a, .map b => allp (aeq 40) (aeq 40) a b
  | .siter s i, .siter t j => seqb s t && Nat.beq i j
  | _, _ => false
def frEq : Fr → Fr → Bool
  | [], [] => true
  | (n, a) :: x, (m, b) :: y => match Nat.beq n m && aeq 40 a b with
    | true => frEq x y
    | false => false
  | _, _ => false
def hEq : Heap → Heap → Bool
  | [], [] => true
  | (n, a) :: x, (m, b) :: y => match Nat.beq n m && hoEq a b with
    | true => hEq x y
    | false => false
  | _, _ => false
def stEq (a b : St) : Bool := frEq a.1 b.1 && hEq a.2.1 b.2.1 && Nat.beq a.2.2 b.2.2
/-- Each round leads from each set's state to the next set's, whatever came ahead. -/
def mchk1 (f : AV × AV → St → Option St) (T : List St) (top M : Nat) : Nat → List (AV × AV) → Bool
  | _, [] => true
  | i, e :: r => (match M.testBit i with
    | true => true
    | false => match T[M]?, T[M ||| 2 ^ i]? with
      | some a, some b => match f e a with
        | some c => stEq c b && Nat.ble b.2.2 top
        | none => false
      | _, _ => false) && mchk1 f T top M (i + 1) r
def mchk (f : AV × AV → St → Option St) (es : List (AV × AV)) (T : List St) (top : Nat) : Nat → Bool
  | 0 => true
  | M + 1 => mchk1 f T top M 0 es && mchk f es T top M

def runM (G : Cx) (rb : St → Option (Ext × St)) (m : XV) (it : Nat) (D : List Nat) (en W id1 : Nat) (s : St) : Option St :=
  match m.ev G s.1 with
  | some .nilmap => some (wo D (wo [it] s.1), s.2.1, s.2.2 + 1)
  | some (.map h) => match s.2.1.get h with
    | some (.map es) => match mgrow (mstep rb it D en W id1 s.2.2) es [((wo D s.1).put it (.ptr s.2.2 0), s.2.1.del h, s.2.2 + 1)] with
      | some T => match T[2 ^ es.length - 1]? with
        | some f => match mchk (mstep rb it D en W id1 s.2.2) es T f.2.2 (2 ^ es.length - 1) with
          | true => some (f.1, f.2.1 ++ [(h, .map es)], f.2.2)
          | false => none
        | none => none
      | none => none
    | _ => none
  | _ => none

def run (G : Cx) (call : Call) (lf : Nat) : XC → St → Option (Ext × St)
  | .skip, s => some (.normal, s)
  | .reg ops, s => match runOps G call ops s.1 s.2.1 s.2.2 with
    | some s' => some (.normal, s')
    | none => none
  | .draw ops ds, s => match runDraw G call ops ds s with
    | some s' => some (.normal, s')
    | none => none
  | .seq a b, s => match run G call lf a s with
    | some (.normal, s') => run G call lf b s'
    | r => r
  | .cond c a b, s => match c.ev G s.1 with
    | some (.bool true) => run G call lf a s
    | some (.bool false) => run G call lf b s
    | _ => none
  | .block id b, s => match run G call lf b s with
    | some (.exit i, s') => match Nat.beq i id with
      | true => some (.normal, s')
      | false => some (.exit i, s')
    | r => r
  | .loop b, s => iter (run G call lf b) lf s
  | .exit id, s => some (.exit id, s)
  | .ret, s => some (.ret, s)
  | .mrange m it D en W id1 rest body, s => match runM G (fun s => match runOps G call rest s.1 s.2.1 s.2.2 with
      | some s' => run G call lf body s'
      | none => none) m it D en W id1 s with
    | some s' => some (.normal, s')
    | none => none

def resOf (H : Heap) (fr : Fr) : XR → Option AV
  | .t n => fr.get n
  | .cell n sz ag => match fr.get n with
    | some a => xload H sz ag a
    | none => none
def ress (H : Heap) (fr : Fr) : List XR → Option (List AV)
  | [] => some []
  | r :: rs => match resOf H fr r with
    | some v => match ress H fr rs with
      | some vs => some (v :: vs)
      | none => none
    | none => none
def oneOr : List AV → AV
  | [v] => v
  | vs => .tup vs

def slots (n : Nat) : List AV → Fr
  | [] => []
  | v :: r => (n, v) :: slots (n + 1) r

/-- The arguments, and nothing in the other temporaries. -/
def pad : Nat → List AV → List AV
  | 0, l => l
  | n + 1, [] => .tup [] :: pad n []
  | n + 1, a :: r => a :: pad n r

def chunks (sz : Nat) : Nat → List AV → List AV
  | 0, _ => []
  | n + 1, cs => (match sz with
    | 1 => match cs with
      | c :: _ => c
      | [] => .tup []
    | _ => .agg (cs.take sz)) :: chunks sz n (cs.drop sz)

def mapo (f : AV → Option AV) : List AV → Option (List AV)
  | [] => some []
  | v :: r => match f v with
    | some v => match mapo f r with
      | some r => some (v :: r)
      | none => none
    | none => none

/-- Rows of new objects become lists. -/
def shutV (nx : Nat) (H : Heap) : Nat → AV → Option AV
  | 0, _ => none
  | d + 1, v => match v with
    | .row h _ len sz _ _ => match Nat.blt h nx with
      | true => some v
      | false => match content H sz v with
        | some (_, cs) => match mapo (shutV nx H d) (chunks sz len cs) with
          | some es => some (.lst sz es)
          | none => none
        | none => none
    | .agg cs => match mapo (shutV nx H d) cs with
      | some cs => some (.agg cs)
      | none => none
    | .tup cs => match mapo (shutV nx H d) cs with
      | some cs => some (.tup cs)
      | none => none
    | v => some v

def below (nx : Nat) : Heap → Heap
  | [] => []
  | (h, o) :: r => match Nat.blt h nx with
    | true => (h, o) :: below nx r
    | false => below nx r

def finish (pol : Pol) (nx : Nat) (v : AV) (H : Heap) (nx' : Nat) : Option Out :=
  match pol with
  | .keep => some (v, H, nx')
  | .drop => some (v, dropW nx H, nx')
  | .shut => match shutV nx H 20 v with
    | some v => some (v, below nx H, nx')
    | none => none

/-- One call: its function's body, run with what calls do. -/
def enter1 (F : Nat → Option (XF × Pol)) (G : Cx) (lf : Nat) (call : Call) : Call :=
  fun f args H nx => match F f with
    | none => none
    | some (xf, pol) => match Nat.beq args.length xf.np with
      | false => none
      | true => match run G call lf xf.body (slots 0 (pad xf.nt args), H, nx) with
        | some (.exit _, _) => none
        | some (_, fr, H', nx') => match ress H' fr xf.res with
          | some vs => finish pol nx (oneOr vs) H' nx'
          | none => none
        | none => none
def enter (F : Nat → Option (XF × Pol)) (G : Cx) (lf : Nat) : Nat → Call
  | 0 => noCall
  | d + 1 => enter1 F G lf (enter F G lf d)

end Go.Sy

/- How an operation of the loaded program is resolved. No condition. -/
namespace Go.Sy

def cavs (f : Value → Option AV) : List Value → Option (List AV)
  | [] => some []
  | v :: r => match f v with
    | some a => match cavs f r with
      | some as => some (a :: as)
      | none => none
    | none => none
/-- Is a number one of its kind? -/
def inr : IntKind → Int → Bool
  | .i64, .ofNat m => Nat.ble m 9223372036854775807
  | .i64, .negSucc m => Nat.ble m 9223372036854775807
  | .i32, .ofNat m => Nat.ble m 2147483647
  | .i32, .negSucc m => Nat.ble m 2147483647
  | .i16, .ofNat m => Nat.ble m 32767
  | .i16, .negSucc m => Nat.ble m 32767
  | .i8, .ofNat m => Nat.ble m 127
  | .i8, .negSucc m => Nat.ble m 127
  | .u64, .ofNat m => Nat.ble m 18446744073709551615
  | .u32, .ofNat m => Nat.ble m 4294967295
  | .u16, .ofNat m => Nat.ble m 65535
  | .u8, .ofNat m => Nat.ble m 255
  | _, .negSucc _ => false
/-- A constant, as an abstract value. -/
def cav : Nat → Value → Option AV
  | 0, _ => none
  | d + 1, v => match v with
    | .bool b => some (.bool b)
    | .int k n => match inr k n with
      | true => some (.int k n)
      | false => none
    | .string s => match Nat.ble s.data.toList.length maxStr with
      | true => some (.str (s.data.toList.map UInt8.toNat))
      | false => none
    | .pointer none => some .nilptr
    | .slice none 0 0 => some .nilslice
    | .map none => some .nilmap
    | .nilFunc => some .nilfunc
    | .nilIface => some .niliface
    | .func (.func f) a b => match a.toList, b.toList with
      | [], [] => some (.func (.func f) [] [])
      | _, _ => none
    | .agg cs => match cavs (cav d) cs.toList with
      | some l => match l.all AV.one with
        | true => some (.agg l)
        | false => none
      | none => none
    | _ => none

def copd : Operand → Option XV
  | .tmp t => some (.t t)
  | .const v => match cav 3 v with
    | some a => some (.c a)
    | none => none
  | .global g => some (.g g)
  | .func f => some (.c (.func (.func f) [] []))
def copds : List Operand → Option (List XV)
  | [] => some []
  | x :: r => match copd x, copds r with
    | some y, some s => some (y :: s)
    | _, _ => none
def copdo : Option Operand → Option (Option XV)
  | none => some none
  | some x => match copd x with
    | some y => some (some y)
    | none => none

def sizeT (P : Program) (t : TypeId) : Option Nat := (P.info? t).map (·.size)
def bytesT (P : Program) (t : TypeId) : Option Nat := (P.info? t).map (·.bytes)
def agT (P : Program) (t : TypeId) : Option Bool := match P.underlying t with
  | some (.struct _) | some (.array _ _) => some true
  | some _ => some false
  | none => none
def zeroT (P : Program) (t : TypeId) : Option AV := match P.info? t with
  | some i => match i.zero with
    | some v => cav 3 v
    | none => none
  | none => none
def zerosT (P : Program) (t : TypeId) : Option (List AV) := match zeroT P t with
  | some v => match v.flat, sizeT P t with
    | true, some n => match Nat.beq v.cells.length n with
      | true => some v.cells
      | false => none
    | _, _ => none
  | none => none

/-- The kinds of the cells of a type that is compared cell by cell: numbers, strings, bools, and structs of these, without nameless fields, the cells one behind the other. -/
def flatFs (P : Program) (f : TypeId → Option (List Kd)) : Nat → List Field → Option (List Kd)
  | _, [] => some []
  | n, x :: r => match x.name == "_", Nat.beq x.offset n, f x.type, sizeT P x.type with
    | false, true, some ks, some s => match Nat.beq ks.length s with
      | true => match flatFs P f (n + s) r with
        | some rs => some (ks ++ rs)
        | none => none
      | false => none
    | _, _, _, _ => none
def flatK (P : Program) : Nat → TypeId → Option (List Kd)
  | 0, _ => none
  | d + 1, t => match P.underlying t with
    | some .bool => some [.b]
    | some (.int _) => some [.i]
    | some .string => some [.s]
    | some (.struct fs) => match P.stoodInHeld t with
      | true => none
      | false => flatFs P (flatK P d) 0 fs.toList
    | _ => none

/-- Types whose values are compared at once. -/
def kindT (P : Program) (t : TypeId) : Option Kd := match P.info? t with
  | some i => match i.comparable with
    | true => match P.underlying t with
      | some .bool => some .b
      | some (.int _) => some .i
      | some .string => some .s
      | _ => none
    | false => none
  | none => none
/-- Functions of Go's library without a body, that are known here. -/
def extK (fn : Func) (as : List XV) : Option XO := match fn.origin == "", as with
  | true, [x, y] => match fn.name == "internal/bytealg.IndexByteString" with
    | true => some (.idxb x y)
    | false => match fn.name == "internal/bytealg.CountString" with
      | true => some (.cntb x y)
      | false => none
  | _, _ => none

def isConstO : Operand → Bool
  | .const _ => true
  | _ => false

def cparts (place : Nat → Option (Nat × Nat)) : List (Nat × Operand) → Option (List (Nat × Nat × XV))
  | [] => some []
  | (i, x) :: r => match place i, copd x, cparts place r with
    | some (off, sz), some y, some s => some ((off, sz, y) :: s)
    | _, _, _ => none

def cfields (P : Program) (t : TypeId) : Option (Array Field) := match P.underlying t with
  | some (.struct fs) => some fs
  | _ => none

def obind {α β : Type} (x : Option α) (f : α → Option β) : Option β := match x with
  | some a => f a
  | none => none

def compBin (P : Program) (op : BinOp) (t : TypeId) (x y : Operand) : Option XO :=
  obind (copd x) fun a => obind (copd y) fun b =>
  match P.underlying t with
  | some (.int _) | some .string => some (.bin op a b)
  | some .bool => match op with
    | .eql => some (.beq false a b)
    | .neq => some (.beq true a b)
    | _ => none
  | some (.pointer e) => match op with
    | .eql => match sizeT P e with | some 0 => none | some _ => some (.peq false a b) | none => none
    | .neq => match sizeT P e with | some 0 => none | some _ => some (.peq true a b) | none => none
    | _ => none
  | some (.struct _) => match flatK P 6 t, P.eqGuardType P.depth t with
    | some ks, false => match op with
      | .eql => some (.aeq false ks a b)
      | .neq => some (.aeq true ks a b)
      | _ => none
    | _, _ => none
  | some (.interface _) => match op with
    | .eql => some (.ieq false (isConstO x || isConstO y) (kindT P) a b)
    | .neq => some (.ieq true (isConstO x || isConstO y) (kindT P) a b)
    | _ => none
  | some (.slice _) => match op with
    | .eql => some (.seq false a b)
    | .neq => some (.seq true a b)
    | _ => none
  | some (.map _ _) => match op with
    | .eql => some (.meq false a b)
    | .neq => some (.meq true a b)
    | _ => none
  | some (.func _ _ _) => match op with
    | .eql => some (.feq false a b)
    | .neq => some (.feq true a b)
    | _ => none
  | _ => none

def compConv (P : Program) (s d : TypeId) (x : Operand) : Option XO :=
  obind (copd x) fun a =>
  match P.underlying s, P.underlying d with
  | some (.int _), some (.int k) => some (.conv k a)
  | some .string, some .string => some (.s2s a)
  | some .string, some (.slice e) => match P.underlying e with
    | some (.int .u8) => some (.s2b a)
    | _ => none
  | some (.slice e), some .string => match P.underlying e with
    | some (.int .u8) => some (.b2s a)
    | _ => none
  | some (.slice _), some (.slice e) => match Nat.beq s d with
    | true => match P.underlying e with
      | some (.int .u8) => some (.mark a)
      | _ => none
    | false => none
  | _, _ => none

def keyT (P : Program) (t : TypeId) : Option (Bool × List Kd) := obind (flatK P 6 t) fun ks => obind (agT P t) fun g => some (g, ks)

def compBuiltin (P : Program) (b : Builtin) (args : List Operand) (ts : List TypeId) : Option XO :=
  match b, args, ts with
  | .len, [x], [t] => obind (copd x) fun a => match P.underlying t with
    | some .string => some (.lenS a)
    | some (.slice _) => some (.lenL a)
    | some (.map _ _) => some (.lenM a)
    | some (.array n _) => match Nat.ble n maxStr with
      | true => some (.lenK n)
      | false => none
    | some (.pointer e) => match P.underlying e with
      | some (.array n _) => match Nat.ble n maxStr with
        | true => some (.lenK n)
        | false => none
      | _ => none
    | _ => none
  | .cap, [x], [t] => obind (copd x) fun a => match P.underlying t with
    | some (.slice _) => some (.cap a)
    | _ => none
  | .append, [x, y], [t, u] => obind (copd x) fun a => obind (copd y) fun b => match P.underlying t, P.underlying u with
    | some (.slice e), some (.slice _) => obind (sizeT P e) fun s => obind (bytesT P e) fun n => obind (zerosT P e) fun _ => match s with | 0 => none | s + 1 => some (.append a b (s + 1) n)
    | some (.slice e), some .string => obind (sizeT P e) fun s => obind (bytesT P e) fun n => obind (zerosT P e) fun _ => match s with | 1 => some (.append a b 1 n) | _ => none
    | _, _ => none
  | .copy, [x, y], [t, _] => obind (copd x) fun a => obind (copd y) fun b => match P.underlying t with
    | some (.slice e) => obind (sizeT P e) fun s => match s with | 0 => none | s + 1 => some (.copy a b (s + 1))
    | _ => none
  | .clear, [x], [t] => obind (copd x) fun a => match P.underlying t with
    | some (.slice e) => obind (sizeT P e) fun s => obind (zerosT P e) fun z => match s with | 0 => none | s + 1 => some (.clrL a (s + 1) z)
    | some (.map _ _) => some (.clrM a)
    | _ => none
  | .min, [x, y], [t, _] => obind (copd x) fun a => obind (copd y) fun b => match P.underlying t with
    | some (.int _) => some (.min a b)
    | _ => none
  | .max, [x, y], [t, _] => obind (copd x) fun a => obind (copd y) fun b => match P.underlying t with
    | some (.int _) => some (.max a b)
    | _ => none
  | .delete, [m, k], [t, _] => obind (copd m) fun a => obind (copd k) fun b => match P.underlying t with
    | some (.map kt _) => obind (keyT P kt) fun k => some (.del k.1 k.2 a b)
    | _ => none
  | _, _, _ => none

def compOp (P : Program) : Op → Option XO
  | .move x | .assign x => obind (copd x) fun a => some (.mov a)
  | .pick c a b => obind (copd c) fun c => obind (copd a) fun a => obind (copd b) fun b => some (.pick c a b)
  | .alloc e => obind (zerosT P e) fun z => some (.alloc z)
  | .box e v => obind (copd v) fun a => obind (sizeT P e) fun s => some (.box a s)
  | .build t ps => obind (zerosT P t) fun z => match P.underlying t with
    | some (.struct fs) => match fs.toList.all fun f => (sizeT P f.type).isSome with
      | true => obind (cparts (fun i => obind (fs[i]?) fun f => obind (sizeT P f.type) fun s => some (f.offset, s)) ps.toList) fun ps => some (.build z ps)
      | false => none
    | some (.array _ e) => obind (sizeT P e) fun s => obind (cparts (fun i => some (i * s, s)) ps.toList) fun ps => some (.build z ps)
    | _ => none
  | .buildSlice t n ps => match P.underlying t with
    | some (.slice e) => obind (sizeT P e) fun s => obind (zerosT P e) fun z => match s with
      | 0 => none
      | s + 1 => match Nat.ble (n * (s + 1)) 16777216 with
        | true => obind (cparts (fun i => some (i * (s + 1), s + 1)) ps.toList) fun ps => some (.bslice n (s + 1) (rep n z) ps)
        | false => none
    | _ => none
  | .load t a => obind (copd a) fun a => obind (sizeT P t) fun s => obind (agT P t) fun g => some (.load a s g)
  | .store t a v => obind (copd a) fun a => obind (copd v) fun v => obind (sizeT P t) fun s => some (.store a v s)
  | .nilCheck x => obind (copd x) fun a => some (.nilchk a)
  | .binOp op t x y _ => compBin P op t x y
  | .unOp op _ x => obind (copd x) fun a => some (.un op a)
  | .convert s d x => compConv P s d x
  | .makeInterface t x => obind (copd x) fun a => match P.underlying t with
    | some (.interface _) => none
    | some _ => some (.mkif t a)
    | none => none
  | .makeFunc fn a b => obind (copds a.toList) fun a => obind (copds b.toList) fun b => some (.mkfunc fn a b)
  | .makeMap t r => match P.underlying t, r with
    | some (.map _ _), none => some .mkmap
    | _, _ => none
  | .makeSlice t l c => match P.underlying t with
    | some (.slice e) => obind (copd l) fun l => obind (copd c) fun c => obind (sizeT P e) fun s => obind (bytesT P e) fun n => obind (zerosT P e) fun z => match s with
      | 0 => none
      | s + 1 => some (.mkslice l c (s + 1) n z)
    | _ => none
  | .slice t x lo hi mx => obind (copd x) fun x => obind (copdo lo) fun lo => obind (copdo hi) fun hi => obind (copdo mx) fun mx => match P.underlying t with
    | some .string => match mx with
      | none => some (.slcS x lo hi)
      | some _ => none
    | some (.slice e) => obind (sizeT P e) fun s => match s with | 0 => none | s + 1 => match mx, hi with
      | some _, none => none
      | _, _ => some (.slcL x lo hi mx (s + 1))
    | some (.array n e) => obind (sizeT P e) fun s => match s with | 0 => none | s + 1 => match mx with
      | none => match Nat.ble n maxStr with
        | true => some (.slcA x lo hi n (s + 1))
        | false => none
      | some _ => none
    | _ => none
  | .fieldAddr t x f => obind (copd x) fun a => obind (cfields P t) fun fs => obind (fs[f]?) fun f => obind (sizeT P f.type) fun s => match s with
    | 0 => none
    | _ + 1 => some (.faddr a f.offset)
  | .field t x f => obind (copd x) fun a => obind (cfields P t) fun fs => obind (fs[f]?) fun f => obind (sizeT P f.type) fun s => obind (agT P f.type) fun g => some (.fld a f.offset s g)
  | .indexAddr t x i => obind (copd x) fun a => obind (copd i) fun i => match P.underlying t with
    | some (.slice e) => obind (sizeT P e) fun s => match s with | 0 => none | s + 1 => some (.iaddrS a i (s + 1))
    | some (.array n e) => obind (sizeT P e) fun s => match s with | 0 => none | s + 1 => some (.iaddrA a i n (s + 1))
    | _ => none
  | .index t x i => obind (copd x) fun a => obind (copd i) fun i => match P.underlying t with
    | some .string => some (.idxS a i)
    | some (.array n e) => obind (sizeT P e) fun s => obind (agT P e) fun g => some (.idxA a i n s g)
    | _ => none
  | .lookup t x i ok => obind (copd x) fun a => obind (copd i) fun k => match P.underlying t with
    | some (.map kt e) => obind (keyT P kt) fun q => obind (zeroT P e) fun z => some (.lookup q.1 q.2 a k z ok)
    | _ => none
  | .mapUpdate t m k v | .insert t m k v => obind (copd m) fun m => obind (copd k) fun k => obind (copd v) fun v => match P.underlying t with
    | some (.map kt _) => obind (keyT P kt) fun q => some (.mupd q.1 q.2 m k v)
    | _ => none
  | .range t x => obind (copd x) fun a => match P.underlying t with
    | some .string => some (.rngS a)
    | _ => none
  | .next it true => obind (copd it) fun a => some (.nextS a)
  | .typeAssert x _ t ok => obind (copd x) fun a => obind (zeroT P t) fun z => match P.underlying t with
    | some (.interface _) => none
    | some _ => some (.tas a t ok z)
    | none => none
  | .extract t i => obind (copd t) fun a => some (.ext a i)
  | .call c => match c.callee with
    | .builtin b => compBuiltin P b c.args.toList c.argTypes.toList
    | .value (.func f) => match P.funcs[f]? with
      | some fn => match fn.body with
        | some _ => obind (copds c.args.toList) fun as => some (.call f as)
        | none => obind (copds c.args.toList) fun as => extK fn as
      | none => none
    | .value x => obind (copd x) fun x => obind (copds c.args.toList) fun as => some (.callv x as)
    | .invoke r m => obind (copd r) fun r => obind (copds c.args.toList) fun as => some (.invoke r m as)
  | _ => none

def compOper (P : Program) (ops : Array Oper) (o : Oper) : XOper :=
  match o.guard with
  | none => ⟨o.dst, (compOp P o.op).getD .bad, none⟩
  | some (j, b) => match (ops[j]?).bind (·.dst) with
    | some s => ⟨o.dst, (compOp P o.op).getD .bad, some (s, b)⟩
    | none => ⟨o.dst, .bad, none⟩

def tmpsOf : List Operand → List Nat
  | [] => []
  | .tmp t :: r => t :: tmpsOf r
  | _ :: r => tmpsOf r
def looksOf (x : XOper) (o : Oper) : List Nat := match x.guard with
  | some (s, _) => s :: tmpsOf o.op.operands.toList
  | none => tmpsOf o.op.operands.toList
def memb (n : Nat) : List Nat → Bool
  | [] => false
  | a :: r => match Nat.beq n a with
    | true => true
    | false => memb n r
/-- Two operations that share no temporary, but for looking at it. -/
def apartB (x : Option Nat) (dx : XD) (y : Option Nat) (dy : XD) : Bool :=
  (match x with | some d => !memb d dy.looks | none => true) && (match y with | some d => !memb d dx.looks | none => true) &&
  (match x, y with | some d, some e => !Nat.beq d e | _, _ => true)
def pairsOk : Nat → List (Nat × Option Nat × XD) → List XOper → List XD → Bool
  | _, _, [], _ => true
  | _, _, _ :: _, [] => false
  | i, es, x :: r, d :: ds => (es.all fun e => d.preds.testBit e.1 || apartB e.2.1 e.2.2 x.dst d) && pairsOk (i + 1) ((i, x.dst, d) :: es) r ds
def downB : Nat → List Oper → Bool
  | _, [] => true
  | i, o :: r => (o.after.toList.all fun e => !Region.binds .any e || Nat.blt e.on i) && downB (i + 1) r

def zipD (ops : Array Oper) (P : Program) : List Oper → List Nat → List XD
  | o :: r, m :: ms => ⟨m, looksOf (compOper P ops o) o⟩ :: zipD ops P r ms
  | _, _ => []

def compCode (P : Program) : Code → Option XC
  | .skip => some .skip
  | .region _ ops draw => match draw with
    | false => some (.reg (ops.toList.map (compOper P ops)))
    | true =>
      let xs := ops.toList.map (compOper P ops)
      let ds := zipD ops P ops.toList (Region.before ops).toList
      match downB 0 ops.toList with
      | true => match pairsOk 0 [] xs ds with
        | true => some (.draw xs ds)
        | false => none
      | false => none
  | .seq a b => obind (compCode P a) fun a => obind (compCode P b) fun b => some (.seq a b)
  | .cond c a b => obind (copd c) fun c => obind (compCode P a) fun a => obind (compCode P b) fun b => some (.cond c a b)
  | .block i b => obind (compCode P b) fun b => some (.block i b)
  | .loop b => obind (compCode P b) fun b => some (.loop b)
  | .exit i => some (.exit i)
  | .ret => some .ret
  | .scope b => compCode P b
  | .label _ => some .skip
  | .refuse _ => some (.cond (.c .nilptr) .skip .skip)
  | _ => none

/-- Temporaries that a round of a loop leaves behind: all but the variables. -/
def deadOps : List Oper → List Nat
  | [] => []
  | o :: r => match o.dst, o.op with
    | some _, .assign _ => deadOps r
    | some d, _ => d :: deadOps r
    | none, _ => deadOps r
def dstsOf : List Oper → List Nat
  | [] => []
  | o :: r => match o.dst with
    | some d => d :: dstsOf r
    | none => dstsOf r
def deadOf : Code → List Nat
  | .region _ ops _ => deadOps ops.toList
  | .seq a b | .cond _ a b => deadOf a ++ deadOf b
  | .block _ b | .loop b | .scope b => deadOf b
  | _ => []
def splitLast : List Oper → Option (List Oper × Oper)
  | [] => none
  | [o] => some ([], o)
  | o :: r => match splitLast r with
    | some (a, l) => some (o :: a, l)
    | none => none
/-- A range over a map: from its operation to the loop's end. -/
def mpat (P : Program) : Code → Code → Option XC
  | .region _ opsA false, .block id0 (.loop (.seq (.region _ r1 false) (.seq (.cond (.tmp ok) .skip (.exit idx)) (.block id1 (.seq (.region _ r2 false) body))))) =>
    match splitLast opsA.toList, r1.toList, r2.toList with
    | some (pre, ⟨some it, .range t m, _, _, _, none⟩), [⟨some nx, .next (.tmp it1) false, _, _, _, none⟩, ⟨some ok1, .extract (.tmp nx1) 0, _, _, _, none⟩], ⟨some en, .entry (.tmp it2), _, _, _, none⟩ :: rest =>
      match Nat.beq it it1 && Nat.beq it it2 && Nat.beq nx nx1 && Nat.beq ok ok1 && Nat.beq id0 idx && !Nat.beq id0 id1 && !Nat.beq nx it && !Nat.beq ok it && !Nat.beq en it && !Nat.beq ok nx, P.underlying t with
      | true, some (.map _ _) => obind (copd m) fun m => obind (compCode P body) fun body' =>
        some (.seq (.reg (pre.map (compOper P opsA))) (.mrange m it (nx :: ok :: en :: dstsOf rest ++ deadOf body) en 100000 id1 (rest.map (compOper P r2)) body'))
      | _, _ => none
    | _, _, _ => none
  | _, _ => none
/-- A function's body: as 'compCode', and ranges over maps. -/
def compTop (P : Program) : Code → Option XC
  | .seq a b => match mpat P a b with
    | some x => some x
    | none => obind (compTop P a) fun a => obind (compTop P b) fun b => some (.seq a b)
  | c => compCode P c

/-- Each destination is a temporary of the function. -/
def dstOk (nt : Nat) : XC → Bool
  | .mrange _ it D en _ _ rest body => Nat.blt it nt && Nat.blt en nt && (D.all fun d => Nat.blt d nt) && (rest.all fun o => match o.dst with | some d => Nat.blt d nt | none => true) && dstOk nt body
  | .reg ops | .draw ops _ => ops.all fun o => match o.dst with | some d => Nat.blt d nt | none => true
  | .seq a b | .cond _ a b => dstOk nt a && dstOk nt b
  | .block _ b | .loop b => dstOk nt b
  | _ => true

def compRes (P : Program) : ResultVar → Option XR
  | .tmp t => some (.t t)
  | .cell a t => obind (sizeT P t) fun s => obind (agT P t) fun g => some (.cell a s g)
def compRess (P : Program) : List ResultVar → Option (List XR)
  | [] => some []
  | r :: rs => match compRes P r, compRess P rs with
    | some x, some xs => some (x :: xs)
    | _, _ => none

def compF (P : Program) (fn : Func) : Option XF :=
  obind fn.body fun b => obind (compTop P b) fun b => obind (compRess P fn.results.toList) fun rs =>
  match dstOk fn.ntmps b && Nat.ble (fn.params.size + fn.nfree) fn.ntmps with
  | true => some ⟨fn.params.size + fn.nfree, fn.ntmps, b, rs⟩
  | false => none
end Go.Sy

/- Numbers and constants: what the resolved machine reckons is what the model reckons. No condition. -/
namespace Go.Sy

theorem ksame_eq {a b : IntKind} (h : ksame a b = true) : a = b := by cases a <;> cases b <;> first | rfl | (simp [ksame] at h)

theorem wrap_in (k : IntKind) (n : Int) (h : has k n) : k.wrap n = n := by
  obtain ⟨h1, h2⟩ := h
  cases k <;> simp [IntKind.min, IntKind.max, IntKind.signed, IntKind.bits] at h1 h2 <;> simp [IntKind.wrap, IntKind.bits, IntKind.signed] <;> omega
theorem wrap_has (k : IntKind) (n : Int) : has k (k.wrap n) := by
  cases k <;> simp [has, IntKind.min, IntKind.max, IntKind.wrap, IntKind.bits, IntKind.signed] <;> omega
theorem inr_has {k : IntKind} {n : Int} (h : inr k n = true) : has k n := by
  cases k <;> cases n <;> simp [inr, has, IntKind.min, IntKind.max, IntKind.signed, IntKind.bits] at h ⊢ <;> omega
theorem bif_wrap (k : IntKind) (n : Int) (b : Bool) (h : b = true → inr k n = true) : cond b n (k.wrap n) = k.wrap n := by
  cases b with
  | false => rfl
  | true => exact (wrap_in _ _ (inr_has (h rfl))).symm
theorem wrapx_eq (k : IntKind) (n : Int) : wrapx k n = k.wrap n := by
  cases n with
  | ofNat m => cases k <;> simp only [wrapx] <;> exact bif_wrap _ _ _ fun h => h
  | negSucc m => cases k <;> simp only [wrapx] <;> exact bif_wrap _ _ _ fun h => h
theorem wrapx_has (k : IntKind) (n : Int) : has k (wrapx k n) := wrapx_eq k n ▸ wrap_has k n

theorem cavs_sound {E : Env} {w : World} {f : Value → Option AV} (hf : ∀ v a, f v = some a → VR E w a v) : ∀ {l : List Value} {as : List AV}, cavs f l = some as → VRs E w as l
  | [], as, h => by simp [cavs] at h; subst h; exact VRs.nil
  | v :: r, as, h => by
    simp only [cavs] at h
    split at h
    · rename_i a ha
      split at h
      · rename_i as' has'
        cases h
        exact VRs.cons (hf _ _ ha) (cavs_sound hf has')
      · cases h
    · cases h

theorem cav_sound {E : Env} {w : World} : ∀ {d : Nat} {v : Value} {a : AV}, cav d v = some a → VR E w a v
  | 0, _, _, h => by simp [cav] at h
  | d + 1, v, a, h => by
    unfold cav at h
    split at h
    · cases h; exact .bool _
    · split at h
      · rename_i hr; cases h; exact .int _ _ (inr_has hr)
      · cases h
    · split at h
      · rename_i hr; cases h; exact .str _ _ rfl (by simpa using hr)
      · cases h
    · cases h; exact .nilptr
    · cases h; exact .nilslice
    · cases h; exact .nilmap
    · cases h; exact .nilfunc
    · cases h; exact .niliface
    · split at h
      · rename_i ha hb
        cases h
        exact .func _ _ _ _ _ (by rw [← Array.length_toList, ha]; rfl) (by rw [← Array.length_toList, hb]; rfl) (fun i x v hx => by simp at hx) (fun i x v hx => by simp at hx)
      · cases h
    · split at h
      · rename_i l hl
        split at h
        · rename_i hone
          cases h
          have hs : VRs E w l _ := cavs_sound (fun v a => cav_sound (d := d)) hl
          refine VR.mk_agg hs fun v hv => ?_
          obtain ⟨i, hi⟩ := List.getElem?_of_mem hv
          have hlt : i < l.length := by
            rw [hs.1]
            exact (List.getElem?_eq_some_iff.1 hi).1
          have hx : l[i]? = some l[i] := List.getElem?_eq_getElem hlt
          exact (hs.2 i _ v hx hi).oneCell (List.all_eq_true.1 hone _ (List.getElem_mem hlt))
        · cases h
      · cases h
    · cases h
end Go.Sy

/- Operations that touch no memory: what the resolved machine does is what the model does. No condition. -/
namespace Go.Sy

structure FrR (E : Env) (w : World) (fr : Fr) (a : Act) (nt : Nat) : Prop where
  size : a.tmps.size = nt
  get : ∀ t v, fr.get t = some v → VR E w v (a.tmps.getD t undef)

def GR (G : Cx) (E : Env) (w : World) : Prop := ∀ g v, G.glob g = some v → VR E w v (.pointer (some ⟨g, 0, none⟩))

/-- What one operation gives: a value (or nothing), and the new state. -/
def Done (P : Program) (E : Env) (H : Heap) (w : World) (nx : Nat) (s : Sem Next) (v : AV) (H' : Heap) (nx' : Nat) : Prop :=
  ∃ cv E' w', HR E' H' w' ∧ Tr E H w E' H' w' nx nx' ∧ VR E' w' v cv ∧ (s.run P w = .ok (.value cv) w' ∨ (s.run P w = .ok .skip w' ∧ cv = undef))

theorem Done.pure {P : Program} {E : Env} {H : Heap} {w : World} {nx : Nat} {s : Sem Next} {v : AV} {cv : Value} (hr : HR E H w)
    (h : s.run P w = .ok (.value cv) w) (hv : VR E w v cv) : Done P E H w nx s v H nx :=
  ⟨cv, E, w, hr, .refl nx, hv, .inl h⟩

section
variable {P : Program} {G : Cx} {E : Env} {w : World} {fr : Fr} {a : Act} {nt : Nat}

theorem copd_sound (hf : FrR E w fr a nt) (hg : GR G E w) {x : Operand} {y : XV} {v : AV} (hc : copd x = some y) (he : y.ev G fr = some v) : VR E w v (a.eval x) := by
  cases x with
  | tmp t => simp [copd] at hc; subst hc; exact hf.get t v he
  | const c =>
    simp only [copd] at hc
    split at hc
    · rename_i b hb
      cases hc
      simp only [XV.ev, Option.some.injEq] at he
      subst he
      exact cav_sound hb
    · cases hc
  | global g => simp [copd] at hc; subst hc; exact hg g v he
  | func f =>
    simp [copd] at hc
    subst hc
    simp only [XV.ev, Option.some.injEq] at he
    subst he
    exact .func _ _ _ _ _ rfl rfl (fun i x v hx => by simp at hx) (fun i x v hx => by simp at hx)

theorem copds_sound (hf : FrR E w fr a nt) (hg : GR G E w) : ∀ {xs : List Operand} {ys : List XV} {vs : List AV}, copds xs = some ys → evs G fr ys = some vs → VRs E w vs (xs.map a.eval)
  | [], ys, vs, hc, he => by
    simp [copds] at hc; subst hc
    simp [evs] at he; subst he
    exact VRs.nil
  | x :: r, ys, vs, hc, he => by
    simp only [copds] at hc
    split at hc
    · rename_i y s hy hs
      cases hc
      simp only [evs] at he
      split at he
      · rename_i v hv
        split at he
        · rename_i vs' hvs
          cases he
          exact VRs.cons (copd_sound hf hg hy hv) (copds_sound hf hg hs hvs)
        · cases he
      · cases he
    · cases hc

theorem VR.of_bool {b : Bool} {cv : Value} (h : VR E w (.bool b) cv) : cv = .bool b := by cases h; rfl
theorem VR.of_int {k : IntKind} {n : Int} {cv : Value} (h : VR E w (.int k n) cv) : cv = .int k n ∧ has k n := by cases h; exact ⟨rfl, by assumption⟩
theorem VR.of_str {l : List Nat} {cv : Value} (h : VR E w (.str l) cv) : ∃ s : ByteArray, cv = .string s ∧ s.data.toList.map UInt8.toNat = l ∧ l.length ≤ maxStr := by
  cases h with | str _ s h hl => exact ⟨s, rfl, h, hl⟩
theorem VR.of_nilptr {cv : Value} (h : VR E w .nilptr cv) : cv = .pointer none := by cases h; rfl
theorem VR.of_ptr {x o : Nat} {cv : Value} (h : VR E w (.ptr x o) cv) : cv = .pointer (some ⟨E.ρ x, o, none⟩) ∧ E.D x := by cases h; exact ⟨rfl, by assumption⟩
theorem VR.of_eptr {e : AV} {o : Nat} {cv : Value} (h : VR E w (.eptr e o) cv) : ∃ b c u, cv = .pointer (some ⟨b, c + o, none⟩) ∧ e.flat = true ∧ E.Z b ∧ VR E w e u ∧ ∀ (j : Nat) x, u.cells[j]? = some x → w.cell? ⟨b, c + j, none⟩ = some x := by
  cases h with | eptr _ _ b c u hfl hz hv hc => exact ⟨b, c, u, rfl, hfl, hz, hv, hc⟩

theorem str_len {s : ByteArray} {l : List Nat} (h : s.data.toList.map UInt8.toNat = l) : s.size = l.length := by
  subst h
  rw [List.length_map, Array.length_toList]
  rfl

theorem seqb_map : ∀ (a b : List UInt8), seqb (a.map UInt8.toNat) (b.map UInt8.toNat) = (a == b)
  | [], [] => rfl
  | [], b :: y => rfl
  | a :: x, [] => rfl
  | a :: x, b :: y => by
    simp only [List.map_cons, seqb]
    have ih := seqb_map x y
    split
    · rename_i h
      have : a = b := UInt8.toNat_inj.1 (nbeq_true h)
      subst this
      rw [ih]; simp
    · rename_i h
      have : a ≠ b := fun e => nbeq_false h (by rw [e])
      symm
      simp [this]
set_option maxRecDepth 2000 in
theorem slt_map : ∀ (a b : List UInt8), slt (a.map UInt8.toNat) (b.map UInt8.toNat) = Op.bytesLess a b
  | _, [] => by simp [slt, Op.bytesLess]
  | [], b :: y => by simp [slt, Op.bytesLess]
  | a :: x, b :: y => by
    simp only [List.map_cons, slt, Op.bytesLess]
    have ih := slt_map x y
    rcases Nat.lt_trichotomy a.toNat b.toNat with h | h | h
    · have h1 : Nat.blt a.toNat b.toNat = true := by rw [Nat.blt_eq]; exact h
      have h2 : a < b := UInt8.lt_iff_toNat_lt.2 h
      simp [h1, h2]
    · have e : a = b := UInt8.toNat_inj.1 h
      subst e
      have h1 : Nat.blt a.toNat a.toNat = false := by rw [Bool.eq_false_iff]; intro hh; exact Nat.lt_irrefl _ (Nat.blt_eq ▸ hh)
      simp [h1, ih]
    · have h1 : Nat.blt a.toNat b.toNat = false := by rw [Bool.eq_false_iff]; intro hh; rw [Nat.blt_eq] at hh; omega
      have h2 : ¬ a < b := fun hh => by have := UInt8.lt_iff_toNat_lt.1 hh; omega
      have h3 : a ≠ b := fun e => by rw [e] at h; omega
      have h4 : Nat.beq a.toNat b.toNat = false := by rw [Bool.eq_false_iff]; intro hh; have := nbeq_true hh; omega
      simp [h1, h2, h3, h4]

theorem str_eq {a b : ByteArray} {l m : List Nat} (ha : a.data.toList.map UInt8.toNat = l) (hb : b.data.toList.map UInt8.toNat = m) : (a.toList == b.toList) = seqb l m := by
  subst ha; subst hb
  rw [seqb_map, ByteArray.toList_eq, ByteArray.toList_eq]
theorem str_lt {a b : ByteArray} {l m : List Nat} (ha : a.data.toList.map UInt8.toNat = l) (hb : b.data.toList.map UInt8.toNat = m) : Op.bytesLess a.toList b.toList = slt l m := by
  subst ha; subst hb
  rw [slt_map, ByteArray.toList_eq, ByteArray.toList_eq]

theorem tmod_has (k : IntKind) (a b : Int) (ha : has k a) : has k (a.tmod b) := by
  obtain ⟨h1, h2⟩ := ha
  have h3 : (a.tmod b).natAbs ≤ a.natAbs := by rw [Int.natAbs_tmod]; exact Nat.mod_le _ _
  rcases Int.le_total 0 a with h0 | h0
  · have h4 : 0 ≤ a.tmod b := Int.tmod_nonneg _ h0
    constructor
    · have : k.min ≤ 0 := by cases k <;> simp [IntKind.min, IntKind.signed, IntKind.bits]
      omega
    · omega
  · have h4 : a.tmod b ≤ 0 := by
      have := Int.tmod_nonneg (b := b) (a := -a) (by omega)
      rw [Int.neg_tmod] at this
      omega
    constructor
    · omega
    · have : 0 ≤ k.max := by cases k <;> simp [IntKind.max, IntKind.signed, IntKind.bits]
      omega

theorem fdiv_has (k : IntKind) (a : Int) (n : Nat) (ha : has k a) : has k (a.fdiv (2 ^ n)) := by
  obtain ⟨h1, h2⟩ := ha
  have hp : (0 : Int) < 2 ^ n := by exact_mod_cast Nat.two_pow_pos n
  have hlo : k.min ≤ 0 := by cases k <;> simp [IntKind.min, IntKind.signed, IntKind.bits]
  have hhi : 0 ≤ k.max := by cases k <;> simp [IntKind.max, IntKind.signed, IntKind.bits]
  rw [Int.fdiv_eq_ediv_of_nonneg _ (Int.le_of_lt hp)]
  rcases Int.le_total 0 a with h0 | h0
  · have := Int.ediv_nonneg h0 (Int.le_of_lt hp)
    have := Int.ediv_le_self (2 ^ n) h0
    constructor <;> omega
  · have h3 : a / 2 ^ n ≤ 0 := by
      have := Int.ediv_le_ediv hp h0
      simpa using this
    have h4 : a ≤ a / 2 ^ n := by
      apply (Int.le_ediv_iff_mul_le hp).2
      have : (1 : Int) ≤ 2 ^ n := hp
      have : a * 2 ^ n ≤ a * 1 := Int.mul_le_mul_of_nonpos_left h0 this
      omega
    constructor <;> omega

theorem ok_int {s : Sem Value} {k : IntKind} {z : Int} (h : s.run P w = .ok (.int k z) w) (hz : has k z) : ∃ cv, s.run P w = .ok cv w ∧ VR E w (.int k z) cv := ⟨_, h, .int _ _ hz⟩
theorem ok_wrap {s : Sem Value} {k : IntKind} {z : Int} (h : s.run P w = .ok (.int k (k.wrap z)) w) : ∃ cv, s.run P w = .ok cv w ∧ VR E w (.int k (wrapx k z)) cv :=
  ⟨_, h, by rw [wrapx_eq]; exact .int _ _ (wrap_has _ _)⟩
theorem ok_bool {s : Sem Value} {b : Bool} (h : s.run P w = .ok (.bool b) w) : ∃ cv, s.run P w = .ok cv w ∧ VR E w (.bool b) cv := ⟨_, h, .bool _⟩

theorem bin_sound {op : BinOp} {t : TypeId} {x y : AV} {cx cy : Value} {v : AV} (hx : VR E w x cx) (hy : VR E w y cy) (h : xbin op x y = some v)
    :
    ∃ cv, (binOp op t cx cy).run P w = .ok cv w ∧ VR E w v cv := by
  unfold xbin at h
  split at h
  · -- numbers
    rename_i k m k' n
    obtain ⟨rfl, hm⟩ := hx.of_int
    obtain ⟨rfl, hn⟩ := hy.of_int
    split at h
    · split at h
      · cases h
      · rename_i hb
        cases h
        have hb' : ¬ n < 0 := by simpa using hb
        exact ⟨.int k (k.wrap (m * 2 ^ (min n.toNat k.bits))), by simp [binOp, Op.shift, hb'], by rw [wrapx_eq]; exact .int _ _ (wrap_has _ _)⟩
    · split at h
      · cases h
      · rename_i hb
        cases h
        have hb' : ¬ n < 0 := by simpa using hb
        exact ⟨.int k (m.fdiv (2 ^ (min n.toNat k.bits))), by simp [binOp, Op.shift, hb'], .int _ _ (fdiv_has _ _ _ hm)⟩
    · rename_i hop1 hop2
      split at h
      · cases h
      · rename_i hk
        have := ksame_eq hk
        subst this
        split at h
        · cases h; exact ok_wrap (by simp [binOp, Op.intArith])
        · cases h; exact ok_wrap (by simp [binOp, Op.intArith])
        · cases h; exact ok_wrap (by simp [binOp, Op.intArith])
        · split at h
          · cases h
          · rename_i hb
            cases h
            have hb' : ¬ n = 0 := by simpa using hb
            exact ok_wrap (by simp [binOp, Op.intDiv, hb'])
        · split at h
          · cases h
          · rename_i hb
            cases h
            have hb' : ¬ n = 0 := by simpa using hb
            exact ok_int (by simp [binOp, Op.intDiv, hb']) (tmod_has _ _ _ hm)
        · cases h; exact ok_int (by simp [binOp, Op.intBits]) (wrap_has _ _)
        · cases h; exact ok_int (by simp [binOp, Op.intBits]) (wrap_has _ _)
        · cases h; exact ok_int (by simp [binOp, Op.intBits]) (wrap_has _ _)
        · cases h; exact ok_int (by simp [binOp, Op.intBits]) (wrap_has _ _)
        · cases op <;> simp_all [xcmp] <;> (subst h; exact ok_bool (by simp [binOp, Op.intCmp]))
  · -- strings
    rename_i l m
    obtain ⟨s, rfl, hs, hsl⟩ := hx.of_str
    obtain ⟨u, rfl, hu, hul⟩ := hy.of_str
    have e1 := str_eq hs hu
    have e2 := str_lt hs hu
    have l1 := str_len hs
    have l2 := str_len hu
    cases op with
    | add =>
      simp only at h
      split at h
      · rename_i hle
        cases h
        have hle' : l.length + m.length ≤ maxStr := Nat.le_of_ble_eq_true hle
        refine ⟨.string (s ++ u), ?_, .str _ _ (by rw [← hs, ← hu]; simp) (by simpa using hle')⟩
        have : ¬ (((s.size + u.size : Nat) : Int) > IntKind.i64.max) := by
          rw [l1, l2]
          have : IntKind.i64.max = 9223372036854775807 := rfl
          unfold maxStr at hle'
          omega
        simp only [binOp, Op.stringOp, this, if_false]
        rfl
      · cases h
    | eql => cases h; exact ok_bool (by simp [binOp, Op.stringOp, e1])
    | neq => cases h; exact ok_bool (by simp [binOp, Op.stringOp, e1])
    | lss => cases h; exact ok_bool (by simp [binOp, Op.stringOp, e2])
    | leq => cases h; exact ok_bool (by simp [binOp, Op.stringOp, e1, e2])
    | gtr => cases h; exact ok_bool (by simp [binOp, Op.stringOp, e1, e2])
    | geq => cases h; exact ok_bool (by simp [binOp, Op.stringOp, e2])
    | _ => cases h
  · cases h
end
end Go.Sy

/- More operations that touch no memory. No condition. -/
namespace Go.Sy
section
variable {P : Program} {G : Cx} {E : Env} {w : World}

theorem obind_some {α β : Type} {x : Option α} {f : α → Option β} {b : β} (h : obind x f = some b) : ∃ a, x = some a ∧ f a = some b := by
  cases x with
  | none => cases h
  | some a => exact ⟨a, rfl, h⟩

theorem run_typeInfo' {t : TypeId} {i : TypeInfo} (h : P.info? t = some i) : (typeInfo t).run P w = .ok i w := by simp [typeInfo, h]
theorem run_size {t : TypeId} {n : Nat} (h : sizeT P t = some n) : (sizeOf t).run P w = .ok n w := by
  unfold sizeT at h
  cases hi : P.info? t with
  | none => simp [hi] at h
  | some i => simp [hi] at h; simp [sizeOf, typeInfo, hi, h]
theorem run_isAgg {t : TypeId} {b : Bool} (h : agT P t = some b) : (isAgg t).run P w = .ok b w := by
  unfold agT at h
  cases hu : P.underlying t with
  | none => simp [hu] at h
  | some d =>
    simp only [hu] at h
    cases d <;> simp at h <;> subst h <;> simp [isAgg, run_underlying hu]

theorem array_extract {α : Type} (c : Array α) (a n : Nat) : (c.extract a (a + n)).toList = (c.toList.drop a).take n := by
  rw [Array.toList_extract, List.extract_eq_take_drop]
  congr 1
  omega

theorem part_sound {cs : List AV} {vs : Array Value} (hs : VRs E w cs vs.toList) (h1 : ∀ v ∈ vs.toList, v.oneCell' = true) {t : TypeId} {off sz : Nat} {ag : Bool} {v : AV}
    (hsz : sizeT P t = some sz) (hag : agT P t = some ag) (h : part cs off sz ag = some v) : ∃ cv, (Go.part t vs off).run P w = .ok cv w ∧ VR E w v cv := by
  unfold part at h
  cases ag with
  | true =>
    simp only at h
    split at h
    · cases h
      refine ⟨.agg (vs.extract off (off + sz)), by simp [Go.part, run_isAgg hag, run_size hsz], ?_⟩
      have e := array_extract vs off sz
      refine VR.mk_agg ?_ ?_
      · rw [e]; exact hs.extract off sz
      · rw [e]
        intro u hu
        exact h1 u (List.mem_of_mem_drop (List.mem_of_mem_take hu))
    · cases h
  | false =>
    obtain ⟨u, hu, hv⟩ := hs.getElem? h
    refine ⟨u, ?_, hv⟩
    have : vs[off]? = some u := by rw [← Array.getElem?_toList]; exact hu
    simp [Go.part, run_isAgg hag, this]

theorem un_sound {op : UnOp} {x : AV} {cx : Value} {v : AV} (hx : VR E w x cx) (h : xun op x = some v) : ∃ cv, (Op.unary op cx).run P w = .ok cv w ∧ VR E w v cv := by
  unfold xun at h
  split at h
  · rename_i k n
    obtain ⟨rfl, hn⟩ := hx.of_int
    split at h
    · cases h; exact ok_wrap (by simp [Op.unary, Op.intArith])
    · cases h
      exact ok_int (by simp [Op.unary, Op.intBits, Nat.xor_comm]) (wrap_has _ _)
    · cases h
  · obtain rfl := hx.of_bool
    split at h
    · cases h; exact ok_bool (by simp [Op.unary])
    · cases h
  · cases h

/-- Comparing what is no struct asks for no guard, but for two nils of an interface type. -/
theorem guard_eql {t : TypeId} {ox oy : Operand} {cx cy : Value} (h1 : ∀ u, cx ≠ .agg u) (h2 : cx = .nilIface → cy = .nilIface → (isConstO ox || isConstO oy) = true) :
    (eqGuard .eql t ox oy cx cy).run P w = .ok () w := by
  cases cx <;> first
    | (exact absurd rfl (h1 _))
    | (simp only [eqGuard]; rfl)
    | (cases cy <;> first
        | (simp only [eqGuard]; rfl)
        | (have := h2 rfl rfl; cases ox <;> cases oy <;> first | (simp [isConstO] at this; done) | (simp [eqGuard]; done)))
theorem guard_neq {t : TypeId} {ox oy : Operand} {cx cy : Value} (h1 : ∀ u, cx ≠ .agg u) (h2 : cx = .nilIface → cy = .nilIface → (isConstO ox || isConstO oy) = true) :
    (eqGuard .neq t ox oy cx cy).run P w = .ok () w := by
  cases cx <;> first
    | (exact absurd rfl (h1 _))
    | (simp only [eqGuard]; rfl)
    | (cases cy <;> first
        | (simp only [eqGuard]; rfl)
        | (have := h2 rfl rfl; cases ox <;> cases oy <;> first | (simp [isConstO] at this; done) | (simp [eqGuard]; done)))

theorem VR.slice_some {sz : Nat} {es : List AV} {e : AV} {cv : Value} (h : VR E w (.lst sz (e :: es)) cv) : ∃ a n c, cv = .slice (some a) n c := by
  cases h with | lst _ b o cap sz f => exact ⟨_, _, _, rfl⟩
theorem VR.row_some {h o l s c : Nat} {x : Bool} {cv : Value} (h : VR E w (.row h o l s c x) cv) : ∃ a n c, cv = .slice (some a) n c := by
  cases h <;> exact ⟨_, _, _, rfl⟩
theorem VR.func_some {f : Fn} {a b : List AV} {cv : Value} (h : VR E w (.func f a b) cv) : ∃ u v, cv = .func f u v := by
  cases h; exact ⟨_, _, rfl⟩

theorem equalIn_slice {d : Nat} {x y : AV} {cx cy : Value} {b : Bool} {t e : TypeId} (hx : VR E w x cx) (hy : VR E w y cy) (h : xseq x y = some b)
    (ht : P.underlying t = some (.slice e)) : (Op.equalIn (d + 1) t cx cy).run P w = .ok b w := by
  unfold xseq at h
  split at h
  · cases h; cases hx; cases hy; simp [Op.equalIn, run_underlying ht]
  · cases h; cases hx; obtain ⟨_, _, _, rfl⟩ := hy.row_some; simp [Op.equalIn, run_underlying ht]
  · cases h; cases hy; obtain ⟨_, _, _, rfl⟩ := hx.row_some; simp [Op.equalIn, run_underlying ht]
  · cases h; cases hx; obtain ⟨_, _, _, rfl⟩ := hy.slice_some; simp [Op.equalIn, run_underlying ht]
  · cases h; cases hy; obtain ⟨_, _, _, rfl⟩ := hx.slice_some; simp [Op.equalIn, run_underlying ht]
  · cases h
theorem equalIn_map {d : Nat} {x y : AV} {cx cy : Value} {b : Bool} {t k e : TypeId} (hx : VR E w x cx) (hy : VR E w y cy) (h : xmeq x y = some b)
    (ht : P.underlying t = some (.map k e)) : (Op.equalIn (d + 1) t cx cy).run P w = .ok b w := by
  unfold xmeq at h
  split at h
  · cases h; cases hx; cases hy; simp [Op.equalIn, run_underlying ht]
  · cases h; cases hx; cases hy; simp [Op.equalIn, run_underlying ht]
  · cases h; cases hx; cases hy; simp [Op.equalIn, run_underlying ht]
  · cases h
theorem equalIn_func {d : Nat} {x y : AV} {cx cy : Value} {b : Bool} {t : TypeId} {p r : Array TypeId} {vd : Bool} (hx : VR E w x cx) (hy : VR E w y cy) (h : xfeq x y = some b)
    (ht : P.underlying t = some (.func p r vd)) : (Op.equalIn (d + 1) t cx cy).run P w = .ok b w := by
  unfold xfeq at h
  split at h
  · cases h; cases hx; cases hy; simp [Op.equalIn, run_underlying ht]
  · cases h; cases hx; obtain ⟨_, _, rfl⟩ := hy.func_some; simp [Op.equalIn, run_underlying ht]
  · cases h; cases hy; obtain ⟨_, _, rfl⟩ := hx.func_some; simp [Op.equalIn, run_underlying ht]
  · cases h
end
end Go.Sy

/- Comparing plain structs, and keys of maps. No condition. -/
namespace Go.Sy
section
variable {P : Program} {E : Env} {w : World}

def KindT (P : Program) (t : TypeId) : Kd → Prop
  | .b => P.underlying t = some .bool
  | .i => ∃ q, P.underlying t = some (.int q)
  | .s => P.underlying t = some .string

theorem eqb_sound {d : Nat} {k : Kd} {x y : AV} {cx cy : Value} {b : Bool} {t : TypeId} (hx : VR E w x cx) (hy : VR E w y cy) (h : eqb k x y = some b) (ht : KindT P t k) : (Op.equalIn (d + 1) t cx cy).run P w = .ok b w := by
  unfold eqb at h
  split at h
  · cases h
    obtain rfl := hx.of_bool
    obtain rfl := hy.of_bool
    exact run_equalIn_bool w d t _ _ ht
  · split at h
    · rename_i hk
      cases h
      have := ksame_eq hk
      subst this
      obtain ⟨rfl, _⟩ := hx.of_int
      obtain ⟨rfl, _⟩ := hy.of_int
      obtain ⟨q, hq⟩ := ht
      exact run_equalIn_int w d t _ q _ _ hq
    · cases h
  · cases h
    obtain ⟨s, rfl, hs, _⟩ := hx.of_str
    obtain ⟨u, rfl, hu, _⟩ := hy.of_str
    rw [run_equalIn_string w d t _ _ ht, str_eq hs hu]
  · cases h

theorem kindT_spec {t : TypeId} {k : Kd} (h : kindT P t = some k) : ∃ i, P.info? t = some i ∧ i.comparable = true ∧ KindT P t k := by
  unfold kindT at h
  split at h
  · rename_i i hi
    split at h
    · rename_i hc
      refine ⟨i, hi, hc, ?_⟩
      split at h
      · rename_i hu; cases h; exact hu
      · rename_i q hu; cases h; exact ⟨q, hu⟩
      · rename_i hu; cases h; exact hu
      · cases h
    · cases h
  · cases h
theorem equalIn_iface {d : Nat} {lit : Bool} {x y : AV} {cx cy : Value} {b : Bool} {t : TypeId} {ms : Array (String × TypeId)} (hx : VR E w x cx) (hy : VR E w y cy) (h : xieq lit (kindT P) x y = some b)
    (ht : P.underlying t = some (.interface ms)) : (Op.equalIn (d + 2) t cx cy).run P w = .ok b w := by
  unfold xieq at h
  split at h
  · split at h
    · cases h; cases hx; cases hy
      simp [Op.equalIn, run_underlying ht]
    · cases h
  · cases h; cases hx; cases hy
    simp [Op.equalIn, run_underlying ht]
  · cases h; cases hx; cases hy
    simp [Op.equalIn, run_underlying ht]
  · rename_i t1 p u1 q
    cases hx with
    | iface _ _ cp hp =>
      cases hy with
      | iface _ _ cq hq =>
        split at h
        · rename_i hne
          cases h
          have hne' := nbeq_false hne
          unfold Op.equalIn
          simp [run_underlying ht, hne']
        · rename_i he
          have := nbeq_true he
          subst this
          split at h
          · rename_i k hk
            obtain ⟨i, h1, h2, h3⟩ := kindT_spec hk
            have h4 := eqb_sound (d := d) hp hq h h3
            unfold Op.equalIn
            simp [run_underlying ht, run_typeInfo' h1, h2, h4]
          · cases h
  · cases h

theorem eqb_one {k : Kd} {x y : AV} {b : Bool} (h : eqb k x y = some b) : x.one = true ∧ y.one = true := by
  unfold eqb at h
  split at h <;> first | exact ⟨rfl, rfl⟩ | cases h

/-- Comparing runs of cells one behind the other. -/
theorem eqbs_append : ∀ {ks ls : List Kd} {x y : List AV} {b : Bool}, eqbs (ks ++ ls) x y = some b →
    ∃ c, eqbs ks (x.take ks.length) (y.take ks.length) = some c ∧ (c = false → b = false) ∧ (c = true → eqbs ls (x.drop ks.length) (y.drop ks.length) = some b)
  | [], ls, x, y, b, h => ⟨true, by simp [eqbs], (fun h => by cases h), fun _ => by simpa using h⟩
  | k :: ks, ls, x, y, b, h => by
    cases x with
    | nil => simp [eqbs] at h
    | cons a x =>
      cases y with
      | nil => simp [eqbs] at h
      | cons c y =>
        simp only [List.cons_append, eqbs] at h
        simp only [List.length_cons, List.take_succ_cons, List.drop_succ_cons, eqbs]
        cases he : eqb k a c with
        | none => simp [he] at h
        | some r =>
          cases r with
          | true => simp only [he] at h; exact eqbs_append h
          | false =>
            simp only [he] at h
            cases h
            exact ⟨false, rfl, fun _ => rfl, (fun h => by cases h)⟩

/-- A value of so many cells, as a struct or the one cell. -/
def shaped (P : Program) (t : TypeId) (vs : List Value) (v : Value) : Prop :=
  (agT P t = some true ∧ v = .agg vs.toArray) ∨ (agT P t = some false ∧ vs = [v])

theorem part_shaped {xs : Array Value} {t : TypeId} {off sz : Nat} {g : Bool} (hg : agT P t = some g) (hs : sizeT P t = some sz) (hone : g = false → sz = 1) (hl : off + sz ≤ xs.size) :
    ∃ v, (Go.part t xs off).run P w = .ok v w ∧ shaped P t ((xs.toList.drop off).take sz) v := by
  cases g with
  | true =>
    refine ⟨.agg (xs.extract off (off + sz)), by simp [Go.part, run_isAgg hg, run_size hs], .inl ⟨hg, ?_⟩⟩
    rw [← array_extract]
  | false =>
    have := hone rfl
    subst this
    have hlt : off < xs.size := by omega
    refine ⟨xs[off], by simp [Go.part, run_isAgg hg, hlt], .inr ⟨hg, ?_⟩⟩
    have h2 : off < xs.toList.length := by simpa using hlt
    rw [List.drop_eq_getElem_cons h2]
    simp

theorem flatK_ag {d : Nat} {t : TypeId} {ks : List Kd} (h : flatK P d t = some ks) : ∃ g, agT P t = some g ∧ (g = false → ks.length = 1) := by
  cases d with
  | zero => simp [flatK] at h
  | succ d =>
    unfold flatK at h
    unfold agT
    split at h <;> first
      | (rename_i hu; simp only [hu]; cases h; exact ⟨false, rfl, fun _ => rfl⟩)
      | (rename_i hu; simp only [hu]; exact ⟨true, rfl, fun h => by cases h⟩)
      | cases h

theorem equal_plain : ∀ {d : Nat} {t : TypeId} {ks : List Kd}, flatK P d t = some ks → ∀ (D : Nat) (vs us : List Value) (cs ds : List AV) (cv cu : Value) (b : Bool), VRs E w cs vs → VRs E w ds us →
    shaped P t vs cv → shaped P t us cu → vs.length = ks.length → us.length = ks.length → eqbs ks cs ds = some b → (Op.equalIn (D + d) t cv cu).run P w = .ok b w
  | 0, t, ks, h => by simp [flatK] at h
  | d + 1, t, ks, h => by
    intro D vs us cs ds cv cu b hv hu sv su lv lu hb
    have base : ∀ k : Kd, KindT P t k → ks = [k] → agT P t = some false →
        (Op.equalIn (D + (d + 1)) t cv cu).run P w = .ok b w := by
      intro k hk e hag
      subst e
      rcases sv with ⟨h1, _⟩ | ⟨_, rfl⟩
      · rw [hag] at h1; cases h1
      rcases su with ⟨h1, _⟩ | ⟨_, rfl⟩
      · rw [hag] at h1; cases h1
      match cs, ds, hv, hu, hb with
      | [x], [y], hv, hu, hb =>
        obtain ⟨_, _, e, hx, _⟩ := hv.of_cons
        cases e
        obtain ⟨_, _, e, hy, _⟩ := hu.of_cons
        cases e
        have : eqb k x y = some b := by
          simp only [eqbs] at hb
          split at hb <;> simp_all
        exact eqb_sound hx hy this hk
      | [], _, hv, _, _ => have := hv.1; simp at this
      | _ :: _ :: _, _, hv, _, _ => have := hv.1; simp at this
      | [_], [], _, hu, _ => have := hu.1; simp at this
      | [_], _ :: _ :: _, _, hu, _ => have := hu.1; simp at this
    unfold flatK at h
    split at h
    · rename_i hut; cases h; exact base .b hut rfl (by simp [agT, hut])
    · rename_i hut; cases h; exact base .i ⟨_, hut⟩ rfl (by simp [agT, hut])
    · rename_i hut; cases h; exact base .s hut rfl (by simp [agT, hut])
    · rename_i fs hut
      split at h
      · cases h
      · rename_i hst
        have hag : agT P t = some true := by simp [agT, hut]
        rcases sv with ⟨_, rfl⟩ | ⟨h1, _⟩
        rotate_left
        · rw [hag] at h1; cases h1
        rcases su with ⟨_, rfl⟩ | ⟨h1, _⟩
        rotate_left
        · rw [hag] at h1; cases h1
        have hfs : P.fieldsOf t = fs := by simp [Program.fieldsOf, hut]
        rw [← Nat.add_assoc, run_equalIn_struct w (D + d) t _ _ (by rw [hfs]; exact hut) hst, hfs]
        have key : ∀ (l : List Field) (n : Nat) (ls : List Kd), flatFs P (flatK P d) n l = some ls → n + ls.length = vs.length → n + ls.length = us.length → eqbs ls (cs.drop n) (ds.drop n) = some b →
            (Op.eqFields (D + d) vs.toArray us.toArray l).run P w = .ok b w := by
          intro l
          induction l with
          | nil =>
            intro n ls hl n1 n2 hb
            simp only [flatFs] at hl
            cases hl
            have : b = true := by
              unfold eqbs at hb
              split at hb <;> simp_all
            subst this
            rfl
          | cons f r ih =>
            intro n ls hl n1 n2 hb
            simp only [flatFs] at hl
            split at hl
            · rename_i kf s hnm hoff hkf hsz
              split at hl
              · rename_i hlen
                split at hl
                · rename_i rs hrs
                  cases hl
                  have hlen' : kf.length = s := nbeq_true hlen
                  have hoff' : f.offset = n := nbeq_true hoff
                  obtain ⟨c, h1, h2, h3⟩ := eqbs_append hb
                  obtain ⟨g, hg, hg1⟩ := flatK_ag hkf
                  have hls : (kf ++ rs).length = s + rs.length := by rw [List.length_append, hlen']
                  obtain ⟨pv, hpv, spv⟩ := part_shaped (P := P) (w := w) (xs := vs.toArray) (t := f.type) (off := n) (sz := s) hg hsz (fun h => by rw [← hlen']; exact hg1 h) (by simp; omega)
                  obtain ⟨pu, hpu, spu⟩ := part_shaped (P := P) (w := w) (xs := us.toArray) (t := f.type) (off := n) (sz := s) hg hsz (fun h => by rw [← hlen']; exact hg1 h) (by simp; omega)
                  rw [hlen'] at h1 h3
                  have e1 := equal_plain hkf D _ _ _ _ _ _ _ (hv.extract n s) (hu.extract n s) spv spu (by simp; omega) (by simp; omega) h1
                  have hnm' : f.name ≠ "_" := by simpa using hnm
                  simp only [Op.eqFields, hnm', ne_eq, not_false_eq_true, if_true, hoff', Sem.run_bind, hpv, hpu, Result.andThen_ok, e1]
                  cases c with
                  | false => rw [h2 rfl]; simp
                  | true =>
                    have hb' := h3 rfl
                    rw [List.drop_drop, List.drop_drop] at hb'
                    simp only [Bool.not_true, Bool.false_eq_true, if_false]
                    exact ih (n + s) rs hrs (by omega) (by omega) hb'
                · cases hl
              · cases hl
            · cases hl
        exact key fs.toList 0 ks h (by omega) (by omega) (by simpa using hb)
    · cases h
end
end Go.Sy

/- Operations that read or write cells. No condition. -/
namespace Go.Sy

/-- A run of abstract cells, and the cells behind it that nobody speaks of. -/
def CR (E : Env) (w : World) (cs : List AV) (c : List Value) : Prop :=
  cs.length ≤ c.length ∧ ∀ (i : Nat) x, cs[i]? = some x → ∃ v, c[i]? = some v ∧ v.oneCell' = true ∧ VR E w x v

theorem CR.of_or {E : Env} {w : World} {b : Nat} {s : Bool} {cs : List AV} (h : OR E w b (.cells s cs)) :
    ∃ (c : Array Value) (e : TypeId) (f : Nat × Nat), w.heap[b]? = some (Obj.cells c e f) ∧ (f.2 = f.1 ∨ (s = true ∧ c.size ≤ f.1)) ∧ CR E w cs c.toList := by
  obtain ⟨c, e, f, h1, h2, h3, h4⟩ := h
  exact ⟨c, e, f, h1, h3, by simpa using h2, fun i x hx => let ⟨v, a, b, d⟩ := h4 i x hx; ⟨v, by simpa using a, b, d⟩⟩
theorem CR.or {E : Env} {w : World} {b : Nat} {s : Bool} {cs : List AV} {c : Array Value} {e : TypeId} {f : Nat × Nat} (h : CR E w cs c.toList) (hb : w.heap[b]? = some (Obj.cells c e f))
    (hf : f.2 = f.1 ∨ (s = true ∧ c.size ≤ f.1)) : OR E w b (.cells s cs) :=
  ⟨c, e, f, hb, by simpa using h.1, hf, fun i x hx => let ⟨v, a, b, d⟩ := h.2 i x hx; ⟨v, by simpa using a, b, d⟩⟩

section
variable {P : Program} {E : Env} {w : World}

theorem CR.mono {E' : Env} {w' : World} (hm : ∀ {v cv}, VR E w v cv → VR E' w' v cv) {cs : List AV} {c : List Value} (h : CR E w cs c) : CR E' w' cs c :=
  ⟨h.1, fun i x hx => let ⟨v, a, b, d⟩ := h.2 i x hx; ⟨v, a, b, hm d⟩⟩
theorem CR.of_vrs {cs : List AV} {c : List Value} (h : VRs E w cs c) (h1 : ∀ v ∈ c, v.oneCell' = true) : CR E w cs c :=
  ⟨Nat.le_of_eq h.1, fun i x hx => let ⟨v, a, b⟩ := h.getElem? hx; ⟨v, a, h1 v (List.mem_of_getElem? a), b⟩⟩
/-- A part of the run. -/
theorem CR.part {cs : List AV} {c : List Value} (h : CR E w cs c) {a n : Nat} (hl : a + n ≤ cs.length) :
    VRs E w ((cs.drop a).take n) ((c.drop a).take n) ∧ ∀ v ∈ (c.drop a).take n, v.oneCell' = true := by
  have h0 := h.1
  have key : ∀ (i : Nat), i < n → ∃ x v, cs[a + i]? = some x ∧ c[a + i]? = some v ∧ v.oneCell' = true ∧ VR E w x v := fun i hi => by
    have hx : cs[a + i]? = some (cs[a + i]'(by omega)) := List.getElem?_eq_getElem _
    obtain ⟨v, h1, h2, h3⟩ := h.2 _ _ hx
    exact ⟨_, v, hx, h1, h2, h3⟩
  refine ⟨⟨by simp; omega, fun i x v hx hv => ?_⟩, fun v hv => ?_⟩
  · rw [List.getElem?_take] at hx hv
    split at hx
    · rename_i hi
      simp only [hi, if_true, List.getElem?_drop] at hx hv
      obtain ⟨x', v', e1, e2, _, e3⟩ := key i hi
      rw [e1] at hx; cases hx
      rw [e2] at hv; cases hv
      exact e3
    · cases hx
  · obtain ⟨i, hi⟩ := List.getElem?_of_mem hv
    rw [List.getElem?_take] at hi
    split at hi
    · rename_i hlt
      rw [List.getElem?_drop] at hi
      obtain ⟨x', v', e1, e2, e4, e3⟩ := key i hlt
      rw [e2] at hi; cases hi
      exact e4
    · cases hi

theorem getElem?_splice {α : Type} (c : List α) (off : Nat) (new : List α) (h : off ≤ c.length) (i : Nat) :
    (c.take off ++ new ++ c.drop (off + new.length))[i]? = if i < off then c[i]? else if i < off + new.length then new[i - off]? else c[i]? := by
  rw [List.append_assoc, List.getElem?_append, List.length_take, Nat.min_eq_left h]
  split
  · rw [List.getElem?_take]; simp [*]
  · rw [List.getElem?_append]
    by_cases h2 : i < off + new.length
    · rw [if_pos (by omega), if_pos h2]
    · rw [if_neg (by omega), if_neg h2, List.getElem?_drop]
      congr 1
      omega

theorem CR.splice {cs : List AV} {c : List Value} (h : CR E w cs c) {off : Nat} {new : List AV} {nv : List Value} (hn : VRs E w new nv) (h1 : ∀ v ∈ nv, v.oneCell' = true)
    (hl : off ≤ cs.length) (hc : off + nv.length ≤ c.length) : CR E w (splice cs off new) (c.take off ++ nv ++ c.drop (off + nv.length)) := by
  have h0 := h.1
  have hnl := hn.1
  refine ⟨by simp [Sy.splice]; omega, fun i x hx => ?_⟩
  unfold Sy.splice at hx
  rw [getElem?_splice _ _ _ hl] at hx
  rw [getElem?_splice _ _ _ (by omega)]
  split at hx
  · rename_i hi
    rw [if_pos hi]
    exact h.2 i x hx
  · rename_i hi
    rw [if_neg hi]
    split at hx
    · rename_i hi2
      rw [if_pos (by omega)]
      obtain ⟨v, a, b⟩ := hn.getElem? hx
      exact ⟨v, a, h1 v (List.mem_of_getElem? a), b⟩
    · rename_i hi2
      rw [if_neg (by omega)]
      exact h.2 i x hx

theorem add_addr (b o j : Nat) : (⟨b, o, none⟩ : Addr).add j = ⟨b, o + j, none⟩ := by
  unfold Addr.add
  split
  · rename_i h; subst h; rfl
  · rfl

theorem cell_at {b o : Nat} {c : Array Value} {e : TypeId} {f : Nat × Nat} (h : w.heap[b]? = some (.cells c e f)) : w.cell? ⟨b, o, none⟩ = c[o]? := by
  simp [World.cell?, h]

theorem frozen_at {b o : Nat} {c : Array Value} {e : TypeId} {f : Nat × Nat} {s : Prop} (h : w.heap[b]? = some (.cells c e f)) (hf : f.2 = f.1 ∨ (s ∧ c.size ≤ f.1)) (ho : o < c.size) : w.frozen? ⟨b, o, none⟩ = false := by
  obtain ⟨lo, hi⟩ := f
  simp [World.frozen?, h]
  intro h1
  rcases hf with hf | ⟨_, hf⟩ <;> simp at hf <;> omega

/-- Cells that lie one behind the other are read. -/
theorem run_loads {b o : Nat} {vs : List Value} (h : ∀ (j : Nat) v, vs[j]? = some v → w.cell? ⟨b, o + j, none⟩ = some v) : (loadCells ⟨b, o, none⟩ vs.length).run P w = .ok vs.toArray w :=
  run_loadCells_list w ⟨b, o, none⟩ vs fun j v hj => by rw [add_addr]; exact h j v hj

theorem load_cells_sound {b o off sz : Nat} {t : TypeId} {ag : Bool} {cs : List AV} {v : AV} {c : List Value} (hcr : CR E w cs c) (hcell : ∀ (j : Nat) v, c[j]? = some v → w.cell? ⟨b, o + j, none⟩ = some v)
    (hs : sizeT P t = some sz) (hg : agT P t = some ag) (h : part cs off sz ag = some v) : ∃ cv, (loadVar t ⟨b, o + off, none⟩).run P w = .ok cv w ∧ VR E w v cv := by
  unfold Sy.part at h
  cases ag with
  | true =>
    simp only at h
    split at h
    · rename_i hle
      cases h
      have hle' : off + sz ≤ cs.length := Nat.le_of_ble_eq_true hle
      obtain ⟨h1, h2⟩ := hcr.part hle'
      have h0 := hcr.1
      have hlen : ((c.drop off).take sz).length = sz := by simp; omega
      refine ⟨.agg ((c.drop off).take sz).toArray, ?_, VR.mk_agg (by simpa using h1) (by simpa using h2)⟩
      have hr := run_loads (P := P) (w := w) (b := b) (o := o + off) (vs := (c.drop off).take sz) fun j v hj => by
        rw [List.getElem?_take] at hj
        split at hj
        · rw [List.getElem?_drop] at hj
          rw [Nat.add_assoc]; exact hcell _ _ hj
        · cases hj
      rw [hlen] at hr
      simp [loadVar, run_isAgg hg, run_size hs, hr]
    · cases h
  | false =>
    obtain ⟨u, h1, h2, h3⟩ := hcr.2 _ _ h
    refine ⟨u, ?_, h3⟩
    simp [loadVar, run_isAgg hg, hcell _ _ h1]

theorem load_sound {H : Heap} {t : TypeId} {sz : Nat} {ag : Bool} {x v : AV} {cx : Value} (hr : HR E H w) (hx : VR E w x cx) (hs : sizeT P t = some sz) (hg : agT P t = some ag)
    (h : xload H sz ag x = some v) : ∃ a cv, cx = .pointer (some a) ∧ (loadVar t a).run P w = .ok cv w ∧ VR E w v cv := by
  unfold xload at h
  split at h
  · rename_i hd off
    obtain ⟨rfl, hD⟩ := hx.of_ptr
    split at h
    · rename_i st cs hget
      obtain ⟨c, e, f, hb, hf, hcr⟩ := CR.of_or (hr.obj _ (Heap.mem_of_get hget))
      obtain ⟨cv, h1, h2⟩ := load_cells_sound (P := P) (b := E.ρ hd) (o := 0) hcr (fun j v hj => by rw [cell_at hb, Nat.zero_add, ← Array.getElem?_toList]; exact hj) hs hg h
      rw [Nat.zero_add] at h1
      exact ⟨_, cv, rfl, h1, h2⟩
    · cases h
  · rename_i e off
    obtain ⟨b, c, u, rfl, hfl, hz, hv, hc⟩ := hx.of_eptr
    obtain ⟨h1, h2⟩ := hv.cells hfl
    obtain ⟨cv, h3, h4⟩ := load_cells_sound (P := P) (b := b) (o := c) (CR.of_vrs h1 h2) (fun j v hj => hc j v (by rw [← Array.getElem?_toList]; exact hj)) hs hg h
    exact ⟨_, cv, rfl, h3, h4⟩
  · cases h

/-- Cells that are written one behind the other. -/
theorem run_stores {b : Nat} {e : TypeId} {f : Nat × Nat} {s : Prop} : ∀ (vs : List Value) (off i : Nat) (w : World) (c : Array Value), w.heap[b]? = some (.cells c e f) → (f.2 = f.1 ∨ (s ∧ c.size ≤ f.1)) →
    (∀ v ∈ vs, v.oneCell' = true) → off + i + vs.length ≤ c.size →
    ∃ w', (storeCells ⟨b, off, none⟩ vs i).run P w = .ok () w' ∧ w'.tape = w.tape ∧ w'.os = w.os ∧ w'.output = w.output ∧ w'.heap.size = w.heap.size ∧ (∀ x, x ≠ b → w'.heap[x]? = w.heap[x]?) ∧
      w'.heap[b]? = some (.cells (c.toList.take (off + i) ++ vs ++ c.toList.drop (off + i + vs.length)).toArray e f)
  | [], off, i, w, c, hb, _, _, _ => ⟨w, by simp [storeCells], rfl, rfl, rfl, rfl, fun _ _ => rfl, by rw [hb]; simp⟩
  | v :: vs, off, i, w, c, hb, hf, h1, hl => by
    have hlt : off + i < c.size := by simp at hl; omega
    have hcell : w.cell? ⟨b, off + i, none⟩ = some c[off + i] := by rw [cell_at hb]; simp [hlt]
    have hfr := frozen_at hb hf hlt
    have hv := h1 v (.head _)
    have hw : (w.setCell ⟨b, off + i, none⟩ v).heap[b]? = some (.cells (c.setIfInBounds (off + i) v) e f) := by
      simp [World.setCell, Array.getElem?_modify, hb]
    obtain ⟨w', r1, r2, r3, r4, r5, r6, r7⟩ := run_stores (s := s) vs off (i + 1) (w.setCell ⟨b, off + i, none⟩ v) (c.setIfInBounds (off + i) v) hw (by simpa using hf) (fun u hu => h1 u (.tail _ hu)) (by simp at hl ⊢; omega)
    refine ⟨w', ?_, r2, r3, r4, by rw [r5]; simp [World.setCell], fun x hx => by rw [r6 x hx]; simp only [World.setCell, Array.getElem?_modify]; rw [if_neg (Ne.symm hx)], ?_⟩
    · simp only [storeCells, Sem.run_bind, add_addr, run_store P w _ v _ hv, hcell, hfr, Bool.false_eq_true, if_false, Result.andThen_ok]
      exact r1
    · rw [r7]
      congr 3
      apply List.ext_getElem?
      intro j
      have hl' : off + i + 1 + vs.length ≤ c.toList.length := by simp at hl ⊢; omega
      rw [getElem?_splice _ _ _ (by simp; omega)]
      have := getElem?_splice c.toList (off + i) (v :: vs) (by simp; omega) j
      rw [this]
      have hlen : (v :: vs).length = vs.length + 1 := rfl
      rw [hlen]
      have hset : (c.setIfInBounds (off + i) v).toList = c.toList.set (off + i) v := by simp
      rw [hset]
      by_cases h1 : j < off + i
      · rw [if_pos (by omega), if_pos h1, List.getElem?_set, if_neg (by omega)]
      · by_cases h2 : j = off + i
        · subst h2
          rw [if_pos (by omega), if_neg (by omega), if_pos (by omega), List.getElem?_set]
          simp [hlt]
        · rw [if_neg (by omega), if_neg h1]
          by_cases h3 : j < off + i + 1 + vs.length
          · rw [if_pos (by omega), if_pos (by omega)]
            have : j - (off + i) = (j - (off + (i + 1))) + 1 := by omega
            rw [this, List.getElem?_cons_succ]
          · rw [if_neg (by omega), if_neg (by omega), List.getElem?_set, if_neg (by omega)]

theorem Shapes.of_one {w w' : World} {b : Nat} {c c' : Array Value} {e : TypeId} {f f' : Nat × Nat} (hb : w.heap[b]? = some (.cells c e f)) (hb' : w'.heap[b]? = some (.cells c' e f')) (hs : c'.size = c.size)
    (ho : ∀ x, x ≠ b → w'.heap[x]? = w.heap[x]?) : Shapes w w' := fun x c0 e0 f0 h => by
  by_cases hx : x = b
  · subst hx
    rw [hb] at h
    cases h
    exact ⟨c', f', hb', hs⟩
  · exact ⟨c0, f0, by rw [ho x hx]; exact h, rfl⟩

/-- Part of an owned object's cells is written. -/
theorem stores_step {H : Heap} (hr : HR E H w) {h : Nat} {st : Bool} {cs : List AV} (hg : H.get h = some (.cells st cs)) {off : Nat} {new : List AV} {nv : List Value}
    (hn : VRs E w new nv) (h1 : ∀ v ∈ nv, v.oneCell' = true) (hl : off + new.length ≤ cs.length ∨ (off ≤ cs.length ∧ ∃ (c : Array Value) (e : TypeId) (f : Nat × Nat), w.heap[E.ρ h]? = some (Obj.cells c e f) ∧ off + new.length ≤ c.size)) (a : Nat) :
    ∃ w', (storeCells ⟨E.ρ h, off, none⟩ nv).run P w = .ok () w' ∧ HR E (H.put h (.cells st (splice cs off new))) w' ∧ Tr E H w E (H.put h (.cells st (splice cs off new))) w' a a := by
  obtain ⟨c, e, f, hb, hf, hcr⟩ := CR.of_or (hr.obj _ (Heap.mem_of_get hg))
  have hnl := hn.1
  have h0 : cs.length ≤ c.size := by have := hcr.1; simpa using this
  have hoff : off ≤ cs.length ∧ off + nv.length ≤ c.size := by
    rcases hl with hl | ⟨hl, c', e', f', hb', hl'⟩
    · omega
    · rw [hb] at hb'; cases hb'; omega
  obtain ⟨w', r1, r2, r3, r4, r5, r6, r7⟩ := run_stores (P := P) (s := st = true) nv off 0 w c hb hf h1 (by omega)
  rw [Nat.add_zero] at r7
  have hsz : (c.toList.take off ++ nv ++ c.toList.drop (off + nv.length)).toArray.size = c.size := by simp; omega
  have hS := Shapes.of_one hb r7 hsz r6
  obtain ⟨m1, m2, _⟩ := modify_step hr hg r2 r3 r4 r5 r6 hS (o' := .cells st (splice cs off new)) (fun hm => by
    refine CR.or (c := (c.toList.take off ++ nv ++ c.toList.drop (off + nv.length)).toArray) ?_ r7 (hf.imp id fun ⟨x, y⟩ => ⟨x, by rw [hsz]; exact y⟩)
    exact (hcr.splice hn h1 hoff.1 (by simpa using hoff.2)).mono hm) a
  exact ⟨w', r1, m1, m2⟩

theorem cellsOf_sound {v : AV} {cv : Value} {sz : Nat} {cs : List AV} (hv : VR E w v cv) (h : cellsOf v sz = some cs) : v.flat = true ∧ cs = v.cells ∧ cs.length = sz ∧ VRs E w cs cv.cells.toList ∧ (∀ u ∈ cv.cells.toList, u.oneCell' = true) ∧ cv.cells.size = sz := by
  unfold cellsOf at h
  split at h
  · rename_i hf
    split at h
    · rename_i hl
      cases h
      obtain ⟨h1, h2⟩ := hv.cells hf
      have hl' := nbeq_true hl
      exact ⟨hf, rfl, hl', h1, h2, by rw [← Array.length_toList, ← h1.1]; exact hl'⟩
    · cases h
  · cases h

theorem store_sound {H : Heap} {t : TypeId} {sz : Nat} {h off : Nat} {v : AV} {cv : Value} {st : Bool} {cs new : List AV} (hr : HR E H w) (hv : VR E w v cv) (hs : sizeT P t = some sz)
    (hg : H.get h = some (.cells st cs)) (hc : cellsOf v sz = some new) (hl : off + sz ≤ cs.length) (a : Nat) :
    ∃ w', (storeVar t ⟨E.ρ h, off, none⟩ cv).run P w = .ok () w' ∧ HR E (H.put h (.cells st (splice cs off new))) w' ∧ Tr E H w E (H.put h (.cells st (splice cs off new))) w' a a := by
  obtain ⟨_, rfl, h2, h3, h4, h5⟩ := cellsOf_sound hv hc
  obtain ⟨w', r1, r2, r3⟩ := stores_step (P := P) hr hg h3 h4 (off := off) (.inl (by omega)) a
  refine ⟨w', ?_, r2, r3⟩
  simp only [storeVar, Sem.run_bind, run_size hs, Result.andThen_ok]
  simp [h5, r1]
end
end Go.Sy

/- Operations on slices: what they hold, append, new objects. No condition. -/
namespace Go.Sy
section
variable {P : Program} {E : Env} {w : World}

theorem flatten_sound {sz : Nat} : ∀ {es : List AV} {cs : List AV}, flatten sz es = some cs → ∀ (f : Nat → Value), (∀ i e, es[i]? = some e → VR E w e (f i)) → (∀ i, i < es.length → (f i).cells.size = sz) →
    ∃ vs : List Value, VRs E w cs vs ∧ (∀ v ∈ vs, v.oneCell' = true) ∧ vs.length = es.length * sz ∧ ∀ (k : Nat) v, vs[k]? = some v → ∃ i j, i < es.length ∧ k = i * sz + j ∧ (f i).cells[j]? = some v
  | [], cs, h, f, _, _ => by
    simp [flatten] at h; subst h
    exact ⟨[], VRs.nil, fun v hv => by simp at hv, by simp, fun k v hv => by simp at hv⟩
  | e :: r, cs, h, f, hf, hs => by
    simp only [flatten] at h
    split at h
    · rename_i c hc
      split at h
      · rename_i cs' hcs'
        cases h
        obtain ⟨_, _, h2, h3, h4, h5⟩ := cellsOf_sound (hf 0 e rfl) hc
        obtain ⟨vs, k1, k2, k3, k4⟩ := flatten_sound hcs' (fun i => f (i + 1)) (fun i x hx => hf (i + 1) x (by simpa using hx)) (fun i hi => hs (i + 1) (by simpa using hi))
        have hl : (f 0).cells.toList.length = sz := by rw [Array.length_toList]; exact h5
        refine ⟨(f 0).cells.toList ++ vs, h3.append k1, ?_, ?_, ?_⟩
        · intro v hv
          rcases List.mem_append.1 hv with hv | hv
          · exact h4 v hv
          · exact k2 v hv
        · rw [List.length_append, hl, k3, List.length_cons, Nat.add_mul, Nat.one_mul, Nat.add_comm]
        · intro k v hv
          rw [List.getElem?_append] at hv
          split at hv
          · rename_i hk
            exact ⟨0, k, by simp, by omega, by rw [← Array.getElem?_toList]; exact hv⟩
          · rename_i hk
            obtain ⟨i, j, hi, e1, e2⟩ := k4 _ _ hv
            refine ⟨i + 1, j, by simp; omega, ?_, e2⟩
            rw [hl] at e1 hk
            rw [Nat.add_mul, Nat.one_mul]
            omega
      · cases h
    · cases h

/-- What a slice or a string holds. -/
theorem content_sound {H : Heap} {sz n : Nat} {y : AV} {cy : Value} {ys : List AV} (hr : HR E H w) (hv : VR E w y cy) (h : content H sz y = some (n, ys)) :
    ∃ vs : List Value, VRs E w ys vs ∧ (∀ v ∈ vs, v.oneCell' = true) ∧ vs.length = n * sz ∧ n ≤ maxStr ∧ (Builtin.lenOf cy).run P w = .ok n w ∧
      (∀ w' : World, w'.heap = w.heap → (Builtin.firstCells sz n cy).run P w' = .ok vs.toArray w') ∧
      ((∃ a c, cy = .slice a n c ∧ (n * sz ≠ 0 → ∃ ad, a = some ad ∧ ∀ (j : Nat) v, vs[j]? = some v → w.cell? (ad.add j) = some v)) ∨ ∃ s : ByteArray, cy = .string s ∧ s.size = n) := by
  unfold content at h
  have zero : ∀ (a : Option Addr) (c : Nat), ∃ vs : List Value, VRs E w [] vs ∧ (∀ v ∈ vs, v.oneCell' = true) ∧ vs.length = 0 * sz ∧ 0 ≤ maxStr ∧ (Builtin.lenOf (.slice a 0 c)).run P w = .ok 0 w ∧
      (∀ w' : World, w'.heap = w.heap → (Builtin.firstCells sz 0 (.slice a 0 c)).run P w' = .ok vs.toArray w') ∧
      ((∃ a' c', Value.slice a 0 c = .slice a' 0 c' ∧ (0 * sz ≠ 0 → ∃ ad, a' = some ad ∧ ∀ (j : Nat) v, vs[j]? = some v → w.cell? (ad.add j) = some v)) ∨ ∃ s : ByteArray, Value.slice a 0 c = .string s ∧ s.size = 0) := fun a c =>
    ⟨[], VRs.nil, fun v hv => by simp at hv, by simp, Nat.zero_le _, by simp [Builtin.lenOf], fun w' _ => by cases a <;> simp [Builtin.firstCells, loadCells, loadCellsFrom], .inl ⟨a, c, rfl, fun h => by simp at h⟩⟩
  split at h
  · cases h; cases hv; exact zero _ _
  · rename_i sz' es
    split at h
    rotate_left
    · cases h
    rename_i hse
    have := nbeq_true hse
    subst this
    split at h
    · rename_i cs hcs
      cases h
      cases hv with
      | lst0 _ a c _ => simp [flatten] at hcs; subst hcs; exact zero _ _
      | lst _ b o cap _ f hz hcap hcm hfl hf hc =>
        obtain ⟨vs, k1, k2, k3, k4⟩ := flatten_sound hcs f hf (fun i hi => (hc i hi).1)
        have hcell : ∀ (j : Nat) v, vs[j]? = some v → w.cell? ((⟨b, o, none⟩ : Addr).add j) = some v := fun j v hj => by
          obtain ⟨i, k, hi, e1, e2⟩ := k4 j v hj
          rw [add_addr, e1, ← Nat.add_assoc]
          exact (hc i hi).2 k v e2
        refine ⟨vs, k1, k2, k3, Nat.le_trans hcap hcm, by simp [Builtin.lenOf], fun w' hw' => ?_, .inl ⟨_, _, rfl, fun _ => ⟨_, rfl, hcell⟩⟩⟩
        exact run_firstCells_some w' sz _ _ _ _ vs k3 fun j v hj => by
          have := hcell j v hj
          rw [add_addr] at this ⊢
          simp only [World.cell?, hw'] at this ⊢
          exact this
    · cases h
  · rename_i hd off len sz' cp ex
    split at h
    · rename_i hsz
      have := nbeq_true hsz
      subst this
      split at h
      · rename_i st cs hget
        split at h
        · rename_i hle
          simp only [Option.some.injEq, Prod.mk.injEq] at h
          obtain ⟨rfl, rfl⟩ := h
          have hle' : off + len * sz ≤ cs.length := Nat.le_of_ble_eq_true hle
          obtain ⟨c, e, f, hb, hf, hcr⟩ := CR.of_or (hr.obj _ (Heap.mem_of_get hget))
          obtain ⟨p1, p2⟩ := hcr.part hle'
          cases hv with
          | row0 _ _ _ _ a => simpa using zero (some a) 0
          | row _ _ _ _ _ cap _ hD hlen hcap hsz0 hcp hex hbk =>
            have hcl := hcr.1
            have hvl : ((c.toList.drop off).take (len * sz)).length = len * sz := by simp at hcl ⊢; omega
            have hcell : ∀ (j : Nat) v, ((c.toList.drop off).take (len * sz))[j]? = some v → w.cell? ((⟨E.ρ hd, off, none⟩ : Addr).add j) = some v := fun j v hj => by
              rw [add_addr, cell_at hb, ← Array.getElem?_toList]
              rw [List.getElem?_take] at hj
              split at hj
              · rw [List.getElem?_drop] at hj; exact hj
              · cases hj
            refine ⟨_, p1, p2, hvl, Nat.le_trans hlen hcap, by simp [Builtin.lenOf], fun w' hw' => ?_, .inl ⟨_, _, rfl, fun _ => ⟨_, rfl, hcell⟩⟩⟩
            exact run_firstCells_some w' sz _ _ _ _ _ hvl fun j v hj => by
              have := hcell j v hj
              rw [add_addr] at this ⊢
              simp only [World.cell?, hw'] at this ⊢
              exact this
        · cases h
      · cases h
    · cases h
  · rename_i s
    split at h
    · rename_i hsz
      have := nbeq_true hsz
      subst this
      cases h
      obtain ⟨bs, rfl, hs, hl⟩ := hv.of_str
      have hsz := str_len hs
      refine ⟨bs.data.toList.map fun b => .int .u8 b.toNat, ?_, ?_, ?_, hl, ?_, ?_, .inr ⟨bs, rfl, hsz⟩⟩
      · subst hs
        refine ⟨by simp, fun i x v hx hv => ?_⟩
        simp only [List.getElem?_map, Option.map_map] at hx hv
        cases hb : bs.data.toList[i]? with
        | none => simp [hb] at hx
        | some b =>
          simp [hb] at hx hv
          subst hx; subst hv
          refine .int _ _ ?_
          have := b.toNat_lt
          constructor <;> simp [IntKind.min, IntKind.max, IntKind.signed, IntKind.bits] <;> omega
      · intro v hv
        obtain ⟨b, _, rfl⟩ := List.mem_map.1 hv
        rfl
      · subst hs; simp
      · simp [Builtin.lenOf, hsz]
      · intro w' _
        simp only [Builtin.firstCells, Sem.run_pure]
        congr 1
        rw [← hsz, ByteArray.extract_zero_size]
        apply Array.ext'
        rw [Array.toList_map]
    · cases h
  · cases h
end
end Go.Sy

/- New objects, and append. No condition. -/
namespace Go.Sy
section
variable {P : Program} {E : Env} {w : World}

/-- A new row of cells. -/
theorem new_cells {H : Heap} (hr : HR E H w) {nx : Nat} (ha : ¬ E.D nx) {st : Bool} {cs : List AV} {c : Array Value} {e : TypeId} (hcr : CR E w cs c.toList) :
    HR (E.add nx w.heap.size) ((nx, .cells st cs) :: H) { w with heap := w.heap.push (.cells c e) } ∧
    Tr E H w (E.add nx w.heap.size) ((nx, .cells st cs) :: H) { w with heap := w.heap.push (.cells c e) } nx (nx + 1) :=
  have h := alloc_step hr ha (o := .cells c e) (ho := .cells st cs) fun w' hw' _ hm => (hcr.mono hm).or (by rw [hw']; exact heap_push_new) (.inl rfl)
  ⟨h.1, h.2.1⟩

/-- The first object may be told of less. -/
theorem head_mem {α : Type} {P : α → Prop} {a b : α} {l : List α} (h1 : P b) (h2 : ∀ x ∈ a :: l, P x) : ∀ x ∈ b :: l, P x := fun x hx => by
  cases hx with
  | head => exact h1
  | tail _ hx => exact h2 x (.tail _ hx)
theorem HR.head_less {H : Heap} {h : Nat} {o o' : HO} (hr : HR E ((h, o) :: H) w) (ho : OR E w (E.ρ h) o → OR E w (E.ρ h) o') : HR E ((h, o') :: H) w :=
  ⟨hr.nodup, head_mem (P := fun (p : Nat × HO) => E.D p.1) (hr.dom (h, o) (.head _)) hr.dom,
    head_mem (P := fun (p : Nat × HO) => ∀ q ∈ (h, o') :: H, E.ρ p.1 = E.ρ q.1 → p.1 = q.1)
      (head_mem (P := fun (q : Nat × HO) => E.ρ h = E.ρ q.1 → h = q.1) (fun _ => rfl) (hr.inj (h, o) (.head _)))
      (fun p hp => head_mem (P := fun (q : Nat × HO) => E.ρ p.1 = E.ρ q.1 → p.1 = q.1) (hr.inj p hp (h, o) (.head _)) (hr.inj p hp)),
    head_mem (P := fun (p : Nat × HO) => OR E w (E.ρ p.1) p.2) (ho (hr.obj (h, o) (.head _))) hr.obj,
    head_mem (P := fun (p : Nat × HO) => ¬ E.Z (E.ρ p.1)) (hr.nz (h, o) (.head _)) hr.nz, hr.zlt⟩
theorem Tr.head_less {H0 : Heap} {w0 : World} {E0 : Env} {H : Heap} {h : Nat} {o o' : HO} {a b : Nat} (ht : Tr E0 H0 w0 E ((h, o) :: H) w a b) : Tr E0 H0 w0 E ((h, o') :: H) w a b :=
  { ht with own := head_mem (P := fun (p : Nat × HO) => (∃ q ∈ H0, E0.ρ q.1 = E.ρ p.1) ∨ w0.heap.size ≤ E.ρ p.1) (ht.own (h, o) (.head _)) ht.own }
theorem CR.take {cs : List AV} {c : List Value} (h : CR E w cs c) (k : Nat) : CR E w (cs.take k) c :=
  ⟨by have := h.1; simp; omega, fun i x hx => by
    rw [List.getElem?_take] at hx
    split at hx
    · exact h.2 i x hx
    · cases hx⟩

theorem VR.zero {z : AV} {v : Value} {n : Nat} {P : Program} {t : TypeId} {cs : List AV} (h : zerosT P t = some cs) : ∃ i z, P.info? t = some i ∧ i.zero = some z ∧ z.cells.size = i.size ∧ sizeT P t = some i.size ∧ cs.length = i.size ∧ VRs E w cs z.cells.toList ∧ ∀ v ∈ z.cells.toList, v.oneCell' = true := by
  unfold zerosT at h
  split at h
  · rename_i v hv
    split at h
    · rename_i n hf hs
      split at h
      · rename_i hl
        cases h
        unfold zeroT at hv
        split at hv
        · rename_i i hi
          split at hv
          · rename_i z hz
            have hvr : VR E w v z := cav_sound hv
            obtain ⟨h1, h2⟩ := hvr.cells hf
            have hn : n = i.size := by unfold sizeT at hs; rw [hi] at hs; simpa using hs.symm
            have hl' := nbeq_true hl
            subst hn
            exact ⟨i, z, hi, hz, by rw [← Array.length_toList, ← h1.1, hl'], hs, hl', h1, h2⟩
          · cases hv
        · cases hv
      · cases h
    · cases h
  · cases h

theorem size_zeros (z : Array Value) (n : Nat) : (Builtin.zeroCells z n).size = n * z.size := by simp [Builtin.zeroCells]

set_option maxRecDepth 20000 in
/-- An append that makes a new array. -/
theorem run_append_new {t u ty e : TypeId} {i : TypeInfo} {z : Value} (ht : P.underlying t = some (.slice e)) (hu : (∃ e', P.underlying u = some (.slice e')) ∨ P.underlying u = some .string) (hi : P.info? e = some i) (hz : i.zero = some z)
    {b : Option Addr} {sLen sCap n : Nat} {cy : Value} {olds news : List Value} (hold : ∀ w' : World, w'.heap = w.heap → (Builtin.firstCells i.size sLen (.slice b sLen sCap)).run P w' = .ok olds.toArray w')
    (hlen : (Builtin.lenOf cy).run P w = .ok n w) (hnew : ∀ w' : World, w'.heap = w.heap → (Builtin.firstCells i.size n cy).run P w' = .ok news.toArray w')
    (hg : sCap < sLen + n) (h63 : sLen + n ≤ maxStr) (hfit : (sLen + n) * i.bytes ≤ 140737488355328) :
    ∃ cap w', sLen + n ≤ cap ∧ cap ≤ maxStr ∧ w'.heap = w.heap.push (.cells (olds.toArray ++ news.toArray ++ Builtin.zeroCells z.cells (cap - (sLen + n))) e) ∧ w'.tape = w.tape ∧ w'.os = w.os ∧ w'.output = w.output ∧
      (Builtin.append_ #[t, u] ty #[.slice b sLen sCap, cy]).run P w = .ok (.slice (some ⟨w.heap.size, 0, none⟩) (sLen + n) cap) w' := by
  have hn : ¬ (sLen + n ≤ sCap) := by omega
  have h63' : ¬ (9223372036854775807 < ((sLen : Int) + (n : Int))) := by unfold maxStr at h63; omega
  have hf48 := growslice_fits hg hfit
  have h48' : ¬ (281474976710656 < Builtin.nextslicecap (sLen + n) sCap * i.bytes) := by omega
  refine ⟨grownCap w (sLen + n) sCap e, w.drew.alloc (.cells (olds.toArray ++ news.toArray ++ Builtin.zeroCells z.cells (grownCap w (sLen + n) sCap e - (sLen + n))) e), grownCap_ge w _ _ _, ?_, ?_, ?_, ?_, ?_, ?_⟩
  rotate_left 5
  · have e1 := hold w.drew rfl
    have e2 := hnew w.drew rfl
    have hmx : ¬ (((sLen + n : Nat) : Int) > IntKind.i64.max) := by
      have : IntKind.i64.max = 9223372036854775807 := rfl
      rw [this]; omega
    have h48 : ¬ (Builtin.nextslicecap (sLen + n) sCap * i.bytes > 2 ^ 48) := by
      have : (2 : Nat) ^ 48 = 281474976710656 := rfl
      omega
    rcases hu with ⟨e', hu⟩ | hu
    all_goals
      simp only [Builtin.append_, Sem.run_bind, run_underlying ht, run_underlying hu, sizeOf, typeInfo, run_program, zeroValue, hi, hz, hlen, hn, hmx, h48, e1, e2, newRow, grownCap,
        Result.andThen_ok, Sem.run_pure, Sem.run_ite, run_choose, run_askRoom, run_newObj, List.getElem?_toArray, List.getElem?_cons_zero, List.getElem?_cons_succ, Bool.false_eq_true, if_false, false_and, Bool.not_false, if_true]
      rw [show (Question.appendCap (sLen + n) sCap e).forced = false from rfl]
      simp only [Bool.false_eq_true, if_false, Result.andThen_ok]
      rw [show ({ heap := w.heap, tape := w.tape, drawn := w.drawn + 1, os := w.os, output := w.output } : World) = w.drew from rfl, e1, Result.andThen_ok, e2, Result.andThen_ok]
      rfl
  · exact grownCap_le_maxLen w _ _ _ (by unfold maxStr at h63; simp only [maxLen]; omega)
  · rfl
  · rfl
  · rfl
  · rfl

def SemOK (P : Program) (s : Sem Value) (E : Env) (H : Heap) (w : World) (nx : Nat) (v : AV) (H' : Heap) (nx' : Nat) : Prop :=
  ∃ cv E' w', s.run P w = .ok cv w' ∧ HR E' H' w' ∧ Tr E H w E' H' w' nx nx' ∧ VR E' w' v cv

/-- An append within the capacity. -/
theorem run_append_in {t u ty e : TypeId} {i : TypeInfo} (ht : P.underlying t = some (.slice e)) (hu : (∃ e', P.underlying u = some (.slice e')) ∨ P.underlying u = some .string) (hi : P.info? e = some i)
    {a : Addr} {sLen sCap n : Nat} {cy : Value} {news : List Value} (hlen : (Builtin.lenOf cy).run P w = .ok n w) (hnew : (Builtin.firstCells i.size n cy).run P w = .ok news.toArray w) (hg : sLen + n ≤ sCap)
    {w' : World} (hst : (storeCells (a.add (sLen * i.size)) news).run P w = .ok () w') :
    (Builtin.append_ #[t, u] ty #[.slice (some a) sLen sCap, cy]).run P w = .ok (.slice (some a) (sLen + n) sCap) w' := by
  rcases hu with ⟨e', hu⟩ | hu
  all_goals
    simp only [Builtin.append_, Sem.run_bind, run_underlying ht, run_underlying hu, sizeOf, typeInfo, run_program, hi, hlen, hg, hnew, hst,
      Result.andThen_ok, Sem.run_pure, Sem.run_ite, List.getElem?_toArray, List.getElem?_cons_zero, List.getElem?_cons_succ, Bool.false_eq_true, if_false, Bool.not_false, if_true]

theorem splice_nil (cs : List AV) (k : Nat) : splice cs k [] = cs := by simp [splice]
theorem Heap.put_same : ∀ {H : Heap} {h : Nat} {o : HO}, H.get h = some o → H.put h o = H
  | (k, o') :: r, h, o, e => by
    simp only [Heap.get] at e
    simp only [Heap.put]
    split at e
    · cases e; rfl
    · rw [Heap.put_same e]

theorem append_sound {H : Heap} {nx nx' : Nat} {s y v : AV} {cs0 : List AV} {cs' cy : Value} {sz bytes : Nat} {H' : Heap} {t u ty e : TypeId} (hr : HR E H w) (hs : VR E w s cs') (hy : VR E w y cy)
    (ht : P.underlying t = some (.slice e)) (hu : (∃ e', P.underlying u = some (.slice e')) ∨ P.underlying u = some .string) (hz : zerosT P e = some cs0) (hsz : sizeT P e = some sz) (hby : bytesT P e = some bytes) (hsz0 : 0 < sz)
    (hfresh : ∀ h, nx ≤ h → h < nx' → ¬ E.D h) (h : xappend H nx s y sz bytes = some (v, H', nx')) : SemOK P (Builtin.append_ #[t, u] ty #[cs', cy]) E H w nx v H' nx' := by
  obtain ⟨i, z, hi, hiz, hzs, hsi, _, _, _⟩ := VR.zero (P := P) (E := E) (w := w) (z := .bool true) (v := .bool true) (n := 0) hz
  have : i.size = sz := by rw [hsz] at hsi; simpa using hsi.symm
  subst this
  have hb : i.bytes = bytes := by unfold bytesT at hby; rw [hi] at hby; simpa using hby
  subst hb
  unfold xappend at h
  split at h
  · cases h
  · rename_i n ys hcont
    obtain ⟨vs, k1, k2, k3, k4, k5, k6, _⟩ := content_sound (P := P) hr hy hcont
    have k7 := k6 w rfl
    have room : ∀ {m : Nat}, m * i.bytes ≤ roomBits → m * i.bytes ≤ 140737488355328 := fun h => by unfold roomBits at h; omega
    -- a new array
    have grow : ∀ {a : Option Addr} {sLen sCap : Nat} {olds : List AV} {ovs : List Value}, VRs E w olds ovs → (∀ v ∈ ovs, v.oneCell' = true) → ovs.length = sLen * i.size →
        (∀ w' : World, w'.heap = w.heap → (Builtin.firstCells i.size sLen (.slice a sLen sCap)).run P w' = .ok ovs.toArray w') → sCap < sLen + n → sLen + n ≤ maxStr → (sLen + n) * i.bytes ≤ 140737488355328 → ¬ E.D nx →
        ∃ cap w', (Builtin.append_ #[t, u] ty #[.slice a sLen sCap, cy]).run P w = .ok (.slice (some ⟨w.heap.size, 0, none⟩) (sLen + n) cap) w' ∧
          HR (E.add nx w.heap.size) ((nx, .cells false (olds ++ ys)) :: H) w' ∧ Tr E H w (E.add nx w.heap.size) ((nx, .cells false (olds ++ ys)) :: H) w' nx (nx + 1) ∧
          VR (E.add nx w.heap.size) w' (.row nx 0 (sLen + n) i.size (sLen + n) false) (.slice (some ⟨w.heap.size, 0, none⟩) (sLen + n) cap) := by
      intro a sLen sCap olds ovs ho ho1 hol hof hlt h63 hfit hnd
      obtain ⟨cap, w', c1, c2, c3, c4, c5, c6, c7⟩ := run_append_new (P := P) (ty := ty) ht hu hi hiz hof k5 k6 hlt h63 hfit
      have hcr : CR E w (olds ++ ys) (ovs.toArray ++ vs.toArray ++ Builtin.zeroCells z.cells (cap - (sLen + n))).toList := by
        have h1 := CR.of_vrs (ho.append k1) (fun v hv => (List.mem_append.1 hv).elim (ho1 v) (k2 v))
        refine ⟨by have := h1.1; simp at this ⊢; omega, fun i x hx => ?_⟩
        obtain ⟨u, a1, a2, a3⟩ := h1.2 i x hx
        refine ⟨u, ?_, a2, a3⟩
        have hi' : i < (ovs ++ vs).length := (List.getElem?_eq_some_iff.1 a1).1
        simp only [Array.toList_append]
        rw [List.getElem?_append_left (by simpa using hi')]
        exact a1
      obtain ⟨n1, n2⟩ := new_cells (st := false) (e := e) hr hnd hcr
      obtain ⟨d1, d2⟩ := drew_step (w' := w') n1 ⟨by rw [c3], c4, c5, c6⟩ (nx + 1)
      refine ⟨cap, w', c7, d1, n2.trans n1 d2, ?_⟩
      have := VR.row (E := E.add nx w.heap.size) (w := w') nx 0 (sLen + n) i.size (sLen + n) cap false (.inr rfl) c1 c2 hsz0 c1 (fun h => by cases h)
        ⟨_, e, (0, 0), by rw [Env.add_ρ_new, c3]; exact heap_push_new, by simp [size_zeros, hol, k3, hzs]; rw [← Nat.add_mul, ← Nat.add_mul]; exact Nat.mul_le_mul_right _ (by omega)⟩
      rw [Env.add_ρ_new] at this
      exact this
    split at h
    · -- nil
      cases hs
      split at h
      · cases h
        have hv0 : vs = [] := List.eq_nil_of_length_eq_zero (by simpa using k3)
        refine ⟨.slice none 0 0, E, w, ?_, hr, .refl _, .nilslice⟩
        rcases hu with ⟨e', hu⟩ | hu
        · simp [Builtin.append_, run_underlying ht, run_underlying hu, sizeOf, typeInfo, hi, k5, k7]
        · simp [Builtin.append_, run_underlying ht, run_underlying hu, sizeOf, typeInfo, hi, k5, k7]
      · split at h
        · rename_i m _ hroom
          cases h
          obtain ⟨cap, w', g1, g2, g3, g4⟩ := grow (a := none) (sLen := 0) (sCap := 0) VRs.nil (fun v hv => by simp at hv) (by simp) (fun w' _ => by simp [Builtin.firstCells]) (by omega) (by omega)
            (by have := room (Nat.le_of_ble_eq_true hroom); simpa using this) (hfresh nx (Nat.le_refl _) (by omega))
          simp only [Nat.zero_add, List.nil_append] at g1 g2 g3 g4
          exact ⟨_, _, w', g1, g2, g3, g4⟩
        · cases h
    · -- a row
      rename_i hd off len sz' cp ex
      split at h
      · cases h
      · rename_i hse
        have := nbeq_true hse
        subst this
        split at h
        rotate_left
        · cases h
        rename_i st cs hget
        split at h
        · cases h
        rename_i hin
        have hin' : off + len * i.size ≤ cs.length := Nat.le_of_ble_eq_true hin
        split at h
        · cases h
        rename_i hroom
        simp only [Bool.and_eq_true] at hroom
        have hroom' := room (Nat.le_of_ble_eq_true hroom.1)
        have h63 : len + n ≤ maxStr := by
          have := Nat.le_of_ble_eq_true hroom.2
          unfold roomBits at this
          unfold maxStr
          omega
        have hself : content H i.size (.row hd off len i.size cp ex) = some (len, (cs.drop off).take (len * i.size)) := by
          simp only [content, Nat.beq_refl, hget, hin]
        obtain ⟨os, o1, o2, o3, o4, o5, o6, o7⟩ := content_sound (P := P) hr hs hself
        have hfc : ∀ {a : Option Addr} {cap : Nat}, cs' = .slice a len cap → ∀ w' : World, w'.heap = w.heap → (Builtin.firstCells i.size len (.slice a len cap)).run P w' = .ok os.toArray w' := fun e w' h => e ▸ o6 w' h
        cases hs with
        | row0 _ _ _ _ a =>
          split at h
          · rename_i hle
            have hn0 : n = 0 := by have := Nat.le_of_ble_eq_true hle; omega
            subst hn0
            have hv0 : vs = [] := List.eq_nil_of_length_eq_zero (by simpa using k3)
            have hy0 : ys = [] := List.eq_nil_of_length_eq_zero (by rw [k1.1, hv0]; rfl)
            subst hv0; subst hy0
            cases h
            rw [splice_nil, Heap.put_same hget]
            refine ⟨_, E, w, run_append_in (P := P) ht hu hi k5 k7 (by omega) (by simp [storeCells]), hr, .refl _, ?_⟩
            exact .row0 hd off _ _ a
          · rename_i hle
            have hn0 : 0 < n := by
              rcases Nat.eq_zero_or_pos n with h0 | h0
              · subst h0; simp at hle
              · exact h0
            have hgrow := fun hnd => grow (a := some a) (sCap := 0) o1 o2 o3 (hfc rfl) (by omega) h63 hroom' hnd
            split at h
            · cases h
              obtain ⟨cap, w', g1, g2, g3, g4⟩ := hgrow (hfresh nx (Nat.le_refl _) (by omega))
              exact ⟨_, _, w', g1, g2, g3, g4⟩
            · split at h
              · omega
              · split at h
                · cases h
                  obtain ⟨cap, w', g1, g2, g3, g4⟩ := hgrow (hfresh nx (Nat.le_refl _) (by omega))
                  have hsub : ((nx, HO.cells false ((cs.drop 0).take (0 * i.size) ++ ys)) :: H.del hd).Sublist ((nx, HO.cells false ((cs.drop 0).take (0 * i.size) ++ ys)) :: H) := (Heap.sub_del H hd).cons_cons _
                  refine ⟨_, _, w', g1, (g2.sub hsub).head_less ?_, (g3.sub hsub).head_less, g4⟩
                  rintro ⟨c, e', f, a1, a2, a3, a4⟩
                  exact ⟨c, e', f, a1, by simpa using a2, a3.imp id (fun ⟨x, _⟩ => by cases x), fun i' x hx => a4 i' x (by simpa using hx)⟩
                · cases h
        | row _ _ _ _ _ cap _ hD hlen hcap hsz0' hcp hex hbk =>
          have inplace : n + len ≤ cap → ∃ w', (storeCells ((⟨E.ρ hd, off, none⟩ : Addr).add (len * i.size)) vs).run P w = .ok () w' ∧ HR E (H.put hd (.cells st (splice cs (off + len * i.size) ys))) w' ∧
              Tr E H w E (H.put hd (.cells st (splice cs (off + len * i.size) ys))) w' nx nx := fun hle => by
            rw [add_addr]
            obtain ⟨c, e', f, b1, b2⟩ := hbk
            refine stores_step hr hget k1 k2 (.inr ⟨hin', c, e', f, b1, ?_⟩) nx
            rw [k1.1, k3]
            have : len * i.size + n * i.size ≤ cap * i.size := by rw [← Nat.add_mul]; exact Nat.mul_le_mul_right _ (by omega)
            omega
          have hgrow := fun hlt hnd => grow (a := some ⟨E.ρ hd, off, none⟩) (sCap := cap) o1 o2 o3 (hfc rfl) hlt h63 hroom' hnd
          split at h
          · rename_i hle
            have hle' : len + n ≤ cp := Nat.le_of_ble_eq_true hle
            cases h
            obtain ⟨w', r1, r2, r3⟩ := inplace (by omega)
            obtain ⟨c, e', f, b1, b2⟩ := hbk
            obtain ⟨c', f', s1, s2⟩ := r3.shapes _ _ _ _ b1
            exact ⟨_, E, w', run_append_in (P := P) ht hu hi k5 k7 (by omega) r1, r2, r3, .row hd off (len + n) _ cp cap ex hD (by omega) hcap hsz0' hcp hex ⟨c', e', f', s1, by omega⟩⟩
          · rename_i hle
            have hle' : ¬ len + n ≤ cp := fun h => by rw [Nat.ble_eq_true_of_le h] at hle; cases hle
            split at h
            · cases h
              have := hex rfl
              obtain ⟨cap', w', g1, g2, g3, g4⟩ := hgrow (by omega) (hfresh nx (Nat.le_refl _) (by omega))
              exact ⟨_, _, w', g1, g2, g3, g4⟩
            · split at h
              · cases h
                have hv0 : vs = [] := List.eq_nil_of_length_eq_zero (by simpa using k3)
                subst hv0
                refine ⟨_, E, w, run_append_in (P := P) ht hu hi k5 k7 (by omega) (by simp [storeCells]), hr, .refl _, ?_⟩
                exact .row hd off len _ cp cap false hD hlen hcap hsz0' hcp hex hbk
              · split at h
                · cases h
                  have hnd := hfresh nx (Nat.le_refl _) (by omega)
                  by_cases hc : len + n ≤ cap
                  · obtain ⟨q1, q2, q3⟩ := rename_step hr hget hnd
                    obtain ⟨c, e', f, b1, b2⟩ := hbk
                    have hg' : Heap.get ((nx, HO.cells st cs) :: H.del hd) nx = some (.cells st cs) := by simp [Heap.get, Nat.beq_refl]
                    have hρ := Env.add_ρ_new E nx (E.ρ hd)
                    obtain ⟨w', r1, r2, r3⟩ := stores_step (P := P) q1 hg' (off := 0 + len * i.size) (k1.mono q3) k2 (.inr ⟨hin', c, e', f, by rw [hρ]; exact b1, by
                      rw [k1.1, k3]
                      have : len * i.size + n * i.size ≤ cap * i.size := by rw [← Nat.add_mul]; exact Nat.mul_le_mul_right _ (by omega)
                      omega⟩) (nx + 1)
                    rw [hρ, ← add_addr] at r1
                    have hput : Heap.put ((nx, HO.cells st cs) :: H.del hd) nx (.cells st (splice cs (0 + len * i.size) ys)) = (nx, HO.cells st (splice cs (0 + len * i.size) ys)) :: H.del hd := by simp [Heap.put, Nat.beq_refl]
                    rw [hput] at r2 r3
                    obtain ⟨c', f', s1, s2⟩ := (q2.trans q1 r3).shapes _ _ _ _ b1
                    have htake : cs.take (len * i.size) ++ ys = (splice cs (0 + len * i.size) ys).take (len * i.size + ys.length) := by
                      unfold splice
                      rw [Nat.zero_add]
                      exact (List.take_left' (by simp; omega)).symm
                    refine ⟨_, _, w', run_append_in (P := P) ht hu hi k5 k7 hc r1, r2.head_less ?_, (q2.trans q1 r3).head_less, ?_⟩
                    · intro ho
                      obtain ⟨cc, ee, ff, a1, a2, a3⟩ := CR.of_or ho
                      rw [htake]
                      exact (a3.take _).or a1 a2
                    · have := VR.row (E := E.add nx (E.ρ hd)) (w := w') nx 0 (len + n) i.size (len + n) cap false (.inr rfl) hc hcap hsz0 hc (fun h => by cases h) ⟨c', e', f', by rw [hρ]; exact s1, by omega⟩
                      rw [hρ] at this
                      exact this
                  · obtain ⟨cap', w', g1, g2, g3, g4⟩ := hgrow (by omega) hnd
                    have hsub : ((nx, HO.cells false ((cs.drop 0).take (len * i.size) ++ ys)) :: H.del hd).Sublist ((nx, HO.cells false ((cs.drop 0).take (len * i.size) ++ ys)) :: H) := (Heap.sub_del H hd).cons_cons _
                    refine ⟨_, _, w', g1, (g2.sub hsub).head_less ?_, (g3.sub hsub).head_less, g4⟩
                    rintro ⟨c, e', f, a1, a2, a3, a4⟩
                    exact ⟨c, e', f, a1, by simpa using a2, a3.imp id (fun ⟨x, _⟩ => by cases x), fun i' x hx => a4 i' x (by simpa using hx)⟩
                · cases h
    · -- a list
      rename_i zz es
      split at h
      · cases h
        have hv0 : vs = [] := List.eq_nil_of_length_eq_zero (by simpa using k3)
        subst hv0
        cases hs with
        | lst0 _ a c hcm =>
          refine ⟨.slice a 0 c, E, w, ?_, hr, .refl _, .lst0 _ a c hcm⟩
          rcases hu with ⟨e', hu⟩ | hu <;> cases a <;>
            simp [Builtin.append_, run_underlying ht, run_underlying hu, sizeOf, typeInfo, hi, k5, k7, storeCells]
        | lst _ b o cap sz' f hz' hcap hcm hfl hf hc =>
          refine ⟨_, E, w, run_append_in (P := P) ht hu hi k5 k7 (by omega) (by simp [storeCells]), hr, .refl _, ?_⟩
          exact .lst es b o cap _ f hz' hcap hcm hfl hf hc
      · cases h
    · cases h
end
end Go.Sy

/- Operations on maps with plain keys. No condition. -/
namespace Go.Sy
section
variable {P : Program} {E : Env} {w : World}

theorem seqb_eq : ∀ {a b : List Nat}, seqb a b = true → a = b
  | [], [], _ => rfl
  | a :: x, b :: y, h => by
    simp only [seqb] at h
    split at h
    · rename_i hb
      rw [nbeq_true hb, seqb_eq h]
    · cases h
  | [], _ :: _, h => by simp [seqb] at h
  | _ :: _, [], h => by simp [seqb] at h
theorem eqb_eq {k : Kd} {x y : AV} (h : eqb k x y = some true) : x = y := by
  unfold eqb at h
  split at h
  · simp at h; rw [h]
  · split at h
    · rename_i hk
      rw [ksame_eq hk]
      simp at h; rw [h]
    · cases h
  · simp only [Option.some.injEq] at h; rw [seqb_eq h]
  · cases h
theorem eqbs_eq : ∀ {ks : List Kd} {x y : List AV}, eqbs ks x y = some true → x = y
  | [], [], [], _ => rfl
  | k :: ks, a :: x, b :: y, h => by
    simp only [eqbs] at h
    split at h
    · rename_i hb
      rw [eqb_eq hb, eqbs_eq h]
    · cases h
    · cases h
  | [], _ :: _, _, h => by simp [eqbs] at h
  | [], [], _ :: _, h => by simp [eqbs] at h
  | _ :: _, [], _, h => by simp [eqbs] at h
  | _ :: _, _ :: _, [], h => by simp [eqbs] at h
theorem eqk_eq {ag : Bool} {ks : List Kd} {x y : AV} (h : eqk ag ks x y = some true) : x = y := by
  unfold eqk at h
  split at h
  · split at h
    · unfold eqs at h
      split at h
      · rw [eqbs_eq h]
      · cases h
    · cases h
  · split at h
    · cases h
    · split at h
      · exact eqb_eq h
      · cases h

theorem eqb_cells {k : Kd} {x y : AV} {b : Bool} (h : eqb k x y = some b) : x.cells = [x] ∧ y.cells = [y] := by
  unfold eqb at h
  split at h <;> first | exact ⟨rfl, rfl⟩ | cases h

/-- A key: what its cells are, and of which shape it is. -/
theorem eqk_sound {ag : Bool} {ks : List Kd} {kt : TypeId} {x y : AV} {cx cy : Value} {b : Bool} (hk : flatK P 6 kt = some ks) (hg : agT P kt = some ag) (hx : VR E w x cx) (hy : VR E w y cy)
    (h : eqk ag ks x y = some b) : (Op.equal kt cx cy).run P w = .ok b w := by
  unfold eqk at h
  split at h
  · split at h
    · unfold eqs at h
      split at h
      · rename_i l1 l2
        obtain ⟨vs, rfl, h2, _⟩ := hx.of_agg
        obtain ⟨us, rfl, h4, _⟩ := hy.of_agg
        exact equal_plain hk 9994 _ _ _ _ _ _ _ h2 h4 (.inl ⟨hg, rfl⟩) (.inl ⟨hg, rfl⟩) (by rw [← h2.1]; exact nbeq_true l1) (by rw [← h4.1]; exact nbeq_true l2) h
      · cases h
    · cases h
  · split at h
    · cases h
    · split at h
      · rename_i k
        have hb : eqbs [k] [x] [y] = some b := by
          simp only [eqbs, h]
          cases b <;> rfl
        exact equal_plain hk 9994 _ _ _ _ _ _ _ (VRs.cons hx VRs.nil) (VRs.cons hy VRs.nil) (.inr ⟨hg, rfl⟩) (.inr ⟨hg, rfl⟩) rfl rfl hb
      · cases h

theorem checkKey_plain : ∀ {d : Nat} {t : TypeId} {ks : List Kd}, flatK P d t = some ks → ∀ (em : Bool) (D : Nat) (vs : List Value) (cv : Value), shaped P t vs cv → vs.length = ks.length →
    (Instr.checkKey em (D + d) t cv).run P w = .ok () w
  | 0, t, ks, h => by simp [flatK] at h
  | d + 1, t, ks, h => by
    intro em D vs cv sv lv
    unfold flatK at h
    have base : (∃ k, P.underlying t = some (.int k)) ∨ P.underlying t = some .bool ∨ P.underlying t = some .string → (Instr.checkKey em (D + (d + 1)) t cv).run P w = .ok () w := by
      rw [← Nat.add_assoc]
      rintro (⟨k, hu⟩ | hu | hu) <;> simp [Instr.checkKey, run_underlying hu]
    split at h
    · rename_i hut; exact base (.inr (.inl hut))
    · rename_i hut; exact base (.inl ⟨_, hut⟩)
    · rename_i hut; exact base (.inr (.inr hut))
    · rename_i fs hut
      split at h
      · cases h
      · have hag : agT P t = some true := by simp [agT, hut]
        rcases sv with ⟨_, rfl⟩ | ⟨h1, _⟩
        rotate_left
        · rw [hag] at h1; cases h1
        rw [← Nat.add_assoc]
        simp only [Instr.checkKey, Sem.run_bind, run_underlying hut, Result.andThen_ok]
        rw [← Array.forIn_toList]
        have key : ∀ (l : List Field) (n : Nat) (ls : List Kd), flatFs P (flatK P d) n l = some ls → n + ls.length = vs.length →
            ((forIn l PUnit.unit fun f r => do
              if f.name ≠ "_" then do
                  let r ← Go.part f.type vs.toArray f.offset
                  let r ← Instr.checkKey em (D + d) f.type r
                  pure (ForInStep.yield PUnit.unit)
                else do
                  pure (ForInStep.yield PUnit.unit) : Sem PUnit)).run P w = .ok PUnit.unit w := by
          intro l
          induction l with
          | nil => intro n ls _ _; simp
          | cons f r ih =>
            intro n ls hl n1
            simp only [flatFs] at hl
            split at hl
            · rename_i kf s hnm hoff hkf hsz
              split at hl
              · rename_i hlen
                split at hl
                · rename_i rs hrs
                  cases hl
                  have hlen' : kf.length = s := nbeq_true hlen
                  have hoff' : f.offset = n := nbeq_true hoff
                  obtain ⟨g, hg, hg1⟩ := flatK_ag hkf
                  have hls : (kf ++ rs).length = s + rs.length := by rw [List.length_append, hlen']
                  obtain ⟨pv, hpv, spv⟩ := part_shaped (P := P) (w := w) (xs := vs.toArray) (t := f.type) (off := n) (sz := s) hg hsz (fun h => by rw [← hlen']; exact hg1 h) (by simp; omega)
                  have e1 := checkKey_plain hkf em D _ _ spv (by simp; omega)
                  have hnm' : f.name ≠ "_" := by simpa using hnm
                  have ih' := ih (n + s) rs hrs (by omega)
                  simp only [List.forIn_cons, hnm', ne_eq, not_false_eq_true, if_true, hoff', Sem.run_bind, hpv, Result.andThen_ok, e1, Sem.run_pure]
                  exact ih'
                · cases hl
              · cases hl
            · cases hl
        have k0 := key fs.toList 0 ks h (by omega)
        rw [k0]
        rfl
    · cases h

theorem checkKey_sound {ag : Bool} {ks : List Kd} {kt : TypeId} {k : AV} {ck : Value} {em : Bool} (hk : flatK P 6 kt = some ks) (hg : agT P kt = some ag) (hv : VR E w k ck) (h : keyOk ag ks k = true) :
    (Instr.checkKey em 10000 kt ck).run P w = .ok () w := by
  have one : ag = false → ks.length = 1 → (Instr.checkKey em 10000 kt ck).run P w = .ok () w := fun e l =>
    checkKey_plain hk em 9994 [ck] ck (.inr ⟨e ▸ hg, rfl⟩) (by rw [l]; rfl)
  unfold keyOk at h
  split at h
  · simp only [Bool.and_eq_true] at h
    obtain ⟨vs, rfl, h2, _⟩ := hv.of_agg
    exact checkKey_plain hk em 9994 vs.toList _ (.inl ⟨h.1 ▸ hg, by simp⟩) (by rw [← h2.1]; exact nbeq_true h.2)
  · simp only [Bool.and_eq_true, Bool.not_eq_true'] at h; exact one h.1 (nbeq_true h.2)
  · simp only [Bool.and_eq_true, Bool.not_eq_true'] at h; exact one h.1 (nbeq_true h.2)
  · simp only [Bool.and_eq_true, Bool.not_eq_true'] at h; exact one h.1 (nbeq_true h.2)
  · cases h

/-- The quick look finds what the slow one does. -/
theorem sameNow_equal {kt : TypeId} {kind : TypeDesc} (hk : P.underlying kt = some kind) {x y : Value} {b : Bool} (h : Instr.sameNow kind x y = some b) : (Op.equal kt x y).run P w = .ok b w := by
  unfold Instr.sameNow at h
  split at h
  · split at h
    · rename_i e
      subst e
      cases h
      exact run_equalIn_int w 9999 kt _ _ _ _ hk
    · cases h
  · cases h
    exact (run_equalIn_string w 9999 kt _ _ hk).trans (by rw [beq_toListBytes])
  · cases h
    exact run_equalIn_bool w 9999 kt _ _ hk
  · cases h
theorem findNow_asking {kt : TypeId} {kind : TypeDesc} (hk : P.underlying kt = some kind) {k : Value} : ∀ {es : List MapEntry} {i : Nat} {r : Option (Nat × Value)}, Instr.findNow kind k es i = some r → (Instr.findAsking kt k es i).run P w = .ok r w
  | [], i, r, h => by simp [Instr.findNow] at h; subst h; simp [Instr.findAsking]
  | e :: es, i, r, h => by
    simp only [Instr.findNow] at h
    split at h
    · rename_i hs
      cases h
      simp [Instr.findAsking, sameNow_equal (P := P) (w := w) hk hs]
    · rename_i hs
      have := findNow_asking hk h
      simp [Instr.findAsking, sameNow_equal (P := P) (w := w) hk hs, this]
    · cases h
theorem run_findKey {kt : TypeId} {k : Value} {es : List MapEntry} {r : Option (Nat × Value)} (hk : ∃ kind, P.underlying kt = some kind) (h : (Instr.findAsking kt k es).run P w = .ok r w) : (Instr.findKey kt k es).run P w = .ok r w := by
  obtain ⟨kind, hk⟩ := hk
  simp only [Instr.findKey, Sem.run_bind, run_underlying hk, Result.andThen_ok]
  split
  · rename_i r' hr
    have := findNow_asking (w := w) hk hr
    rw [h] at this
    cases this
    rfl
  · exact h

/-- Entries, as what they hold. -/
def ER (E : Env) (w : World) (es : List (AV × AV)) (c : List MapEntry) : Prop :=
  es.length = c.length ∧ ∀ (i : Nat) k x, es[i]? = some (k, x) → ∃ m, c[i]? = some m ∧ VR E w k m.key ∧ VR E w x m.val

theorem ER.of_cons {k x : AV} {es : List (AV × AV)} {c : List MapEntry} (h : ER E w ((k, x) :: es) c) : ∃ m c', c = m :: c' ∧ VR E w k m.key ∧ VR E w x m.val ∧ ER E w es c' := by
  cases c with
  | nil => have := h.1; simp at this
  | cons m c =>
    obtain ⟨m', h1, h2, h3⟩ := h.2 0 k x rfl
    simp at h1
    subst h1
    exact ⟨m, c, rfl, h2, h3, by have := h.1; simpa using this, fun i k x hx => by have := h.2 (i + 1) k x (by simpa using hx); simpa using this⟩

theorem find_sound {ag : Bool} {ks : List Kd} {kt : TypeId} {k : AV} {ck : Value} (hk : flatK P 6 kt = some ks) (hg : agT P kt = some ag) (hv : VR E w k ck) : ∀ {es : List (AV × AV)} {c : List MapEntry} {i : Nat} {r : Option AV},
    ER E w es c → mfind ag ks k es = some r → ∃ r' : Option (Nat × Value), (Instr.findAsking kt ck c i).run P w = .ok r' w ∧
      (match r with | none => r' = none | some v => ∃ j cv, r' = some (i + j, cv) ∧ VR E w v cv ∧ ∃ k', es[j]? = some (k', v) ∧ k' = k)
  | [], c, i, r, he, h => by
    have : c = [] := by have := he.1; cases c <;> simp_all
    subst this
    simp [mfind] at h
    subst h
    exact ⟨none, by simp [Instr.findAsking], rfl⟩
  | (j, v) :: es, c, i, r, he, h => by
    obtain ⟨m, c', rfl, h1, h2, h3⟩ := he.of_cons
    simp only [mfind] at h
    split at h
    · rename_i hq
      cases h
      refine ⟨some (i, m.val), by simp [Instr.findAsking, eqk_sound hk hg hv h1 hq], 0, m.val, rfl, h2, j, rfl, (eqk_eq hq).symm⟩
    · rename_i hq
      obtain ⟨r', r1, r2⟩ := find_sound hk hg hv (i := i + 1) h3 h
      refine ⟨r', by simp [Instr.findAsking, eqk_sound hk hg hv h1 hq, r1], ?_⟩
      cases r with
      | none => exact r2
      | some v =>
        obtain ⟨j', cv, e1, e2, k', e3, e4⟩ := r2
        exact ⟨j' + 1, cv, by rw [e1]; congr 2; omega, e2, k', by simpa using e3, e4⟩
    · cases h

theorem zeroT_sound {t : TypeId} {z : AV} (h : zeroT P t = some z) : ∃ cz, (zeroValue t).run P w = .ok cz w ∧ ∀ {E : Env} {w' : World}, VR E w' z cz := by
  unfold zeroT at h
  split at h
  · rename_i i hi
    split at h
    · rename_i v hv
      exact ⟨v, by simp [zeroValue, typeInfo, hi, hv], fun {E w'} => cav_sound h⟩
    · cases h
  · cases h

theorem VR.of_map {h : Nat} {cv : Value} (hv : VR E w (.map h) cv) : cv = .map (some (E.ρ h)) ∧ E.D h := by cases hv; exact ⟨rfl, by assumption⟩

theorem ok_pair {v : AV} {cv : Value} {b : Bool} (h : VR E w v cv) : VR E w (.tup [v, .bool b]) (.tuple #[cv, .bool b]) :=
  VR.mk_tup (VRs.cons h (VRs.cons (.bool b) VRs.nil))

theorem lookup_sound {H : Heap} {ag ok : Bool} {ks : List Kd} {t kt et : TypeId} {m k z v : AV} {cm ck : Value} (hr : HR E H w) (ht : P.underlying t = some (.map kt et)) (hk : flatK P 6 kt = some ks) (hg : agT P kt = some ag)
    (hz : zeroT P et = some z) (hm : VR E w m cm) (hv : VR E w k ck) (hok : keyOk ag ks k = true)
    (h : (m = .nilmap ∧ v = (match ok with | true => .tup [z, .bool false] | false => z)) ∨ ∃ hd es r, m = .map hd ∧ H.get hd = some (.map es) ∧ mfind ag ks k es = some r ∧
      v = (match r with | some v => (match ok with | true => .tup [v, .bool true] | false => v) | none => (match ok with | true => .tup [z, .bool false] | false => z))) :
    ∃ cv, (Instr.lookup t cm ck ok).run P w = .ok cv w ∧ VR E w v cv := by
  obtain ⟨cz, z1, z2⟩ := zeroT_sound (w := w) hz
  have hkind : ∃ kind, P.underlying kt = some kind := by
    unfold agT at hg
    split at hg <;> first | exact ⟨_, by assumption⟩ | cases hg
  rcases h with ⟨rfl, rfl⟩ | ⟨hd, es, r, rfl, hget, hf, rfl⟩
  · cases hm
    have hck := checkKey_sound (P := P) (em := true) hk hg hv hok
    have hfk := run_findKey (P := P) (w := w) (k := ck) (es := []) (r := none) hkind (by simp [Instr.findAsking])
    cases ok
    · exact ⟨cz, by simp [Instr.lookup, run_underlying ht, hck, hfk, z1], z2⟩
    · exact ⟨.tuple #[cz, .bool false], by simp [Instr.lookup, run_underlying ht, hck, hfk, z1], ok_pair z2⟩
  · obtain ⟨rfl, hD⟩ := hm.of_map
    obtain ⟨c, clock, hb, hl, hent, _⟩ := hr.obj _ (Heap.mem_of_get hget)
    have he : ER E w es c.toList := ⟨by simpa using hl, fun i k x hx => let ⟨m, a, b, d, _⟩ := hent i k x hx; ⟨m, by simpa using a, b, d⟩⟩
    obtain ⟨r', r1, r2⟩ := find_sound (P := P) (i := 0) hk hg hv he hf
    have hck := checkKey_sound (P := P) (em := c.isEmpty) hk hg hv hok
    have hfk := run_findKey (P := P) (w := w) (k := ck) (es := c.toList) (r := r') hkind r1
    have hgo : (getObj (E.ρ hd)).run P w = .ok (.map c clock) w := by simp [getObj, Sem.run, hb]
    cases r with
    | none =>
      subst r2
      cases ok
      · exact ⟨cz, by simp [Instr.lookup, run_underlying ht, hgo, hck, hfk, z1], z2⟩
      · exact ⟨.tuple #[cz, .bool false], by simp [Instr.lookup, run_underlying ht, hgo, hck, hfk, z1], ok_pair z2⟩
    | some v =>
      obtain ⟨j, cv, rfl, e2, _⟩ := r2
      cases ok
      · exact ⟨cv, by simp [Instr.lookup, run_underlying ht, hgo, hck, hfk], e2⟩
      · exact ⟨.tuple #[cv, .bool true], by simp [Instr.lookup, run_underlying ht, hgo, hck, hfk], ok_pair e2⟩

/-- An object that is no row of cells is turned. -/
theorem setObj_step {H : Heap} (hr : HR E H w) {h : Nat} {o o' : HO} (hg : H.get h = some o) {ob ob' : Obj} (hb : w.heap[E.ρ h]? = some ob) (hn : ∀ c e f, ob ≠ .cells c e f)
    (hob : ∀ w' : World, w'.heap[E.ρ h]? = some ob' → (∀ {v cv}, VR E w v cv → VR E w' v cv) → OR E w' (E.ρ h) o') (a : Nat) :
    ∃ w', (setObj (E.ρ h) ob').run P w = .ok () w' ∧ HR E (H.put h o') w' ∧ Tr E H w E (H.put h o') w' a a ∧ ∀ {v cv}, VR E w v cv → VR E w' v cv := by
  have hlt := (Array.getElem?_eq_some_iff.1 hb).1
  refine ⟨{ w with heap := w.heap.setIfInBounds (E.ρ h) ob' }, ?_, ?_⟩
  · cases ob <;> first | exact absurd rfl (hn _ _ _) | simp only [setObj, Sem.run, hb]
  · refine modify_step (w' := { w with heap := w.heap.setIfInBounds (E.ρ h) ob' }) hr hg rfl rfl rfl (by simp) (fun b hne => ?_) (fun b c e f hb' => ?_) (fun hm => hob _ ?_ hm) a
    · show (w.heap.setIfInBounds (E.ρ h) ob')[b]? = _
      rw [Array.getElem?_setIfInBounds, if_neg (Ne.symm hne)]
    · refine ⟨c, f, ?_, rfl⟩
      show (w.heap.setIfInBounds (E.ρ h) ob')[b]? = _
      rw [Array.getElem?_setIfInBounds]
      split
      · rename_i e
        subst e
        rw [hb] at hb'
        cases hb'
        exact absurd rfl (hn _ _ _)
      · exact hb'
    · show (w.heap.setIfInBounds (E.ρ h) ob')[E.ρ h]? = _
      rw [Array.getElem?_setIfInBounds, if_pos rfl, if_pos hlt]

/-- Where a key is put. -/
theorem mput_sound {ag : Bool} {ks : List Kd} {kt : TypeId} {k x : AV} {ck : Value} (hk : flatK P 6 kt = some ks) (hg : agT P kt = some ag) (hv : VR E w k ck) : ∀ {es es' : List (AV × AV)} {c : List MapEntry} {i : Nat},
    ER E w es c → mput ag ks k x es = some es' →
    ((Instr.findAsking kt ck c i).run P w = .ok none w ∧ es' = es ++ [(k, x)]) ∨ ∃ j cv x', (Instr.findAsking kt ck c i).run P w = .ok (some (i + j, cv)) w ∧ es[j]? = some (k, x') ∧ es' = es.set j (k, x)
  | [], es', c, i, he, h => by
    have : c = [] := by have := he.1; cases c <;> simp_all
    subst this
    simp [mput] at h
    subst h
    exact .inl ⟨by simp [Instr.findAsking], rfl⟩
  | (j, v) :: es, es', c, i, he, h => by
    obtain ⟨m, c', rfl, h1, h2, h3⟩ := he.of_cons
    simp only [mput] at h
    split at h
    · rename_i hq
      cases h
      exact .inr ⟨0, m.val, v, by simp [Instr.findAsking, eqk_sound hk hg hv h1 hq], by rw [eqk_eq hq]; rfl, rfl⟩
    · rename_i hq
      split at h
      · rename_i r' hr'
        cases h
        rcases mput_sound hk hg hv (i := i + 1) h3 hr' with ⟨e1, rfl⟩ | ⟨j', cv, x', e1, e2, rfl⟩
        · exact .inl ⟨by simp [Instr.findAsking, eqk_sound hk hg hv h1 hq, e1], rfl⟩
        · refine .inr ⟨j' + 1, cv, x', ?_, by simpa using e2, rfl⟩
          have : i + (j' + 1) = i + 1 + j' := by omega
          rw [this]
          simp [Instr.findAsking, eqk_sound hk hg hv h1 hq, e1]
      · cases h
    · cases h
theorem mdel_sound {ag : Bool} {ks : List Kd} {kt : TypeId} {k : AV} {ck : Value} (hk : flatK P 6 kt = some ks) (hg : agT P kt = some ag) (hv : VR E w k ck) : ∀ {es es' : List (AV × AV)} {c : List MapEntry} {i : Nat},
    ER E w es c → mdel ag ks k es = some es' →
    ((Instr.findAsking kt ck c i).run P w = .ok none w ∧ es' = es) ∨ ∃ j cv, (Instr.findAsking kt ck c i).run P w = .ok (some (i + j, cv)) w ∧ j < es.length ∧ es' = es.eraseIdx j
  | [], es', c, i, he, h => by
    have : c = [] := by have := he.1; cases c <;> simp_all
    subst this
    simp [mdel] at h
    subst h
    exact .inl ⟨by simp [Instr.findAsking], rfl⟩
  | (j, v) :: es, es', c, i, he, h => by
    obtain ⟨m, c', rfl, h1, h2, h3⟩ := he.of_cons
    simp only [mdel] at h
    split at h
    · rename_i hq
      cases h
      exact .inr ⟨0, m.val, by simp [Instr.findAsking, eqk_sound hk hg hv h1 hq], by simp, rfl⟩
    · rename_i hq
      split at h
      · rename_i r' hr'
        cases h
        rcases mdel_sound hk hg hv (i := i + 1) h3 hr' with ⟨e1, rfl⟩ | ⟨j', cv, e1, e2, rfl⟩
        · exact .inl ⟨by simp [Instr.findAsking, eqk_sound hk hg hv h1 hq, e1], rfl⟩
        · refine .inr ⟨j' + 1, cv, ?_, by simp; omega, rfl⟩
          have : i + (j' + 1) = i + 1 + j' := by omega
          rw [this]
          simp [Instr.findAsking, eqk_sound hk hg hv h1 hq, e1]
      · cases h
    · cases h

/-- Which key stays, the old one or the new one: they are the same. -/
theorem run_keyThatStays {k : AV} {c1 c2 : Value} (h1 : VR E w k c1) (h2 : VR E w k c2) : ∃ c w', (Instr.keyThatStays c1 c2).run P w = .ok c w' ∧ World.Drew w w' ∧ VR E w k c := by
  unfold Instr.keyThatStays
  split
  · exact ⟨c2, w, rfl, .refl w, h2⟩
  · simp only [Sem.run_bind, run_choose]
    have pick : ∀ (n : Nat), VR E w k (if n = 0 then c2 else c1) := fun n => by split <;> assumption
    split
    · exact ⟨_, w, rfl, .refl w, pick 0⟩
    · exact ⟨_, _, rfl, .mk w _, pick _⟩

theorem drew_vr {w' : World} (hd : World.Drew w w') {v : AV} {cv : Value} (h : VR E w v cv) : VR E w' v cv :=
  h.mono (fun _ h => ⟨h, rfl⟩) (fun b h => ⟨h, by rw [hd.1]⟩) (.of_heap hd.1)

theorem mupd_sound {H : Heap} {nx : Nat} {ag : Bool} {ks : List Kd} {t kt et : TypeId} {hd : Nat} {k x : AV} {cm ck cx : Value} {es es' : List (AV × AV)} (hr : HR E H w) (ht : P.underlying t = some (.map kt et)) (hk : flatK P 6 kt = some ks) (hg : agT P kt = some ag)
    (hm : VR E w (.map hd) cm) (hv : VR E w k ck) (hx : VR E w x cx) (hok : keyOk ag ks k = true) (hget : H.get hd = some (.map es)) (h : mput ag ks k x es = some es') :
    ∃ w', (Instr.mapUpdate t cm ck cx).run P w = .ok () w' ∧ HR E (H.put hd (.map es')) w' ∧ Tr E H w E (H.put hd (.map es')) w' nx nx := by
  obtain ⟨rfl, hD⟩ := hm.of_map
  obtain ⟨c, clock, hb, hl, hent, huniq⟩ := hr.obj _ (Heap.mem_of_get hget)
  have hkind : ∃ kind, P.underlying kt = some kind := by
    unfold agT at hg
    split at hg <;> first | exact ⟨_, by assumption⟩ | cases hg
  have he : ER E w es c.toList := ⟨by simpa using hl, fun i k x hx => let ⟨m, a, b, d, _⟩ := hent i k x hx; ⟨m, by simpa using a, b, d⟩⟩
  have hck := checkKey_sound (P := P) (em := false) hk hg hv hok
  have hgo : (getObj (E.ρ hd)).run P w = .ok (.map c clock) w := by simp [getObj, Sem.run, hb]
  rcases mput_sound (P := P) (i := 0) hk hg hv he h with ⟨e1, rfl⟩ | ⟨j, cv, x', e1, e2, rfl⟩
  · have hfk := run_findKey hkind e1
    obtain ⟨w', s1, s2, s3, _⟩ := setObj_step (P := P) hr hget hb (fun _ _ _ h => by cases h) (ob' := .map (c.push { key := ck, val := cx, born := clock }) (clock + 1)) (o' := .map (es ++ [(k, x)])) (fun w' hb' hm => by
      refine ⟨_, _, hb', by simp [hl], fun i k' v' hi => ?_, fun i j m n hi hj hbo => ?_⟩
      · rw [List.getElem?_append] at hi
        split at hi
        · rename_i hlt
          obtain ⟨m, a1, a2, a3, a4⟩ := hent i k' v' hi
          exact ⟨m, by rw [Array.getElem?_push, if_neg (by omega)]; exact a1, hm a2, hm a3, by omega⟩
        · rename_i hge
          have hi0 : i = es.length := by
            have := (List.getElem?_eq_some_iff.1 hi).1
            simp at this; omega
          subst hi0
          simp at hi
          obtain ⟨rfl, rfl⟩ := hi
          exact ⟨{ key := ck, val := cx, born := clock }, by rw [Array.getElem?_push, if_pos hl], hm hv, hm hx, Nat.lt_succ_self _⟩
      · have old : ∀ {i : Nat} {m : MapEntry}, c[i]? = some m → m.born < clock := fun {i m} hi => by
          have hlt : i < es.length := by rw [hl]; exact (Array.getElem?_eq_some_iff.1 hi).1
          obtain ⟨m', b1, _, _, b4⟩ := hent i (es[i]).1 (es[i]).2 (by simp [hlt])
          rw [hi] at b1; cases b1; exact b4
        rw [Array.getElem?_push] at hi hj
        split at hi <;> split at hj
        · omega
        · cases hi; have := old hj; simp at hbo; omega
        · cases hj; have := old hi; simp at hbo; omega
        · exact huniq i j m n hi hj hbo) nx
    exact ⟨w', by simp [Instr.mapUpdate, run_underlying ht, hgo, hck, hfk, s1], s2, s3⟩
  · have hfk := run_findKey hkind e1
    rw [Nat.zero_add] at hfk
    obtain ⟨m, a1, a2, a3, a4⟩ := hent j k x' e2
    obtain ⟨kk, w1, q1, q2, q3⟩ := run_keyThatStays (P := P) a2 hv
    obtain ⟨d1, d2⟩ := drew_step hr q2 nx
    have hb1 : w1.heap[E.ρ hd]? = some (.map c clock) := by rw [q2.1]; exact hb
    have hjl : j < c.size := (Array.getElem?_eq_some_iff.1 a1).1
    obtain ⟨w', s1, s2, s3, _⟩ := setObj_step (P := P) d1 hget hb1 (fun _ _ _ h => by cases h) (ob' := .map (c.modify j fun e => { e with key := kk, val := cx }) clock) (o' := .map (es.set j (k, x))) (fun w' hb' hm => by
      refine ⟨_, _, hb', by simp [hl], fun i k' v' hi => ?_, fun i i' m1 n1 hi hj hbo => ?_⟩
      · rw [List.getElem?_set] at hi
        rw [Array.getElem?_modify]
        split at hi
        · rename_i e
          subst e
          split at hi
          · cases hi
            exact ⟨{ m with key := kk, val := cx }, by simp [a1], hm (drew_vr q2 q3), hm (drew_vr q2 hx), a4⟩
          · cases hi
        · rename_i e
          obtain ⟨m', b1, b2, b3, b4⟩ := hent i k' v' hi
          exact ⟨m', by rw [if_neg e]; exact b1, hm (drew_vr q2 b2), hm (drew_vr q2 b3), b4⟩
      · have back : ∀ {i : Nat} {m : MapEntry}, (c.modify j fun e => { e with key := kk, val := cx })[i]? = some m → ∃ m', c[i]? = some m' ∧ m'.born = m.born := fun {i m} hi => by
          rw [Array.getElem?_modify] at hi
          split at hi
          · cases hc : c[i]? with
            | none => simp [hc] at hi
            | some y => simp [hc] at hi; exact ⟨y, rfl, by rw [← hi]⟩
          · exact ⟨m, hi, rfl⟩
        obtain ⟨p1, p2, p3⟩ := back hi
        obtain ⟨r1, r2, r3⟩ := back hj
        exact huniq i i' p1 r1 p2 r2 (by omega)) nx
    refine ⟨w', ?_, s2, d2.trans d1 s3⟩
    have hkey : ((c[j]?).map (·.key)).getD ck = m.key := by simp [a1]
    simp [Instr.mapUpdate, run_underlying ht, hgo, hck, hfk, hkey, q1, s1]

theorem del_sound {H : Heap} {nx : Nat} {ag : Bool} {ks : List Kd} {t kt et ty : TypeId} {ts : Array TypeId} {hd : Nat} {k : AV} {cm ck : Value} {es es' : List (AV × AV)} (hr : HR E H w) (ht : P.underlying t = some (.map kt et)) (hk : flatK P 6 kt = some ks) (hg : agT P kt = some ag)
    (hts : ts[0]? = some t) (hm : VR E w (.map hd) cm) (hv : VR E w k ck) (hok : keyOk ag ks k = true) (hget : H.get hd = some (.map es)) (h : mdel ag ks k es = some es') :
    ∃ w', (Builtin.delete_ ts ty #[cm, ck]).run P w = .ok (.tuple #[]) w' ∧ HR E (H.put hd (.map es')) w' ∧ Tr E H w E (H.put hd (.map es')) w' nx nx := by
  obtain ⟨rfl, hD⟩ := hm.of_map
  obtain ⟨c, clock, hb, hl, hent, huniq⟩ := hr.obj _ (Heap.mem_of_get hget)
  have hkind : ∃ kind, P.underlying kt = some kind := by
    unfold agT at hg
    split at hg <;> first | exact ⟨_, by assumption⟩ | cases hg
  have he : ER E w es c.toList := ⟨by simpa using hl, fun i k x hx => let ⟨m, a, b, d, _⟩ := hent i k x hx; ⟨m, by simpa using a, b, d⟩⟩
  have hck := checkKey_sound (P := P) (em := c.isEmpty) hk hg hv hok
  have hgo : (getObj (E.ρ hd)).run P w = .ok (.map c clock) w := by simp [getObj, Sem.run, hb]
  rcases mdel_sound (P := P) (i := 0) hk hg hv he h with ⟨e1, rfl⟩ | ⟨j, cv, e1, e2, rfl⟩
  · have hfk := run_findKey hkind e1
    obtain ⟨w', s1, s2, s3, _⟩ := setObj_step (P := P) hr hget hb (fun _ _ _ h => by cases h) (ob' := .map c clock) (o' := .map es') (fun w' hb' hm =>
      ⟨c, clock, hb', hl, fun i k x hx => let ⟨m, a, b, d, e⟩ := hent i k x hx; ⟨m, a, hm b, hm d, e⟩, huniq⟩) nx
    exact ⟨w', by simp [Builtin.delete_, hts, run_underlying ht, hgo, hck, hfk, s1], s2, s3⟩
  · have hfk := run_findKey hkind e1
    rw [Nat.zero_add] at hfk
    have hel : ∀ (i : Nat), (c.eraseIdxIfInBounds j)[i]? = if i < j then c[i]? else c[i + 1]? := fun i => by
      rw [← Array.getElem?_toList, Array.toList_eraseIdxIfInBounds, List.getElem?_eraseIdx]
      split <;> simp
    obtain ⟨w', s1, s2, s3, _⟩ := setObj_step (P := P) hr hget hb (fun _ _ _ h => by cases h) (ob' := .map (c.eraseIdxIfInBounds j) clock) (o' := .map (es.eraseIdx j)) (fun w' hb' hm => by
      refine ⟨_, _, hb', ?_, fun i k' v' hi => ?_, fun i i' m1 n1 hi hj hbo => ?_⟩
      · have e3 : (c.eraseIdxIfInBounds j).size = (c.toList.eraseIdx j).length := by rw [← Array.length_toList, Array.toList_eraseIdxIfInBounds]
        have e4 : c.toList.length = es.length := by rw [hl]; rfl
        rw [e3, List.length_eraseIdx, List.length_eraseIdx, e4]
      · rw [List.getElem?_eraseIdx] at hi
        rw [hel]
        split at hi
        · obtain ⟨m, a, b, d, e⟩ := hent _ _ _ hi; exact ⟨m, by rw [if_pos (by assumption)]; exact a, hm b, hm d, e⟩
        · obtain ⟨m, a, b, d, e⟩ := hent _ _ _ hi; exact ⟨m, by rw [if_neg (by assumption)]; exact a, hm b, hm d, e⟩
      · rw [hel] at hi hj
        split at hi <;> split at hj
        · exact huniq _ _ _ _ hi hj hbo
        · have := huniq _ _ _ _ hi hj hbo; omega
        · have := huniq _ _ _ _ hi hj hbo; omega
        · have := huniq _ _ _ _ hi hj hbo; omega) nx
    exact ⟨w', by simp [Builtin.delete_, hts, run_underlying ht, hgo, hck, hfk, s1], s2, s3⟩
end
end Go.Sy

/- The other operations. No condition. -/
namespace Go.Sy
section
variable {P : Program} {E : Env} {w : World}

theorem viewAt_cells {b : Nat} {c : Array Value} {e : TypeId} {f : Nat × Nat} (h : w.heap[b]? = some (.cells c e f)) : (viewAt b).run P w = .ok none w := by
  simp [viewAt, World.shape?, h]
theorem frozen_no {b o : Nat} {c : Array Value} {e : TypeId} {f : Nat × Nat} (h : w.heap[b]? = some (.cells c e f)) (hf : f.2 = f.1) : w.frozen? ⟨b, o, none⟩ = false := by
  obtain ⟨lo, hi⟩ := f
  simp [World.frozen?, h]
  simp at hf
  omega
theorem stringish_no {b o : Nat} {c : Array Value} {e : TypeId} {f : Nat × Nat} (h : w.heap[b]? = some (.cells c e f)) (hf : f.2 = f.1) : (stringish ⟨b, o, none⟩).run P w = .ok false w := by
  have h1 : w.frozen? ⟨b, o, none⟩ = false := frozen_no h hf
  have h2 : w.frozen? { block := b, off := c.size } = false := frozen_no h hf
  simp [stringish, h1, World.shape?, h, h2]

theorem isCells_get {H : Heap} (hr : HR E H w) {h : Nat} (hi : isCells (H.get h) = true) : ∃ (c : Array Value) (e : TypeId) (f : Nat × Nat), w.heap[E.ρ h]? = some (Obj.cells c e f) ∧ f.2 = f.1 ∧ ∃ o, (h, o) ∈ H := by
  unfold isCells at hi
  split at hi
  · rename_i cs hg
    have hm := Heap.mem_of_get hg
    obtain ⟨c, e, f, h1, h2, h3, _⟩ := hr.obj _ hm
    exact ⟨c, e, f, h1, h3.elim id (fun ⟨x, _⟩ => by cases x), _, hm⟩
  · cases hi

theorem peq_sound {H : Heap} {x y : AV} {cx cy : Value} {b : Bool} {t e : TypeId} {n d : Nat} (hr : HR E H w) (hx : VR E w x cx) (hy : VR E w y cy) (h : xpeq H x y = some b) (ht : P.underlying t = some (.pointer e))
    (hs : sizeT P e = some (n + 1)) : (Op.equalIn (d + 1) t cx cy).run P w = .ok b w := by
  unfold xpeq at h
  split at h
  · cases h; cases hx; cases hy; simp [Op.equalIn, run_underlying ht]
  · cases h; cases hx; cases hy; simp [Op.equalIn, run_underlying ht]
  · cases h; cases hx; cases hy; simp [Op.equalIn, run_underlying ht]
  · cases h; cases hx; cases hy; simp [Op.equalIn, run_underlying ht]
  · cases h; cases hx; cases hy; simp [Op.equalIn, run_underlying ht]
  · rename_i h1 o1 h2 o2
    split at h
    · rename_i i1
      split at h
      · rename_i i2
        obtain ⟨rfl, _⟩ := hx.of_ptr
        obtain ⟨rfl, _⟩ := hy.of_ptr
        obtain ⟨c1, e1, f1, a1, a2, u1, m1⟩ := isCells_get hr i1
        obtain ⟨c2, e2, f2, b1, b2, u2, m2⟩ := isCells_get hr i2
        simp only [Option.some.injEq] at h
        have hne : (n + 1 ≠ 0) := by omega
        simp only [Op.equalIn, Sem.run_bind, run_underlying ht, Result.andThen_ok, run_size hs, hne, ne_eq, not_false_eq_true, if_true]
        unfold sameAddr
        by_cases hb : h1 = h2
        · subst hb
          simp only [BEq.rfl, if_true, Sem.run_pure]
          subst h
          congr 1
          rw [Nat.beq_refl, Bool.true_and]
          by_cases ho : o1 = o2
          · subst ho; simp
          · have : Nat.beq o1 o2 = false := by rw [Bool.eq_false_iff]; exact fun hh => ho (nbeq_true hh)
            rw [this]
            simp [ho]
        · have hbl : E.ρ h1 ≠ E.ρ h2 := fun e => hb (hr.inj _ m1 _ m2 e)
          have hq : Nat.beq h1 h2 = false := by rw [Bool.eq_false_iff]; exact fun hh => hb (nbeq_true hh)
          rw [hq, Bool.false_and] at h
          subst h
          have g1 := frozen_no (o := o1) a1 a2
          have v1 := viewAt_cells (P := P) a1
          have v2 := viewAt_cells (P := P) b1
          have s1 := stringish_no (P := P) (o := o1) a1 a2
          have s2 := stringish_no (P := P) (o := o2) b1 b2
          have z1 : w.shape? (E.ρ h1) = some (e1, c1.size) := by simp [World.shape?, a1]
          have z2 : w.shape? (E.ρ h2) = some (e2, c2.size) := by simp [World.shape?, b1]
          have g2 := frozen_no (o := o2) b1 b2
          simp [hbl, g1, g2, noView, v1, v2, mayBeOne, s1, s2, z1, z2]
      · cases h
    · cases h
  · cases h

theorem binop_eql {t : TypeId} {cx cy : Value} {b : Bool} (h : (Op.equalIn 10000 t cx cy).run P w = .ok b w) (h1 : ∀ j a k b, ¬ (cx = .int j a ∧ cy = .int k b)) (h2 : ∀ j a k b, ¬ (cx = .float j a ∧ cy = .float k b))
    (h3 : ∀ j a a' k b b', ¬ (cx = .complex j a a' ∧ cy = .complex k b b')) (h4 : ∀ a b, ¬ (cx = .string a ∧ cy = .string b)) :
    (binOp .eql t cx cy).run P w = .ok (.bool b) w ∧ (binOp .neq t cx cy).run P w = .ok (.bool (!b)) w := by
  have h0 : (Op.equal t cx cy).run P w = .ok b w := h
  cases cx <;> cases cy <;> first
    | (exact absurd ⟨rfl, rfl⟩ (h1 _ _ _ _))
    | (exact absurd ⟨rfl, rfl⟩ (h2 _ _ _ _))
    | (exact absurd ⟨rfl, rfl⟩ (h3 _ _ _ _ _ _))
    | (exact absurd ⟨rfl, rfl⟩ (h4 _ _))
    | (constructor <;> simp [binOp, h0])

theorem bneg_run {neg : Bool} {t : TypeId} {op : BinOp} {cx cy : Value} {b : Bool} (h : (binOp .eql t cx cy).run P w = .ok (.bool b) w ∧ (binOp .neq t cx cy).run P w = .ok (.bool (!b)) w)
    (hop : (neg = false ∧ op = .eql) ∨ (neg = true ∧ op = .neq)) : ∃ cv, (binOp op t cx cy).run P w = .ok cv w ∧ VR E w (bneg neg b) cv := by
  rcases hop with ⟨rfl, rfl⟩ | ⟨rfl, rfl⟩
  · exact ⟨_, h.1, .bool _⟩
  · exact ⟨_, h.2, .bool _⟩
end
end Go.Sy

/- Indexes, parts of slices, strings, and new objects. No condition. -/
namespace Go.Sy
section
variable {P : Program} {E : Env} {w : World}

theorem asIntOf_run {k : IntKind} {n : Int} : (asIntOf (.int k n)).run P w = .ok (k, n) w := rfl

theorem idxLt_sound {n i : Nat} {x : AV} {cx : Value} (hx : VR E w x cx) (h : idxLt n x = some i) : ∃ k, cx = .int k (i : Int) ∧ i < n := by
  unfold idxLt at h
  split at h
  · rename_i k m
    split at h
    · rename_i hlt
      cases h
      obtain ⟨rfl, _⟩ := hx.of_int
      exact ⟨k, rfl, by rw [Nat.blt_eq] at hlt; exact hlt⟩
    · cases h
  · cases h
theorem idx_sound {es : List AV} {e x : AV} {cx : Value} (hx : VR E w x cx) (h : idx es x = some e) : ∃ k i, cx = .int k ((i : Nat) : Int) ∧ es[i]? = some e := by
  unfold idx at h
  split at h
  · rename_i k m
    obtain ⟨rfl, _⟩ := hx.of_int
    exact ⟨k, m, rfl, h⟩
  · cases h

theorem bnd_sound {d top n : Nat} {x : AV} {cx : Value} (hx : VR E w x cx) (h : bnd (some x) d top = some n) : ∃ k, cx = .int k (n : Int) ∧ n ≤ top := by
  unfold bnd at h
  split at h
  · rename_i e; cases e
  · rename_i k m e
    cases e
    split at h
    · rename_i hle
      cases h
      obtain ⟨rfl, _⟩ := hx.of_int
      exact ⟨k, rfl, Nat.le_of_ble_eq_true hle⟩
    · cases h
  · cases h

theorem run_bound {k : IntKind} {n top : Nat} (h : n ≤ top) (code : BoundsCode) : (Instr.sliceBound (.int k (n : Int)) top code).run P w = .ok n w := by
  simp [Instr.sliceBound, asIntOf, h]

/-- An operand that may not be there. -/
def OV (E : Env) (w : World) : Option AV → Option Value → Prop
  | none, none => True
  | some x, some v => VR E w x v
  | _, _ => False

theorem bnd_opt {d top n : Nat} {x : Option AV} {cx : Option Value} (hx : OV E w x cx) (h : bnd x d top = some n) : (cx = none ∧ n = d) ∨ ∃ k, cx = some (.int k (n : Int)) ∧ n ≤ top := by
  cases x with
  | none =>
    cases cx with
    | none => simp [bnd] at h; exact .inl ⟨rfl, h.symm⟩
    | some v => exact hx.elim
  | some x =>
    cases cx with
    | none => exact hx.elim
    | some v =>
      obtain ⟨k, rfl, hn⟩ := bnd_sound hx h
      exact .inr ⟨k, rfl, hn⟩

/-- The three bounds of a slice expression without the third one. -/
theorem run_bounds2 {sl : Bool} {len cap t l top : Nat} {lo hi : Option AV} {clo chi : Option Value} (h1 : OV E w hi chi) (h2 : OV E w lo clo) (e1 : bnd hi len top = some t) (e2 : bnd lo 0 t = some l) (hlen : len ≤ cap) (htop : top ≤ cap) :
    (Instr.sliceBounds sl len cap clo chi none).run P w = .ok (l, t, cap) w ∧ l ≤ t ∧ t ≤ cap := by
  have ht : t ≤ cap := by
    rcases bnd_opt h1 e1 with ⟨_, rfl⟩ | ⟨k, _, h⟩ <;> omega
  have hl : l ≤ t := by
    rcases bnd_opt h2 e2 with ⟨_, rfl⟩ | ⟨k, _, h⟩ <;> omega
  refine ⟨?_, hl, ht⟩
  rcases bnd_opt h1 e1 with ⟨rfl, rfl⟩ | ⟨k, rfl, _⟩ <;> rcases bnd_opt h2 e2 with ⟨rfl, rfl⟩ | ⟨k', rfl, _⟩ <;>
    simp [Instr.sliceBounds, run_bound, hl, ht]
/-- And with it. -/
theorem run_bounds3 {len cap m t l top : Nat} {lo hi : Option AV} {mx : AV} {clo chi : Option Value} {cmx : Value} (h1 : OV E w hi chi) (h2 : OV E w lo clo) (h3 : VR E w mx cmx) (e0 : bnd (some mx) 0 top = some m) (e1 : bnd hi len m = some t)
    (e2 : bnd lo 0 t = some l) (hhi : chi ≠ none) (htop : top ≤ cap) : (Instr.sliceBounds true len cap clo chi (some cmx)).run P w = .ok (l, t, m) w ∧ l ≤ t ∧ t ≤ m ∧ m ≤ cap := by
  obtain ⟨k, rfl, hm⟩ := bnd_sound h3 e0
  have hm' : m ≤ cap := by omega
  rcases bnd_opt h1 e1 with ⟨rfl, _⟩ | ⟨k1, rfl, ht⟩
  · exact absurd rfl hhi
  · have hl : l ≤ t := by
      rcases bnd_opt h2 e2 with ⟨_, rfl⟩ | ⟨k, _, h⟩ <;> omega
    refine ⟨?_, hl, ht, hm'⟩
    rcases bnd_opt h2 e2 with ⟨rfl, rfl⟩ | ⟨k', rfl, _⟩ <;> simp [Instr.sliceBounds, run_bound, hl, ht, hm']

theorem slice_sound {sz : Nat} {t e : TypeId} {lo hi mx : Option AV} {x v : AV} {clo chi cmx : Option Value} {cx : Value} (ht : P.underlying t = some (.slice e)) (hs : sizeT P e = some sz) (hsz : 0 < sz)
    (hx : VR E w x cx) (h1 : OV E w hi chi) (h2 : OV E w lo clo) (h3 : OV E w mx cmx) (hhi : cmx ≠ none → chi ≠ none) (h : xslice sz lo hi mx x = some v) :
    ∃ cv, (Instr.sliceAt t cx clo chi cmx).run P w = .ok cv w ∧ VR E w v cv := by
  have hpre : ∀ {a : Option Addr} {len cap l t' m : Nat}, cx = .slice a len cap → (Instr.sliceBounds true len cap clo chi cmx).run P w = .ok (l, t', m) w →
      (Instr.sliceAt t cx clo chi cmx).run P w = .ok (.slice (if m = l then a else a.map (·.add (l * sz))) (t' - l) (m - l)) w := by
    intro a len cap l t' m e1 hb
    subst e1
    simp [Instr.sliceAt, Instr.slice, run_underlying ht, hb, run_size hs]
  unfold xslice at h
  split at h
  · -- nil
    cases hx
    split at h
    · rename_i m hm
      split at h
      · rename_i t' ht'
        split at h
        · rename_i l hl
          cases h
          have hm0 : m = 0 := by rcases bnd_opt h3 hm with ⟨_, rfl⟩ | ⟨_, _, h⟩ <;> omega
          subst hm0
          have ht0 : t' = 0 := by rcases bnd_opt h1 ht' with ⟨_, rfl⟩ | ⟨_, _, h⟩ <;> omega
          subst ht0
          have hl0 : l = 0 := by rcases bnd_opt h2 hl with ⟨_, rfl⟩ | ⟨_, _, h⟩ <;> omega
          subst hl0
          have hb : (Instr.sliceBounds true 0 0 clo chi cmx).run P w = .ok (0, 0, 0) w := by
            rcases bnd_opt h3 hm with ⟨rfl, _⟩ | ⟨k, rfl, _⟩
            · exact (run_bounds2 (P := P) h1 h2 ht' hl (Nat.le_refl _) (Nat.le_refl _)).1
            · rcases bnd_opt h1 ht' with ⟨rfl, _⟩ | ⟨k1, rfl, _⟩
              · exact absurd rfl (hhi (by simp))
              · rcases bnd_opt h2 hl with ⟨rfl, _⟩ | ⟨k2, rfl, _⟩ <;> simp [Instr.sliceBounds, run_bound, Instr.sliceBound, asIntOf]
          refine ⟨_, hpre rfl hb, ?_⟩
          simp
          exact .nilslice
        · cases h
      · cases h
    · cases h
  · -- a list
    rename_i sz' es
    split at h
    · cases h
    rename_i hse
    have := nbeq_true hse
    subst this
    split at h
    · cases h
    cases cmx with
    | some _ => exact h3.elim
    | none =>
      split at h
      · rename_i t' ht'
        split at h
        · rename_i l hl
          cases h
          cases hx with
          | lst0 _ a c hc =>
            have ht0 : t' = 0 := by rcases bnd_opt h1 ht' with ⟨_, h⟩ | ⟨_, _, h⟩ <;> simpa using h
            subst ht0
            have hl0 : l = 0 := by rcases bnd_opt h2 hl with ⟨_, h⟩ | ⟨_, _, h⟩ <;> omega
            subst hl0
            obtain ⟨hb, _, _⟩ := run_bounds2 (P := P) (sl := true) (cap := c) h1 h2 ht' hl (by simp) (by simp)
            refine ⟨_, hpre rfl hb, ?_⟩
            simp only [List.take_zero, List.drop_nil, Nat.sub_self]
            exact .lst0 _ _ _ (by omega)
          | lst _ b o cap _ f hz hcap hcm hfl hf hc =>
            obtain ⟨hb, hlt, htc⟩ := run_bounds2 (P := P) (sl := true) h1 h2 ht' hl hcap hcap
            have htl : t' ≤ es.length := by rcases bnd_opt h1 ht' with ⟨_, rfl⟩ | ⟨_, _, h⟩ <;> omega
            refine ⟨_, hpre rfl hb, ?_⟩
            have hlen : ((es.take t').drop l).length = t' - l := by simp; omega
            by_cases hcl : cap = l
            · have : (es.take t').drop l = [] := List.eq_nil_of_length_eq_zero (by omega)
              rw [this, if_pos hcl]
              have : t' - l = 0 := by omega
              rw [this]
              exact .lst0 _ _ _ (by omega)
            · rw [if_neg hcl]
              simp only [Option.map_some, add_addr]
              have get : ∀ (i : Nat), i < t' - l → ((es.take t').drop l)[i]? = es[l + i]? := fun i hi => by
                rw [List.getElem?_drop, List.getElem?_take, if_pos (by omega)]
              have := VR.lst (E := E) (w := w) ((es.take t').drop l) b (o + l * sz) (cap - l) sz (fun i => f (l + i)) hz (by omega) (by omega)
                (fun i e he => by
                  have hi : i < t' - l := by rw [← hlen]; exact (List.getElem?_eq_some_iff.1 he).1
                  rw [get i hi] at he; exact hfl _ _ he)
                (fun i e he => by
                  have hi : i < t' - l := by rw [← hlen]; exact (List.getElem?_eq_some_iff.1 he).1
                  rw [get i hi] at he; exact hf _ _ he)
                (fun i hi => by
                  rw [hlen] at hi
                  obtain ⟨q1, q2⟩ := hc (l + i) (by omega)
                  refine ⟨q1, fun j c hj => ?_⟩
                  have := q2 j c hj
                  rw [Nat.add_mul] at this
                  have e3 : o + l * sz + i * sz + j = o + (l * sz + i * sz) + j := by omega
                  rw [e3]; exact this)
              rw [hlen] at this
              exact this
        · cases h
      · cases h
  · -- a row
    rename_i hd off len sz' cp ex
    split at h
    · cases h
    rename_i hse
    have := nbeq_true hse
    subst this
    have fin : ∀ {m t' l : Nat} {ex' : Bool} {cp' : Nat}, (∀ {a : Option Addr} {cap : Nat}, cx = .slice a len cap → cp ≤ cap → (ex = true → cap = cp) → len ≤ cap →
        ∃ m', (Instr.sliceBounds true len cap clo chi cmx).run P w = .ok (l, t', m') w ∧ l ≤ t' ∧ t' ≤ m' ∧ m' ≤ cap ∧ cp' ≤ m' - l ∧ (ex' = true → m' - l = cp')) →
        ∃ cv, (Instr.sliceAt t cx clo chi cmx).run P w = .ok cv w ∧ VR E w (.row hd (off + l * sz) (t' - l) sz cp' ex') cv := by
      intro m t' l ex' cp' hb
      cases hx with
      | row0 _ _ _ _ a =>
        obtain ⟨m', b1, b2, b3, b4, b5, b6⟩ := hb rfl (Nat.le_refl _) (fun _ => rfl) (Nat.le_refl _)
        refine ⟨_, hpre rfl b1, ?_⟩
        have : m' = 0 := by omega
        subst this
        have : l = 0 := by omega
        subst this
        have : t' = 0 := by omega
        subst this
        have : cp' = 0 := by omega
        subst this
        simp
        exact .row0 _ _ _ _ _
      | row _ _ _ _ _ cap _ hD hlen hcap hsz0 hcp hex hbk =>
        obtain ⟨m', b1, b2, b3, b4, b5, b6⟩ := hb rfl hcp hex hlen
        refine ⟨_, hpre rfl b1, ?_⟩
        by_cases hml : m' = l
        · subst hml
          have : t' - m' = 0 := by omega
          rw [this, if_pos rfl]
          have : cp' = 0 := by omega
          subst this
          rw [Nat.sub_self]
          exact .row0 _ _ _ _ _
        · rw [if_neg hml]
          simp only [Option.map_some, add_addr]
          obtain ⟨c, e', f, a1, a2⟩ := hbk
          refine .row _ _ _ _ _ _ _ hD (by omega) (by omega) hsz0 b5 b6 ⟨c, e', f, a1, ?_⟩
          have : l * sz + (m' - l) * sz ≤ cap * sz := by rw [← Nat.add_mul]; exact Nat.mul_le_mul_right _ (by omega)
          omega
    split at h
    · rename_i mv
      cases cmx with
      | none => exact h3.elim
      | some cmv =>
        split at h
        · rename_i m hm
          split at h
          · rename_i t' ht'
            split at h
            · rename_i l hl
              cases h
              refine fin (m := m) fun {a cap} e1 hcp hex hlen => ?_
              obtain ⟨c1, c2, c3, c4⟩ := run_bounds3 (P := P) (cap := cap) h1 h2 h3 hm ht' hl (hhi (by simp)) hcp
              exact ⟨m, c1, c2, c3, c4, Nat.le_refl _, fun _ => rfl⟩
            · cases h
          · cases h
        · cases h
    · cases cmx with
      | some _ => exact h3.elim
      | none =>
        split at h
        · rename_i t' ht'
          split at h
          · rename_i l hl
            cases h
            refine fin (m := 0) fun {a cap} e1 hcp hex hlen => ?_
            have hmax : Nat.max len cp ≤ cap := Nat.max_le.2 ⟨hlen, hcp⟩
            obtain ⟨c1, c2, c3⟩ := run_bounds2 (P := P) (sl := true) (cap := cap) h1 h2 ht' hl hlen hmax
            refine ⟨cap, c1, c2, c3, Nat.le_refl _, by omega, fun he => ?_⟩
            have := hex he
            have : Nat.max len cp = cap := by rw [this]; exact Nat.max_eq_right (by omega)
            omega
          · cases h
        · cases h
  · cases h

theorem slcS_sound {t : TypeId} {s : List Nat} {lo hi : Option AV} {clo chi : Option Value} {cx : Value} {h' l : Nat} (ht : P.underlying t = some .string) (hx : VR E w (.str s) cx) (h1 : OV E w hi chi) (h2 : OV E w lo clo)
    (e1 : bnd hi s.length s.length = some h') (e2 : bnd lo 0 h' = some l) : ∃ cv, (Instr.sliceAt t cx clo chi none).run P w = .ok cv w ∧ VR E w (.str ((s.take h').drop l)) cv := by
  obtain ⟨bs, rfl, hs, hl⟩ := hx.of_str
  have hsz := str_len hs
  obtain ⟨hb, b1, b2⟩ := run_bounds2 (P := P) (sl := false) (cap := bs.size) (w := w) h1 h2 (hsz ▸ e1) e2 (Nat.le_refl _) (Nat.le_refl _)
  refine ⟨.string (bs.extract l h'), by simp [Instr.sliceAt, Instr.slice, run_underlying ht, hb], .str _ _ ?_ ?_⟩
  · rw [← hs, ByteArray.data_extract, Array.toList_extract, List.extract_eq_take_drop, ← List.map_take, ← List.map_drop, List.drop_take]
  · have := List.length_drop (i := l) (l := s.take h')
    simp; omega

theorem idxS_sound {t : TypeId} {s : List Nat} {b n : Nat} {cx : Value} {k : IntKind} (ht : P.underlying t = some .string) (hx : VR E w (.str s) cx) (h : s[n]? = some b) :
    ∃ cv, (Instr.index t cx (.int k (n : Int))).run P w = .ok cv w ∧ VR E w (.int .u8 (b : Int)) cv := by
  obtain ⟨bs, rfl, hs, hl⟩ := hx.of_str
  subst hs
  rw [List.getElem?_map] at h
  cases hb : bs.data.toList[n]? with
  | none => simp [hb] at h
  | some c =>
    simp only [hb, Option.map_some, Option.some.injEq] at h
    subst h
    have hg : bs[n]? = some c := by
      have hlt : n < bs.data.toList.length := (List.getElem?_eq_some_iff.1 hb).1
      have hlt' : n < bs.size := hlt
      rw [getElem?_pos bs n hlt']
      have := (List.getElem?_eq_some_iff.1 hb).2
      simp at this
      rw [← this]
      rfl
    refine ⟨.int .u8 c.toNat, by simp [Instr.index, run_underlying ht, asIntOf, hg], .int _ _ ?_⟩
    have := c.toNat_lt
    constructor <;> simp [IntKind.min, IntKind.max, IntKind.signed, IntKind.bits] <;> omega

theorem idxA_sound {t e : TypeId} {n sz i : Nat} {ag : Bool} {cs : List AV} {x v : AV} {cx ci : Value} (ht : P.underlying t = some (.array n e)) (hs : sizeT P e = some sz) (hg : agT P e = some ag) (hx : VR E w (.agg cs) cx)
    (hi : VR E w x ci) (h1 : idxLt n x = some i) (h : part cs (i * sz) sz ag = some v) : ∃ cv, (Instr.index t cx ci).run P w = .ok cv w ∧ VR E w v cv := by
  obtain ⟨k, rfl, hlt⟩ := idxLt_sound hi h1
  obtain ⟨vs, rfl, q1, q2⟩ := hx.of_agg
  obtain ⟨cv, r1, r2⟩ := part_sound q1 q2 hs hg h
  exact ⟨cv, by simp [Instr.index, run_underlying ht, asIntOf, run_size hs, hlt, r1], r2⟩

theorem iaddrA_sound {t e : TypeId} {n sz i : Nat} {x : AV} {ci : Value} {a : Addr} (ht : P.underlying t = some (.array n e)) (hs : sizeT P e = some sz) (hi : VR E w x ci) (h1 : idxLt n x = some i) :
    (Instr.indexAt t (.pointer (some a)) ci).run P w = .ok (.pointer (some (a.add (i * sz)))) w := by
  obtain ⟨k, rfl, hlt⟩ := idxLt_sound hi h1
  simp [Instr.indexAt, run_underlying ht, asIntOf, run_size hs, hlt, Instr.sureAddr]

theorem iaddrS_sound {t e : TypeId} {sz : Nat} {x i v : AV} {cx ci : Value} (ht : P.underlying t = some (.slice e)) (hs : sizeT P e = some sz) (hx : VR E w x cx) (hi : VR E w i ci)
    (h : (∃ sz' es y, x = .lst sz' es ∧ Nat.beq sz sz' = true ∧ idx es i = some y ∧ v = .eptr y 0) ∨ ∃ hd off len sz' cp ex n, x = .row hd off len sz' cp ex ∧ Nat.beq sz sz' = true ∧ idxLt len i = some n ∧ v = .ptr hd (off + n * sz)) :
    ∃ cv, (Instr.indexAt t cx ci).run P w = .ok cv w ∧ VR E w v cv := by
  rcases h with ⟨sz', es, y, rfl, hse, h1, rfl⟩ | ⟨hd, off, len, sz', cp, ex, n, rfl, hse, h1, rfl⟩
  · have := nbeq_true hse
    subst this
    obtain ⟨k, n, rfl, hn⟩ := idx_sound hi h1
    have hlt : n < es.length := (List.getElem?_eq_some_iff.1 hn).1
    cases hx with
    | lst0 => simp at hlt
    | lst _ b o cap _ f hz hcap hcm hfl hf hc =>
      refine ⟨.pointer (some ⟨b, o + n * sz, none⟩), by simp [Instr.indexAt, run_underlying ht, asIntOf, run_size hs, hlt, add_addr], ?_⟩
      exact .eptr y 0 b (o + n * sz) (f n) (hfl n y hn) hz (hf n y hn) (hc n hlt).2
  · have := nbeq_true hse
    subst this
    obtain ⟨k, rfl, hlt⟩ := idxLt_sound hi h1
    cases hx with
    | row0 => omega
    | row _ _ _ _ _ cap _ hD hlen hcap hsz0 hcp hex hbk =>
      exact ⟨.pointer (some ⟨E.ρ hd, off + n * sz, none⟩), by simp [Instr.indexAt, run_underlying ht, asIntOf, run_size hs, hlt, add_addr], .ptr _ _ hD⟩

theorem faddr_sound {s : TypeId} {fs : Array Field} {f : Field} {i n : Nat} {b o : Nat} (ht : P.underlying s = some (.struct fs)) (hf : fs[i]? = some f) (hs : sizeT P f.type = some (n + 1)) :
    (Instr.fieldAt s (.pointer (some ⟨b, o, none⟩)) i).run P w = .ok (.pointer (some ⟨b, o + f.offset, none⟩)) w := by
  simp [Instr.fieldAt, run_underlying ht, hf, Instr.sureAddr, fieldPlace, run_size hs, add_addr]

/-- What parts are filled in. -/
theorem fold_splice (off : Nat) : ∀ (vs : List Value) (j : Nat) (cells : Array Value), off + j + vs.length ≤ cells.size →
    ((vs.zipIdx j).foldl (fun cs x => cs.setIfInBounds (off + x.2) x.1) cells).toList = cells.toList.take (off + j) ++ vs ++ cells.toList.drop (off + j + vs.length)
  | [], j, cells, _ => by simp
  | v :: vs, j, cells, h => by
    simp only [List.zipIdx_cons, List.foldl_cons]
    rw [fold_splice off vs (j + 1) _ (by simp at h ⊢; omega)]
    have hlt : off + j < cells.toList.length := by simp at h ⊢; omega
    have hl : off + j + (vs.length + 1) ≤ cells.toList.length := by simpa using h
    apply List.ext_getElem?
    intro i
    rw [getElem?_splice _ _ _ (by simp at h ⊢; omega), getElem?_splice _ _ _ (by omega)]
    have hset : (cells.setIfInBounds (off + j) v).toList = cells.toList.set (off + j) v := by simp
    have hlen : (v :: vs).length = vs.length + 1 := rfl
    rw [hset, hlen]
    by_cases h1 : i < off + j
    · rw [if_pos (by omega), if_pos h1, List.getElem?_set, if_neg (by omega)]
    · by_cases h2 : i = off + j
      · subst h2
        rw [if_pos (by omega), if_neg (by omega), if_pos (by omega), List.getElem?_set]
        simp
        simpa using hlt
      · rw [if_neg (by omega), if_neg h1]
        by_cases h3 : i < off + j + 1 + vs.length
        · rw [if_pos (by omega), if_pos (by omega)]
          have : i - (off + j) = (i - (off + (j + 1))) + 1 := by omega
          rw [this, List.getElem?_cons_succ]
        · rw [if_neg (by omega), if_neg (by omega), List.getElem?_set, if_neg (by omega)]

theorem fill_sound {G : Cx} {fr : Fr} {a : Act} {nt : Nat} (hf : FrR E w fr a nt) (hg : GR G E w) {place : Nat → Option (Nat × Nat)} : ∀ {ps : List (Nat × Operand)} {qs : List (Nat × Nat × XV)} {cs out : List AV} {cells : Array Value},
    cparts place ps = some qs → fillx G fr cs qs = some out → VRs E w cs cells.toList → (∀ v ∈ cells.toList, v.oneCell' = true) →
    ∃ cells', Instr.fill place cells (ps.map fun (i, x) => (i, a.eval x)) = some cells' ∧ VRs E w out cells'.toList ∧ (∀ v ∈ cells'.toList, v.oneCell' = true) ∧ cells'.size = cells.size
  | [], qs, cs, out, cells, h1, h2, h3, h4 => by
    simp [cparts] at h1; subst h1
    simp [fillx] at h2; subst h2
    exact ⟨cells, rfl, h3, h4, rfl⟩
  | (i, x) :: r, qs, cs, out, cells, h1, h2, h3, h4 => by
    simp only [cparts] at h1
    split at h1
    · rename_i off sz y s e1 e2 e3
      cases h1
      simp only [fillx] at h2
      split at h2
      · rename_i v hv
        split at h2
        · rename_i new hnew
          split at h2
          · rename_i hle
            have hle' := Nat.le_of_ble_eq_true hle
            have hvr := copd_sound hf hg e2 hv
            obtain ⟨_, _, l1, l2, l3, l4⟩ := cellsOf_sound hvr hnew
            have hcl := h3.1
            have hcl' : cs.length = cells.size := by simpa using hcl
            have hfold := fold_splice off (a.eval x).cells.toList 0 cells (by simp [l4]; omega)
            have hzip : (a.eval x).cells.zipIdx.foldl (fun cs (x : Value × Nat) => cs.setIfInBounds (off + x.2) x.1) cells = (((a.eval x).cells.toList.zipIdx 0).foldl (fun cs x => cs.setIfInBounds (off + x.2) x.1) cells) := by
              rw [← Array.foldl_toList, Array.toList_zipIdx]
            rw [Nat.add_zero] at hfold
            have hcr := CR.splice (CR.of_vrs h3 h4) l2 l3 (off := off) (by omega) (by simp [l4]; omega)
            have hvl : (cells.toList.take off ++ (a.eval x).cells.toList ++ cells.toList.drop (off + (a.eval x).cells.toList.length)).length = cells.size := by simp [l4]; omega
            obtain ⟨cells', r1, r2, r3, r4⟩ := fill_sound hf hg (cells := ((a.eval x).cells.toList.zipIdx 0).foldl (fun cs x => cs.setIfInBounds (off + x.2) x.1) cells) e3 h2
              (by
                rw [hfold]
                refine ⟨by rw [hvl]; simp [splice, l1]; omega, fun i x v hx hv => ?_⟩
                obtain ⟨v', b1, b2, b3⟩ := hcr.2 i x hx
                rw [b1] at hv
                cases hv
                exact b3)
              (by
                rw [hfold]
                intro v hv
                rcases List.mem_append.1 hv with hv | hv
                · rcases List.mem_append.1 hv with hv | hv
                  · exact h4 v (List.mem_of_mem_take hv)
                  · exact l3 v hv
                · exact h4 v (List.mem_of_mem_drop hv))
            refine ⟨cells', ?_, r2, r3, ?_⟩
            · simp only [List.map_cons, Instr.fill, e1, l4]
              rw [if_neg (by simp; omega), hzip]
              exact r1
            · rw [r4, ← Array.length_toList, hfold, hvl]
          · cases h2
        · cases h2
      · cases h2
    · cases h1
end
end Go.Sy
