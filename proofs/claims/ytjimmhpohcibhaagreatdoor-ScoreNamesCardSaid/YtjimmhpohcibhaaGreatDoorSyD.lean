/- A LIBRARY FOR RUNNING A PROGRAM IN THE KERNEL, OVER ABSTRACT VALUES, AND THAT ITS WORD IS THE MODEL'S: part 4 of 4. No condition. -/
import Derived.Test.YtjimmhpohcibhaaGreatDoorSyC
set_option linter.unusedVariables false
set_option linter.unusedSimpArgs false
/- Code and functions, staged: what the kernel runs is what the machine runs. No condition. -/
namespace Go.Sy
set_option linter.unusedVariables false
set_option linter.unusedSimpArgs false
set_option maxRecDepth 8000
noncomputable section
variable {nt : Nat} {G : Cx}

abbrev KN := FF → Heap → Nat → R
def kNorm : KN := fun f H nx => .norm f H nx
def codeC (nt : Nat) (G : Cx) (lf : Nat) : XC → Box OpsC
  | .skip => .mk fun _ f H nx k => k f H nx
  | .reg ops => opsC nt G ops
  | .draw ops ds => drawC nt G ops ds
  | .seq a b => bx (codeC nt G lf a) fun a => bx (codeC nt G lf b) fun b => .mk fun call f H nx k => a call f H nx fun f H nx => b call f H nx k
  | .cond c a b => bx (valC nt G c) fun g => bx (codeC nt G lf a) fun a => bx (codeC nt G lf b) fun b => .mk fun call f H nx k => g f fun v => AV.rec (motive_1 := fun _ => R) (motive_2 := fun _ => R) (fun t => Bool.rec (motive := fun _ => R) (b call f H nx k) (a call f H nx k) t) (fun _ _ => .fail) (fun _ => .fail) .fail (fun _ _ => .fail) (fun _ _ _ => .fail) .fail (fun _ _ _ => .fail) (fun _ _ _ _ _ _ => .fail) .fail (fun _ => .fail) .fail (fun _ _ _ _ _ => .fail) .fail (fun _ _ _ => .fail) (fun _ _ => .fail) (fun _ _ => .fail) .fail (fun _ _ _ _ => .fail) v
  | .block id b => bx (codeC nt G lf b) fun b => fN id fun id => .mk fun call f H nx k => R.rec (motive := fun _ => R) .fail (fun f H nx => k f H nx) (fun i f H nx => Bool.rec (motive := fun _ => R) (.exit i f H nx) (k f H nx) (Nat.beq i id)) (fun f H nx => .ret f H nx) (fun _ _ _ => .fail) (b call f H nx kNorm)
  | .loop b => bx (codeC nt G lf b) fun b => .mk fun call f H nx _ => Nat.rec (motive := fun _ => KN) (fun _ _ _ => .fail) (fun _ go f H nx => R.rec (motive := fun _ => R) .fail (fun f H nx => go f H nx) (fun i f H nx => .exit i f H nx) (fun f H nx => .ret f H nx) (fun _ _ _ => .fail) (b call f H nx kNorm)) lf f H nx
  | .exit id => fN id fun id => .mk fun _ f H nx _ => .exit id f H nx
  | .ret => .mk fun _ f H nx _ => .ret f H nx

/-- What a piece of code, run, gives. -/
def Ran (nt : Nat) (G : Cx) (lf : Nat) (call : Call) (c : XC) (fr : Fr) (H : Heap) (nx : Nat) (k : KN) (x : R) : Prop :=
  x = .fail ∨ (∃ f' fr' H' n', Rep nt f' fr' ∧ run G call lf c (fr, H, nx) = some (.normal, fr', H', n') ∧ x = k f' H' n')
  ∨ (∃ i f' fr' H' n', Rep nt f' fr' ∧ run G call lf c (fr, H, nx) = some (.exit i, fr', H', n') ∧ x = .exit i f' H' n')
  ∨ (∃ f' fr' H' n', Rep nt f' fr' ∧ run G call lf c (fr, H, nx) = some (.ret, fr', H', n') ∧ x = .ret f' H' n')

theorem codeC_ok (lf : Nat) (call : Call) : ∀ (c : XC) (f : FF) (fr : Fr) (H : Heap) (nx : Nat) (k : KN), Rep nt f fr → Ran nt G lf call c fr H nx k ((codeC nt G lf c).un call f H nx k) := by
  intro c
  induction c with
  | skip => intro f fr H nx k hr; exact .inr (.inl ⟨f, fr, H, nx, hr, rfl, rfl⟩)
  | reg ops =>
    intro f fr H nx k hr
    rcases opsC_ok (nt := nt) (G := G) ops call f fr H nx k hr with h | ⟨f', fr', H', n', h1, h2, h3⟩
    · exact .inl h
    · exact .inr (.inl ⟨f', fr', H', n', h1, by simp only [run, h2], h3⟩)
  | draw ops ds =>
    intro f fr H nx k hr
    rcases drawC_ok (nt := nt) (G := G) ops ds call f fr H nx k hr with h | ⟨f', fr', H', n', h1, h2, h3⟩
    · exact .inl h
    · exact .inr (.inl ⟨f', fr', H', n', h1, by simp only [run, h2], h3⟩)
  | seq a b iha ihb =>
    intro f fr H nx k hr
    simp only [codeC, bx_eq, un_mk]
    rcases iha f fr H nx (fun f H nx => (codeC nt G lf b).un call f H nx k) hr with h | ⟨f1, fr1, H1, n1, h1, h2, e⟩ | ⟨i, f1, fr1, H1, n1, h1, h2, e⟩ | ⟨f1, fr1, H1, n1, h1, h2, e⟩
    · exact .inl h
    · have e' : run G call lf (.seq a b) (fr, H, nx) = run G call lf b (fr1, H1, n1) := by simp only [run, h2]
      rw [e]
      rcases ihb f1 fr1 H1 n1 k h1 with h | ⟨f2, fr2, H2, n2, h3, h4, e2⟩ | ⟨i, f2, fr2, H2, n2, h3, h4, e2⟩ | ⟨f2, fr2, H2, n2, h3, h4, e2⟩
      · exact .inl h
      · exact .inr (.inl ⟨f2, fr2, H2, n2, h3, e'.trans h4, e2⟩)
      · exact .inr (.inr (.inl ⟨i, f2, fr2, H2, n2, h3, e'.trans h4, e2⟩))
      · exact .inr (.inr (.inr ⟨f2, fr2, H2, n2, h3, e'.trans h4, e2⟩))
    · exact .inr (.inr (.inl ⟨i, f1, fr1, H1, n1, h1, by simp only [run, h2], e⟩))
    · exact .inr (.inr (.inr ⟨f1, fr1, H1, n1, h1, by simp only [run, h2], e⟩))
  | cond c a b iha ihb =>
    intro f fr H nx k hr
    simp only [codeC, bx_eq, un_mk]
    rcases valC_ok (G := G) c f fr _ hr with h | ⟨v, h1, e1⟩
    · exact .inl h
    rw [e1]
    cases v with
    | bool t =>
      cases t with
      | true =>
        have e' : run G call lf (.cond c a b) (fr, H, nx) = run G call lf a (fr, H, nx) := by simp only [run, h1]
        have := iha f fr H nx k hr
        simp only [Ran, e'] at this ⊢
        exact this
      | false =>
        have e' : run G call lf (.cond c a b) (fr, H, nx) = run G call lf b (fr, H, nx) := by simp only [run, h1]
        have := ihb f fr H nx k hr
        simp only [Ran, e'] at this ⊢
        exact this
    | _ => exact .inl rfl
  | block id b ih =>
    intro f fr H nx k hr
    simp only [codeC, bx_eq, un_mk, fN_eq]
    rcases ih f fr H nx kNorm hr with h | ⟨f1, fr1, H1, n1, h1, h2, e⟩ | ⟨i, f1, fr1, H1, n1, h1, h2, e⟩ | ⟨f1, fr1, H1, n1, h1, h2, e⟩
    · rw [h]; exact .inl rfl
    · rw [e]; exact .inr (.inl ⟨f1, fr1, H1, n1, h1, by simp only [run, h2], rfl⟩)
    · rw [e]
      show Ran _ _ _ _ _ _ _ _ _ (Bool.rec (motive := fun _ => R) (.exit i f1 H1 n1) (k f1 H1 n1) (Nat.beq i id))
      cases hb : Nat.beq i id with
      | true => exact .inr (.inl ⟨f1, fr1, H1, n1, h1, by simp only [run, h2, hb], rfl⟩)
      | false => exact .inr (.inr (.inl ⟨i, f1, fr1, H1, n1, h1, by simp only [run, h2, hb], rfl⟩))
    · rw [e]; exact .inr (.inr (.inr ⟨f1, fr1, H1, n1, h1, by simp only [run, h2], rfl⟩))
  | loop b ih =>
    intro f fr H nx k hr
    simp only [codeC, bx_eq, un_mk]
    have key : ∀ (n : Nat) (f : FF) (fr : Fr) (H : Heap) (nx : Nat), Rep nt f fr →
        let x := (Nat.rec (motive := fun _ => KN) (fun _ _ _ => .fail) (fun _ go f H nx => R.rec (motive := fun _ => R) .fail (fun f H nx => go f H nx) (fun i f H nx => .exit i f H nx) (fun f H nx => .ret f H nx) (fun _ _ _ => .fail) ((codeC nt G lf b).un call f H nx kNorm)) n f H nx : R)
        x = .fail ∨ (∃ i f' fr' H' n', Rep nt f' fr' ∧ iter (run G call lf b) n (fr, H, nx) = some (.exit i, fr', H', n') ∧ x = .exit i f' H' n')
          ∨ (∃ f' fr' H' n', Rep nt f' fr' ∧ iter (run G call lf b) n (fr, H, nx) = some (.ret, fr', H', n') ∧ x = .ret f' H' n') := by
      intro n
      induction n with
      | zero => intro f fr H nx hr; exact .inl rfl
      | succ n ihn =>
        intro f fr H nx hr x
        have ex : x = R.rec (motive := fun _ => R) .fail (fun f H nx => (Nat.rec (motive := fun _ => KN) (fun _ _ _ => .fail) (fun _ go f H nx => R.rec (motive := fun _ => R) .fail (fun f H nx => go f H nx) (fun i f H nx => .exit i f H nx) (fun f H nx => .ret f H nx) (fun _ _ _ => .fail) ((codeC nt G lf b).un call f H nx kNorm)) n f H nx : R)) (fun i f H nx => .exit i f H nx) (fun f H nx => .ret f H nx) (fun _ _ _ => .fail) ((codeC nt G lf b).un call f H nx kNorm) := rfl
        rw [ex]
        rcases ih f fr H nx kNorm hr with h | ⟨f1, fr1, H1, n1, h1, h2, e⟩ | ⟨i, f1, fr1, H1, n1, h1, h2, e⟩ | ⟨f1, fr1, H1, n1, h1, h2, e⟩
        · rw [h]; exact .inl rfl
        · rw [e]
          have e' : iter (run G call lf b) (n + 1) (fr, H, nx) = iter (run G call lf b) n (fr1, H1, n1) := by simp only [iter, h2]
          rw [e']
          exact ihn f1 fr1 H1 n1 h1
        · rw [e]; exact .inr (.inl ⟨i, f1, fr1, H1, n1, h1, by simp only [iter, h2], rfl⟩)
        · rw [e]; exact .inr (.inr ⟨f1, fr1, H1, n1, h1, by simp only [iter, h2], rfl⟩)
    rcases key lf f fr H nx hr with h | ⟨i, f1, fr1, H1, n1, h1, h2, e⟩ | ⟨f1, fr1, H1, n1, h1, h2, e⟩
    · exact .inl h
    · exact .inr (.inr (.inl ⟨i, f1, fr1, H1, n1, h1, by simp only [run, h2], e⟩))
    · exact .inr (.inr (.inr ⟨f1, fr1, H1, n1, h1, by simp only [run, h2], e⟩))
  | exit i =>
    intro f fr H nx k hr
    simp only [codeC, fN_eq]
    exact .inr (.inr (.inl ⟨i, f, fr, H, nx, hr, rfl, rfl⟩))
  | ret => intro f fr H nx k hr; exact .inr (.inr (.inr ⟨f, fr, H, nx, hr, rfl, rfl⟩))

/- Results. -/
abbrev ResC := FF → Heap → (List AV → R) → R
def retC (nt : Nat) (G : Cx) : List XR → Box ResC
  | [] => .mk fun _ _ k => k []
  | .t n :: r => bx (valC nt G (.t n)) fun g => bx (retC nt G r) fun h => .mk fun f H k => g f fun v => h f H fun vs => k (v :: vs)
  | .cell n sz ag :: r => bx (valC nt G (.t n)) fun g => bx (retC nt G r) fun h => fN sz fun sz => fB ag fun ag => .mk fun f H k => g f fun a => loadF sz ag H a fun v => h f H fun vs => k (v :: vs)
theorem retC_ok : ∀ (l : List XR) (f : FF) (fr : Fr) (H : Heap) (k : List AV → R), Rep nt f fr → Into ((retC nt G l).un f H k) k (ress H fr l)
  | [], f, fr, H, k, hr => .inr ⟨[], rfl, rfl⟩
  | .t n :: r, f, fr, H, k, hr => by
    simp only [retC, bx_eq, un_mk]
    rcases valC_ok (G := G) (.t n) f fr _ hr with h | ⟨v, h1, e1⟩
    · exact .inl h
    rw [e1]
    rcases retC_ok r f fr H (fun vs => k (v :: vs)) hr with h | ⟨vs, h2, e2⟩
    · exact .inl h
    have h1' : fr.get n = some v := h1
    exact .inr ⟨_, by simp only [ress, resOf, h1', h2], e2⟩
  | .cell n sz ag :: r, f, fr, H, k, hr => by
    simp only [retC, bx_eq, un_mk, fN_eq, fB_eq]
    rcases valC_ok (G := G) (.t n) f fr _ hr with h | ⟨a, h1, e1⟩
    · exact .inl h
    rw [e1]
    have h1' : fr.get n = some a := h1
    rcases loadF_ok sz ag H a (fun v => (retC nt G r).un f H fun vs => k (v :: vs)) with h | ⟨v, h3, e3⟩
    · exact .inl h
    rcases retC_ok r f fr H (fun vs => k (v :: vs)) hr with h | ⟨vs, h2, e2⟩
    · exact .inl (e3.trans h)
    exact .inr ⟨_, by simp only [ress, resOf, h1', h3, h2], e3.trans e2⟩
def oneF (vs : List AV) (k : K1) : R := List.rec (motive := fun _ => R) (k (.tup [])) (fun a r _ => List.rec (motive := fun _ => R) (k a) (fun _ _ _ => k (.tup vs)) r) vs
theorem oneF_eq (vs : List AV) (k : K1) : oneF vs k = k (oneOr vs) := by
  match vs with
  | [] => rfl
  | [v] => rfl
  | _ :: _ :: _ => rfl
def dropH (nx : Nat) (H : Heap) (k : Heap → R) : R := List.rec (motive := fun _ => R) (k []) (fun p r ih => Prod.rec (motive := fun _ => R) (fun h o => Bool.rec (motive := fun _ => R) ih (k ((h, o) :: r)) (Nat.ble (Nat.succ h) nx)) p) H
theorem dropH_eq (nx : Nat) (k : Heap → R) : ∀ H : Heap, dropH nx H k = k (dropW nx H)
  | [] => rfl
  | (h, o) :: r => by
    show Bool.rec (motive := fun _ => R) (dropH nx r k) (k ((h, o) :: r)) (Nat.blt h nx) = _
    simp only [dropW]
    cases Nat.blt h nx
    · exact dropH_eq nx k r
    · rfl
def kOut : KO := fun v H n => .out v H n
def finF (pol : Pol) (nx : Nat) (v : AV) (H : Heap) (n : Nat) : R := Pol.rec (motive := fun _ => R) (.out v H n) (outF (nat_lit 2) (finish .shut nx v H n) kOut) (dropH nx H fun H => .out v H n) pol
theorem finF_ok (pol : Pol) (nx : Nat) (v : AV) (H : Heap) (n : Nat) : IntoO (finF pol nx v H n) kOut (finish pol nx v H n) := by
  cases pol with
  | keep => exact .inr ⟨v, H, n, rfl, rfl⟩
  | shut => exact outF_ok 2 (finish .shut nx v H n) kOut
  | drop => exact .inr ⟨v, dropW nx H, n, rfl, dropH_eq nx (fun H => .out v H n) H⟩

/- The frame in which a call begins. -/
def l0 : L8 := .mk (.tup []) (.tup []) (.tup []) (.tup []) (.tup []) (.tup []) (.tup []) (.tup [])
def more0 : Nat → Nat → Fr
  | 0, _ => []
  | n + 1, i => (i, .tup []) :: more0 n (i + 1)
def fFr {α : Type} (l : Fr) (k : Fr → α) : α := List.rec (motive := fun _ => (Fr → α) → α) (fun k => k []) (fun p _ ih k => Prod.rec (motive := fun _ => α) (fun n v => fN n fun n => fAV v fun v => ih fun r => k ((n, v) :: r)) p) l k
theorem fFr_eq {α : Type} : ∀ (l : Fr) (k : Fr → α), fFr l k = k l
  | [], _ => rfl
  | (n, v) :: r, k => by
    show fN n (fun n => fAV v fun v => fFr r fun r => k ((n, v) :: r)) = _
    rw [fN_eq, fAV_eq, fFr_eq r]
def ff0 (m : Fr) : FF := .mk l0 l0 l0 l0 l0 l0 l0 l0 l0 l0 l0 l0 l0 l0 l0 l0 m
theorem more0_get : ∀ {n i t : Nat} {v : AV}, (more0 n i).get t = some v → v = .tup []
  | 0, i, t, v, h => by simp [more0, Fr.get] at h
  | n + 1, i, t, v, h => by
    simp only [more0, Fr.get] at h
    split at h
    · cases h; rfl
    · exact more0_get h
theorem ff0_look {n m i : Nat} {v : AV} (h : (ff0 (more0 n i)).look m = some v) : v = .tup [] := by
  unfold FF.look at h
  split at h
  · have e1 : (ff0 (more0 n i)).ls = List.replicate 16 l0 := rfl
    have e2 : l0.es = List.replicate 8 (.tup []) := rfl
    rw [e1, List.getElem?_replicate] at h
    split at h
    · simp only [Option.bind_some, e2, List.getElem?_replicate] at h
      split at h
      · cases h; rfl
      · cases h
    · cases h
  · exact more0_get (show (more0 n i).get m = some v from h)
abbrev IniC := List AV → FF → (FF → R) → R
def initC : Nat → Nat → Box IniC
  | _, 0 => .mk fun args f k => List.rec (motive := fun _ => R) (k f) (fun _ _ _ => .fail) args
  | i, n + 1 => bx (putTab i) fun p => bx (initC (i + 1) n) fun rest => .mk fun args f k => List.rec (motive := fun _ => R) .fail (fun a r _ => p f a fun f => rest r f k) args
theorem initC_ok : ∀ (n i : Nat) (args : List AV) (f : FF) (k : FF → R), (initC i n).un args f k = .fail ∨ ∃ f' : FF, args.length = n ∧ (∀ m, f'.look m = if i ≤ m ∧ m < i + n then args[m - i]? else f.look m) ∧ (initC i n).un args f k = k f'
  | 0, i, [], f, k => .inr ⟨f, rfl, fun m => by rw [if_neg (by omega)], rfl⟩
  | 0, i, a :: r, f, k => .inl rfl
  | n + 1, i, [], f, k => by
    refine .inl ?_
    simp only [initC, bx_eq, un_mk]
  | n + 1, i, a :: r, f, k => by
    simp only [initC, bx_eq, un_mk]
    rcases putTab_ok i f a (fun f => (initC (i + 1) n).un r f k) with h | ⟨f1, h1, e1⟩
    · exact .inl h
    rcases initC_ok n (i + 1) r f1 k with h | ⟨f2, h2, h3, e2⟩
    · exact .inl (e1.trans h)
    refine .inr ⟨f2, by simp [h2], fun m => ?_, e1.trans e2⟩
    rw [h3, h1]
    by_cases e : i = m
    · subst e
      rw [if_neg (by omega), if_pos rfl, if_pos (by omega)]
      simp
    · by_cases e3 : i + 1 ≤ m ∧ m < i + 1 + n
      · rw [if_pos e3, if_pos (by omega)]
        have : m - i = (m - (i + 1)) + 1 := by omega
        rw [this, List.getElem?_cons_succ]
      · rw [if_neg e3, if_neg e, if_neg (by omega)]
theorem slots_all : ∀ (l : List AV) (n t : Nat), (slots n l).get (n + t) = l[t]?
  | [], n, t => by simp [slots, Fr.get]
  | a :: r, n, 0 => by
    have : Nat.beq n n = true := Nat.beq_refl n
    simp only [slots, Nat.add_zero, Fr.get, this]; rfl
  | a :: r, n, t + 1 => by
    have h : Nat.beq n (n + (t + 1)) = false := by
      cases h : Nat.beq n (n + (t + 1)) with
      | false => rfl
      | true => have := nbeq_true h; omega
    have e : n + (t + 1) = (n + 1) + t := by omega
    simp only [slots, Fr.get, h]
    rw [e, slots_all r (n + 1) t, List.getElem?_cons_succ]
theorem pad_all : ∀ (n : Nat) (l : List AV) (t : Nat), (t < l.length → (pad n l)[t]? = l[t]?) ∧ (l.length ≤ t → t < n → (pad n l)[t]? = some (.tup []))
  | 0, l, t => ⟨fun _ => rfl, fun _ h => absurd h (Nat.not_lt_zero _)⟩
  | n + 1, [], t => ⟨fun h => absurd h (Nat.not_lt_zero _), fun _ h => by
      cases t with
      | zero => rfl
      | succ t => simp only [pad, List.getElem?_cons_succ]; exact (pad_all n [] t).2 (Nat.zero_le _) (by omega)⟩
  | n + 1, a :: r, t => by
    cases t with
    | zero => exact ⟨fun _ => rfl, fun h => by simp at h⟩
    | succ t =>
      simp only [pad, List.getElem?_cons_succ, List.length_cons]
      exact ⟨fun h => (pad_all n r t).1 (by omega), fun h1 h2 => (pad_all n r t).2 (by omega) (by omega)⟩
theorem begin_rep {args : List AV} {f' : FF} {m0 i0 : Nat} (h : ∀ m, f'.look m = if 0 ≤ m ∧ m < 0 + args.length then args[m - 0]? else (ff0 (more0 m0 i0)).look m) : Rep nt f' (slots 0 (pad nt args)) := by
  intro n v hn hv
  rw [h] at hv
  have e : (slots 0 (pad nt args)).get n = (pad nt args)[n]? := by
    have := slots_all (pad nt args) 0 n
    simpa using this
  rw [e]
  split at hv
  · rename_i hl
    rw [(pad_all nt args n).1 (by omega)]
    simpa using hv
  · rename_i hl
    rw [ff0_look hv]
    exact (pad_all nt args n).2 (by omega) hn

abbrev FunC := Call → List AV → Heap → Nat → Option Out
def toOut (x : R) : Option Out := R.rec (motive := fun _ => Option Out) none (fun _ _ _ => none) (fun _ _ _ _ => none) (fun _ _ _ => none) (fun v H n => some (v, H, n)) x
def funC (G : Cx) (lf : Nat) (xf : XF) (pol : Pol) : Box FunC := bx (codeC xf.nt G lf xf.body) fun b => bx (retC xf.nt G xf.res) fun r => bx (initC 0 xf.np) fun ini => fFr (more0 (xf.nt - 128) 128) fun m =>
  .mk fun call args H nx => toOut (ini args (ff0 m) fun f => R.rec (motive := fun _ => R) .fail (fun f H n => r f H fun vs => oneF vs fun v => finF pol nx v H n) (fun _ _ _ _ => .fail) (fun f H n => r f H fun vs => oneF vs fun v => finF pol nx v H n) (fun _ _ _ => .fail) (b call f H nx kNorm))
theorem toOut_some {x : R} {out : Out} (h : toOut x = some out) : ∃ v H n, x = .out v H n ∧ out = (v, H, n) := by
  cases x with
  | out v H n => cases h; exact ⟨v, H, n, rfl, rfl⟩
  | _ => cases h
theorem funC_ok {F : Nat → Option (XF × Pol)} {f : Nat} {xf : XF} {pol : Pol} (hF : F f = some (xf, pol)) (lf : Nat) (call : Call) (args : List AV) (H : Heap) (nx : Nat) (out : Out)
    (h : (funC G lf xf pol).un call args H nx = some out) : enter1 F G lf call f args H nx = some out := by
  simp only [funC, bx_eq, fFr_eq, un_mk] at h
  obtain ⟨v, H', n, h1, rfl⟩ := toOut_some h
  rcases initC_ok xf.np 0 args (ff0 (more0 (xf.nt - 128) 128)) (fun f => R.rec (motive := fun _ => R) .fail (fun f H n => (retC xf.nt G xf.res).un f H fun vs => oneF vs fun v => finF pol nx v H n) (fun _ _ _ _ => .fail) (fun f H n => (retC xf.nt G xf.res).un f H fun vs => oneF vs fun v => finF pol nx v H n) (fun _ _ _ => .fail) ((codeC xf.nt G lf xf.body).un call f H nx kNorm)) with h2 | ⟨f1, hlen, h2, e2⟩
  · rw [h2] at h1; cases h1
  rw [e2] at h1
  have hrep : Rep xf.nt f1 (slots 0 (pad xf.nt args)) := begin_rep (by rw [hlen]; exact h2)
  have hl : Nat.beq args.length xf.np = true := by rw [hlen]; exact Nat.beq_refl _
  have tail : ∀ (x : Ext) (f2 : FF) (fr2 : Fr) (H2 : Heap) (n2 : Nat), Rep xf.nt f2 fr2 → (∀ i, x ≠ .exit i) → run G call lf xf.body (slots 0 (pad xf.nt args), H, nx) = some (x, fr2, H2, n2) →
      ((retC xf.nt G xf.res).un f2 H2 fun vs => oneF vs fun v => finF pol nx v H2 n2) = .out v H' n → enter1 F G lf call f args H nx = some (v, H', n) := by
    intro x f2 fr2 H2 n2 hr2 hx hrun he
    rcases retC_ok (nt := xf.nt) (G := G) xf.res f2 fr2 H2 (fun vs => oneF vs fun v => finF pol nx v H2 n2) hr2 with h3 | ⟨vs, h3, e3⟩
    · rw [h3] at he; cases he
    rw [e3] at he
    have he' : oneF vs (fun v => finF pol nx v H2 n2) = .out v H' n := he
    rw [oneF_eq] at he'
    rcases finF_ok pol nx (oneOr vs) H2 n2 with h4 | ⟨v4, H4, n4, h4, e4⟩
    · rw [h4] at he'; cases he'
    rw [e4] at he'
    cases he'
    cases x with
    | exit i => exact absurd rfl (hx i)
    | normal => simp only [enter1, hF, hl, hrun, h3, h4]
    | ret => simp only [enter1, hF, hl, hrun, h3, h4]
  rcases codeC_ok (nt := xf.nt) (G := G) lf call xf.body f1 _ H nx kNorm hrep with h3 | ⟨f2, fr2, H2, n2, h3, h4, e3⟩ | ⟨i, f2, fr2, H2, n2, h3, h4, e3⟩ | ⟨f2, fr2, H2, n2, h3, h4, e3⟩
  · rw [h3] at h1; cases h1
  · rw [e3] at h1
    exact tail .normal f2 fr2 H2 n2 h3 (fun i h => by cases h) h4 h1
  · rw [e3] at h1; cases h1
  · rw [e3] at h1
    exact tail .ret f2 fr2 H2 n2 h3 (fun i h => by cases h) h4 h1

def noFun : FunC := fun _ _ _ _ => none
def entC (F : Nat → Option (XF × Pol)) (G : Cx) (lf f : Nat) : Box FunC := match F f with
  | none => .mk noFun
  | some (xf, pol) => funC G lf xf pol
/-- Calls, as the kernel runs them. -/
def enterF (F : Nat → Option (XF × Pol)) (G : Cx) (lf : Nat) (d : Nat) : Call := Nat.rec (motive := fun _ => Call) (fun _ _ _ _ => none) (fun _ ih f args H nx => Box.rec (motive := fun _ => Option Out) (fun g => g ih args H nx) (entC F G lf f)) d
theorem enterF_sound {P : Program} {F : Nat → Option (XF × Pol)} (hF : TableOK P F) (hm : MethOK P G) (hmix : P.follows .mixedOrders = true) (lf : Nat) : ∀ d, CallOK P G (enterF F G lf d)
  | 0 => fun _ _ _ _ _ _ _ h => by cases h
  | d + 1 => by
    intro f args H nx v H' nx' h
    refine enter1_sound hF hm hmix lf (enterF_sound hF hm hmix lf d) f args H nx v H' nx' ?_
    have h' : (entC F G lf f).un (enterF F G lf d) args H nx = some (v, H', nx') := by
      rw [← h]
      show _ = Box.rec (motive := fun _ => Option Out) (fun g => g (enterF F G lf d) args H nx) (entC F G lf f)
      cases entC F G lf f; rfl
    unfold entC at h'
    split at h'
    · cases h'
    · rename_i xf pol hf
      exact funC_ok hf lf _ _ _ _ _ h'
theorem calls_runF {P : Program} {F : Nat → Option (XF × Pol)} {lf d : Nat} {f : FuncId} {args : List AV} {cargs : Array Value} {W : World} (hF : TableOK P F) (hm : MethOK P G) (hmix : P.follows .mixedOrders = true)
    (h : saysTrue (enterF F G lf d f args [] 0) = true) (hv : VRs (Env.still W) W args cargs.toList) (hg : GR G (Env.still W) W) : Calls P f cargs W fun e W' => e = .returned (.bool true) ∧ Kept W W' := by
  obtain ⟨H1, n, h1⟩ := saysTrue_spec h
  exact calls_true (enterF_sound hF hm hmix lf d _ _ _ _ _ _ _ h1).2.2 hv hg
end
end Go.Sy


/- The resolving of code, as the kernel does it fast. No condition. -/
namespace Go.Sy
set_option linter.unusedVariables false
noncomputable section

def cO_move (P : Program) (x : Operand) : Option XO := obind (copd x) fun a => some (.mov a)
def cO_assign (P : Program) (x : Operand) : Option XO := obind (copd x) fun a => some (.mov a)
def cO_pick (P : Program) (c : Operand) (a : Operand) (b : Operand) : Option XO := obind (copd c) fun c => obind (copd a) fun a => obind (copd b) fun b => some (.pick c a b)
def cO_alloc (P : Program) (e : TypeId) : Option XO := obind (zerosT P e) fun z => some (.alloc z)
def cO_box (P : Program) (e : TypeId) (v : Operand) : Option XO := obind (copd v) fun a => obind (sizeT P e) fun s => some (.box a s)
def cO_build (P : Program) (t : TypeId) (ps : Array (Nat × Operand)) : Option XO := obind (zerosT P t) fun z => match P.underlying t with
    | some (.struct fs) => match fs.toList.all fun f => (sizeT P f.type).isSome with
      | true => obind (cparts (fun i => obind (fs[i]?) fun f => obind (sizeT P f.type) fun s => some (f.offset, s)) ps.toList) fun ps => some (.build z ps)
      | false => none
    | some (.array _ e) => obind (sizeT P e) fun s => obind (cparts (fun i => some (i * s, s)) ps.toList) fun ps => some (.build z ps)
    | _ => none
def cO_buildSlice (P : Program) (t : TypeId) (n : Nat) (ps : Array (Nat × Operand)) : Option XO := match P.underlying t with
    | some (.slice e) => obind (sizeT P e) fun s => obind (zerosT P e) fun z => match s with
      | 0 => none
      | s + 1 => match Nat.ble (n * (s + 1)) 16777216 with
        | true => obind (cparts (fun i => some (i * (s + 1), s + 1)) ps.toList) fun ps => some (.bslice n (s + 1) (rep n z) ps)
        | false => none
    | _ => none
def cO_insert (P : Program) (t : TypeId) (m : Operand) (k : Operand) (v : Operand) : Option XO := obind (copd m) fun m => obind (copd k) fun k => obind (copd v) fun v => match P.underlying t with
    | some (.map kt _) => obind (keyT P kt) fun q => some (.mupd q.1 q.2 m k v)
    | _ => none
def cO_load (P : Program) (t : TypeId) (a : Operand) : Option XO := obind (copd a) fun a => obind (sizeT P t) fun s => obind (agT P t) fun g => some (.load a s g)
def cO_store (P : Program) (t : TypeId) (a : Operand) (v : Operand) : Option XO := obind (copd a) fun a => obind (copd v) fun v => obind (sizeT P t) fun s => some (.store a v s)
def cO_nilCheck (P : Program) (x : Operand) : Option XO := obind (copd x) fun a => some (.nilchk a)
def cO_binOp (P : Program) (op : BinOp) (t : TypeId) (x : Operand) (y : Operand) (u4 : TypeId) : Option XO := compBin P op t x y
def cO_unOp (P : Program) (op : UnOp) (u1 : TypeId) (x : Operand) : Option XO := obind (copd x) fun a => some (.un op a)
def cO_convert (P : Program) (s : TypeId) (d : TypeId) (x : Operand) : Option XO := compConv P s d x
def cO_makeInterface (P : Program) (t : TypeId) (x : Operand) : Option XO := obind (copd x) fun a => match P.underlying t with
    | some (.interface _) => none
    | some _ => some (.mkif t a)
    | none => none
def cO_makeFunc (P : Program) (fn : Fn) (a : Array Operand) (b : Array Operand) : Option XO := obind (copds a.toList) fun a => obind (copds b.toList) fun b => some (.mkfunc fn a b)
def cO_makeMap (P : Program) (t : TypeId) (r : Option Operand) : Option XO := match P.underlying t, r with
    | some (.map _ _), none => some .mkmap
    | _, _ => none
def cO_makeSlice (P : Program) (t : TypeId) (l : Operand) (c : Operand) : Option XO := match P.underlying t with
    | some (.slice e) => obind (copd l) fun l => obind (copd c) fun c => obind (sizeT P e) fun s => obind (bytesT P e) fun n => obind (zerosT P e) fun z => match s with
      | 0 => none
      | s + 1 => some (.mkslice l c (s + 1) n z)
    | _ => none
def cO_slice (P : Program) (t : TypeId) (x : Operand) (lo : Option Operand) (hi : Option Operand) (mx : Option Operand) : Option XO := obind (copd x) fun x => obind (copdo lo) fun lo => obind (copdo hi) fun hi => obind (copdo mx) fun mx => match P.underlying t with
    | some .string => match mx with
      | none => some (.slcS x lo hi)
      | some _ => none
    | some (.slice e) => obind (sizeT P e) fun s => match s with | 0 => none | s + 1 => match mx, hi with
      | some _, none => none
      | _, _ => some (.slcL x lo hi mx (s + 1))
    | some (.array n e) => obind (sizeT P e) fun s => match s with | 0 => none | s + 1 => match mx with
      | none => match Nat.ble n maxStr with
        | true => some (.slcA x lo hi n (s + 1))
        | false => none
      | some _ => none
    | _ => none
def cO_fieldAddr (P : Program) (t : TypeId) (x : Operand) (f : Nat) : Option XO := obind (copd x) fun a => obind (cfields P t) fun fs => obind (fs[f]?) fun f => obind (sizeT P f.type) fun s => match s with
    | 0 => none
    | _ + 1 => some (.faddr a f.offset)
def cO_field (P : Program) (t : TypeId) (x : Operand) (f : Nat) : Option XO := obind (copd x) fun a => obind (cfields P t) fun fs => obind (fs[f]?) fun f => obind (sizeT P f.type) fun s => obind (agT P f.type) fun g => some (.fld a f.offset s g)
def cO_indexAddr (P : Program) (t : TypeId) (x : Operand) (i : Operand) : Option XO := obind (copd x) fun a => obind (copd i) fun i => match P.underlying t with
    | some (.slice e) => obind (sizeT P e) fun s => match s with | 0 => none | s + 1 => some (.iaddrS a i (s + 1))
    | some (.array n e) => obind (sizeT P e) fun s => match s with | 0 => none | s + 1 => some (.iaddrA a i n (s + 1))
    | _ => none
def cO_index (P : Program) (t : TypeId) (x : Operand) (i : Operand) : Option XO := obind (copd x) fun a => obind (copd i) fun i => match P.underlying t with
    | some .string => some (.idxS a i)
    | some (.array n e) => obind (sizeT P e) fun s => obind (agT P e) fun g => some (.idxA a i n s g)
    | _ => none
def cO_lookup (P : Program) (t : TypeId) (x : Operand) (i : Operand) (ok : Bool) : Option XO := obind (copd x) fun a => obind (copd i) fun k => match P.underlying t with
    | some (.map kt e) => obind (keyT P kt) fun q => obind (zeroT P e) fun z => some (.lookup q.1 q.2 a k z ok)
    | _ => none
def cO_mapUpdate (P : Program) (t : TypeId) (m : Operand) (k : Operand) (v : Operand) : Option XO := obind (copd m) fun m => obind (copd k) fun k => obind (copd v) fun v => match P.underlying t with
    | some (.map kt _) => obind (keyT P kt) fun q => some (.mupd q.1 q.2 m k v)
    | _ => none
def cO_range (P : Program) (t : TypeId) (x : Operand) : Option XO := obind (copd x) fun a => match P.underlying t with
    | some .string => some (.rngS a)
    | _ => none
def cO_next (P : Program) (it : Operand) (u1 : Bool) : Option XO := match u1 with
  | true => obind (copd it) fun a => some (.nextS a)
  | false => none
def cO_typeAssert (P : Program) (x : Operand) (u1 : TypeId) (t : TypeId) (ok : Bool) : Option XO := obind (copd x) fun a => obind (zeroT P t) fun z => match P.underlying t with
    | some (.interface _) => none
    | some _ => some (.tas a t ok z)
    | none => none
def cO_extract (P : Program) (t : Operand) (i : Nat) : Option XO := obind (copd t) fun a => some (.ext a i)
def cO_call (P : Program) (c : Go.Call) : Option XO := match c.callee with
    | .builtin b => compBuiltin P b c.args.toList c.argTypes.toList
    | .value (.func f) => match P.funcs[f]? with
      | some fn => match fn.body with
        | some _ => obind (copds c.args.toList) fun as => some (.call f as)
        | none => none
      | none => none
    | .value x => obind (copd x) fun x => obind (copds c.args.toList) fun as => some (.callv x as)
    | .invoke r m => obind (copd r) fun r => obind (copds c.args.toList) fun as => some (.invoke r m as)
/-- An operation, resolved. -/
def compOpF (P : Program) (o : Op) : Option XO := Op.rec (motive := fun _ => Option XO) (cO_move P) (cO_assign P) (cO_pick P) (cO_alloc P) (cO_box P) (cO_build P) (cO_buildSlice P) (cO_insert P) (cO_load P) (cO_store P) (fun _ => none) (fun _ => none) (cO_nilCheck P) (cO_binOp P) (cO_unOp P) (cO_convert P) (fun _ _ => none) (cO_makeInterface P) (cO_makeFunc P) (cO_makeMap P) (fun _ _ => none) (cO_makeSlice P) (cO_slice P) (cO_fieldAddr P) (cO_field P) (cO_indexAddr P) (cO_index P) (cO_lookup P) (cO_mapUpdate P) (fun _ _ _ => none) (fun _ _ _ _ => none) (cO_range P) (cO_next P) (fun _ => none) (cO_typeAssert P) (cO_extract P) (cO_call P) (fun _ => none) (fun _ => none) (fun _ => none) (fun _ _ => none) (fun _ _ _ => none) (fun _ _ => none) o
theorem compOpF_eq (P : Program) (o : Op) : compOpF P o = compOp P o := by
  cases o with
  | next it s => cases s <;> rfl
  | _ => rfl

def getBad (x : Option XO) : XO := Option.rec (motive := fun _ => XO) .bad (fun y => y) x
theorem getBad_eq (x : Option XO) : getBad x = x.getD .bad := by cases x <;> rfl
def compOperF (P : Program) (ops : Array Oper) (o : Oper) : XOper := Option.rec (motive := fun _ => XOper) ⟨o.dst, getBad (compOpF P o.op), none⟩ (fun _ => compOper P ops o) o.guard
theorem compOperF_eq (P : Program) (ops : Array Oper) (o : Oper) : compOperF P ops o = compOper P ops o := by
  unfold compOperF
  cases h : o.guard with
  | none =>
    unfold compOper
    rw [h]
    show (⟨o.dst, getBad (compOpF P o.op), none⟩ : XOper) = _
    rw [getBad_eq, compOpF_eq]
  | some g => rfl
def mapF (f : Oper → XOper) (l : List Oper) : List XOper := List.rec (motive := fun _ => List XOper) [] (fun a _ ih => f a :: ih) l
theorem mapF_eq (f : Oper → XOper) : ∀ l : List Oper, mapF f l = l.map f
  | [] => rfl
  | a :: r => congrArg (f a :: ·) (mapF_eq f r)

/- What comes ahead of each operation. -/
def nth0 (i : Nat) (l : List Nat) : Nat := List.rec (motive := fun _ => Nat → Nat) (fun _ => nat_lit 0) (fun a _ ih i => Nat.rec (motive := fun _ => Nat) a (fun j _ => ih j) i) l i
theorem nth0_eq : ∀ (l : List Nat) (i : Nat), nth0 i l = l.getD i 0
  | [], i => by simp [nth0]
  | a :: r, 0 => rfl
  | a :: r, i + 1 => by
    show nth0 i r = _
    rw [nth0_eq r i]; simp
def accAt (acc : List Nat) (i j : Nat) : Nat := Bool.rec (motive := fun _ => Nat) (nat_lit 0) (nth0 (Nat.sub i (Nat.succ j)) acc) (Nat.ble (Nat.succ j) i)
def maskE (acc : List Nat) (i : Nat) (es : List Edge) : Nat → Nat := List.rec (motive := fun _ => Nat → Nat) (fun s => s) (fun e _ ih s => Bool.rec (motive := fun _ => Nat) (ih s) (fN (Nat.lor (Nat.lor s (Nat.pow (nat_lit 2) e.on)) (accAt acc i e.on)) ih) (Region.binds .any e)) es
def beforeGo (os : List Oper) : List Nat → Nat → List Nat := List.rec (motive := fun _ => List Nat → Nat → List Nat) (fun _ _ => []) (fun o _ ih acc i => fN (maskE acc i o.after.toList (nat_lit 0)) fun m => fN (Nat.succ i) fun i' => m :: ih (m :: acc) i') os
theorem accAt_eq (acc : Array Nat) (j : Nat) : accAt acc.toList.reverse acc.size j = acc.getD j 0 := by
  unfold accAt
  cases h : Nat.ble (Nat.succ j) acc.size with
  | true =>
    have h' : j < acc.size := Nat.le_of_ble_eq_true h
    show nth0 (acc.size - (j + 1)) acc.toList.reverse = _
    rw [nth0_eq, List.getD_eq_getElem?_getD, List.getElem?_reverse (by simp; omega), Array.getD_eq_getD_getElem?]
    have : acc.toList.length - 1 - (acc.size - (j + 1)) = j := by simp; omega
    rw [this]; simp
  | false =>
    have h' : acc.size ≤ j := by
      rcases Nat.lt_or_ge j acc.size with h1 | h1
      · have : Nat.ble (Nat.succ j) acc.size = true := by rw [Nat.ble_eq]; exact h1
        rw [this] at h; cases h
      · exact h1
    show 0 = _
    rw [Array.getD_eq_getD_getElem?, Array.getElem?_eq_none h']; rfl
theorem maskE_eq (acc : Array Nat) : ∀ (es : List Edge) (s : Nat), maskE acc.toList.reverse acc.size es s = es.foldl (fun s e => if Region.binds .any e then s ||| 2 ^ e.on ||| acc.getD e.on 0 else s) s
  | [], s => rfl
  | e :: es, s => by
    show Bool.rec (motive := fun _ => Nat) (maskE _ _ es s) (fN _ (maskE _ _ es)) (Region.binds .any e) = _
    rw [List.foldl_cons]
    cases h : Region.binds .any e with
    | true =>
      show fN _ (maskE _ _ es) = _
      rw [fN_eq, accAt_eq, maskE_eq acc es]
      rfl
    | false =>
      show maskE _ _ es s = _
      rw [maskE_eq acc es]
      rfl
theorem beforeGo_eq : ∀ (os : List Oper) (acc : Array Nat), acc.toList ++ beforeGo os acc.toList.reverse acc.size = (os.foldl (fun acc o => acc.push (o.after.foldl (fun s e => if Region.binds .any e then s ||| 2 ^ e.on ||| acc.getD e.on 0 else s) 0)) acc).toList
  | [], acc => by simp [beforeGo]
  | o :: os, acc => by
    have ih := beforeGo_eq os (acc.push (o.after.foldl (fun s e => if Region.binds .any e then s ||| 2 ^ e.on ||| acc.getD e.on 0 else s) 0))
    rw [List.foldl_cons, ← ih]
    show acc.toList ++ fN (maskE acc.toList.reverse acc.size o.after.toList 0) (fun m => fN (Nat.succ acc.size) fun i' => m :: beforeGo os (m :: acc.toList.reverse) i') = _
    rw [fN_eq, fN_eq, maskE_eq, Array.foldl_toList]
    simp
def beforeF (ops : List Oper) : List Nat := beforeGo ops [] (nat_lit 0)
theorem beforeF_eq (ops : Array Oper) : beforeF ops.toList = (Region.before ops).toList := by
  have h := beforeGo_eq ops.toList #[]
  rw [Array.foldl_toList] at h
  exact (List.nil_append _).symm.trans h
def zipDF (P : Program) (ops : Array Oper) (os : List Oper) : List Nat → List XD := List.rec (motive := fun _ => List Nat → List XD) (fun _ => []) (fun o _ ih ms => List.rec (motive := fun _ => List XD) [] (fun m mr _ => fLN (looksOf (compOperF P ops o) o) fun l => ⟨m, l⟩ :: ih mr) ms) os
theorem zipDF_eq (P : Program) (ops : Array Oper) : ∀ (os : List Oper) (ms : List Nat), zipDF P ops os ms = zipD ops P os ms
  | [], ms => by simp [zipDF, zipD]
  | o :: r, [] => rfl
  | o :: r, m :: ms => by
    show (fLN (looksOf (compOperF P ops o) o) fun l => (⟨m, l⟩ : XD) :: zipDF P ops r ms) = _
    rw [fLN_eq, compOperF_eq, zipDF_eq P ops r ms]; rfl
def edgesF (i : Nat) (es : List Edge) : Bool := List.rec (motive := fun _ => Bool) true (fun e _ ih => Bool.rec (motive := fun _ => Bool) ih (Bool.rec (motive := fun _ => Bool) false ih (Nat.ble (Nat.succ e.on) i)) (Region.binds .any e)) es
theorem edgesF_eq (i : Nat) : ∀ es : List Edge, edgesF i es = es.all fun e => !Region.binds .any e || Nat.blt e.on i
  | [] => rfl
  | e :: r => by
    show Bool.rec (motive := fun _ => Bool) (edgesF i r) (Bool.rec (motive := fun _ => Bool) false (edgesF i r) (Nat.blt e.on i)) (Region.binds .any e) = _
    rw [List.all_cons, edgesF_eq i r]
    cases Region.binds .any e <;> cases Nat.blt e.on i <;> rfl
def downF (os : List Oper) : Nat → Bool := List.rec (motive := fun _ => Nat → Bool) (fun _ => true) (fun o _ ih i => Bool.rec (motive := fun _ => Bool) false (fN (Nat.succ i) ih) (edgesF i o.after.toList)) os
theorem downF_eq : ∀ (os : List Oper) (i : Nat), downF os i = downB i os
  | [], i => rfl
  | o :: r, i => by
    show Bool.rec (motive := fun _ => Bool) false (fN (Nat.succ i) (downF r)) (edgesF i o.after.toList) = _
    rw [fN_eq, edgesF_eq, downF_eq r]
    simp only [downB]
    cases (o.after.toList.all fun e => !Region.binds .any e || Nat.blt e.on i) <;> rfl
def pairF (x : Option Nat) (d : XD) (es : List (Nat × Option Nat × XD)) : Bool := List.rec (motive := fun _ => Bool) true (fun e _ ih => Bool.rec (motive := fun _ => Bool) (Bool.rec (motive := fun _ => Bool) false ih (apartB e.2.1 e.2.2 x d)) ih (tbF d.preds e.1)) es
theorem pairF_eq (x : Option Nat) (d : XD) : ∀ es : List (Nat × Option Nat × XD), pairF x d es = es.all fun e => d.preds.testBit e.1 || apartB e.2.1 e.2.2 x d
  | [] => rfl
  | e :: r => by
    show Bool.rec (motive := fun _ => Bool) (Bool.rec (motive := fun _ => Bool) false (pairF x d r) (apartB e.2.1 e.2.2 x d)) (pairF x d r) (tbF d.preds e.1) = _
    rw [List.all_cons, pairF_eq x d r, tbF_eq]
    cases d.preds.testBit e.1 <;> cases apartB e.2.1 e.2.2 x d <;> rfl
def pairsF (xs : List XOper) : Nat → List (Nat × Option Nat × XD) → List XD → Bool := List.rec (motive := fun _ => Nat → List (Nat × Option Nat × XD) → List XD → Bool) (fun _ _ _ => true)
  (fun x _ ih i es ds => List.rec (motive := fun _ => Bool) false (fun d dr _ => Bool.rec (motive := fun _ => Bool) false (fN (Nat.succ i) fun i' => ih i' ((i, x.dst, d) :: es) dr) (pairF x.dst d es)) ds) xs
theorem pairsF_eq : ∀ (xs : List XOper) (i : Nat) (es : List (Nat × Option Nat × XD)) (ds : List XD), pairsF xs i es ds = pairsOk i es xs ds
  | [], i, es, ds => by cases ds <;> rfl
  | x :: r, i, es, [] => rfl
  | x :: r, i, es, d :: ds => by
    show Bool.rec (motive := fun _ => Bool) false (fN (Nat.succ i) fun i' => pairsF r i' ((i, x.dst, d) :: es) ds) (pairF x.dst d es) = _
    rw [fN_eq, pairF_eq, pairsF_eq r]
    simp only [pairsOk]
    cases (es.all fun e => d.preds.testBit e.1 || apartB e.2.1 e.2.2 x.dst d) <;> rfl
def fXD {α : Type} (l : List XD) (k : List XD → α) : α := List.rec (motive := fun _ => (List XD → α) → α) (fun k => k []) (fun a _ ih k => ih fun r => k (a :: r)) l k
theorem fXD_eq {α : Type} : ∀ (l : List XD) (k : List XD → α), fXD l k = k l
  | [], _ => rfl
  | a :: r, k => fXD_eq r _
def compDraw (P : Program) (ops : Array Oper) : Option XC := Bool.rec (motive := fun _ => Option XC) none
  (fXD (zipDF P ops ops.toList (beforeF ops.toList)) fun ds => Bool.rec (motive := fun _ => Option XC) none (some (.draw (mapF (compOperF P ops) ops.toList) ds)) (pairsF (mapF (compOperF P ops) ops.toList) (nat_lit 0) [] ds)) (downF ops.toList (nat_lit 0))
def compCodeF (P : Program) : Code → Option XC
  | .skip => some .skip
  | .region _ ops draw => match draw with
    | false => some (.reg (mapF (compOperF P ops) ops.toList))
    | true => compDraw P ops
  | .seq a b => obind (compCodeF P a) fun a => obind (compCodeF P b) fun b => some (.seq a b)
  | .cond c a b => obind (copd c) fun c => obind (compCodeF P a) fun a => obind (compCodeF P b) fun b => some (.cond c a b)
  | .block i b => obind (compCodeF P b) fun b => some (.block i b)
  | .loop b => obind (compCodeF P b) fun b => some (.loop b)
  | .exit i => some (.exit i)
  | .ret => some .ret
  | .scope b => compCodeF P b
  | .label _ => some .skip
  | _ => none
theorem compCodeF_eq (P : Program) : ∀ c : Code, compCodeF P c = compCode P c := by
  intro c
  induction c with
  | region id ops draw =>
    cases draw with
    | false =>
      simp only [compCodeF, compCode, mapF_eq]
      congr 2
      exact List.map_congr_left fun o _ => compOperF_eq P ops o
    | true =>
      have em : mapF (compOperF P ops) ops.toList = ops.toList.map (compOper P ops) := by
        rw [mapF_eq]
        exact List.map_congr_left fun o _ => compOperF_eq P ops o
      simp only [compCodeF, compCode, compDraw, fXD_eq, zipDF_eq, beforeF_eq, pairsF_eq, downF_eq, em]
      cases downB 0 ops.toList with
      | false => rfl
      | true => cases pairsOk 0 [] (ops.toList.map (compOper P ops)) (zipD ops P ops.toList (Region.before ops).toList) <;> rfl
  | seq a b iha ihb => simp only [compCodeF, compCode, iha, ihb]
  | cond c a b iha ihb => simp only [compCodeF, compCode, iha, ihb]
  | block i b ih => simp only [compCodeF, compCode, ih]
  | loop b ih => simp only [compCodeF, compCode, ih]
  | scope b ih => simp only [compCodeF, compCode, ih]
  | _ => rfl
def compFF (P : Program) (fn : Func) : Option XF :=
  obind fn.body fun b => obind (compCodeF P b) fun b => obind (compRess P fn.results.toList) fun rs =>
  match dstOk fn.ntmps b && Nat.ble (fn.params.size + fn.nfree) fn.ntmps with
  | true => some ⟨fn.params.size + fn.nfree, fn.ntmps, b, rs⟩
  | false => none
theorem compFF_eq (P : Program) (fn : Func) : compFF P fn = compF P fn := by
  have : compCodeF P = compCode P := by funext c; exact compCodeF_eq P c
  simp only [compFF, compF, this]
  rfl
def funAt (l : List Func) (i : Nat) : Option Func := List.rec (motive := fun _ => Nat → Option Func) (fun _ => none) (fun a _ ih i => Nat.rec (motive := fun _ => Option Func) (some a) (fun j _ => ih j) i) l i
theorem funAt_eq : ∀ (l : List Func) (i : Nat), funAt l i = l[i]?
  | [], i => rfl
  | a :: r, 0 => rfl
  | a :: r, i + 1 => by
    show funAt r i = _
    rw [funAt_eq r i]; rfl
def tableF (P : Program) (pol : Nat → Pol) (f : Nat) : Option (XF × Pol) := match funAt P.funcs.toList f with
  | some fn => match compFF P fn with
    | some x => some (x, pol f)
    | none => none
  | none => none
theorem tableF_eq (P : Program) (pol : Nat → Pol) : tableF P pol = tableOf P pol := by
  funext f
  simp only [tableF, tableOf, funAt_eq, compFF_eq, Array.getElem?_toList]
  rfl
end
end Go.Sy

