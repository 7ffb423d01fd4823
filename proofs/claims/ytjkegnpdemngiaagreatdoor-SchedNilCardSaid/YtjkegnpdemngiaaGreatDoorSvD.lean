/- A LIBRARY FOR RUNNING A PROGRAM IN THE KERNEL, OVER ABSTRACT VALUES, AND THAT ITS WORD IS THE MODEL'S: part 4 of 5. No condition. -/
import Derived.Test.YtjkegnpdemngiaaGreatDoorSvC
set_option linter.unusedVariables false
set_option linter.unusedSimpArgs false
/- Regions, staged: their operations one by one, or in an order that is drawn. No condition. -/
namespace Go.Sy
set_option linter.unusedVariables false
set_option linter.unusedSimpArgs false
set_option maxRecDepth 8000
noncomputable section
variable {nt : Nat → Bool} {G : Cx}

abbrev PutdC := FF → AV → (FF → R) → R
def putdC : Option Nat → Box PutdC
  | none => .mk fun f _ k => k f
  | some n => putTab n
theorem putdC_ok (d : Option Nat) (f : FF) (fr : Fr) (v : AV) (k : FF → R) (hr : Rep nt f fr) : (putdC d).un f v k = .fail ∨ ∃ f', Rep nt f' (putd fr d v) ∧ (putdC d).un f v k = k f' := by
  cases d with
  | none => exact .inr ⟨f, hr, rfl⟩
  | some n =>
    rcases putTab_ok n f v k with h | ⟨f', h1, h2⟩
    · exact .inl h
    · refine .inr ⟨f', fun m u hm hu => ?_, h2⟩
      rw [h1] at hu
      simp only [putd, Fr.get_put]
      split
      · rename_i e; rw [if_pos e] at hu; exact hu
      · rename_i e; rw [if_neg e] at hu; exact hr m u hm hu
abbrev GdC := FF → R → R → R
def guardC (nt : Nat → Bool) (G : Cx) : Option (Nat × Bool) → Box GdC
  | none => .mk fun _ y _ => y
  | some (s, b) => bx (valC nt G (.t s)) fun g => fB b fun b => .mk fun f y n => g f fun v => AV.rec (motive_1 := fun _ => R) (motive_2 := fun _ => R) (fun c => Bool.rec (motive := fun _ => R) (Bool.rec (motive := fun _ => R) y n b) (Bool.rec (motive := fun _ => R) n y b) c) (fun _ _ => .fail) (fun _ => .fail) .fail (fun _ _ => .fail) (fun _ _ _ => .fail) .fail (fun _ _ _ => .fail) (fun _ _ _ _ _ _ => .fail) .fail (fun _ => .fail) .fail (fun _ _ _ _ _ => .fail) .fail (fun _ _ _ => .fail) (fun _ _ => .fail) (fun vs _ => List.rec (motive := fun _ => R) n (fun _ _ _ => .fail) vs) (fun _ => .fail) .fail (fun _ _ _ _ => .fail) v
theorem guardC_ok (gd : Option (Nat × Bool)) (f : FF) (fr : Fr) (y n : R) (hr : Rep nt f fr) :
    (guardC nt G gd).un f y n = .fail ∨ (wantx fr gd = some true ∧ (guardC nt G gd).un f y n = y) ∨ (wantx fr gd = some false ∧ (guardC nt G gd).un f y n = n) := by
  cases gd with
  | none => exact .inr (.inl ⟨rfl, rfl⟩)
  | some gd =>
    obtain ⟨s, b⟩ := gd
    simp only [guardC, bx_eq, fB_eq, un_mk]
    rcases valC_ok (G := G) (.t s) f fr _ hr with h | ⟨v, h1, e1⟩
    · exact .inl h
    rw [e1]
    have h1' : fr.get s = some v := h1
    cases v with
    | bool c =>
      cases c <;> cases b
      · exact .inr (.inl ⟨by simp only [wantx, h1'], rfl⟩)
      · exact .inr (.inr ⟨by simp only [wantx, h1'], rfl⟩)
      · exact .inr (.inr ⟨by simp only [wantx, h1'], rfl⟩)
      · exact .inr (.inl ⟨by simp only [wantx, h1'], rfl⟩)
    | tup vs =>
      cases vs with
      | nil => exact .inr (.inr ⟨by simp only [wantx, h1'], rfl⟩)
      | cons a r => exact .inl rfl
    | _ => exact .inl rfl

abbrev KF := FF → Heap → Nat → R
abbrev OpsC := Call → FF → Heap → Nat → KF → R
def opsC (nt : Nat → Bool) (G : Cx) : List XOper → Box OpsC
  | [] => .mk fun _ f H nx k => k f H nx
  | o :: r => bx (opsC nt G r) fun rest => bx (opC nt G o.op) fun g => bx (putdC o.dst) fun p => match o.guard with
    | none => .mk fun call f H nx k => g call f H nx fun v H nx => p f v fun f => rest call f H nx k
    | some gd => bx (guardC nt G (some gd)) fun q => .mk fun call f H nx k => q f (g call f H nx fun v H nx => p f v fun f => rest call f H nx k) (p f (.tup []) fun f => rest call f H nx k)
theorem opsC_ok : ∀ (os : List XOper) (call : Call) (f : FF) (fr : Fr) (H : Heap) (nx : Nat) (k : KF), Rep nt f fr →
    (opsC nt G os).un call f H nx k = .fail ∨ ∃ f' fr' H' n', Rep nt f' fr' ∧ runOps G call os fr H nx = some (fr', H', n') ∧ (opsC nt G os).un call f H nx k = k f' H' n'
  | [], call, f, fr, H, nx, k, hr => .inr ⟨f, fr, H, nx, hr, rfl, rfl⟩
  | o :: r, call, f, fr, H, nx, k, hr => by
    have yes : ∀ (hw : wantx fr o.guard = some true), let y := ((opC nt G o.op).un call f H nx fun v H nx => (putdC o.dst).un f v fun f => (opsC nt G r).un call f H nx k)
        y = .fail ∨ ∃ f' fr' H' n', Rep nt f' fr' ∧ runOps G call (o :: r) fr H nx = some (fr', H', n') ∧ y = k f' H' n' := by
      intro hw y
      rcases anyC_ok (G := G) o.op call f fr H nx (fun v H nx => (putdC o.dst).un f v fun f => (opsC nt G r).un call f H nx k) hr with h | ⟨v, H1, n1, h1, e1⟩
      · exact .inl h
      rcases putdC_ok o.dst f fr v (fun f => (opsC nt G r).un call f H1 n1 k) hr with h | ⟨f1, h2, e2⟩
      · exact .inl (e1.trans h)
      rcases opsC_ok r call f1 _ H1 n1 k h2 with h | ⟨f', fr', H', n', h3, h4, e3⟩
      · exact .inl (e1.trans (e2.trans h))
      · exact .inr ⟨f', fr', H', n', h3, by simp only [runOps, hw, h1]; exact h4, e1.trans (e2.trans e3)⟩
    have no : ∀ (hw : wantx fr o.guard = some false), let y := ((putdC o.dst).un f (.tup []) fun f => (opsC nt G r).un call f H nx k)
        y = .fail ∨ ∃ f' fr' H' n', Rep nt f' fr' ∧ runOps G call (o :: r) fr H nx = some (fr', H', n') ∧ y = k f' H' n' := by
      intro hw y
      rcases putdC_ok o.dst f fr (.tup []) (fun f => (opsC nt G r).un call f H nx k) hr with h | ⟨f1, h2, e2⟩
      · exact .inl h
      rcases opsC_ok r call f1 _ H nx k h2 with h | ⟨f', fr', H', n', h3, h4, e3⟩
      · exact .inl (e2.trans h)
      · exact .inr ⟨f', fr', H', n', h3, by simp only [runOps, hw]; exact h4, e2.trans e3⟩
    simp only [opsC, bx_eq]
    split
    · rename_i hg
      simp only [un_mk]
      exact yes (by rw [hg]; rfl)
    · rename_i gd hg
      simp only [bx_eq, un_mk]
      rcases guardC_ok (G := G) (some gd) f fr ((opC nt G o.op).un call f H nx fun v H nx => (putdC o.dst).un f v fun f => (opsC nt G r).un call f H nx k) ((putdC o.dst).un f (.tup []) fun f => (opsC nt G r).un call f H nx k) hr with h | ⟨h, e⟩ | ⟨h, e⟩
      · exact .inl h
      · rw [e]; exact yes (by rw [hg]; exact h)
      · rw [e]; exact no (by rw [hg]; exact h)

/- Regions that draw their order. -/
abbrev AL := List (Nat × Nat × HO)
abbrev MS := List (Heap × Nat)
abbrev CH := List (Nat × Nat)
inductive RdF where
  | mk (i preds : Nat) (chk : AL → Nat → Heap → Nat → R → R)
abbrev DK := FF → Nat → MS → CH → AL → List RdF → R
abbrev DrC := Call → FF → Nat → MS → CH → AL → List RdF → DK → R

def tbF (m n : Nat) : Bool := Nat.beq (Nat.land (nat_lit 1) (Nat.shiftRight m n)) (nat_lit 1)
theorem tbF_eq (m n : Nat) : tbF m n = m.testBit n := by
  have h : Nat.land 1 (Nat.shiftRight m n) = (m >>> n) % 2 := by
    show 1 &&& (m >>> n) = _
    rw [Nat.one_and_eq_mod_two]
  unfold tbF
  rw [nbeq_decide, Nat.testBit, h]
  show _ = (1 &&& (m >>> n) != 0)
  rw [Nat.one_and_eq_mod_two]
  rcases Nat.mod_two_eq_zero_or_one (m >>> n) with e | e <;> rw [e] <;> rfl
def wiF (f : Nat → Bool) (al : AL) (k : Heap → R) : R := List.rec (motive := fun _ => (Heap → R) → R) (fun k => k []) (fun x _ ih k => Prod.rec (motive := fun _ => R) (fun i q => Prod.rec (motive := fun _ => R) (fun h o => Bool.rec (motive := fun _ => R) (ih k) (ih fun r => k ((h, o) :: r)) (f i)) q) x) al k
theorem wiF_eq (f : Nat → Bool) : ∀ (al : AL) (k : Heap → R), wiF f al k = k (within f al)
  | [], _ => rfl
  | (i, h, o) :: r, k => by
    show Bool.rec (motive := fun _ => R) (wiF f r k) (wiF f r fun r => k ((h, o) :: r)) (f i) = _
    simp only [within]
    cases f i
    · exact wiF_eq f r k
    · exact wiF_eq f r _
def butF (mask inc i : Nat) : Bool := and (tbF mask i) (not (tbF inc i))
theorem butF_eq (mask inc : Nat) : butF mask inc = but mask inc := by
  funext i
  simp only [butF, but, tbF_eq]
def notF' (inc i : Nat) : Bool := not (tbF inc i)
def hpF (mask inc : Nat) (al : AL) (m : Heap) (k : Heap → R) : R := wiF (butF mask inc) al fun r => appF r m k
theorem hpF_eq (mask inc : Nat) (al : AL) (m : Heap) (k : Heap → R) : hpF mask inc al m k = k (within (but mask inc) al ++ m) := by
  unfold hpF
  rw [wiF_eq, appF_eq, butF_eq]
def maskF (mask : Nat) (al : AL) : Nat := List.rec (motive := fun _ => Nat) (nat_lit 0) (fun x _ ih => Prod.rec (motive := fun _ => Nat) (fun i _ => Bool.rec (motive := fun _ => Nat) ih (Nat.lor (Nat.pow (nat_lit 2) i) ih) (tbF mask i)) x) al
theorem maskF_eq (mask : Nat) : ∀ al : AL, maskF mask al = maskOf mask al
  | [] => rfl
  | (i, h, o) :: r => by
    show Bool.rec (motive := fun _ => Nat) (maskF mask r) (Nat.lor (Nat.pow 2 i) (maskF mask r)) (tbF mask i) = _
    rw [tbF_eq, maskF_eq mask r]
    simp only [maskOf]
    cases mask.testBit i <;> rfl
def allF (mask : Nat) (ch : CH) : Bool := List.rec (motive := fun _ => Bool) true (fun c _ ih => Bool.rec (motive := fun _ => Bool) false ih (tbF mask c.1)) ch
theorem allF_eq (mask : Nat) : ∀ ch : CH, allF mask ch = ch.all fun c => mask.testBit c.1
  | [] => rfl
  | c :: r => by
    show Bool.rec (motive := fun _ => Bool) false (allF mask r) (tbF mask c.1) = _
    rw [tbF_eq, allF_eq mask r, List.all_cons]
    cases mask.testBit c.1 <;> rfl
def aeqF (a b : AV) : Bool := AV.rec (motive_1 := fun _ => Bool) (motive_2 := fun _ => Bool) (fun _ => aeq 40 a b) (fun ki x => AV.rec (motive_1 := fun _ => Bool) (motive_2 := fun _ => Bool) (fun _ => false) (fun kj y => Bool.rec (motive := fun _ => Bool) false (ieqF x y) (ksame ki kj)) (fun _ => false) false (fun _ _ => false) (fun _ _ _ => false) false (fun _ _ _ => false) (fun _ _ _ _ _ _ => false) false (fun _ => false) false (fun _ _ _ _ _ => false) false (fun _ _ _ => false) (fun _ _ => false) (fun _ _ => false) (fun _ => false) false (fun _ _ _ _ => false) b) (fun _ => aeq 40 a b) (aeq 40 a b) (fun h q => AV.rec (motive_1 := fun _ => Bool) (motive_2 := fun _ => Bool) (fun _ => false) (fun _ _ => false) (fun _ => false) false (fun h' q' => and (Nat.beq h h') (Nat.beq q q')) (fun _ _ _ => false) false (fun _ _ _ => false) (fun _ _ _ _ _ _ => false) false (fun _ => false) false (fun _ _ _ _ _ => false) false (fun _ _ _ => false) (fun _ _ => false) (fun _ _ => false) (fun _ => false) false (fun _ _ _ _ => false) b) (fun _ _ _ => aeq 40 a b) (aeq 40 a b) (fun _ _ _ => aeq 40 a b) (fun _ _ _ _ _ _ => aeq 40 a b) (aeq 40 a b) (fun _ => aeq 40 a b) (aeq 40 a b) (fun _ _ _ _ _ => aeq 40 a b) (aeq 40 a b) (fun _ _ _ => aeq 40 a b) (fun _ _ => aeq 40 a b) (fun _ _ => aeq 40 a b) (fun _ => aeq 40 a b) false (fun _ _ _ _ => false) a
theorem aeqF_eq (a b : AV) : aeqF a b = aeq 40 a b := by
  cases a with
  | int ki x => cases b with
    | int kj y =>
      show Bool.rec (motive := fun _ => Bool) false (ieqF x y) (ksame ki kj) = _
      rw [ieqF_eq]
      simp only [aeq]
      cases ksame ki kj <;> rfl
    | _ => rfl
  | ptr h q => cases b <;> rfl
  | _ => rfl

def inLooks (looks : List Nat) : List Nat → Bool
  | [] => true
  | t :: r => and (memb t looks) (inLooks looks r)
def gdTmps : Option (Nat × Bool) → List Nat
  | none => []
  | some (s, _) => [s]
/-- The body of one operation in a drawn region. -/
def drawK (i preds : Nat) (kd : Nat) (g : OpC) (p : PutdC) : Box DrC := match kd with
  | 0 => .mk fun _ f nx ms ch al rd k => g noCall f [] nx fun v H n => List.rec (motive := fun _ => R) (Bool.rec (motive := fun _ => R) .fail (p f v fun f => k f nx ms ch al rd) (Nat.beq n nx)) (fun _ _ _ => .fail) H
  | 1 => .mk fun _ f nx ms ch al rd k => List.rec (motive := fun _ => R) .fail (fun mi _ _ => Prod.rec (motive := fun _ => R) (fun m inc => hpF preds inc al m fun hp => g noCall f hp nx fun v _ _ => p f v fun f' => k f' nx ms ch al
      (.mk i preds (fun al nx m inc cont => hpF preds inc al m fun hp => g noCall f hp nx fun u _ _ => Bool.rec (motive := fun _ => R) .fail cont (aeqF u v)) :: rd)) mi) ms
  | 2 => .mk fun _ f nx ms ch al rd k => g noCall f [] nx fun v H n => List.rec (motive := fun _ => R) (Bool.rec (motive := fun _ => R) .fail (p f v fun f => k f nx ms ch al rd) (Nat.beq n nx))
        (fun a t _ => Prod.rec (motive := fun _ => R) (fun h ob => List.rec (motive := fun _ => R) (Bool.rec (motive := fun _ => R) .fail (Bool.rec (motive := fun _ => R) .fail (p f v fun f => k f n ms ch ((i, h, ob) :: al) rd) (Nat.beq h nx)) (Nat.beq n (Nat.succ h))) (fun _ _ _ => .fail) t) a) H
  | _ => .mk fun call f nx ms ch al rd k => List.rec (motive := fun _ => R) .fail (fun mi _ _ => Prod.rec (motive := fun _ => R) (fun m inc => Bool.rec (motive := fun _ => R) .fail
        (hpF preds inc al m fun hp => g call f hp nx fun v m' n => p f v fun f => fN (Nat.lor inc (maskF preds al)) fun inc' => k f n ((m', inc') :: ms) ((i, preds) :: ch) al rd) (allF preds ch)) mi) ms
def drawOpC (nt : Nat → Bool) (G : Cx) (i : Nat) (o : XOper) (d : XD) : Box DrC := match and (inLooks d.looks (tmpsX o.op.opnds)) (inLooks d.looks (gdTmps o.guard)) with
  | false => .mk fun _ _ _ _ _ _ _ _ => .fail
  | true => bx (opC nt G o.op) fun g => bx (putdC o.dst) fun p => fN i fun i => fN d.preds fun preds => fN (kindOf o.op) fun kd => bx (drawK i preds kd g p) fun b => match o.guard with
    | none => .mk b
    | some gd => bx (guardC nt G (some gd)) fun q => .mk fun call f nx ms ch al rd k => q f (b call f nx ms ch al rd k) (p f (.tup []) fun f => k f nx ms ch al rd)
def drawOpsC (nt : Nat → Bool) (G : Cx) : Nat → List XOper → List XD → Box DrC
  | _, [], _ => .mk fun _ f nx ms ch al rd k => k f nx ms ch al rd
  | i, o :: r, d :: ds => bx (drawOpsC nt G (i + 1) r ds) fun rest => bx (drawOpC nt G i o d) fun b => .mk fun call f nx ms ch al rd k => b call f nx ms ch al rd fun f nx ms ch al rd => rest call f nx ms ch al rd k
  | _, _ :: _, [] => .mk fun _ _ _ _ _ _ _ _ => .fail
/-- One read, looked at in each heap that it may see. -/
def readF (i preds : Nat) (chk : Heap → Nat → R → R) (ch : CH) (ms : MS) (cont : R) : R := List.rec (motive := fun _ => MS → R)
  (fun ms => List.rec (motive := fun _ => R) .fail (fun mi _ _ => Prod.rec (motive := fun _ => R) (fun m inc => chk m inc cont) mi) ms)
  (fun cp _ ih ms => List.rec (motive := fun _ => R) .fail (fun mi t _ => Prod.rec (motive := fun _ => R) (fun m inc => Prod.rec (motive := fun _ => R) (fun c pp =>
    Bool.rec (motive := fun _ => R) (Bool.rec (motive := fun _ => R) (chk m inc (ih t)) (ih t) (tbF pp i)) (chk m inc cont) (tbF preds c)) cp) mi) ms) ch ms
def readsF (ch : CH) (ms : MS) (al : AL) (nx : Nat) (rd : List RdF) (cont : R) : R := List.rec (motive := fun _ => R) cont (fun r _ ih => RdF.rec (motive := fun _ => R) (fun i preds chk => readF i preds (chk al nx) ch ms ih) r) rd
def drawC (nt : Nat → Bool) (G : Cx) (ops : List XOper) (ds : List XD) : Box OpsC := bx (drawOpsC nt G (nat_lit 0) ops ds) fun b => .mk fun call f H nx k =>
  b call f nx [(H, nat_lit 0)] [] [] [] fun f nx ms ch al rd => readsF ch ms al nx rd (List.rec (motive := fun _ => R) .fail (fun mi _ _ => Prod.rec (motive := fun _ => R) (fun m inc => wiF (notF' inc) al fun r => appF r m fun H => k f H nx) mi) ms)

theorem only_mem : ∀ {ts : List Nat} {fr : Fr} {t : Nat}, t ∈ ts → (only ts fr).get t = fr.get t
  | t0 :: ts, fr, t, h => by
    simp only [only]
    cases h0 : fr.get t0 with
    | none =>
      by_cases e : t ∈ ts
      · exact only_mem e
      · rcases List.mem_cons.1 h with rfl | h
        · cases h1 : (only ts fr).get t with
          | none => exact h0.symm
          | some v => exact absurd (only_get h1).1 e
        · exact absurd h e
    | some v =>
      simp only [Fr.get]
      split
      · rename_i e; rw [← nbeq_true e]; exact h0.symm
      · rename_i e
        rcases List.mem_cons.1 h with rfl | h
        · exact absurd rfl (nbeq_false e)
        · exact only_mem h
theorem inLooks_mem {looks : List Nat} : ∀ {l : List Nat}, inLooks looks l = true → ∀ t ∈ l, t ∈ looks
  | [], _, t, h => by simp at h
  | a :: r, hb, t, h => by
    simp only [inLooks, Bool.and_eq_true] at hb
    rcases List.mem_cons.1 h with rfl | h
    · exact DRun.memb_iff.1 hb.1
    · exact inLooks_mem hb.2 t h

def RdR (G : Cx) (r : RdF) (q : DRead) : Prop := ∃ chk, r = .mk q.i q.preds chk ∧ ∀ al nx m inc cont, chk al nx m inc cont = .fail ∨ (readAt G al nx q m inc = true ∧ chk al nx m inc cont = cont)
inductive RdsR (G : Cx) : List RdF → List DRead → Prop where
  | nil : RdsR G [] []
  | cons {r q rs qs} (h : RdR G r q) (hs : RdsR G rs qs) : RdsR G (r :: rs) (q :: qs)
structure DSR (nt : Nat → Bool) (G : Cx) (s : DS) (f : FF) (nx : Nat) (ms : MS) (ch : CH) (al : AL) (rd : List RdF) : Prop where
  rep : Rep nt f s.fr
  nx : s.nx = nx
  ms : s.ms = ms
  ch : s.ch = ch
  al : s.al = al
  rd : RdsR G rd s.rd

theorem drawOpC_ok (i : Nat) (o : XOper) (d : XD) (call : Call) (s : DS) (f : FF) (nx : Nat) (ms : MS) (ch : CH) (al : AL) (rd : List RdF) (k : DK) (hs : DSR nt G s f nx ms ch al rd) :
    (drawOpC nt G i o d).un call f nx ms ch al rd k = .fail ∨ ∃ s' f' nx' ms' ch' al' rd', drawOp G call i o d s = some s' ∧ DSR nt G s' f' nx' ms' ch' al' rd' ∧ (drawOpC nt G i o d).un call f nx ms ch al rd k = k f' nx' ms' ch' al' rd' := by
  unfold drawOpC
  split
  · exact .inl rfl
  rename_i hl
  simp only [Bool.and_eq_true] at hl
  have hxo : ∀ (c : Call) (H : Heap) (n : Nat), xo G c (only d.looks s.fr) H n o.op = xo G c s.fr H n o.op := fun c H n => xo_agree fun x hx => by
    cases x with
    | t m => exact only_mem (inLooks_mem hl.1 m (tmpsX_mem hx))
    | _ => rfl
  have hgd : wantx (only d.looks s.fr) o.guard = wantx s.fr o.guard := by
    cases hg : o.guard with
    | none => rfl
    | some q =>
      obtain ⟨t, b⟩ := q
      have h2 := hl.2
      rw [hg] at h2
      simp only [wantx, only_mem (inLooks_mem h2 t (.head _))]
  obtain ⟨rep, rfl, rfl, rfl, rfl, hrd⟩ := hs
  simp only [bx_eq, fN_eq]
  have yes : ∀ (hw : wantx s.fr o.guard = some true), let y := (drawK i d.preds (kindOf o.op) (opC nt G o.op).un (putdC o.dst).un).un call f s.nx s.ms s.ch s.al rd k
      y = .fail ∨ ∃ s' f' nx' ms' ch' al' rd', drawOp G call i o d s = some s' ∧ DSR nt G s' f' nx' ms' ch' al' rd' ∧ y = k f' nx' ms' ch' al' rd' := by
    intro hw y
    have hw' := hgd.trans hw
    match hk : kindOf o.op with
    | 0 =>
      have ey : y = (opC nt G o.op).un noCall f [] s.nx fun v H n => List.rec (motive := fun _ => R) (Bool.rec (motive := fun _ => R) .fail ((putdC o.dst).un f v fun f => k f s.nx s.ms s.ch s.al rd) (Nat.beq n s.nx)) (fun _ _ _ => .fail) H := by
        show (drawK i d.preds (kindOf o.op) _ _).un call f s.nx s.ms s.ch s.al rd k = _
        rw [hk]; rfl
      rcases anyC_ok (G := G) o.op noCall f s.fr [] s.nx (fun v H n => List.rec (motive := fun _ => R) (Bool.rec (motive := fun _ => R) .fail ((putdC o.dst).un f v fun f => k f s.nx s.ms s.ch s.al rd) (Nat.beq n s.nx)) (fun _ _ _ => .fail) H) rep with h | ⟨v, H1, n1, h1, e1⟩
      · exact .inl (ey.trans h)
      rw [ey, e1]
      cases H1 with
      | cons a t => exact .inl rfl
      | nil =>
        cases hn : Nat.beq n1 s.nx with
        | false => exact .inl (by show Bool.rec (motive := fun _ => R) _ _ (Nat.beq n1 s.nx) = _; rw [hn])
        | true =>
          rcases putdC_ok o.dst f s.fr v (fun f => k f s.nx s.ms s.ch s.al rd) rep with h | ⟨f1, h2, e2⟩
          · exact .inl (by show Bool.rec (motive := fun _ => R) _ _ (Nat.beq n1 s.nx) = _; rw [hn]; exact h)
          · refine .inr ⟨{ s with fr := putd s.fr o.dst v, tr := (i, o.dst, v) :: s.tr }, f1, _, _, _, _, _, by simp only [drawOp, hw', hk, hxo, h1, hn], ⟨h2, rfl, rfl, rfl, rfl, hrd⟩, ?_⟩
            show Bool.rec (motive := fun _ => R) _ _ (Nat.beq n1 s.nx) = _; rw [hn]; exact e2
    | 1 =>
      have ey : y = List.rec (motive := fun _ => R) .fail (fun mi _ _ => Prod.rec (motive := fun _ => R) (fun m inc => hpF d.preds inc s.al m fun hp => (opC nt G o.op).un noCall f hp s.nx fun v _ _ => (putdC o.dst).un f v fun f' => k f' s.nx s.ms s.ch s.al
          (.mk i d.preds (fun al nx m inc cont => hpF d.preds inc al m fun hp => (opC nt G o.op).un noCall f hp nx fun u _ _ => Bool.rec (motive := fun _ => R) .fail cont (aeqF u v)) :: rd)) mi) s.ms := by
        show (drawK i d.preds (kindOf o.op) _ _).un call f s.nx s.ms s.ch s.al rd k = _
        rw [hk]; rfl
      rw [ey]
      cases hms : s.ms with
      | nil => exact .inl rfl
      | cons mi mr =>
        obtain ⟨m, inc⟩ := mi
        show _ ∨ _
        simp only [hpF_eq]
        rcases anyC_ok (G := G) o.op noCall f s.fr (within (but d.preds inc) s.al ++ m) s.nx (fun v _ _ => (putdC o.dst).un f v fun f' => k f' s.nx ((m, inc) :: mr) s.ch s.al
          (.mk i d.preds (fun al nx m inc cont => (opC nt G o.op).un noCall f (within (but d.preds inc) al ++ m) nx fun u _ _ => Bool.rec (motive := fun _ => R) .fail cont (aeqF u v)) :: rd)) rep with h | ⟨v, H1, n1, h1, e1⟩
        · exact .inl h
        rw [e1]
        rcases putdC_ok o.dst f s.fr v (fun f' => k f' s.nx ((m, inc) :: mr) s.ch s.al
          (.mk i d.preds (fun al nx m inc cont => (opC nt G o.op).un noCall f (within (but d.preds inc) al ++ m) nx fun u _ _ => Bool.rec (motive := fun _ => R) .fail cont (aeqF u v)) :: rd)) rep with h | ⟨f1, h2, e2⟩
        · exact .inl h
        · refine .inr ⟨{ s with fr := putd s.fr o.dst v, rd := ⟨i, o.op, only d.looks s.fr, d.preds, v⟩ :: s.rd, tr := (i, o.dst, v) :: s.tr }, f1, _, _, _, _, _, by simp only [drawOp, hw', hk, hms, hxo, h1], ⟨h2, rfl, hms, rfl, rfl, .cons ⟨_, rfl, fun al nx m inc cont => ?_⟩ hrd⟩, e2⟩
          rcases anyC_ok (G := G) o.op noCall f s.fr (within (but d.preds inc) al ++ m) nx (fun u _ _ => Bool.rec (motive := fun _ => R) .fail cont (aeqF u v)) rep with h | ⟨u, H2, n2, h3, e3⟩
          · exact .inl h
          · cases hu : aeqF u v with
            | false => exact .inl (by rw [e3]; show Bool.rec (motive := fun _ => R) .fail cont (aeqF u v) = _; rw [hu])
            | true => exact .inr ⟨by simp only [readAt, hxo, h3, ← aeqF_eq, hu], by rw [e3]; show Bool.rec (motive := fun _ => R) .fail cont (aeqF u v) = _; rw [hu]⟩
    | 2 =>
      have ey : y = (opC nt G o.op).un noCall f [] s.nx fun v H n => List.rec (motive := fun _ => R) (Bool.rec (motive := fun _ => R) .fail ((putdC o.dst).un f v fun f => k f s.nx s.ms s.ch s.al rd) (Nat.beq n s.nx))
        (fun a t _ => Prod.rec (motive := fun _ => R) (fun h ob => List.rec (motive := fun _ => R) (Bool.rec (motive := fun _ => R) .fail (Bool.rec (motive := fun _ => R) .fail ((putdC o.dst).un f v fun f => k f n s.ms s.ch ((i, h, ob) :: s.al) rd) (Nat.beq h s.nx)) (Nat.beq n (Nat.succ h))) (fun _ _ _ => .fail) t) a) H := by
        show (drawK i d.preds (kindOf o.op) _ _).un call f s.nx s.ms s.ch s.al rd k = _
        rw [hk]; rfl
      rcases anyC_ok (G := G) o.op noCall f s.fr [] s.nx (fun v H n => List.rec (motive := fun _ => R) (Bool.rec (motive := fun _ => R) .fail ((putdC o.dst).un f v fun f => k f s.nx s.ms s.ch s.al rd) (Nat.beq n s.nx))
        (fun a t _ => Prod.rec (motive := fun _ => R) (fun h ob => List.rec (motive := fun _ => R) (Bool.rec (motive := fun _ => R) .fail (Bool.rec (motive := fun _ => R) .fail ((putdC o.dst).un f v fun f => k f n s.ms s.ch ((i, h, ob) :: s.al) rd) (Nat.beq h s.nx)) (Nat.beq n (Nat.succ h))) (fun _ _ _ => .fail) t) a) H) rep with h | ⟨v, H1, n1, h1, e1⟩
      · exact .inl (ey.trans h)
      rw [ey, e1]
      cases H1 with
      | nil =>
        cases hn : Nat.beq n1 s.nx with
        | false => exact .inl (by show Bool.rec (motive := fun _ => R) _ _ (Nat.beq n1 s.nx) = _; rw [hn])
        | true =>
          rcases putdC_ok o.dst f s.fr v (fun f => k f s.nx s.ms s.ch s.al rd) rep with h | ⟨f1, h2, e2⟩
          · exact .inl (by show Bool.rec (motive := fun _ => R) _ _ (Nat.beq n1 s.nx) = _; rw [hn]; exact h)
          · refine .inr ⟨{ s with fr := putd s.fr o.dst v, tr := (i, o.dst, v) :: s.tr }, f1, _, _, _, _, _, by simp only [drawOp, hw', hk, hxo, h1, hn], ⟨h2, rfl, rfl, rfl, rfl, hrd⟩, ?_⟩
            show Bool.rec (motive := fun _ => R) _ _ (Nat.beq n1 s.nx) = _; rw [hn]; exact e2
      | cons a t =>
        obtain ⟨h, ob⟩ := a
        cases t with
        | cons _ _ => exact .inl rfl
        | nil =>
          show (Bool.rec (motive := fun _ => R) .fail (Bool.rec (motive := fun _ => R) .fail ((putdC o.dst).un f v fun f => k f n1 s.ms s.ch ((i, h, ob) :: s.al) rd) (Nat.beq h s.nx)) (Nat.beq n1 (Nat.succ h)) : R) = _ ∨ _
          cases hn : Nat.beq n1 (Nat.succ h) with
          | false => exact .inl rfl
          | true =>
            cases hn2 : Nat.beq h s.nx with
            | false => exact .inl rfl
            | true =>
              have hn' : Nat.beq n1 (h + 1) = true := hn
              rcases putdC_ok o.dst f s.fr v (fun f => k f n1 s.ms s.ch ((i, h, ob) :: s.al) rd) rep with h | ⟨f1, h2, e2⟩
              · exact .inl h
              · refine .inr ⟨{ s with fr := putd s.fr o.dst v, nx := n1, al := (i, h, ob) :: s.al, tr := (i, o.dst, v) :: s.tr }, f1, _, _, _, _, _, by simp only [drawOp, hw', hk, hxo, h1, hn', hn2], ⟨h2, rfl, rfl, rfl, rfl, hrd⟩, ?_⟩
                show Bool.rec (motive := fun _ => R) _ (Bool.rec (motive := fun _ => R) _ _ (Nat.beq h s.nx)) (Nat.beq n1 (Nat.succ h)) = _
                rw [hn, hn2]; exact e2
    | j + 3 =>
      have ey : y = List.rec (motive := fun _ => R) .fail (fun mi _ _ => Prod.rec (motive := fun _ => R) (fun m inc => Bool.rec (motive := fun _ => R) .fail
        (hpF d.preds inc s.al m fun hp => (opC nt G o.op).un call f hp s.nx fun v m' n => (putdC o.dst).un f v fun f => fN (Nat.lor inc (maskF d.preds s.al)) fun inc' => k f n ((m', inc') :: s.ms) ((i, d.preds) :: s.ch) s.al rd) (allF d.preds s.ch)) mi) s.ms := by
        show (drawK i d.preds (kindOf o.op) _ _).un call f s.nx s.ms s.ch s.al rd k = _
        rw [hk]; rfl
      rw [ey]
      cases hms : s.ms with
      | nil => exact .inl rfl
      | cons mi mr =>
        obtain ⟨m, inc⟩ := mi
        show _ ∨ _
        simp only [hpF_eq, fN_eq, maskF_eq, allF_eq]
        cases hall : (s.ch.all fun c => d.preds.testBit c.1) with
        | false => exact .inl rfl
        | true =>
          rcases anyC_ok (G := G) o.op call f s.fr (within (but d.preds inc) s.al ++ m) s.nx (fun v m' n => (putdC o.dst).un f v fun f => k f n ((m', Nat.lor inc (maskOf d.preds s.al)) :: (m, inc) :: mr) ((i, d.preds) :: s.ch) s.al rd) rep with h | ⟨v, H1, n1, h1, e1⟩
          · exact .inl h
          rcases putdC_ok o.dst f s.fr v (fun f => k f n1 ((H1, Nat.lor inc (maskOf d.preds s.al)) :: (m, inc) :: mr) ((i, d.preds) :: s.ch) s.al rd) rep with h | ⟨f1, h2, e2⟩
          · exact .inl (e1.trans h)
          · refine .inr ⟨{ s with fr := putd s.fr o.dst v, nx := n1, ms := (H1, inc ||| maskOf d.preds s.al) :: s.ms, ch := (i, d.preds) :: s.ch, tr := (i, o.dst, v) :: s.tr }, f1, _, _, _, _, _, by simp only [drawOp, hw', hk, hms, hall, hxo, h1], ⟨h2, rfl, congrArg (List.cons _) hms, rfl, rfl, hrd⟩, e1.trans e2⟩
  have no : ∀ (hw : wantx s.fr o.guard = some false), let y := ((putdC o.dst).un f (.tup []) fun f => k f s.nx s.ms s.ch s.al rd)
      y = .fail ∨ ∃ s' f' nx' ms' ch' al' rd', drawOp G call i o d s = some s' ∧ DSR nt G s' f' nx' ms' ch' al' rd' ∧ y = k f' nx' ms' ch' al' rd' := by
    intro hw y
    have hw' := hgd.trans hw
    rcases putdC_ok o.dst f s.fr (.tup []) (fun f => k f s.nx s.ms s.ch s.al rd) rep with h | ⟨f1, h2, e2⟩
    · exact .inl h
    · exact .inr ⟨{ s with fr := putd s.fr o.dst (.tup []), tr := (i, o.dst, .tup []) :: s.tr }, f1, _, _, _, _, _, by simp only [drawOp, hw'], ⟨h2, rfl, rfl, rfl, rfl, hrd⟩, e2⟩
  split
  · rename_i hg
    simp only [un_mk]
    exact yes (by rw [hg]; rfl)
  · rename_i gd hg
    simp only [bx_eq, un_mk]
    rcases guardC_ok (G := G) (some gd) f s.fr ((drawK i d.preds (kindOf o.op) (opC nt G o.op).un (putdC o.dst).un).un call f s.nx s.ms s.ch s.al rd k) ((putdC o.dst).un f (.tup []) fun f => k f s.nx s.ms s.ch s.al rd) rep with h | ⟨h, e⟩ | ⟨h, e⟩
    · exact .inl h
    · rw [e]; exact yes (by rw [hg]; exact h)
    · rw [e]; exact no (by rw [hg]; exact h)

theorem drawOpsC_ok : ∀ (os : List XOper) (ds : List XD) (i : Nat) (call : Call) (s : DS) (f : FF) (nx : Nat) (ms : MS) (ch : CH) (al : AL) (rd : List RdF) (k : DK), DSR nt G s f nx ms ch al rd →
    (drawOpsC nt G i os ds).un call f nx ms ch al rd k = .fail ∨ ∃ s' f' nx' ms' ch' al' rd', drawOps G call i os ds s = some s' ∧ DSR nt G s' f' nx' ms' ch' al' rd' ∧ (drawOpsC nt G i os ds).un call f nx ms ch al rd k = k f' nx' ms' ch' al' rd'
  | [], ds, i, call, s, f, nx, ms, ch, al, rd, k, h => .inr ⟨s, f, nx, ms, ch, al, rd, rfl, h, rfl⟩
  | o :: r, [], i, call, s, f, nx, ms, ch, al, rd, k, h => .inl rfl
  | o :: r, d :: ds, i, call, s, f, nx, ms, ch, al, rd, k, h => by
    simp only [drawOpsC, bx_eq, un_mk]
    rcases drawOpC_ok (nt := nt) (G := G) i o d call s f nx ms ch al rd (fun f nx ms ch al rd => (drawOpsC nt G (i + 1) r ds).un call f nx ms ch al rd k) h with h1 | ⟨s1, f1, nx1, ms1, ch1, al1, rd1, h1, h2, e1⟩
    · exact .inl h1
    rcases drawOpsC_ok r ds (i + 1) call s1 f1 nx1 ms1 ch1 al1 rd1 k h2 with h3 | ⟨s2, f2, nx2, ms2, ch2, al2, rd2, h3, h4, e2⟩
    · exact .inl (e1.trans h3)
    · exact .inr ⟨s2, f2, nx2, ms2, ch2, al2, rd2, by simp only [drawOps, h1]; exact h3, h4, e1.trans e2⟩

theorem readF_ok {q : DRead} {chk : AL → Nat → Heap → Nat → R → R} {al : AL} {nx : Nat} (hc : ∀ m inc cont, chk al nx m inc cont = .fail ∨ (readAt G al nx q m inc = true ∧ chk al nx m inc cont = cont)) :
    ∀ (ch : CH) (ms : MS) (cont : R), readF q.i q.preds (chk al nx) ch ms cont = .fail ∨ (readOk G al nx q ch ms = true ∧ readF q.i q.preds (chk al nx) ch ms cont = cont)
  | [], [], cont => .inl rfl
  | [], (m, inc) :: ms, cont => by
    rcases hc m inc cont with h | ⟨h, e⟩
    · exact .inl h
    · exact .inr ⟨by simp only [readOk, h], e⟩
  | (c, pp) :: ch, [], cont => .inl rfl
  | (c, pp) :: ch, (m, inc) :: ms, cont => by
    have ih := readF_ok hc ch ms cont
    show (Bool.rec (motive := fun _ => R) (Bool.rec (motive := fun _ => R) (chk al nx m inc (readF q.i q.preds (chk al nx) ch ms cont)) (readF q.i q.preds (chk al nx) ch ms cont) (tbF pp q.i)) (chk al nx m inc cont) (tbF q.preds c) : R) = _ ∨ (_ ∧ (Bool.rec (motive := fun _ => R) (Bool.rec (motive := fun _ => R) (chk al nx m inc (readF q.i q.preds (chk al nx) ch ms cont)) (readF q.i q.preds (chk al nx) ch ms cont) (tbF pp q.i)) (chk al nx m inc cont) (tbF q.preds c) : R) = _)
    simp only [tbF_eq, readOk]
    cases q.preds.testBit c with
    | true =>
      rcases hc m inc cont with h | ⟨h, e⟩
      · exact .inl h
      · exact .inr ⟨h, e⟩
    | false =>
      cases pp.testBit q.i with
      | true => exact ih
      | false =>
        rcases hc m inc (readF q.i q.preds (chk al nx) ch ms cont) with h | ⟨h, e⟩
        · exact .inl h
        · simp only [h]
          rcases ih with h2 | ⟨h2, e2⟩
          · exact .inl (e.trans h2)
          · exact .inr ⟨h2, e.trans e2⟩

theorem readsF_ok (ch : CH) (ms : MS) (al : AL) (nx : Nat) (cont : R) {rd : List RdF} {qs : List DRead} (h : RdsR G rd qs) : readsF ch ms al nx rd cont = .fail ∨ ((qs.all fun r => readOk G al nx r ch ms) = true ∧ readsF ch ms al nx rd cont = cont) := by
  induction h with
  | nil => exact .inr ⟨rfl, rfl⟩
  | cons h hs ih =>
    rename_i r q rs qs
    obtain ⟨chk, rfl, hc⟩ := h
    show readF q.i q.preds (chk al nx) ch ms (readsF ch ms al nx rs cont) = _ ∨ (_ ∧ readF q.i q.preds (chk al nx) ch ms (readsF ch ms al nx rs cont) = _)
    rcases readF_ok (G := G) (q := q) (hc al nx) ch ms (readsF ch ms al nx rs cont) with h1 | ⟨h1, e1⟩
    · exact .inl h1
    · rcases ih with h2 | ⟨h2, e2⟩
      · exact .inl (e1.trans h2)
      · exact .inr ⟨by simp only [List.all_cons, h1, h2, Bool.and_self], e1.trans e2⟩

theorem drawC_ok (ops : List XOper) (ds : List XD) (call : Call) (f : FF) (fr : Fr) (H : Heap) (nx : Nat) (k : KF) (hr : Rep nt f fr) :
    (drawC nt G ops ds).un call f H nx k = .fail ∨ ∃ f' fr' H' n', Rep nt f' fr' ∧ runDraw G call ops ds (fr, H, nx) = some (fr', H', n') ∧ (drawC nt G ops ds).un call f H nx k = k f' H' n' := by
  simp only [drawC, bx_eq, un_mk]
  rcases drawOpsC_ok (nt := nt) (G := G) ops ds 0 call ⟨fr, nx, [(H, 0)], [], [], [], []⟩ f nx [(H, 0)] [] [] [] (fun f nx ms ch al rd => readsF ch ms al nx rd (List.rec (motive := fun _ => R) .fail (fun mi _ _ => Prod.rec (motive := fun _ => R) (fun m inc => wiF (notF' inc) al fun r => appF r m fun H => k f H nx) mi) ms))
    ⟨hr, rfl, rfl, rfl, rfl, .nil⟩ with h | ⟨s', f', nx', ms', ch', al', rd', h1, h2, e1⟩
  · exact .inl h
  rw [e1]
  obtain ⟨rep, rfl, rfl, rfl, rfl, hrd⟩ := h2
  rcases readsF_ok (G := G) s'.ch s'.ms s'.al s'.nx (List.rec (motive := fun _ => R) .fail (fun mi _ _ => Prod.rec (motive := fun _ => R) (fun m inc => wiF (notF' inc) s'.al fun r => appF r m fun H => k f' H s'.nx) mi) s'.ms) hrd with h | ⟨h, e2⟩
  · exact .inl h
  rw [e2]
  cases hms : s'.ms with
  | nil => exact .inl rfl
  | cons mi mr =>
    obtain ⟨m, inc⟩ := mi
    have e3 : (wiF (notF' inc) s'.al fun r => appF r m fun H => k f' H s'.nx) = k f' (within (fun i => !inc.testBit i) s'.al ++ m) s'.nx := by
      rw [wiF_eq, appF_eq]
      have : notF' inc = fun i => !inc.testBit i := by funext i; simp only [notF', tbF_eq]
      rw [this]
    refine .inr ⟨f', s'.fr, _, _, rep, ?_, e3⟩
    rw [hms] at h
    simp only [runDraw, h1, hms, h]
end
end Go.Sy


/- Code and functions, staged: what the kernel runs is what the machine runs. No condition. -/
namespace Go.Sy
set_option linter.unusedVariables false
set_option linter.unusedSimpArgs false
set_option maxRecDepth 8000
noncomputable section
variable {nt : Nat → Bool} {G : Cx}

abbrev KN := FF → Heap → Nat → R
def kNorm : KN := fun f H nx => .norm f H nx
def codeC (nt : Nat → Bool) (G : Cx) (lf : Nat) : XC → Box OpsC
  | .skip => .mk fun _ f H nx k => k f H nx
  | .reg ops => opsC nt G ops
  | .draw ops ds => drawC nt G ops ds
  | .seq a b => bx (codeC nt G lf a) fun a => bx (codeC nt G lf b) fun b => .mk fun call f H nx k => a call f H nx fun f H nx => b call f H nx k
  | .cond c a b => bx (valC nt G c) fun g => bx (codeC nt G lf a) fun a => bx (codeC nt G lf b) fun b => .mk fun call f H nx k => g f fun v => AV.rec (motive_1 := fun _ => R) (motive_2 := fun _ => R) (fun t => Bool.rec (motive := fun _ => R) (b call f H nx k) (a call f H nx k) t) (fun _ _ => .fail) (fun _ => .fail) .fail (fun _ _ => .fail) (fun _ _ _ => .fail) .fail (fun _ _ _ => .fail) (fun _ _ _ _ _ _ => .fail) .fail (fun _ => .fail) .fail (fun _ _ _ _ _ => .fail) .fail (fun _ _ _ => .fail) (fun _ _ => .fail) (fun _ _ => .fail) (fun _ => .fail) .fail (fun _ _ _ _ => .fail) v
  | .block id b => bx (codeC nt G lf b) fun b => fN id fun id => .mk fun call f H nx k => R.rec (motive := fun _ => R) .fail (fun f H nx => k f H nx) (fun i f H nx => Bool.rec (motive := fun _ => R) (.exit i f H nx) (k f H nx) (Nat.beq i id)) (fun f H nx => .ret f H nx) (fun _ _ _ => .fail) (b call f H nx kNorm)
  | .loop b => bx (codeC nt G lf b) fun b => .mk fun call f H nx _ => Nat.rec (motive := fun _ => KN) (fun _ _ _ => .fail) (fun _ go f H nx => R.rec (motive := fun _ => R) .fail (fun f H nx => go f H nx) (fun i f H nx => .exit i f H nx) (fun f H nx => .ret f H nx) (fun _ _ _ => .fail) (b call f H nx kNorm)) lf f H nx
  | .exit id => fN id fun id => .mk fun _ f H nx _ => .exit id f H nx
  | .ret => .mk fun _ f H nx _ => .ret f H nx
  | .mrange _ _ _ _ _ _ _ _ => .mk fun _ _ _ _ _ => .fail

/-- What a piece of code, run, gives. -/
def Ran (nt : Nat → Bool) (G : Cx) (lf : Nat) (call : Call) (c : XC) (fr : Fr) (H : Heap) (nx : Nat) (k : KN) (x : R) : Prop :=
  x = .fail ∨ (∃ f' fr' H' n', Rep nt f' fr' ∧ run G call lf c (fr, H, nx) = some (.normal, fr', H', n') ∧ x = k f' H' n')
  ∨ (∃ i f' fr' H' n', Rep nt f' fr' ∧ run G call lf c (fr, H, nx) = some (.exit i, fr', H', n') ∧ x = .exit i f' H' n')
  ∨ (∃ f' fr' H' n', Rep nt f' fr' ∧ run G call lf c (fr, H, nx) = some (.ret, fr', H', n') ∧ x = .ret f' H' n')

theorem codeC_ok (lf : Nat) (call : Call) : ∀ (c : XC) (f : FF) (fr : Fr) (H : Heap) (nx : Nat) (k : KN), Rep nt f fr → Ran nt G lf call c fr H nx k ((codeC nt G lf c).un call f H nx k) := by
  intro c
  induction c with
  | skip => intro f fr H nx k hr; exact .inr (.inl ⟨f, fr, H, nx, hr, rfl, rfl⟩)
  | reg ops =>
    intro f fr H nx k hr
    rcases opsC_ok (nt := nt) (G := G) ops call f fr H nx k hr with h | ⟨f', fr', H', n', h1, h2, h3⟩
    · exact .inl h
    · exact .inr (.inl ⟨f', fr', H', n', h1, by simp only [run, h2], h3⟩)
  | draw ops ds =>
    intro f fr H nx k hr
    rcases drawC_ok (nt := nt) (G := G) ops ds call f fr H nx k hr with h | ⟨f', fr', H', n', h1, h2, h3⟩
    · exact .inl h
    · exact .inr (.inl ⟨f', fr', H', n', h1, by simp only [run, h2], h3⟩)
  | seq a b iha ihb =>
    intro f fr H nx k hr
    simp only [codeC, bx_eq, un_mk]
    rcases iha f fr H nx (fun f H nx => (codeC nt G lf b).un call f H nx k) hr with h | ⟨f1, fr1, H1, n1, h1, h2, e⟩ | ⟨i, f1, fr1, H1, n1, h1, h2, e⟩ | ⟨f1, fr1, H1, n1, h1, h2, e⟩
    · exact .inl h
    · have e' : run G call lf (.seq a b) (fr, H, nx) = run G call lf b (fr1, H1, n1) := by simp only [run, h2]
      rw [e]
      rcases ihb f1 fr1 H1 n1 k h1 with h | ⟨f2, fr2, H2, n2, h3, h4, e2⟩ | ⟨i, f2, fr2, H2, n2, h3, h4, e2⟩ | ⟨f2, fr2, H2, n2, h3, h4, e2⟩
      · exact .inl h
      · exact .inr (.inl ⟨f2, fr2, H2, n2, h3, e'.trans h4, e2⟩)
      · exact .inr (.inr (.inl ⟨i, f2, fr2, H2, n2, h3, e'.trans h4, e2⟩))
      · exact .inr (.inr (.inr ⟨f2, fr2, H2, n2, h3, e'.trans h4, e2⟩))
    · exact .inr (.inr (.inl ⟨i, f1, fr1, H1, n1, h1, by simp only [run, h2], e⟩))
    · exact .inr (.inr (.inr ⟨f1, fr1, H1, n1, h1, by simp only [run, h2], e⟩))
  | cond c a b iha ihb =>
    intro f fr H nx k hr
    simp only [codeC, bx_eq, un_mk]
    rcases valC_ok (G := G) c f fr _ hr with h | ⟨v, h1, e1⟩
    · exact .inl h
    rw [e1]
    cases v with
    | bool t =>
      cases t with
      | true =>
        have e' : run G call lf (.cond c a b) (fr, H, nx) = run G call lf a (fr, H, nx) := by simp only [run, h1]
        have := iha f fr H nx k hr
        simp only [Ran, e'] at this ⊢
        exact this
      | false =>
        have e' : run G call lf (.cond c a b) (fr, H, nx) = run G call lf b (fr, H, nx) := by simp only [run, h1]
        have := ihb f fr H nx k hr
        simp only [Ran, e'] at this ⊢
        exact this
    | _ => exact .inl rfl
  | block id b ih =>
    intro f fr H nx k hr
    simp only [codeC, bx_eq, un_mk, fN_eq]
    rcases ih f fr H nx kNorm hr with h | ⟨f1, fr1, H1, n1, h1, h2, e⟩ | ⟨i, f1, fr1, H1, n1, h1, h2, e⟩ | ⟨f1, fr1, H1, n1, h1, h2, e⟩
    · rw [h]; exact .inl rfl
    · rw [e]; exact .inr (.inl ⟨f1, fr1, H1, n1, h1, by simp only [run, h2], rfl⟩)
    · rw [e]
      show Ran _ _ _ _ _ _ _ _ _ (Bool.rec (motive := fun _ => R) (.exit i f1 H1 n1) (k f1 H1 n1) (Nat.beq i id))
      cases hb : Nat.beq i id with
      | true => exact .inr (.inl ⟨f1, fr1, H1, n1, h1, by simp only [run, h2, hb], rfl⟩)
      | false => exact .inr (.inr (.inl ⟨i, f1, fr1, H1, n1, h1, by simp only [run, h2, hb], rfl⟩))
    · rw [e]; exact .inr (.inr (.inr ⟨f1, fr1, H1, n1, h1, by simp only [run, h2], rfl⟩))
  | loop b ih =>
    intro f fr H nx k hr
    simp only [codeC, bx_eq, un_mk]
    have key : ∀ (n : Nat) (f : FF) (fr : Fr) (H : Heap) (nx : Nat), Rep nt f fr →
        let x := (Nat.rec (motive := fun _ => KN) (fun _ _ _ => .fail) (fun _ go f H nx => R.rec (motive := fun _ => R) .fail (fun f H nx => go f H nx) (fun i f H nx => .exit i f H nx) (fun f H nx => .ret f H nx) (fun _ _ _ => .fail) ((codeC nt G lf b).un call f H nx kNorm)) n f H nx : R)
        x = .fail ∨ (∃ i f' fr' H' n', Rep nt f' fr' ∧ iter (run G call lf b) n (fr, H, nx) = some (.exit i, fr', H', n') ∧ x = .exit i f' H' n')
          ∨ (∃ f' fr' H' n', Rep nt f' fr' ∧ iter (run G call lf b) n (fr, H, nx) = some (.ret, fr', H', n') ∧ x = .ret f' H' n') := by
      intro n
      induction n with
      | zero => intro f fr H nx hr; exact .inl rfl
      | succ n ihn =>
        intro f fr H nx hr x
        have ex : x = R.rec (motive := fun _ => R) .fail (fun f H nx => (Nat.rec (motive := fun _ => KN) (fun _ _ _ => .fail) (fun _ go f H nx => R.rec (motive := fun _ => R) .fail (fun f H nx => go f H nx) (fun i f H nx => .exit i f H nx) (fun f H nx => .ret f H nx) (fun _ _ _ => .fail) ((codeC nt G lf b).un call f H nx kNorm)) n f H nx : R)) (fun i f H nx => .exit i f H nx) (fun f H nx => .ret f H nx) (fun _ _ _ => .fail) ((codeC nt G lf b).un call f H nx kNorm) := rfl
        rw [ex]
        rcases ih f fr H nx kNorm hr with h | ⟨f1, fr1, H1, n1, h1, h2, e⟩ | ⟨i, f1, fr1, H1, n1, h1, h2, e⟩ | ⟨f1, fr1, H1, n1, h1, h2, e⟩
        · rw [h]; exact .inl rfl
        · rw [e]
          have e' : iter (run G call lf b) (n + 1) (fr, H, nx) = iter (run G call lf b) n (fr1, H1, n1) := by simp only [iter, h2]
          rw [e']
          exact ihn f1 fr1 H1 n1 h1
        · rw [e]; exact .inr (.inl ⟨i, f1, fr1, H1, n1, h1, by simp only [iter, h2], rfl⟩)
        · rw [e]; exact .inr (.inr ⟨f1, fr1, H1, n1, h1, by simp only [iter, h2], rfl⟩)
    rcases key lf f fr H nx hr with h | ⟨i, f1, fr1, H1, n1, h1, h2, e⟩ | ⟨f1, fr1, H1, n1, h1, h2, e⟩
    · exact .inl h
    · exact .inr (.inr (.inl ⟨i, f1, fr1, H1, n1, h1, by simp only [run, h2], e⟩))
    · exact .inr (.inr (.inr ⟨f1, fr1, H1, n1, h1, by simp only [run, h2], e⟩))
  | exit i =>
    intro f fr H nx k hr
    simp only [codeC, fN_eq]
    exact .inr (.inr (.inl ⟨i, f, fr, H, nx, hr, rfl, rfl⟩))
  | ret => intro f fr H nx k hr; exact .inr (.inr (.inr ⟨f, fr, H, nx, hr, rfl, rfl⟩))
  | mrange _ _ _ _ _ _ _ _ => intro f fr H nx k hr; exact .inl rfl

/- Results. -/
abbrev ResC := FF → Heap → (List AV → R) → R
def retC (nt : Nat → Bool) (G : Cx) : List XR → Box ResC
  | [] => .mk fun _ _ k => k []
  | .t n :: r => bx (valC nt G (.t n)) fun g => bx (retC nt G r) fun h => .mk fun f H k => g f fun v => h f H fun vs => k (v :: vs)
  | .cell n sz ag :: r => bx (valC nt G (.t n)) fun g => bx (retC nt G r) fun h => fN sz fun sz => fB ag fun ag => .mk fun f H k => g f fun a => loadF sz ag H a fun v => h f H fun vs => k (v :: vs)
theorem retC_ok : ∀ (l : List XR) (f : FF) (fr : Fr) (H : Heap) (k : List AV → R), Rep nt f fr → Into ((retC nt G l).un f H k) k (ress H fr l)
  | [], f, fr, H, k, hr => .inr ⟨[], rfl, rfl⟩
  | .t n :: r, f, fr, H, k, hr => by
    simp only [retC, bx_eq, un_mk]
    rcases valC_ok (G := G) (.t n) f fr _ hr with h | ⟨v, h1, e1⟩
    · exact .inl h
    rw [e1]
    rcases retC_ok r f fr H (fun vs => k (v :: vs)) hr with h | ⟨vs, h2, e2⟩
    · exact .inl h
    have h1' : fr.get n = some v := h1
    exact .inr ⟨_, by simp only [ress, resOf, h1', h2], e2⟩
  | .cell n sz ag :: r, f, fr, H, k, hr => by
    simp only [retC, bx_eq, un_mk, fN_eq, fB_eq]
    rcases valC_ok (G := G) (.t n) f fr _ hr with h | ⟨a, h1, e1⟩
    · exact .inl h
    rw [e1]
    have h1' : fr.get n = some a := h1
    rcases loadF_ok sz ag H a (fun v => (retC nt G r).un f H fun vs => k (v :: vs)) with h | ⟨v, h3, e3⟩
    · exact .inl h
    rcases retC_ok r f fr H (fun vs => k (v :: vs)) hr with h | ⟨vs, h2, e2⟩
    · exact .inl (e3.trans h)
    exact .inr ⟨_, by simp only [ress, resOf, h1', h3, h2], e3.trans e2⟩
def oneF (vs : List AV) (k : K1) : R := List.rec (motive := fun _ => R) (k (.tup [])) (fun a r _ => List.rec (motive := fun _ => R) (k a) (fun _ _ _ => k (.tup vs)) r) vs
theorem oneF_eq (vs : List AV) (k : K1) : oneF vs k = k (oneOr vs) := by
  match vs with
  | [] => rfl
  | [v] => rfl
  | _ :: _ :: _ => rfl
def dropH (nx : Nat) (H : Heap) (k : Heap → R) : R := List.rec (motive := fun _ => R) (k []) (fun p r ih => Prod.rec (motive := fun _ => R) (fun h o => Bool.rec (motive := fun _ => R) ih (k ((h, o) :: r)) (Nat.ble (Nat.succ h) nx)) p) H
theorem dropH_eq (nx : Nat) (k : Heap → R) : ∀ H : Heap, dropH nx H k = k (dropW nx H)
  | [] => rfl
  | (h, o) :: r => by
    show Bool.rec (motive := fun _ => R) (dropH nx r k) (k ((h, o) :: r)) (Nat.blt h nx) = _
    simp only [dropW]
    cases Nat.blt h nx
    · exact dropH_eq nx k r
    · rfl
def kOut : KO := fun v H n => .out v H n
def finF (pol : Pol) (nx : Nat) (v : AV) (H : Heap) (n : Nat) : R := Pol.rec (motive := fun _ => R) (.out v H n) (outS nx nx (finish .shut nx v H n) kOut) (dropH nx H fun H => .out v H n) pol
theorem finF_ok (pol : Pol) (nx : Nat) (v : AV) (H : Heap) (n : Nat) : IntoO (finF pol nx v H n) kOut (finish pol nx v H n) := by
  cases pol with
  | keep => exact .inr ⟨v, H, n, rfl, rfl⟩
  | shut => exact outS_ok nx nx (finish .shut nx v H n) kOut
  | drop => exact .inr ⟨v, dropW nx H, n, rfl, dropH_eq nx (fun H => .out v H n) H⟩

/- The frame in which a call begins. -/
def l0 : L8 := .mk (.tup []) (.tup []) (.tup []) (.tup []) (.tup []) (.tup []) (.tup []) (.tup [])
def more0 : Nat → Nat → Fr
  | 0, _ => []
  | n + 1, i => (i, .tup []) :: more0 n (i + 1)
def fFr {α : Type} (l : Fr) (k : Fr → α) : α := List.rec (motive := fun _ => (Fr → α) → α) (fun k => k []) (fun p _ ih k => Prod.rec (motive := fun _ => α) (fun n v => fN n fun n => fAV v fun v => ih fun r => k ((n, v) :: r)) p) l k
theorem fFr_eq {α : Type} : ∀ (l : Fr) (k : Fr → α), fFr l k = k l
  | [], _ => rfl
  | (n, v) :: r, k => by
    show fN n (fun n => fAV v fun v => fFr r fun r => k ((n, v) :: r)) = _
    rw [fN_eq, fAV_eq, fFr_eq r]
def ff0 (m : Fr) : FF := .mk l0 l0 l0 l0 l0 l0 l0 l0 l0 l0 l0 l0 l0 l0 l0 l0 m
theorem more0_get : ∀ {n i t : Nat} {v : AV}, (more0 n i).get t = some v → v = .tup []
  | 0, i, t, v, h => by simp [more0, Fr.get] at h
  | n + 1, i, t, v, h => by
    simp only [more0, Fr.get] at h
    split at h
    · cases h; rfl
    · exact more0_get h
theorem ff0_look {n m i : Nat} {v : AV} (h : (ff0 (more0 n i)).look m = some v) : v = .tup [] := by
  unfold FF.look at h
  split at h
  · have e1 : (ff0 (more0 n i)).ls = List.replicate 16 l0 := rfl
    have e2 : l0.es = List.replicate 8 (.tup []) := rfl
    rw [e1, List.getElem?_replicate] at h
    split at h
    · simp only [Option.bind_some, e2, List.getElem?_replicate] at h
      split at h
      · cases h; rfl
      · cases h
    · cases h
  · exact more0_get (show (more0 n i).get m = some v from h)
abbrev IniC := List AV → FF → (FF → R) → R
def initC : Nat → Nat → Box IniC
  | _, 0 => .mk fun args f k => List.rec (motive := fun _ => R) (k f) (fun _ _ _ => .fail) args
  | i, n + 1 => bx (putTab i) fun p => bx (initC (i + 1) n) fun rest => .mk fun args f k => List.rec (motive := fun _ => R) .fail (fun a r _ => p f a fun f => rest r f k) args
theorem initC_ok : ∀ (n i : Nat) (args : List AV) (f : FF) (k : FF → R), (initC i n).un args f k = .fail ∨ ∃ f' : FF, args.length = n ∧ (∀ m, f'.look m = if i ≤ m ∧ m < i + n then args[m - i]? else f.look m) ∧ (initC i n).un args f k = k f'
  | 0, i, [], f, k => .inr ⟨f, rfl, fun m => by rw [if_neg (by omega)], rfl⟩
  | 0, i, a :: r, f, k => .inl rfl
  | n + 1, i, [], f, k => by
    refine .inl ?_
    simp only [initC, bx_eq, un_mk]
  | n + 1, i, a :: r, f, k => by
    simp only [initC, bx_eq, un_mk]
    rcases putTab_ok i f a (fun f => (initC (i + 1) n).un r f k) with h | ⟨f1, h1, e1⟩
    · exact .inl h
    rcases initC_ok n (i + 1) r f1 k with h | ⟨f2, h2, h3, e2⟩
    · exact .inl (e1.trans h)
    refine .inr ⟨f2, by simp [h2], fun m => ?_, e1.trans e2⟩
    rw [h3, h1]
    by_cases e : i = m
    · subst e
      rw [if_neg (by omega), if_pos rfl, if_pos (by omega)]
      simp
    · by_cases e3 : i + 1 ≤ m ∧ m < i + 1 + n
      · rw [if_pos e3, if_pos (by omega)]
        have : m - i = (m - (i + 1)) + 1 := by omega
        rw [this, List.getElem?_cons_succ]
      · rw [if_neg e3, if_neg e, if_neg (by omega)]
def rdT (nt : Nat) : Nat → Bool := fun n => Nat.blt n nt
theorem slots_all : ∀ (l : List AV) (n t : Nat), (slots n l).get (n + t) = l[t]?
  | [], n, t => by simp [slots, Fr.get]
  | a :: r, n, 0 => by
    have : Nat.beq n n = true := Nat.beq_refl n
    simp only [slots, Nat.add_zero, Fr.get, this]; rfl
  | a :: r, n, t + 1 => by
    have h : Nat.beq n (n + (t + 1)) = false := by
      cases h : Nat.beq n (n + (t + 1)) with
      | false => rfl
      | true => have := nbeq_true h; omega
    have e : n + (t + 1) = (n + 1) + t := by omega
    simp only [slots, Fr.get, h]
    rw [e, slots_all r (n + 1) t, List.getElem?_cons_succ]
theorem pad_all : ∀ (n : Nat) (l : List AV) (t : Nat), (t < l.length → (pad n l)[t]? = l[t]?) ∧ (l.length ≤ t → t < n → (pad n l)[t]? = some (.tup []))
  | 0, l, t => ⟨fun _ => rfl, fun _ h => absurd h (Nat.not_lt_zero _)⟩
  | n + 1, [], t => ⟨fun h => absurd h (Nat.not_lt_zero _), fun _ h => by
      cases t with
      | zero => rfl
      | succ t => simp only [pad, List.getElem?_cons_succ]; exact (pad_all n [] t).2 (Nat.zero_le _) (by omega)⟩
  | n + 1, a :: r, t => by
    cases t with
    | zero => exact ⟨fun _ => rfl, fun h => by simp at h⟩
    | succ t =>
      simp only [pad, List.getElem?_cons_succ, List.length_cons]
      exact ⟨fun h => (pad_all n r t).1 (by omega), fun h1 h2 => (pad_all n r t).2 (by omega) (by omega)⟩
theorem begin_rep {nt : Nat} {args : List AV} {f' : FF} {m0 i0 : Nat} (h : ∀ m, f'.look m = if 0 ≤ m ∧ m < 0 + args.length then args[m - 0]? else (ff0 (more0 m0 i0)).look m) : Rep (rdT nt) f' (slots 0 (pad nt args)) := by
  intro n v hn hv
  have hn : n < nt := by simpa [rdT, Nat.blt_eq] using hn
  rw [h] at hv
  have e : (slots 0 (pad nt args)).get n = (pad nt args)[n]? := by
    have := slots_all (pad nt args) 0 n
    simpa using this
  rw [e]
  split at hv
  · rename_i hl
    rw [(pad_all nt args n).1 (by omega)]
    simpa using hv
  · rename_i hl
    rw [ff0_look hv]
    exact (pad_all nt args n).2 (by omega) hn

abbrev FunC := Call → List AV → Heap → Nat → Option Out
def toOut (x : R) : Option Out := R.rec (motive := fun _ => Option Out) none (fun _ _ _ => none) (fun _ _ _ _ => none) (fun _ _ _ => none) (fun v H n => some (v, H, n)) x
def funC (G : Cx) (lf : Nat) (xf : XF) (pol : Pol) : Box FunC := bx (codeC (rdT xf.nt) G lf xf.body) fun b => bx (retC (rdT xf.nt) G xf.res) fun r => bx (initC 0 xf.np) fun ini => fFr (more0 (xf.nt - 128) 128) fun m =>
  .mk fun call args H nx => toOut (ini args (ff0 m) fun f => R.rec (motive := fun _ => R) .fail (fun f H n => r f H fun vs => oneF vs fun v => finF pol nx v H n) (fun _ _ _ _ => .fail) (fun f H n => r f H fun vs => oneF vs fun v => finF pol nx v H n) (fun _ _ _ => .fail) (b call f H nx kNorm))
theorem toOut_some {x : R} {out : Out} (h : toOut x = some out) : ∃ v H n, x = .out v H n ∧ out = (v, H, n) := by
  cases x with
  | out v H n => cases h; exact ⟨v, H, n, rfl, rfl⟩
  | _ => cases h
theorem funC_ok {F : Nat → Option (XF × Pol)} {f : Nat} {xf : XF} {pol : Pol} (hF : F f = some (xf, pol)) (lf : Nat) (call : Call) (args : List AV) (H : Heap) (nx : Nat) (out : Out)
    (h : (funC G lf xf pol).un call args H nx = some out) : enter1 F G lf call f args H nx = some out := by
  simp only [funC, bx_eq, fFr_eq, un_mk] at h
  obtain ⟨v, H', n, h1, rfl⟩ := toOut_some h
  rcases initC_ok xf.np 0 args (ff0 (more0 (xf.nt - 128) 128)) (fun f => R.rec (motive := fun _ => R) .fail (fun f H n => (retC (rdT xf.nt) G xf.res).un f H fun vs => oneF vs fun v => finF pol nx v H n) (fun _ _ _ _ => .fail) (fun f H n => (retC (rdT xf.nt) G xf.res).un f H fun vs => oneF vs fun v => finF pol nx v H n) (fun _ _ _ => .fail) ((codeC (rdT xf.nt) G lf xf.body).un call f H nx kNorm)) with h2 | ⟨f1, hlen, h2, e2⟩
  · rw [h2] at h1; cases h1
  rw [e2] at h1
  have hrep : Rep (rdT xf.nt) f1 (slots 0 (pad xf.nt args)) := begin_rep (by rw [hlen]; exact h2)
  have hl : Nat.beq args.length xf.np = true := by rw [hlen]; exact Nat.beq_refl _
  have tail : ∀ (x : Ext) (f2 : FF) (fr2 : Fr) (H2 : Heap) (n2 : Nat), Rep (rdT xf.nt) f2 fr2 → (∀ i, x ≠ .exit i) → run G call lf xf.body (slots 0 (pad xf.nt args), H, nx) = some (x, fr2, H2, n2) →
      ((retC (rdT xf.nt) G xf.res).un f2 H2 fun vs => oneF vs fun v => finF pol nx v H2 n2) = .out v H' n → enter1 F G lf call f args H nx = some (v, H', n) := by
    intro x f2 fr2 H2 n2 hr2 hx hrun he
    rcases retC_ok (nt := rdT xf.nt) (G := G) xf.res f2 fr2 H2 (fun vs => oneF vs fun v => finF pol nx v H2 n2) hr2 with h3 | ⟨vs, h3, e3⟩
    · rw [h3] at he; cases he
    rw [e3] at he
    have he' : oneF vs (fun v => finF pol nx v H2 n2) = .out v H' n := he
    rw [oneF_eq] at he'
    rcases finF_ok pol nx (oneOr vs) H2 n2 with h4 | ⟨v4, H4, n4, h4, e4⟩
    · rw [h4] at he'; cases he'
    rw [e4] at he'
    cases he'
    cases x with
    | exit i => exact absurd rfl (hx i)
    | normal => simp only [enter1, hF, hl, hrun, h3, h4]
    | ret => simp only [enter1, hF, hl, hrun, h3, h4]
  rcases codeC_ok (nt := rdT xf.nt) (G := G) lf call xf.body f1 _ H nx kNorm hrep with h3 | ⟨f2, fr2, H2, n2, h3, h4, e3⟩ | ⟨i, f2, fr2, H2, n2, h3, h4, e3⟩ | ⟨f2, fr2, H2, n2, h3, h4, e3⟩
  · rw [h3] at h1; cases h1
  · rw [e3] at h1
    exact tail .normal f2 fr2 H2 n2 h3 (fun i h => by cases h) h4 h1
  · rw [e3] at h1; cases h1
  · rw [e3] at h1
    exact tail .ret f2 fr2 H2 n2 h3 (fun i h => by cases h) h4 h1

def noFun : FunC := fun _ _ _ _ => none
/-- Functions that are not run, but known. -/
def SpecOK (P : Program) (G : Cx) (S : Nat → Option FunC) : Prop := ∀ f g, S f = some g → ∀ call, CallOK P G call → CallOK P G fun f' args H nx => if f' = f then g call args H nx else none
def noSpec : Nat → Option FunC := fun _ => none
theorem noSpec_ok {P : Program} : SpecOK P G noSpec := fun f g h => by cases h
def entC (S : Nat → Option FunC) (F : Nat → Option (XF × Pol)) (G : Cx) (lf f : Nat) : Box FunC := match S f with
  | some g => .mk g
  | none => match F f with
    | none => .mk noFun
    | some (xf, pol) => funC G lf xf pol
/-- Calls, as the kernel runs them. -/
def enterF (S : Nat → Option FunC) (F : Nat → Option (XF × Pol)) (G : Cx) (lf : Nat) (d : Nat) : Call := Nat.rec (motive := fun _ => Call) (fun _ _ _ _ => none) (fun _ ih f args H nx => Box.rec (motive := fun _ => Option Out) (fun g => g ih args H nx) (entC S F G lf f)) d
theorem enterF_sound {P : Program} {S : Nat → Option FunC} {F : Nat → Option (XF × Pol)} (hS : SpecOK P G S) (hF : TableOK P F) (hm : MethOK P G) (hmix : P.follows .mixedOrders = true) (lf : Nat) : ∀ d, CallOK P G (enterF S F G lf d)
  | 0 => fun _ _ _ _ _ _ _ h => by cases h
  | d + 1 => by
    intro f args H nx v H' nx' h
    have ih := enterF_sound hS hF hm hmix lf d
    have h' : (entC S F G lf f).un (enterF S F G lf d) args H nx = some (v, H', nx') := by
      rw [← h]
      show _ = Box.rec (motive := fun _ => Option Out) (fun g => g (enterF S F G lf d) args H nx) (entC S F G lf f)
      cases entC S F G lf f; rfl
    unfold entC at h'
    split at h'
    · rename_i g hg
      exact hS f g hg _ ih f args H nx v H' nx' (by show (if f = f then _ else _) = _; rw [if_pos rfl]; exact h')
    · refine enter1_sound hF hm hmix lf ih f args H nx v H' nx' ?_
      split at h'
      · cases h'
      · rename_i xf pol hf
        exact funC_ok hf lf _ _ _ _ _ h'
theorem calls_runF {P : Program} {S : Nat → Option FunC} {F : Nat → Option (XF × Pol)} {lf d : Nat} {f : FuncId} {args : List AV} {cargs : Array Value} {W : World} {σ : Nat → Value} (hS : SpecOK P G S) (hF : TableOK P F) (hm : MethOK P G) (hmix : P.follows .mixedOrders = true)
    (h : saysTrue (enterF S F G lf d f args [] 0) = true) (hv : VRs (Env.still W σ) W args cargs.toList) (hg : GR G (Env.still W σ) W) : Calls P f cargs W fun e W' => e = .returned (.bool true) ∧ Kept W W' := by
  obtain ⟨H1, n, h1⟩ := saysTrue_spec h
  exact calls_true (enterF_sound hS hF hm hmix lf d _ _ _ _ _ _ _ h1).2.2 hv hg
end
end Go.Sy


/- The resolving of code, as the kernel does it fast. No condition. -/
namespace Go.Sy
set_option linter.unusedVariables false
noncomputable section

def cO_move (P : Program) (x : Operand) : Option XO := obind (copd x) fun a => some (.mov a)
def cO_assign (P : Program) (x : Operand) : Option XO := obind (copd x) fun a => some (.mov a)
def cO_pick (P : Program) (c : Operand) (a : Operand) (b : Operand) : Option XO := obind (copd c) fun c => obind (copd a) fun a => obind (copd b) fun b => some (.pick c a b)
def cO_alloc (P : Program) (e : TypeId) : Option XO := obind (zerosT P e) fun z => some (.alloc z)
def cO_box (P : Program) (e : TypeId) (v : Operand) : Option XO := obind (copd v) fun a => obind (sizeT P e) fun s => some (.box a s)
def cO_build (P : Program) (t : TypeId) (ps : Array (Nat × Operand)) : Option XO := obind (zerosT P t) fun z => match P.underlying t with
    | some (.struct fs) => match fs.toList.all fun f => (sizeT P f.type).isSome with
      | true => obind (cparts (fun i => obind (fs[i]?) fun f => obind (sizeT P f.type) fun s => some (f.offset, s)) ps.toList) fun ps => some (.build z ps)
      | false => none
    | some (.array _ e) => obind (sizeT P e) fun s => obind (cparts (fun i => some (i * s, s)) ps.toList) fun ps => some (.build z ps)
    | _ => none
def cO_buildSlice (P : Program) (t : TypeId) (n : Nat) (ps : Array (Nat × Operand)) : Option XO := match P.underlying t with
    | some (.slice e) => obind (sizeT P e) fun s => obind (zerosT P e) fun z => match s with
      | 0 => none
      | s + 1 => match Nat.ble (n * (s + 1)) 16777216 with
        | true => obind (cparts (fun i => some (i * (s + 1), s + 1)) ps.toList) fun ps => some (.bslice n (s + 1) (rep n z) ps)
        | false => none
    | _ => none
def cO_insert (P : Program) (t : TypeId) (m : Operand) (k : Operand) (v : Operand) : Option XO := obind (copd m) fun m => obind (copd k) fun k => obind (copd v) fun v => match P.underlying t with
    | some (.map kt _) => obind (keyT P kt) fun q => some (.mupd q.1 q.2 m k v)
    | _ => none
def cO_load (P : Program) (t : TypeId) (a : Operand) : Option XO := obind (copd a) fun a => obind (sizeT P t) fun s => obind (agT P t) fun g => some (.load a s g)
def cO_store (P : Program) (t : TypeId) (a : Operand) (v : Operand) : Option XO := obind (copd a) fun a => obind (copd v) fun v => obind (sizeT P t) fun s => some (.store a v s)
def cO_nilCheck (P : Program) (x : Operand) : Option XO := obind (copd x) fun a => some (.nilchk a)
def cO_binOp (P : Program) (op : BinOp) (t : TypeId) (x : Operand) (y : Operand) (u4 : TypeId) : Option XO := compBin P op t x y
def cO_unOp (P : Program) (op : UnOp) (u1 : TypeId) (x : Operand) : Option XO := obind (copd x) fun a => some (.un op a)
def cO_convert (P : Program) (s : TypeId) (d : TypeId) (x : Operand) : Option XO := compConv P s d x
def cO_makeInterface (P : Program) (t : TypeId) (x : Operand) : Option XO := obind (copd x) fun a => match P.underlying t with
    | some (.interface _) => none
    | some _ => some (.mkif t a)
    | none => none
def cO_makeFunc (P : Program) (fn : Fn) (a : Array Operand) (b : Array Operand) : Option XO := obind (copds a.toList) fun a => obind (copds b.toList) fun b => some (.mkfunc fn a b)
def cO_makeMap (P : Program) (t : TypeId) (r : Option Operand) : Option XO := match P.underlying t, r with
    | some (.map _ _), none => some .mkmap
    | _, _ => none
def cO_makeSlice (P : Program) (t : TypeId) (l : Operand) (c : Operand) : Option XO := match P.underlying t with
    | some (.slice e) => obind (copd l) fun l => obind (copd c) fun c => obind (sizeT P e) fun s => obind (bytesT P e) fun n => obind (zerosT P e) fun z => match s with
      | 0 => none
      | s + 1 => some (.mkslice l c (s + 1) n z)
    | _ => none
def cO_slice (P : Program) (t : TypeId) (x : Operand) (lo : Option Operand) (hi : Option Operand) (mx : Option Operand) : Option XO := obind (copd x) fun x => obind (copdo lo) fun lo => obind (copdo hi) fun hi => obind (copdo mx) fun mx => match P.underlying t with
    | some .string => match mx with
      | none => some (.slcS x lo hi)
      | some _ => none
    | some (.slice e) => obind (sizeT P e) fun s => match s with | 0 => none | s + 1 => match mx, hi with
      | some _, none => none
      | _, _ => some (.slcL x lo hi mx (s + 1))
    | some (.array n e) => obind (sizeT P e) fun s => match s with | 0 => none | s + 1 => match mx with
      | none => match Nat.ble n maxStr with
        | true => some (.slcA x lo hi n (s + 1))
        | false => none
      | some _ => none
    | _ => none
def cO_fieldAddr (P : Program) (t : TypeId) (x : Operand) (f : Nat) : Option XO := obind (copd x) fun a => obind (cfields P t) fun fs => obind (fs[f]?) fun f => obind (sizeT P f.type) fun s => match s with
    | 0 => none
    | _ + 1 => some (.faddr a f.offset)
def cO_field (P : Program) (t : TypeId) (x : Operand) (f : Nat) : Option XO := obind (copd x) fun a => obind (cfields P t) fun fs => obind (fs[f]?) fun f => obind (sizeT P f.type) fun s => obind (agT P f.type) fun g => some (.fld a f.offset s g)
def cO_indexAddr (P : Program) (t : TypeId) (x : Operand) (i : Operand) : Option XO := obind (copd x) fun a => obind (copd i) fun i => match P.underlying t with
    | some (.slice e) => obind (sizeT P e) fun s => match s with | 0 => none | s + 1 => some (.iaddrS a i (s + 1))
    | some (.array n e) => obind (sizeT P e) fun s => match s with | 0 => none | s + 1 => some (.iaddrA a i n (s + 1))
    | _ => none
def cO_index (P : Program) (t : TypeId) (x : Operand) (i : Operand) : Option XO := obind (copd x) fun a => obind (copd i) fun i => match P.underlying t with
    | some .string => some (.idxS a i)
    | some (.array n e) => obind (sizeT P e) fun s => obind (agT P e) fun g => some (.idxA a i n s g)
    | _ => none
def cO_lookup (P : Program) (t : TypeId) (x : Operand) (i : Operand) (ok : Bool) : Option XO := obind (copd x) fun a => obind (copd i) fun k => match P.underlying t with
    | some (.map kt e) => obind (keyT P kt) fun q => obind (zeroT P e) fun z => some (.lookup q.1 q.2 a k z ok)
    | _ => none
def cO_mapUpdate (P : Program) (t : TypeId) (m : Operand) (k : Operand) (v : Operand) : Option XO := obind (copd m) fun m => obind (copd k) fun k => obind (copd v) fun v => match P.underlying t with
    | some (.map kt _) => obind (keyT P kt) fun q => some (.mupd q.1 q.2 m k v)
    | _ => none
def cO_range (P : Program) (t : TypeId) (x : Operand) : Option XO := obind (copd x) fun a => match P.underlying t with
    | some .string => some (.rngS a)
    | _ => none
def cO_next (P : Program) (it : Operand) (u1 : Bool) : Option XO := match u1 with
  | true => obind (copd it) fun a => some (.nextS a)
  | false => none
def cO_typeAssert (P : Program) (x : Operand) (u1 : TypeId) (t : TypeId) (ok : Bool) : Option XO := obind (copd x) fun a => obind (zeroT P t) fun z => match P.underlying t with
    | some (.interface _) => none
    | some _ => some (.tas a t ok z)
    | none => none
def cO_extract (P : Program) (t : Operand) (i : Nat) : Option XO := obind (copd t) fun a => some (.ext a i)
def cO_call (P : Program) (c : Go.Call) : Option XO := match c.callee with
    | .builtin b => compBuiltin P b c.args.toList c.argTypes.toList
    | .value (.func f) => match P.funcs[f]? with
      | some fn => match fn.body with
        | some _ => obind (copds c.args.toList) fun as => some (.call f as)
        | none => obind (copds c.args.toList) fun as => extK fn as
      | none => none
    | .value x => obind (copd x) fun x => obind (copds c.args.toList) fun as => some (.callv x as)
    | .invoke r m => obind (copd r) fun r => obind (copds c.args.toList) fun as => some (.invoke r m as)
/-- An operation, resolved. -/
def compOpF (P : Program) (o : Op) : Option XO := Op.rec (motive := fun _ => Option XO) (cO_move P) (cO_assign P) (cO_pick P) (cO_alloc P) (cO_box P) (cO_build P) (cO_buildSlice P) (cO_insert P) (cO_load P) (cO_store P) (fun _ => none) (fun _ => none) (cO_nilCheck P) (cO_binOp P) (cO_unOp P) (cO_convert P) (fun _ _ => none) (cO_makeInterface P) (cO_makeFunc P) (cO_makeMap P) (fun _ _ => none) (cO_makeSlice P) (cO_slice P) (cO_fieldAddr P) (cO_field P) (cO_indexAddr P) (cO_index P) (cO_lookup P) (cO_mapUpdate P) (fun _ _ _ => none) (fun _ _ _ _ => none) (cO_range P) (cO_next P) (fun _ => none) (cO_typeAssert P) (cO_extract P) (cO_call P) (fun _ => none) (fun _ => none) (fun _ => none) (fun _ _ => none) (fun _ _ _ => none) (fun _ _ => none) o
theorem compOpF_eq (P : Program) (o : Op) : compOpF P o = compOp P o := by
  cases o with
  | next it s => cases s <;> rfl
  | _ => rfl

def getBad (x : Option XO) : XO := Option.rec (motive := fun _ => XO) .bad (fun y => y) x
theorem getBad_eq (x : Option XO) : getBad x = x.getD .bad := by cases x <;> rfl
def compOperF (P : Program) (ops : Array Oper) (o : Oper) : XOper := Option.rec (motive := fun _ => XOper) ⟨o.dst, getBad (compOpF P o.op), none⟩ (fun _ => compOper P ops o) o.guard
theorem compOperF_eq (P : Program) (ops : Array Oper) (o : Oper) : compOperF P ops o = compOper P ops o := by
  unfold compOperF
  cases h : o.guard with
  | none =>
    unfold compOper
    rw [h]
    show (⟨o.dst, getBad (compOpF P o.op), none⟩ : XOper) = _
    rw [getBad_eq, compOpF_eq]
  | some g => rfl
def mapF (f : Oper → XOper) (l : List Oper) : List XOper := List.rec (motive := fun _ => List XOper) [] (fun a _ ih => f a :: ih) l
theorem mapF_eq (f : Oper → XOper) : ∀ l : List Oper, mapF f l = l.map f
  | [] => rfl
  | a :: r => congrArg (f a :: ·) (mapF_eq f r)

/- What comes ahead of each operation. -/
def nth0 (i : Nat) (l : List Nat) : Nat := List.rec (motive := fun _ => Nat → Nat) (fun _ => nat_lit 0) (fun a _ ih i => Nat.rec (motive := fun _ => Nat) a (fun j _ => ih j) i) l i
theorem nth0_eq : ∀ (l : List Nat) (i : Nat), nth0 i l = l.getD i 0
  | [], i => by simp [nth0]
  | a :: r, 0 => rfl
  | a :: r, i + 1 => by
    show nth0 i r = _
    rw [nth0_eq r i]; simp
def accAt (acc : List Nat) (i j : Nat) : Nat := Bool.rec (motive := fun _ => Nat) (nat_lit 0) (nth0 (Nat.sub i (Nat.succ j)) acc) (Nat.ble (Nat.succ j) i)
def maskE (acc : List Nat) (i : Nat) (es : List Edge) : Nat → Nat := List.rec (motive := fun _ => Nat → Nat) (fun s => s) (fun e _ ih s => Bool.rec (motive := fun _ => Nat) (ih s) (fN (Nat.lor (Nat.lor s (Nat.pow (nat_lit 2) e.on)) (accAt acc i e.on)) ih) (Region.binds .any e)) es
def beforeGo (os : List Oper) : List Nat → Nat → List Nat := List.rec (motive := fun _ => List Nat → Nat → List Nat) (fun _ _ => []) (fun o _ ih acc i => fN (maskE acc i o.after.toList (nat_lit 0)) fun m => fN (Nat.succ i) fun i' => m :: ih (m :: acc) i') os
theorem accAt_eq (acc : Array Nat) (j : Nat) : accAt acc.toList.reverse acc.size j = acc.getD j 0 := by
  unfold accAt
  cases h : Nat.ble (Nat.succ j) acc.size with
  | true =>
    have h' : j < acc.size := Nat.le_of_ble_eq_true h
    show nth0 (acc.size - (j + 1)) acc.toList.reverse = _
    rw [nth0_eq, List.getD_eq_getElem?_getD, List.getElem?_reverse (by simp; omega), Array.getD_eq_getD_getElem?]
    have : acc.toList.length - 1 - (acc.size - (j + 1)) = j := by simp; omega
    rw [this]; simp
  | false =>
    have h' : acc.size ≤ j := by
      rcases Nat.lt_or_ge j acc.size with h1 | h1
      · have : Nat.ble (Nat.succ j) acc.size = true := by rw [Nat.ble_eq]; exact h1
        rw [this] at h; cases h
      · exact h1
    show 0 = _
    rw [Array.getD_eq_getD_getElem?, Array.getElem?_eq_none h']; rfl
theorem maskE_eq (acc : Array Nat) : ∀ (es : List Edge) (s : Nat), maskE acc.toList.reverse acc.size es s = es.foldl (fun s e => if Region.binds .any e then s ||| 2 ^ e.on ||| acc.getD e.on 0 else s) s
  | [], s => rfl
  | e :: es, s => by
    show Bool.rec (motive := fun _ => Nat) (maskE _ _ es s) (fN _ (maskE _ _ es)) (Region.binds .any e) = _
    rw [List.foldl_cons]
    cases h : Region.binds .any e with
    | true =>
      show fN _ (maskE _ _ es) = _
      rw [fN_eq, accAt_eq, maskE_eq acc es]
      rfl
    | false =>
      show maskE _ _ es s = _
      rw [maskE_eq acc es]
      rfl
theorem beforeGo_eq : ∀ (os : List Oper) (acc : Array Nat), acc.toList ++ beforeGo os acc.toList.reverse acc.size = (os.foldl (fun acc o => acc.push (o.after.foldl (fun s e => if Region.binds .any e then s ||| 2 ^ e.on ||| acc.getD e.on 0 else s) 0)) acc).toList
  | [], acc => by simp [beforeGo]
  | o :: os, acc => by
    have ih := beforeGo_eq os (acc.push (o.after.foldl (fun s e => if Region.binds .any e then s ||| 2 ^ e.on ||| acc.getD e.on 0 else s) 0))
    rw [List.foldl_cons, ← ih]
    show acc.toList ++ fN (maskE acc.toList.reverse acc.size o.after.toList 0) (fun m => fN (Nat.succ acc.size) fun i' => m :: beforeGo os (m :: acc.toList.reverse) i') = _
    rw [fN_eq, fN_eq, maskE_eq, Array.foldl_toList]
    simp
def beforeF (ops : List Oper) : List Nat := beforeGo ops [] (nat_lit 0)
theorem beforeF_eq (ops : Array Oper) : beforeF ops.toList = (Region.before ops).toList := by
  have h := beforeGo_eq ops.toList #[]
  rw [Array.foldl_toList] at h
  exact (List.nil_append _).symm.trans h
def zipDF (P : Program) (ops : Array Oper) (os : List Oper) : List Nat → List XD := List.rec (motive := fun _ => List Nat → List XD) (fun _ => []) (fun o _ ih ms => List.rec (motive := fun _ => List XD) [] (fun m mr _ => fLN (looksOf (compOperF P ops o) o) fun l => ⟨m, l⟩ :: ih mr) ms) os
theorem zipDF_eq (P : Program) (ops : Array Oper) : ∀ (os : List Oper) (ms : List Nat), zipDF P ops os ms = zipD ops P os ms
  | [], ms => by simp [zipDF, zipD]
  | o :: r, [] => rfl
  | o :: r, m :: ms => by
    show (fLN (looksOf (compOperF P ops o) o) fun l => (⟨m, l⟩ : XD) :: zipDF P ops r ms) = _
    rw [fLN_eq, compOperF_eq, zipDF_eq P ops r ms]; rfl
def edgesF (i : Nat) (es : List Edge) : Bool := List.rec (motive := fun _ => Bool) true (fun e _ ih => Bool.rec (motive := fun _ => Bool) ih (Bool.rec (motive := fun _ => Bool) false ih (Nat.ble (Nat.succ e.on) i)) (Region.binds .any e)) es
theorem edgesF_eq (i : Nat) : ∀ es : List Edge, edgesF i es = es.all fun e => !Region.binds .any e || Nat.blt e.on i
  | [] => rfl
  | e :: r => by
    show Bool.rec (motive := fun _ => Bool) (edgesF i r) (Bool.rec (motive := fun _ => Bool) false (edgesF i r) (Nat.blt e.on i)) (Region.binds .any e) = _
    rw [List.all_cons, edgesF_eq i r]
    cases Region.binds .any e <;> cases Nat.blt e.on i <;> rfl
def downF (os : List Oper) : Nat → Bool := List.rec (motive := fun _ => Nat → Bool) (fun _ => true) (fun o _ ih i => Bool.rec (motive := fun _ => Bool) false (fN (Nat.succ i) ih) (edgesF i o.after.toList)) os
theorem downF_eq : ∀ (os : List Oper) (i : Nat), downF os i = downB i os
  | [], i => rfl
  | o :: r, i => by
    show Bool.rec (motive := fun _ => Bool) false (fN (Nat.succ i) (downF r)) (edgesF i o.after.toList) = _
    rw [fN_eq, edgesF_eq, downF_eq r]
    simp only [downB]
    cases (o.after.toList.all fun e => !Region.binds .any e || Nat.blt e.on i) <;> rfl
def pairF (x : Option Nat) (d : XD) (es : List (Nat × Option Nat × XD)) : Bool := List.rec (motive := fun _ => Bool) true (fun e _ ih => Bool.rec (motive := fun _ => Bool) (Bool.rec (motive := fun _ => Bool) false ih (apartB e.2.1 e.2.2 x d)) ih (tbF d.preds e.1)) es
theorem pairF_eq (x : Option Nat) (d : XD) : ∀ es : List (Nat × Option Nat × XD), pairF x d es = es.all fun e => d.preds.testBit e.1 || apartB e.2.1 e.2.2 x d
  | [] => rfl
  | e :: r => by
    show Bool.rec (motive := fun _ => Bool) (Bool.rec (motive := fun _ => Bool) false (pairF x d r) (apartB e.2.1 e.2.2 x d)) (pairF x d r) (tbF d.preds e.1) = _
    rw [List.all_cons, pairF_eq x d r, tbF_eq]
    cases d.preds.testBit e.1 <;> cases apartB e.2.1 e.2.2 x d <;> rfl
def pairsF (xs : List XOper) : Nat → List (Nat × Option Nat × XD) → List XD → Bool := List.rec (motive := fun _ => Nat → List (Nat × Option Nat × XD) → List XD → Bool) (fun _ _ _ => true)
  (fun x _ ih i es ds => List.rec (motive := fun _ => Bool) false (fun d dr _ => Bool.rec (motive := fun _ => Bool) false (fN (Nat.succ i) fun i' => ih i' ((i, x.dst, d) :: es) dr) (pairF x.dst d es)) ds) xs
theorem pairsF_eq : ∀ (xs : List XOper) (i : Nat) (es : List (Nat × Option Nat × XD)) (ds : List XD), pairsF xs i es ds = pairsOk i es xs ds
  | [], i, es, ds => by cases ds <;> rfl
  | x :: r, i, es, [] => rfl
  | x :: r, i, es, d :: ds => by
    show Bool.rec (motive := fun _ => Bool) false (fN (Nat.succ i) fun i' => pairsF r i' ((i, x.dst, d) :: es) ds) (pairF x.dst d es) = _
    rw [fN_eq, pairF_eq, pairsF_eq r]
    simp only [pairsOk]
    cases (es.all fun e => d.preds.testBit e.1 || apartB e.2.1 e.2.2 x.dst d) <;> rfl
def fXD {α : Type} (l : List XD) (k : List XD → α) : α := List.rec (motive := fun _ => (List XD → α) → α) (fun k => k []) (fun a _ ih k => ih fun r => k (a :: r)) l k
theorem fXD_eq {α : Type} : ∀ (l : List XD) (k : List XD → α), fXD l k = k l
  | [], _ => rfl
  | a :: r, k => fXD_eq r _
def compDraw (P : Program) (ops : Array Oper) : Option XC := Bool.rec (motive := fun _ => Option XC) none
  (fXD (zipDF P ops ops.toList (beforeF ops.toList)) fun ds => Bool.rec (motive := fun _ => Option XC) none (some (.draw (mapF (compOperF P ops) ops.toList) ds)) (pairsF (mapF (compOperF P ops) ops.toList) (nat_lit 0) [] ds)) (downF ops.toList (nat_lit 0))
def compCodeF (P : Program) : Code → Option XC
  | .skip => some .skip
  | .region _ ops draw => match draw with
    | false => some (.reg (mapF (compOperF P ops) ops.toList))
    | true => compDraw P ops
  | .seq a b => obind (compCodeF P a) fun a => obind (compCodeF P b) fun b => some (.seq a b)
  | .cond c a b => obind (copd c) fun c => obind (compCodeF P a) fun a => obind (compCodeF P b) fun b => some (.cond c a b)
  | .block i b => obind (compCodeF P b) fun b => some (.block i b)
  | .loop b => obind (compCodeF P b) fun b => some (.loop b)
  | .exit i => some (.exit i)
  | .ret => some .ret
  | .scope b => compCodeF P b
  | .label _ => some .skip
  | .refuse _ => some (.cond (.c .nilptr) .skip .skip)
  | _ => none
theorem compCodeF_eq (P : Program) : ∀ c : Code, compCodeF P c = compCode P c := by
  intro c
  induction c with
  | region id ops draw =>
    cases draw with
    | false =>
      simp only [compCodeF, compCode, mapF_eq]
      congr 2
      exact List.map_congr_left fun o _ => compOperF_eq P ops o
    | true =>
      have em : mapF (compOperF P ops) ops.toList = ops.toList.map (compOper P ops) := by
        rw [mapF_eq]
        exact List.map_congr_left fun o _ => compOperF_eq P ops o
      simp only [compCodeF, compCode, compDraw, fXD_eq, zipDF_eq, beforeF_eq, pairsF_eq, downF_eq, em]
      cases downB 0 ops.toList with
      | false => rfl
      | true => cases pairsOk 0 [] (ops.toList.map (compOper P ops)) (zipD ops P ops.toList (Region.before ops).toList) <;> rfl
  | seq a b iha ihb => simp only [compCodeF, compCode, iha, ihb]
  | cond c a b iha ihb => simp only [compCodeF, compCode, iha, ihb]
  | block i b ih => simp only [compCodeF, compCode, ih]
  | loop b ih => simp only [compCodeF, compCode, ih]
  | scope b ih => simp only [compCodeF, compCode, ih]
  | _ => rfl
def compTopF (P : Program) : Code → Option XC
  | .seq a b => match mpat P a b with
    | some x => some x
    | none => obind (compTopF P a) fun a => obind (compTopF P b) fun b => some (.seq a b)
  | c => compCodeF P c
theorem compTopF_eq (P : Program) : ∀ c : Code, compTopF P c = compTop P c := by
  intro c
  induction c with
  | seq a b iha ihb =>
    simp only [compTopF, compTop, iha, ihb]
    rfl
  | _ => simp only [compTopF, compTop, compCodeF_eq]
def compFF (P : Program) (fn : Func) : Option XF :=
  obind fn.body fun b => obind (compTopF P b) fun b => obind (compRess P fn.results.toList) fun rs =>
  match dstOk fn.ntmps b && Nat.ble (fn.params.size + fn.nfree) fn.ntmps with
  | true => some ⟨fn.params.size + fn.nfree, fn.ntmps, b, rs⟩
  | false => none
theorem compFF_eq (P : Program) (fn : Func) : compFF P fn = compF P fn := by
  have : compTopF P = compTop P := by funext c; exact compTopF_eq P c
  simp only [compFF, compF, this]
  rfl
def funAt (l : List Func) (i : Nat) : Option Func := List.rec (motive := fun _ => Nat → Option Func) (fun _ => none) (fun a _ ih i => Nat.rec (motive := fun _ => Option Func) (some a) (fun j _ => ih j) i) l i
theorem funAt_eq : ∀ (l : List Func) (i : Nat), funAt l i = l[i]?
  | [], i => rfl
  | a :: r, 0 => rfl
  | a :: r, i + 1 => by
    show funAt r i = _
    rw [funAt_eq r i]; rfl
def tableF (P : Program) (pol : Nat → Pol) (f : Nat) : Option (XF × Pol) := match funAt P.funcs.toList f with
  | some fn => match compFF P fn with
    | some x => some (x, pol f)
    | none => none
  | none => none
theorem tableF_eq (P : Program) (pol : Nat → Pol) : tableF P pol = tableOf P pol := by
  funext f
  simp only [tableF, tableOf, funAt_eq, compFF_eq, Array.getElem?_toList]
  rfl
end
end Go.Sy

