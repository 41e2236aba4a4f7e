/- A part of the proof: XFwJ, XFwK, XFwL, XFwM, XFwN, XFwO, XFwP, XDat, XLab, XObj, XSort, XStab, XStab2, XKey, XRef, XRef2, XRef3, XRef4, XEvt, XRise, XT2. -/
import Derived.Test.YtncecheccihjoaaP0
import Derived.Orders
import Derived.Laws.Strings
import Derived.Test.YtncecheccihjoaaProg
/- A region whose order is open. -/
namespace Go.Proofs.Fw
open Go Go.Shelf Go.RowKit
set_option linter.unusedVariables false
set_option linter.unusedSimpArgs false

/-- What must have been carried out ahead of an operation. -/
def preOf (ops : Array Oper) (i : Nat) : List Nat := match ops[i]? with
  | some o => (o.after.toList.filter fun e => Region.binds .any e).map (·.on)
  | none => []
def preOk (ops : Array Oper) : Bool := (List.range ops.size).all fun i => (preOf ops i).all fun j => Nat.blt j i

/-- An order that may be: what is done, and what is to come. -/
inductive Legal (ops : Array Oper) : List Nat → List Nat → Prop where
  | nil (done : List Nat) (h : ∀ i, i < ops.size → i ∈ done) : Legal ops done []
  | cons (i : Nat) (done rest : List Nat) (h : i < ops.size) (hn : i ∉ done) (hp : ∀ j, j ∈ preOf ops i → j ∈ done) (r : Legal ops (i :: done) rest) : Legal ops done (i :: rest)

theorem getD_set_same {listed : Array Bool} {i : Nat} (h : i < listed.size) (d : Bool) : (listed.setIfInBounds i true).getD i d = true := by
  simp [Array.getD_eq_getD_getElem?, h]

theorem ready_of {ops : Array Oper} {listed : Array Bool} {done : List Nat} (hsz : listed.size = ops.size) (hl : ∀ j, j < ops.size → (listed.getD j false = true ↔ j ∈ done)) {i : Nat} (hi : i < ops.size) (hn : i ∉ done)
    (hp : ∀ j, j ∈ preOf ops i → j ∈ done ∧ j < ops.size) : i ∈ Region.ready .any ops listed := by
  rw [mem_ready]
  have hlf : listed.getD i false = false := by
    cases h : listed.getD i false with
    | false => rfl
    | true => exact absurd ((hl i hi).1 h) hn
  refine ⟨?_, ops[i], by simp [hi], fun e he hb => ?_⟩
  · simpa [Array.getD_eq_getD_getElem?, hsz, hi] using hlf
  · have : e.on ∈ preOf ops i := by
      simp only [preOf, Array.getElem?_eq_getElem hi, List.mem_map, List.mem_filter, Array.mem_toList_iff]
      exact ⟨e, ⟨he, hb⟩, rfl⟩
    exact (hl _ (hp _ this).2).2 (hp _ this).1

theorem of_ready {ops : Array Oper} {listed : Array Bool} {done : List Nat} (hsz : listed.size = ops.size) (hl : ∀ j, j < ops.size → (listed.getD j false = true ↔ j ∈ done)) {i : Nat} (h : i ∈ Region.ready .any ops listed) :
    i < ops.size ∧ i ∉ done ∧ ∀ j, j ∈ preOf ops i → j ∈ done := by
  rw [mem_ready] at h
  obtain ⟨h0, o, ho, hall⟩ := h
  have hi : i < ops.size := (Array.getElem?_eq_some_iff.1 ho).1
  refine ⟨hi, fun hm => ?_, fun j hj => ?_⟩
  · have h1 := (hl i hi).2 hm
    simp only [Array.getD_eq_getD_getElem?, Array.getElem?_eq_getElem (show i < listed.size by omega)] at h0 h1
    simp at h0 h1
    rw [h0] at h1; cases h1
  · simp only [preOf, ho, List.mem_map, List.mem_filter, Array.mem_toList_iff] at hj
    obtain ⟨e, ⟨he, hb⟩, rfl⟩ := hj
    have h1 := hall e he hb
    have hlt : e.on < ops.size := by
      rcases Nat.lt_or_ge e.on ops.size with h2 | h2
      · exact h2
      · simp [Array.getD_eq_getD_getElem?, Array.getElem?_eq_none (show listed.size ≤ e.on by omega)] at h1
    exact (hl _ hlt).1 h1

theorem legal_go {ops : Array Oper} (hpre : preOk ops = true) : ∀ (fuel t : Nat) (listed : Array Bool) (done : List Nat), listed.size = ops.size → (∀ j, j < ops.size → (listed.getD j false = true ↔ j ∈ done)) →
    done.Nodup → (∀ j ∈ done, j < ops.size) → fuel + done.length = ops.size → Legal ops done (Region.linearise.go .any ops fuel t listed []) := by
  intro fuel
  induction fuel with
  | zero =>
    intro t listed done hsz hl hnd hlt hf
    simp only [Region.linearise.go, List.reverse_nil]
    refine .nil _ fun i hi => Classical.byContradiction fun hn => ?_
    have h1 : (i :: done).Nodup := List.nodup_cons.2 ⟨hn, hnd⟩
    have h2 : (i :: done) ⊆ List.range ops.size := fun j hj => by
      rcases List.mem_cons.1 hj with e | hj
      · subst e; exact List.mem_range.2 hi
      · exact List.mem_range.2 (hlt j hj)
    have := h1.length_le_of_subset h2
    simp at this; omega
  | succ fuel ih =>
    intro t listed done hsz hl hnd hlt hf
    have hne : Region.ready .any ops listed ≠ [] := by
      -- the least that isn't done
      have hex : ∃ i, i < ops.size ∧ i ∉ done := Classical.byContradiction fun hno => by
        have hall : ∀ i, i < ops.size → i ∈ done := fun i hi => Classical.byContradiction fun hn => hno ⟨i, hi, hn⟩
        have h2 : List.range ops.size ⊆ done := fun j hj => hall j (List.mem_range.1 hj)
        have := (List.nodup_range (n := ops.size)).length_le_of_subset h2
        simp at this; omega
      have hleast : ∃ i, i < ops.size ∧ i ∉ done ∧ ∀ j, j < i → j ∈ done := by
        obtain ⟨i, hi⟩ := hex
        induction i using Nat.strongRecOn with
        | _ i ihi =>
          by_cases h : ∃ j, j < i ∧ j ∉ done
          · obtain ⟨j, hj, hjd⟩ := h
            exact ihi j hj ⟨by omega, hjd⟩
          · exact ⟨i, hi.1, hi.2, fun j hj => Classical.byContradiction fun hn => h ⟨j, hj, hn⟩⟩
      obtain ⟨i, hi, hn, hb⟩ := hleast
      have hp : ∀ j, j ∈ preOf ops i → j < i := fun j hj => by
        have := List.all_eq_true.1 hpre i (List.mem_range.2 hi)
        exact Nat.le_of_ble_eq_true (List.all_eq_true.1 this j hj)
      exact List.ne_nil_of_mem (ready_of hsz hl hi hn (fun j hj => ⟨hb j (hp j hj), by have := hp j hj; omega⟩))
    simp only [Region.linearise.go]
    change Legal ops done (match (Region.ready .any ops listed)[t % (Region.ready .any ops listed).length]? with
      | some i => Region.linearise.go .any ops fuel (t / (Region.ready .any ops listed).length) (listed.setIfInBounds i true) [i]
      | none => [].reverse)
    have hlen : t % (Region.ready .any ops listed).length < (Region.ready .any ops listed).length := Nat.mod_lt _ (List.length_pos_iff.2 hne)
    rw [List.getElem?_eq_getElem hlen]
    simp only
    have hmem := List.getElem_mem hlen
    generalize (Region.ready .any ops listed)[t % (Region.ready .any ops listed).length] = i at hmem
    obtain ⟨hi, hn, hp⟩ := of_ready hsz hl hmem
    rw [linearise_go_acc, List.reverse_singleton, List.singleton_append]
    refine .cons i done _ hi hn hp (ih _ _ _ (by simpa using hsz) (fun j hj => ?_) (List.nodup_cons.2 ⟨hn, hnd⟩) (fun j hj => ?_) (by simp; omega))
    · by_cases hij : i = j
      · subst hij
        simp [getD_set_same (show i < listed.size by omega)]
      · rw [getD_set_ne false hij, hl j hj, List.mem_cons]
        exact ⟨fun h => .inr h, fun h => h.resolve_left (fun e => hij e.symm)⟩
    · rcases List.mem_cons.1 hj with e | hj
      · subst e; exact hi
      · exact hlt j hj

theorem legal_schedule {ops : Array Oper} (hpre : preOk ops = true) (t : Nat) : Legal ops [] (Region.schedule true ops t) := by
  unfold Region.schedule
  simp only [Bool.true_or, if_true]
  unfold Region.linearise
  refine legal_go hpre ops.size t _ [] (by simp) (fun j hj => by simp [Array.getD_eq_getD_getElem?, hj]) List.nodup_nil (by simp) (by simp)

/-! ### What has been worked out ahead -/
structure Rd where
  idx : Nat
  dst : Option Tmp
  val : AV
  need : Env

/-- What is known where 'pend' are still to be carried out. -/
def cur (es : List Rd) (pend : List Nat) (base : Env) : Env := match es with
  | [] => base
  | r :: es => if r.idx ∈ pend then cur es pend base else putEnv r.dst r.val (cur es pend base)
def full (es : List Rd) (base : Env) : Env := match es with
  | [] => base
  | r :: es => putEnv r.dst r.val (full es base)

section
variable {P : Program} {GV : AH} {f : FuncId} {n : Nat} {k : List Item} {R : AV → AH → Prop} {ops : Array Oper}

def Ro (P : Program) (GV : AH) (f : FuncId) (n : Nat) (k : List Item) (R : AV → AH → Prop) (ops : Array Oper) (HH : AH → Prop) (r : Rd) : Prop :=
  ∀ H, HH H → ∀ env rest, AS P GV f n (.inRegion ops rest :: k) (putEnv r.dst r.val (r.need ++ env)) H R → AS P GV f n (.inRegion ops (r.idx :: rest) :: k) (r.need ++ env) H R

/-- What an entry must be like, those ahead of it being es. -/
structure RdOk (ops : Array Oper) (r : Rd) (es : List Rd) (base : Env) : Prop where
  lt : r.idx < ops.size
  fresh : ∀ q ∈ es, q.idx ≠ r.idx
  dst : (ops[r.idx]?).bind (·.dst) = r.dst
  pre : ∀ j, j ∈ preOf ops r.idx → ∃ q ∈ es, q.idx = j
  need : EnvLe (full es base) r.need
  slots : ∀ t x, r.need.get t = some x → ∀ j, j < ops.size → (ops[j]?).bind (·.dst) = some t → j ∈ preOf ops r.idx ∨ r.idx ∈ preOf ops j

inductive EsOk (ops : Array Oper) (base : Env) : List Rd → Prop where
  | nil : EsOk ops base []
  | cons {r : Rd} {es : List Rd} (h : RdOk ops r es base) (hs : EsOk ops base es) : EsOk ops base (r :: es)

def dstsOk (ops : Array Oper) : Bool := (List.range ops.size).all fun i => (List.range ops.size).all fun j => Nat.beq i j || (match (ops[i]?).bind (·.dst), (ops[j]?).bind (·.dst) with | some a, some b => !Nat.beq a b | _, _ => true)

theorem dstsOk_ne {ops : Array Oper} (h : dstsOk ops = true) {i j t : Nat} (hi : i < ops.size) (hj : j < ops.size) (h1 : (ops[i]?).bind (·.dst) = some t) (h2 : (ops[j]?).bind (·.dst) = some t) : i = j := by
  have := List.all_eq_true.1 (List.all_eq_true.1 h i (List.mem_range.2 hi)) j (List.mem_range.2 hj)
  rw [h1, h2] at this
  simp only [Nat.beq_refl, Bool.not_true, Bool.or_false] at this
  exact Nat.eq_of_beq_eq_true this

theorem get_put {d : Option Tmp} {x : AV} {env : Env} {t : Nat} : (putEnv d x env).get t = if d = some t then some x else env.get t := by
  cases d with
  | none => simp [putEnv]
  | some d =>
    simp only [putEnv, Env.get]
    by_cases h : d = t
    · subst h; simp
    · have : Nat.beq d t = false := by
        cases hb : Nat.beq d t with
        | false => rfl
        | true => exact absurd (Nat.eq_of_beq_eq_true hb) h
      simp [this, h]

theorem get_append {a b : Env} {t : Nat} : (a ++ b : Env).get t = match a.get t with | some x => some x | none => b.get t := by
  induction a with
  | nil => rfl
  | cons p a ih =>
    obtain ⟨s, x⟩ := p
    simp only [List.cons_append, Env.get]
    split <;> simp_all

theorem EsOk.mem {base : Env} {es : List Rd} (h : EsOk ops base es) {r : Rd} (hr : r ∈ es) : ∃ es1 es2, es = es1 ++ r :: es2 ∧ RdOk ops r es2 base ∧ EsOk ops base es2 := by
  induction h with
  | nil => cases hr
  | @cons q es hq hs ih =>
    rcases List.mem_cons.1 hr with e | hr
    · subst e; exact ⟨[], es, rfl, hq, hs⟩
    · obtain ⟨es1, es2, e, h1, h2⟩ := ih hr
      exact ⟨q :: es1, es2, by rw [e]; rfl, h1, h2⟩

/-- Of a slot: nobody who is done has written it but who is named. -/
theorem cur_get {base : Env} {pend : List Nat} {t : Nat} : ∀ {es : List Rd}, (∀ r ∈ es, r.dst = some t → r.idx ∈ pend) → (cur es pend base).get t = base.get t
  | [], _ => rfl
  | r :: es, h => by
    simp only [cur]
    split
    · exact cur_get (fun q hq => h q (List.mem_cons_of_mem _ hq))
    · rename_i hp
      rw [get_put, if_neg (fun e => hp (h r List.mem_cons_self e))]
      exact cur_get (fun q hq => h q (List.mem_cons_of_mem _ hq))
theorem cur_append (es1 es2 : List Rd) (pend : List Nat) (base : Env) : cur (es1 ++ es2) pend base = cur es1 pend (cur es2 pend base) := by
  induction es1 with
  | nil => rfl
  | cons r es ih => simp only [List.cons_append, cur, ih]
theorem full_get_eq {base : Env} {pend : List Nat} {t : Nat} : ∀ {es : List Rd}, (∀ r ∈ es, r.dst = some t → r.idx ∉ pend) → (cur es pend base).get t = (full es base).get t
  | [], _ => rfl
  | r :: es, h => by
    have ih := full_get_eq (base := base) (fun q hq => h q (List.mem_cons_of_mem _ hq))
    simp only [cur, full, get_put]
    split
    · rename_i hp
      rw [if_neg (fun e => h r List.mem_cons_self e hp)]; exact ih
    · rw [get_put]
      split
      · rfl
      · exact ih

/-- Where an operation is at the head of an order, what it needs is at hand. -/
theorem need_at {base : Env} {es1 es2 : List Rd} {r : Rd} {pend done : List Nat} (hr : RdOk ops r es2 base) (h1 : ∀ q ∈ es1 ++ es2, q.idx < ops.size ∧ (ops[q.idx]?).bind (·.dst) = q.dst ∧ (q.idx ∈ pend ∨ q.idx ∈ done))
    (hpd : ∀ j ∈ pend, j ∉ done) (hpre : ∀ j, j ∈ preOf ops r.idx → j ∈ done) (h2 : ∀ q ∈ es2, r.idx ∉ preOf ops q.idx) (h3 : ∀ q ∈ es1, r.idx ∈ preOf ops q.idx → q.idx ∈ pend) (hpre1 : ∀ q ∈ es1, q.idx ∉ preOf ops r.idx) :
    EnvLe (cur (es1 ++ es2) pend base) r.need := by
  intro t x hx
  have hf := hr.need t x hx
  have hsl := hr.slots t x hx
  rw [cur_append]
  rw [cur_get (fun q hq hd => ?_), full_get_eq (fun q hq hd => ?_)]
  · exact hf
  · obtain ⟨hl, hdst, _⟩ := h1 q (List.mem_append_right _ hq)
    rcases hsl q.idx hl (by rw [hdst, hd]) with h | h
    · exact fun hp => hpd _ hp (hpre _ h)
    · exact absurd h (h2 q hq)
  · obtain ⟨hl, hdst, _⟩ := h1 q (List.mem_append_left _ hq)
    rcases hsl q.idx hl (by rw [hdst, hd]) with h | h
    · exact absurd h (hpre1 q hq)
    · exact h3 q hq h

theorem EsOk.all {base : Env} {es : List Rd} (h : EsOk ops base es) : ∀ q ∈ es, q.idx < ops.size ∧ (ops[q.idx]?).bind (·.dst) = q.dst := by
  induction h with
  | nil => intro q hq; cases hq
  | cons h hs ih =>
    intro q hq
    rcases List.mem_cons.1 hq with e | hq
    · subst e; exact ⟨h.lt, h.dst⟩
    · exact ih q hq

theorem EsOk.later {base : Env} {es1 es2 : List Rd} {r : Rd} (h : EsOk ops base (es1 ++ r :: es2)) : (∀ q ∈ es1, q.idx ≠ r.idx) ∧ (∀ q ∈ es1, ∀ p ∈ es2, q.idx ≠ p.idx) := by
  induction es1 with
  | nil => exact ⟨by simp, by simp⟩
  | cons q es ih =>
    cases h with
    | cons hq hs =>
      obtain ⟨h1, h2⟩ := ih hs
      refine ⟨fun p hp => ?_, fun p hp z hz => ?_⟩
      · rcases List.mem_cons.1 hp with e | hp
        · subst e; exact fun e => hq.fresh r (by simp) e.symm
        · exact h1 p hp
      · rcases List.mem_cons.1 hp with e | hp
        · subst e; exact fun e => hq.fresh z (by simp [hz]) e.symm
        · exact h2 p hp z hz

theorem EsOk.preIn {base : Env} {es : List Rd} (h : EsOk ops base es) : ∀ q ∈ es, ∀ j, j ∈ preOf ops q.idx → ∃ p ∈ es, p.idx = j := by
  induction h with
  | nil => intro q hq; cases hq
  | cons h hs ih =>
    intro q hq j hj
    rcases List.mem_cons.1 hq with e | hq
    · subst e; obtain ⟨p, hp, e⟩ := h.pre j hj; exact ⟨p, List.mem_cons_of_mem _ hp, e⟩
    · obtain ⟨p, hp, e⟩ := ih q hq j hj; exact ⟨p, List.mem_cons_of_mem _ hp, e⟩

/-- One of those that are still to come comes. -/
theorem run_pend {base : Env} {es : List Rd} {HH : AH → Prop} {H : AH} {pend done l : List Nat} {i : Nat} (hd : dstsOk ops = true) (hes : EsOk ops base es) (hH : HH H) (hi : i ∈ pend) (hpe : ∀ j ∈ pend, ∃ r ∈ es, r.idx = j) (hnd : pend.Nodup)
    (hdone : ∀ j, j < ops.size → (j ∈ done ↔ (∃ r ∈ es, r.idx = j) ∧ j ∉ pend)) (hpre : ∀ j, j ∈ preOf ops i → j ∈ done) (hpreS : ∀ q ∈ es, ∀ j ∈ preOf ops q.idx, j < ops.size) (hlater : ∀ j, j ∈ done → j < ops.size → i ∉ preOf ops j)
    (hro : ∀ r ∈ es, r.idx ∈ pend → Ro P GV f n k R ops HH r) (next : AS P GV f n (.inRegion ops l :: k) (cur es (pend.erase i) base) H R) :
    AS P GV f n (.inRegion ops (i :: l) :: k) (cur es pend base) H R := by
  obtain ⟨r, hr, rfl⟩ := hpe i hi
  obtain ⟨es1, es2, hsplit, hrok, hes2⟩ := hes.mem hr
  subst hsplit
  obtain ⟨hf1, hf12⟩ := hes.later
  have hall := hes.all
  have hin : ∀ q ∈ es1 ++ r :: es2, q.idx ∈ pend ∨ q.idx ∈ done := fun q hq => by
    by_cases hp : q.idx ∈ pend
    · exact .inl hp
    · exact .inr ((hdone q.idx (hall q hq).1).2 ⟨⟨q, hq, rfl⟩, hp⟩)
  have hpd : ∀ j ∈ pend, j ∉ done := fun j hj hjd => by
    obtain ⟨q, hq, rfl⟩ := hpe j hj
    exact ((hdone _ (hall q hq).1).1 hjd).2 hj
  have hcur : cur (es1 ++ r :: es2) pend base = cur (es1 ++ es2) pend base := by
    rw [cur_append, cur_append]
    congr 1
    simp only [cur, if_pos hi]
  have hneed : EnvLe (cur (es1 ++ r :: es2) pend base) r.need := by
    rw [hcur]
    refine need_at (done := done) hrok (fun q hq => ?_) hpd hpre (fun q hq hm => ?_) (fun q hq hm => ?_) (fun q hq hm => ?_)
    · have hq' : q ∈ es1 ++ r :: es2 := by
        rcases List.mem_append.1 hq with h | h
        · exact List.mem_append_left _ h
        · exact List.mem_append_right _ (List.mem_cons_of_mem _ h)
      exact ⟨(hall q hq').1, (hall q hq').2, hin q hq'⟩
    · obtain ⟨p, hp, e⟩ := hes2.preIn q hq r.idx hm
      exact hrok.fresh p hp e
    · rcases hin q (List.mem_append_left _ hq) with h | h
      · exact h
      · exact absurd hm (hlater q.idx h (hall q (List.mem_append_left _ hq)).1)
    · obtain ⟨p, hp, e⟩ := hrok.pre q.idx hm
      exact hf12 q hq p hp e.symm
  have hrun := hro r hr hi H hH (cur (es1 ++ r :: es2) pend base) l
  refine AS.know (r.need ++ cur (es1 ++ r :: es2) pend base) (fun t x hx => ?_) (hrun (AS.know (cur (es1 ++ r :: es2) (pend.erase r.idx) base) (fun t x hx => ?_) next))
  · rw [get_append] at hx
    split at hx
    · rename_i y hy; cases hx; exact hneed t _ hy
    · exact hx
  · rw [get_put, get_append]
    have hni : r.idx ∉ pend.erase r.idx := fun h => by rw [hnd.mem_erase_iff] at h; exact h.1 rfl
    have hcong : ∀ (es : List Rd) (b : Env), (∀ q ∈ es, q.idx ≠ r.idx) → cur es (pend.erase r.idx) b = cur es pend b := by
      intro es
      induction es with
      | nil => intro b _; rfl
      | cons q es ih =>
        intro b hq
        have hne := hq q List.mem_cons_self
        have : q.idx ∈ pend.erase r.idx ↔ q.idx ∈ pend := by rw [hnd.mem_erase_iff]; exact ⟨fun h => h.2, fun h => ⟨hne, h⟩⟩
        simp only [cur, this]
        rw [ih b (fun p hp => hq p (List.mem_cons_of_mem _ hp))]
    have he : cur (es1 ++ r :: es2) (pend.erase r.idx) base = cur es1 pend (putEnv r.dst r.val (cur es2 pend base)) := by
      rw [cur_append, hcong es1 _ hf1]
      congr 1
      simp only [cur, if_neg hni]
      rw [hcong es2 _ (fun q hq => hrok.fresh q hq)]
    rw [he] at hx
    by_cases hdt : r.dst = some t
    · rw [if_pos hdt]
      rw [cur_get (fun q hq hqd => absurd (dstsOk_ne hd (hall q (List.mem_append_left _ hq)).1 hrok.lt (by rw [(hall q (List.mem_append_left _ hq)).2, hqd]) (by rw [hrok.dst, hdt])) (hf1 q hq)), get_put, if_pos hdt] at hx
      exact hx
    · rw [if_neg hdt]
      have hx2 : (cur (es1 ++ r :: es2) pend base).get t = some x := by
        rw [hcur, cur_append]
        have key : ∀ (es : List Rd) (b b' : Env), (b.get t = b'.get t) → (cur es pend b).get t = (cur es pend b').get t := by
          intro es
          induction es with
          | nil => intro b b' h; exact h
          | cons q es ih =>
            intro b b' h
            simp only [cur]
            split
            · exact ih b b' h
            · rw [get_put, get_put]
              split
              · rfl
              · exact ih b b' h
        rw [← key es1 (putEnv r.dst r.val (cur es2 pend base)) (cur es2 pend base) (by rw [get_put, if_neg hdt])]
        exact hx
      split
      · rename_i y hy
        have := hneed t y hy
        rw [hx2] at this; exact this.symm
      · exact hx2

/-- The judgement: the entries es are worked out ahead; in whatever order what is left comes. -/
def SA (P : Program) (GV : AH) (f : FuncId) (n : Nat) (k : List Item) (R : AV → AH → Prop) (ops : Array Oper) (base : Env) (es : List Rd) (HH : AH → Prop) (H : AH) : Prop :=
  EsOk ops base es → HH H → ∀ pend l done, (∀ j ∈ pend, ∃ r ∈ es, r.idx = j) → pend.Nodup → Legal ops done l → (∀ j, j < ops.size → (j ∈ done ↔ (∃ r ∈ es, r.idx = j) ∧ j ∉ pend)) → (∀ j ∈ done, ∀ i ∈ preOf ops j, i ∈ done) →
    (∀ r ∈ es, r.idx ∈ pend → Ro P GV f n k R ops HH r) → AS P GV f n (.inRegion ops l :: k) (cur es pend base) H R

theorem preOf_lt (h : preOk ops = true) {i j : Nat} (hi : i < ops.size) (hj : j ∈ preOf ops i) : j < ops.size := by
  have := List.all_eq_true.1 (List.all_eq_true.1 h i (List.mem_range.2 hi)) j hj
  have h2 : j < i := Nat.le_of_ble_eq_true this
  omega

theorem SA.start {id : Nat} {env : Env} {H : AH} {HH : AH → Prop} (hm : P.follows .mixedOrders = true) (hp : preOk ops = true) (hH : HH H) (h : SA P GV f n k R ops env [] HH H) : AS P GV f n (.code (.region id ops true) :: k) env H R := by
  intro V a w hs
  refine Runs.region_draw fun t => ?_
  rw [hm]
  have hs' : Sim GV n V env H a { w with drawn := w.drawn + 1 } := ⟨hs.defers, hs.size, hs.env, ⟨hs.rel.nodup, fun b o hm => (hs.rel.objs b o hm).keep (.refl _) rfl (fun _ => rfl), hs.rel.claims, hs.rel.glob⟩⟩
  refine ((h .nil hH [] _ [] (by simp) List.nodup_nil (legal_schedule hp t) (by simp) (by simp) (by simp)) V a _ hs').mono ?_
  rintro v w' ⟨V', x, H', h1, h2, h3, h4⟩
  exact ⟨V', x, H', h1, h2, ⟨h3.os, h3.tape, h3.output, h3.size, h3.le, h3.heap, h3.view, h3.keyed⟩, h4⟩

/-- An operation that turns nothing is worked out ahead. -/
theorem SA.reader {base : Env} {es : List Rd} {HH : AH → Prop} {H : AH} (r : Rd) (hok : RdOk ops r es base) (hro : Ro P GV f n k R ops HH r) (h : SA P GV f n k R ops base (r :: es) HH H) : SA P GV f n k R ops base es HH H := by
  intro hes hH pend l done hpe hnd hl hdone hcl hros
  have hrn : r.idx ∉ pend := fun hm => by obtain ⟨q, hq, e⟩ := hpe _ hm; exact hok.fresh q hq e
  have := h (.cons hok hes) hH (r.idx :: pend) l done (fun j hj => by
      rcases List.mem_cons.1 hj with e | hj
      · subst e; exact ⟨r, List.mem_cons_self, rfl⟩
      · obtain ⟨q, hq, e⟩ := hpe j hj; exact ⟨q, List.mem_cons_of_mem _ hq, e⟩)
    (List.nodup_cons.2 ⟨hrn, hnd⟩) hl (fun j hj => by
      rw [hdone j hj]
      constructor
      · rintro ⟨⟨q, hq, e⟩, hp⟩
        refine ⟨⟨q, List.mem_cons_of_mem _ hq, e⟩, fun hm => ?_⟩
        rcases List.mem_cons.1 hm with e2 | hm
        · exact hok.fresh q hq (e.trans e2)
        · exact hp hm
      · rintro ⟨⟨q, hq, e⟩, hp⟩
        rw [List.mem_cons, not_or] at hp
        rcases List.mem_cons.1 hq with e2 | hq
        · subst e2; exact absurd e.symm hp.1
        · exact ⟨⟨q, hq, e⟩, hp.2⟩) hcl (fun q hq hqp => by
      rcases List.mem_cons.1 hq with e | hq
      · subst e; exact hro
      · rcases List.mem_cons.1 hqp with e | hqp
        · exact absurd e (hok.fresh q hq)
        · exact hros q hq hqp)
  have hc : cur (r :: es) (r.idx :: pend) base = cur es pend base := by
    simp only [cur, List.mem_cons, true_or, if_true]
    have : ∀ (l : List Rd), (∀ q ∈ l, q.idx ≠ r.idx) → cur l (r.idx :: pend) base = cur l pend base := by
      intro l
      induction l with
      | nil => intro _; rfl
      | cons q l ih =>
        intro hq
        simp only [cur, List.mem_cons, hq q List.mem_cons_self, false_or]
        rw [ih (fun p hp => hq p (List.mem_cons_of_mem _ hp))]
    exact this es hok.fresh
  rw [hc] at this; exact this

theorem legal_head {done l : List Nat} {i : Nat} (h : Legal ops done (i :: l)) : i < ops.size ∧ i ∉ done ∧ (∀ j, j ∈ preOf ops i → j ∈ done) ∧ Legal ops (i :: done) l := by
  cases h with
  | cons _ _ _ h hn hp r => exact ⟨h, hn, hp, r⟩

/-- What is left over, come what may. -/
theorem SA.done {base : Env} {es : List Rd} {HH : AH → Prop} {H : AH} (hp : preOk ops = true) (hd : dstsOk ops = true) (hall : (List.range ops.size).all (fun i => es.any fun r => Nat.beq r.idx i) = true) (next : AS P GV f n k (full es base) H R) :
    SA P GV f n k R ops base es HH H := by
  intro hes hH pend l
  induction l generalizing pend with
  | nil =>
    intro done hpe hnd hl hdone hcl hros
    have hpn : pend = [] := List.eq_nil_iff_forall_not_mem.2 fun j hj => by
      obtain ⟨r, hr, rfl⟩ := hpe j hj
      have hlt := (hes.all r hr).1
      cases hl with
      | nil _ h => exact ((hdone _ hlt).1 (h _ hlt)).2 hj
    subst hpn
    have hc : cur es [] base = full es base := by
      clear next hros hdone hpe hes hall
      induction es with
      | nil => rfl
      | cons r es ih => simp only [cur, full, List.not_mem_nil, if_false, ih]
    rw [hc]
    exact .opsEnd next
  | cons i l ih =>
    intro done hpe hnd hl hdone hcl hros
    obtain ⟨hi, hn, hpr, hl'⟩ := legal_head hl
    have hex : ∃ r ∈ es, r.idx = i := by
      obtain ⟨r, hr, e⟩ := List.any_eq_true.1 (List.all_eq_true.1 hall i (List.mem_range.2 hi))
      exact ⟨r, hr, Nat.eq_of_beq_eq_true e⟩
    have hip : i ∈ pend := Classical.byContradiction fun hnp => hn ((hdone i hi).2 ⟨hex, hnp⟩)
    refine run_pend hd hes hH hip hpe hnd hdone hpr (fun q hq j hj => preOf_lt hp (hes.all q hq).1 hj) (fun j hj hjl hm => hn (hcl j hj i hm)) hros (ih (pend.erase i) (i :: done) (fun j hj => hpe j (List.mem_of_mem_erase hj)) (hnd.erase i) hl' (fun j hj => ?_) (fun j hj q hq => ?_)
      (fun r hr hrp => hros r hr (List.mem_of_mem_erase hrp)))
    · rw [hnd.mem_erase_iff, List.mem_cons, hdone j hj]
      constructor
      · rintro (e | ⟨h1, h2⟩)
        · subst e; exact ⟨hex, fun h => h.1 rfl⟩
        · exact ⟨h1, fun h => h2 h.2⟩
      · rintro ⟨h1, h2⟩
        by_cases e : j = i
        · exact .inl e
        · exact .inr ⟨h1, fun h => h2 ⟨e, h⟩⟩
    · rcases List.mem_cons.1 hj with e | hj
      · subst e; exact List.mem_cons_of_mem _ (hpr q hq)
      · exact List.mem_cons_of_mem _ (hcl j hj q hq)

/-- All that must come ahead, and what must come ahead of that. -/
def ancs (ops : Array Oper) : Nat → List Nat → List Nat
  | 0, s => s
  | j + 1, s => ancs ops j (match s.contains j with | true => preOf ops j ++ s | false => s)
theorem ancs_done {ops : Array Oper} {done : List Nat} (hcl : ∀ j ∈ done, ∀ i ∈ preOf ops j, i ∈ done) : ∀ (k : Nat) (s : List Nat), (∀ j ∈ s, j ∈ done) → ∀ j ∈ ancs ops k s, j ∈ done
  | 0, s, h => h
  | k + 1, s, h => by
    refine ancs_done hcl k _ ?_
    intro j hj
    cases hc : s.contains k with
    | false => rw [hc] at hj; exact h j hj
    | true =>
      rw [hc] at hj
      rcases List.mem_append.1 hj with hj | hj
      · exact hcl k (h k (by simpa using hc)) j hj
      · exact h j hj
/-- The one operation that may come next but for those worked out ahead: it may turn memory. -/
theorem SA.changer {base : Env} {es : List Rd} {HH : AH → Prop} {H : AH} {α : Type} {HH' : α → AH → Prop} (c : Nat) (dst : Option Tmp) (val : α → AV) (need : Env) (Hn : α → AH) (Φ : α → Prop) (hp : preOk ops = true) (hd : dstsOk ops = true)
    (hok : ∀ v, RdOk ops ⟨c, dst, v, need⟩ es base)
    (honly : (List.range ops.size).all (fun i => Nat.beq i c || es.any (fun r => Nat.beq r.idx i) || (preOf ops i).any (fun j => !es.any fun r => Nat.beq r.idx j)) = true)
    (hrun : ∀ env rest, (∀ x, Φ x → AS P GV f n (.inRegion ops rest :: k) (putEnv dst (val x) (need ++ env)) (Hn x) R) → AS P GV f n (.inRegion ops (c :: rest) :: k) (need ++ env) H R)
    (hH' : ∀ x, Φ x → HH' x (Hn x)) (hros' : ∀ x, Φ x → ∀ r ∈ es, r.idx ∉ ancs ops ops.size (preOf ops c) → Ro P GV f n k R ops HH r → Ro P GV f n k R ops (HH' x) r)
    (next : ∀ x, Φ x → SA P GV f n k R ops base (⟨c, dst, val x, need⟩ :: es) (HH' x) (Hn x)) : SA P GV f n k R ops base es HH H := by
  intro hes hH pend l
  have hok0 := hok .undef
  have hcn : ∀ q ∈ es, q.idx ≠ c := hok0.fresh
  induction l generalizing pend with
  | nil =>
    intro done hpe hnd hl hdone hcl hros
    exfalso
    have hlt : c < ops.size := hok0.lt
    cases hl with
    | nil _ h =>
      obtain ⟨⟨r, hr, e⟩, _⟩ := (hdone c hlt).1 (h c hlt)
      exact hcn r hr e
  | cons i l ih =>
    intro done hpe hnd hl hdone hcl hros
    obtain ⟨hi, hn, hpr, hl'⟩ := legal_head hl
    have hcp : c ∉ pend := fun h => by obtain ⟨r, hr, e⟩ := hpe c h; exact hcn r hr e
    have h1 := List.all_eq_true.1 honly i (List.mem_range.2 hi)
    simp only [Bool.or_eq_true] at h1
    rcases h1 with (h1 | h1) | h1
    · -- here it is
      have hic : i = c := Nat.eq_of_beq_eq_true h1
      subst hic
      have hneed : EnvLe (cur es pend base) need := by
        intro t x hx
        have hf := hok0.need t x hx
        rw [full_get_eq (fun q hq hqd hqp => ?_)]
        · exact hf
        · have hqa := hes.all q hq
          rcases hok0.slots t x hx q.idx hqa.1 (by rw [hqa.2, hqd]) with h | h
          · exact ((hdone q.idx hqa.1).1 (hpr _ h)).2 hqp
          · obtain ⟨p, hp', e⟩ := hes.preIn q hq i h
            exact hcn p hp' e
      refine AS.know (need ++ cur es pend base) (fun t x hx => ?_) (hrun _ _ fun x hx => ?_)
      · rw [get_append] at hx
        split at hx
        · rename_i y hy; cases hx; exact hneed t _ hy
        · exact hx
      · have hcc : cur (⟨i, dst, val x, need⟩ :: es) pend base = putEnv dst (val x) (cur es pend base) := by simp only [cur, if_neg hcp]
        refine AS.know (putEnv dst (val x) (cur es pend base)) (fun t y hy => ?_) ?_
        · rw [get_put] at hy ⊢
          split
          · rename_i h; rw [if_pos h] at hy; exact hy
          · rename_i h
            rw [if_neg h] at hy
            rw [get_append]
            split
            · rename_i z hz
              have := hneed t z hz
              rw [hy] at this; exact this.symm
            · exact hy
        · rw [← hcc]
          refine next x hx (.cons (hok _) hes) (hH' x hx) pend l (i :: done) (fun j hj => ?_) hnd hl' (fun j hj => ?_) (fun j hj q hq => ?_) (fun r hr hrp => ?_)
          · obtain ⟨r, hr, e⟩ := hpe j hj; exact ⟨r, List.mem_cons_of_mem _ hr, e⟩
          · rw [List.mem_cons, hdone j hj]
            constructor
            · rintro (e | ⟨⟨r, hr, e⟩, h2⟩)
              · subst e; exact ⟨⟨_, List.mem_cons_self, rfl⟩, hcp⟩
              · exact ⟨⟨r, List.mem_cons_of_mem _ hr, e⟩, h2⟩
            · rintro ⟨⟨r, hr, e⟩, h2⟩
              rcases List.mem_cons.1 hr with e2 | hr
              · subst e2; exact .inl e.symm
              · exact .inr ⟨⟨r, hr, e⟩, h2⟩
          · rcases List.mem_cons.1 hj with e | hj
            · subst e; exact List.mem_cons_of_mem _ (hpr q hq)
            · exact List.mem_cons_of_mem _ (hcl j hj q hq)
          · rcases List.mem_cons.1 hr with e | hr
            · subst e; exact absurd hrp hcp
            · refine hros' x hx r hr (fun hm => ?_) (hros r hr hrp)
              exact ((hdone r.idx (hes.all r hr).1).1 (ancs_done hcl _ _ hpr _ hm)).2 hrp
    · -- one of those worked out ahead
      obtain ⟨r0, hr0, e0⟩ := List.any_eq_true.1 h1
      have hex : ∃ r ∈ es, r.idx = i := ⟨r0, hr0, Nat.eq_of_beq_eq_true e0⟩
      have hip : i ∈ pend := Classical.byContradiction fun hnp => hn ((hdone i hi).2 ⟨hex, hnp⟩)
      refine run_pend hd hes hH hip hpe hnd hdone hpr (fun q hq j hj => preOf_lt hp (hes.all q hq).1 hj) (fun j hj hjl hm => hn (hcl j hj i hm)) hros (ih (pend.erase i) (i :: done) (fun j hj => hpe j (List.mem_of_mem_erase hj)) (hnd.erase i) hl' (fun j hj => ?_) (fun j hj q hq => ?_)
        (fun r hr hrp => hros r hr (List.mem_of_mem_erase hrp)))
      · rw [hnd.mem_erase_iff, List.mem_cons, hdone j hj]
        constructor
        · rintro (e | ⟨h1, h2⟩)
          · subst e; exact ⟨hex, fun h => h.1 rfl⟩
          · exact ⟨h1, fun h => h2 h.2⟩
        · rintro ⟨h1, h2⟩
          by_cases e : j = i
          · exact .inl e
          · exact .inr ⟨h1, fun h => h2 ⟨e, h⟩⟩
      · rcases List.mem_cons.1 hj with e | hj
        · subst e; exact List.mem_cons_of_mem _ (hpr q hq)
        · exact List.mem_cons_of_mem _ (hcl j hj q hq)
    · -- it can't come yet
      exfalso
      obtain ⟨j, hj, hje⟩ := List.any_eq_true.1 h1
      have hjd := hpr j hj
      obtain ⟨⟨r, hr, e⟩, _⟩ := (hdone j (preOf_lt hp hi hj)).1 hjd
      have : es.any (fun r => Nat.beq r.idx j) = true := List.any_eq_true.2 ⟨r, hr, by rw [e]; exact Nat.beq_refl j⟩
      rw [this] at hje; cases hje
end
end Go.Proofs.Fw
/- Short forms of rules; closures; going through a string. -/
namespace Go.Proofs.Fw
open Go Go.Shelf Go.RowKit
set_option linter.unusedVariables false
set_option linter.unusedSimpArgs false

def Env.pick (env : Env) : List Nat → Env
  | [] => []
  | t :: ts => match env.get t with
    | some x => (t, x) :: Env.pick env ts
    | none => Env.pick env ts
theorem Env.pick_le (env : Env) : ∀ ts : List Nat, EnvLe env (env.pick ts)
  | [] => .nil
  | t :: ts => by
    simp only [Env.pick]
    split
    · rename_i x hx; exact .cons hx (Env.pick_le env ts)
    · exact Env.pick_le env ts
theorem Env.pick_mem (env : Env) : ∀ (ts : List Nat) (t : Nat) (x : AV), (env.pick ts).get t = some x → t ∈ ts
  | [], t, x, h => by cases h
  | s :: ts, t, x, h => by
    simp only [Env.pick] at h
    split at h
    · simp only [Env.get] at h
      split at h
      · rename_i hb; rw [Nat.eq_of_beq_eq_true hb]; exact List.mem_cons_self
      · exact List.mem_cons_of_mem _ (Env.pick_mem env ts t x h)
    · exact List.mem_cons_of_mem _ (Env.pick_mem env ts t x h)

/-- The checks on an operation that is worked out ahead. -/
def rdB (ops : Array Oper) (i : Nat) (es : List Rd) (slots : List Nat) : Bool :=
  Nat.blt i ops.size && es.all (fun q => !Nat.beq q.idx i) && (preOf ops i).all (fun j => es.any fun q => Nat.beq q.idx j) &&
  slots.all (fun t => (List.range ops.size).all fun j => (match (ops[j]?).bind (·.dst) with | some s => !Nat.beq s t | none => true) || (preOf ops i).any (fun p => Nat.beq p j) || (preOf ops j).any (fun p => Nat.beq p i))

def dstOf (ops : Array Oper) (i : Nat) : Option Tmp := (ops[i]?).bind (·.dst)

section
variable {P : Program} {GV : AH} {f : FuncId} {n : Nat} {k : List Item} {env : Env} {H : AH} {R : AV → AH → Prop} {ops : Array Oper} {i : Nat} {rest : List Nat}
variable {d : Option Tmp} {ty : TypeId} {pos : String} {aft : Array Edge} {gd : Option (Nat × Bool)}

theorem rdB_ok {es : List Rd} {slots : List Nat} {base : Env} (h : rdB ops i es slots = true) (v : AV) : RdOk ops ⟨i, dstOf ops i, v, (full es base).pick slots⟩ es base := by
  simp only [rdB, Bool.and_eq_true] at h
  obtain ⟨⟨⟨h1, h2⟩, h3⟩, h4⟩ := h
  refine ⟨Nat.le_of_ble_eq_true h1, fun q hq e => ?_, rfl, fun j hj => ?_, Env.pick_le _ _, fun t x hx j hj hjd => ?_⟩
  · have := List.all_eq_true.1 h2 q hq
    rw [e] at this
    simp [Nat.beq_refl] at this
  · obtain ⟨q, hq, e⟩ := List.any_eq_true.1 (List.all_eq_true.1 h3 j hj)
    exact ⟨q, hq, Nat.eq_of_beq_eq_true e⟩
  · have hm := Env.pick_mem _ _ _ _ hx
    have := List.all_eq_true.1 (List.all_eq_true.1 h4 t hm) j (List.mem_range.2 hj)
    rw [hjd] at this
    simp only [Nat.beq_refl, Bool.not_true, Bool.false_or, Bool.or_eq_true] at this
    rcases this with h | h
    · obtain ⟨p, hp, e⟩ := List.any_eq_true.1 h
      exact .inl (by rw [← Nat.eq_of_beq_eq_true e]; exact hp)
    · obtain ⟨p, hp, e⟩ := List.any_eq_true.1 h
      exact .inr (by rw [← Nat.eq_of_beq_eq_true e]; exact hp)

/-- In a region whose order is open, memory staying: an operation. -/
theorem SA.rd {base : Env} {es : List Rd} {val : AV} (i : Nat) (slots : List Nat) (hb : rdB ops i es slots = true)
    (hro : ∀ env rest, AS P GV f n (.inRegion ops rest :: k) (putEnv (dstOf ops i) val ((full es base).pick slots ++ env)) H R → AS P GV f n (.inRegion ops (i :: rest) :: k) ((full es base).pick slots ++ env) H R)
    (h : SA P GV f n k R ops base (⟨i, dstOf ops i, val, (full es base).pick slots⟩ :: es) (· = H) H) : SA P GV f n k R ops base es (· = H) H :=
  SA.reader _ (rdB_ok hb val) (fun H' hH' env rest next => by subst hH'; exact hro env rest next) h
/-- Memory may grow. -/
theorem SA.rdG {base : Env} {es : List Rd} {val : AV} {H0 : AH} (i : Nat) (slots : List Nat) (hb : rdB ops i es slots = true)
    (hro : ∀ G env rest, AS P GV f n (.inRegion ops rest :: k) (putEnv (dstOf ops i) val ((full es base).pick slots ++ env)) (G ++ H0) R → AS P GV f n (.inRegion ops (i :: rest) :: k) ((full es base).pick slots ++ env) (G ++ H0) R)
    (h : SA P GV f n k R ops base (⟨i, dstOf ops i, val, (full es base).pick slots⟩ :: es) (fun H' => ∃ G, H' = G ++ H0) H) : SA P GV f n k R ops base es (fun H' => ∃ G, H' = G ++ H0) H :=
  SA.reader _ (rdB_ok hb val) (fun H' ⟨G, hH'⟩ env rest next => by subst hH'; exact hro G env rest next) h
/-- Whatever memory is. -/
theorem SA.rdA {base : Env} {es : List Rd} {val : AV} {HH : AH → Prop} (i : Nat) (slots : List Nat) (hb : rdB ops i es slots = true)
    (hro : ∀ H' env rest, AS P GV f n (.inRegion ops rest :: k) (putEnv (dstOf ops i) val ((full es base).pick slots ++ env)) H' R → AS P GV f n (.inRegion ops (i :: rest) :: k) ((full es base).pick slots ++ env) H' R)
    (h : SA P GV f n k R ops base (⟨i, dstOf ops i, val, (full es base).pick slots⟩ :: es) HH H) : SA P GV f n k R ops base es HH H :=
  SA.reader _ (rdB_ok hb val) (fun H' _ env rest next => hro H' env rest next) h

def onlyB (ops : Array Oper) (c : Nat) (es : List Rd) : Bool :=
  (List.range ops.size).all (fun i => Nat.beq i c || es.any (fun r => Nat.beq r.idx i) || (preOf ops i).any (fun j => !es.any fun r => Nat.beq r.idx j))

/-- A new object, memory growing. -/
theorem SA.new {base : Env} {es : List Rd} {H0 : AH} {val : Nat → AV} {o : Nat → AO} (c : Nat) (slots : List Nat) (hp : preOk ops = true) (hd : dstsOk ops = true) (hb : rdB ops c es slots = true) (ho : onlyB ops c es = true)
    (hrun : ∀ env rest, (∀ b, AS P GV f n (.inRegion ops rest :: k) (putEnv (dstOf ops c) (val b) ((full es base).pick slots ++ env)) ((b, o b) :: H) R) → AS P GV f n (.inRegion ops (c :: rest) :: k) ((full es base).pick slots ++ env) H R)
    (next : ∀ b, SA P GV f n k R ops base (⟨c, dstOf ops c, val b, (full es base).pick slots⟩ :: es) (fun H' => ∃ G, H' = G ++ ((b, o b) :: H)) ((b, o b) :: H)) (hH : ∃ G, H = G ++ H0) : SA P GV f n k R ops base es (fun H' => ∃ G, H' = G ++ H0) H :=
  SA.changer (HH' := fun b H' => ∃ G, H' = G ++ ((b, o b) :: H)) c (dstOf ops c) val ((full es base).pick slots) (fun b => (b, o b) :: H) (fun _ => True) hp hd (fun v => rdB_ok hb v) ho (fun env rest h => hrun env rest fun b => h b trivial)
    (fun b _ => ⟨[], rfl⟩) (fun b _ r _ _ h H' ⟨G, e⟩ => by obtain ⟨G2, e2⟩ := hH; exact h H' ⟨G ++ ((b, o b) :: G2), by rw [e, e2]; simp⟩) (fun b _ => next b)

/-- Memory turns; all that was worked out ahead is done, but for what holds in any memory. -/
theorem SA.turn {α : Type} {base : Env} {es : List Rd} {HH : AH → Prop} {val : α → AV} {Hn : α → AH} {Φ : α → Prop} (c : Nat) (slots : List Nat) (hp : preOk ops = true) (hd : dstsOk ops = true) (hb : rdB ops c es slots = true) (ho : onlyB ops c es = true)
    (hrun : ∀ env rest, (∀ x, Φ x → AS P GV f n (.inRegion ops rest :: k) (putEnv (dstOf ops c) (val x) ((full es base).pick slots ++ env)) (Hn x) R) → AS P GV f n (.inRegion ops (c :: rest) :: k) ((full es base).pick slots ++ env) H R)
    (hros : ∀ r ∈ es, r.idx ∉ ancs ops ops.size (preOf ops c) → Ro P GV f n k R ops (fun _ => True) r)
    (next : ∀ x, Φ x → SA P GV f n k R ops base (⟨c, dstOf ops c, val x, (full es base).pick slots⟩ :: es) (· = Hn x) (Hn x)) : SA P GV f n k R ops base es HH H :=
  SA.changer (HH' := fun x H' => H' = Hn x) c (dstOf ops c) val ((full es base).pick slots) Hn Φ hp hd (fun v => rdB_ok hb v) ho hrun (fun _ _ => rfl) (fun x _ r hr hn _ H' _ => hros r hr hn H' trivial) next

theorem SA.start1 {id : Nat} (hm : P.follows .mixedOrders = true) (hp : preOk ops = true) (h : SA P GV f n k R ops env [] (· = H) H) : AS P GV f n (.code (.region id ops true) :: k) env H R := SA.start (HH := fun H' => H' = H) hm hp rfl h
theorem SA.startG {id : Nat} (hm : P.follows .mixedOrders = true) (hp : preOk ops = true) (h : SA P GV f n k R ops env [] (fun H' => ∃ G, H' = G ++ H) H) : AS P GV f n (.code (.region id ops true) :: k) env H R := SA.start hm hp ⟨[], rfl⟩ h
instance At_app {G : AH} {b : Nat} {o : AO} [h : At H b o] : At (G ++ H) b o := ⟨List.mem_append_right _ h.mem⟩

theorem AS.condT {o : Operand} {c e : Code} (hc : env.ev GV o = some (.bool true)) (h1 : AS P GV f n (.code c :: k) env H R) : AS P GV f n (.code (.cond o c e) :: k) env H R := .cond hc (fun _ => h1) (fun h => by cases h)
theorem AS.condF {o : Operand} {c e : Code} (hc : env.ev GV o = some (.bool false)) (h1 : AS P GV f n (.code e :: k) env H R) : AS P GV f n (.code (.cond o c e) :: k) env H R := .cond hc (fun h => by cases h) (fun _ => h1)

/-- A call that turns nothing, of a function that is named. -/
theorem AS.callP {g : FuncId} {os : Array Operand} {ats : Array TypeId} {args : List AV} {v : AV} (ho : ops[i]? = some ⟨d, .call ⟨.value (.func g), os, ats⟩, ty, pos, aft, gd⟩) (hw : wantedB ops env gd = true) (hd : fitsB n d = true) (he : env.evs GV os.toList = some args)
    (hg : Enters P g) (hc : ACalls P GV g args H (fun x H' => x = v ∧ H' = H)) (next : AS P GV f n (.inRegion ops rest :: k) (putEnv d v env) H R) : AS P GV f n (.inRegion ops (i :: rest) :: k) env H R :=
  .call ho hw hd he hg hc (fun x H' ⟨e1, e2⟩ => by subst e1 e2; exact next)

/-- func literals, method values -/
theorem AS.makeFunc {fn : Fn} {fo co : Array Operand} {first caps : List AV} (ho : ops[i]? = some ⟨d, .makeFunc fn fo co, ty, pos, aft, gd⟩) (hw : wantedB ops env gd = true) (hd : fitsB n d = true) (h1 : env.evs GV fo.toList = some first) (h2 : env.evs GV co.toList = some caps)
    (next : AS P GV f n (.inRegion ops rest :: k) (putEnv d (.func fn first caps) env) H R) : AS P GV f n (.inRegion ops (i :: rest) :: k) env H R :=
  .opV _ ho hw hd (fun V a w hs => by
    have c1 := Cells.mk hs h1
    have c2 := Cells.mk hs h2
    exact ⟨.func fn (fo.map a.eval) (co.map a.eval), by simp [execOp, Instr.makeFunc], .func _ _ _ _ _ c1.1 c2.1 c1.2 c2.2⟩) next

/-! ### for _, c := range s -/
theorem AS.rangeStr {t : TypeId} {so : Operand} {s : ByteArray} (ho : ops[i]? = some ⟨d, .range t so, ty, pos, aft, gd⟩) (hw : wantedB ops env gd = true) (hd : fitsB n d = true) (hx : env.ev GV so = some (.str s)) (ht : P.underlying t = some .string)
    (next : ∀ b, AS P GV f n (.inRegion ops rest :: k) (putEnv d (.ptr b 0) env) ((b, .siter s 0) :: H) R) : AS P GV f n (.inRegion ops (i :: rest) :: k) env H R :=
  .opG (Φ := fun z H2 => ∃ b, z = .ptr b 0 ∧ H2 = (b, .siter s 0) :: H) ho hw hd (fun V a w hs => by
    have hv := hs.ev hx
    generalize hq : a.eval so = q at hv
    cases hv
    have hr := hs.rel.alloc (.stringIter s 0) (.siter s 0) (heap_alloc_new w _)
    exact ⟨.pointer (some ⟨w.heap.size, 0, none⟩), w.alloc (.stringIter s 0), V, _, _, .inl (by simp [execOp, Instr.range, hq, run_underlying ht]), .ptr _ _, hr.1, hr.2, _, rfl, rfl⟩)
    (fun z H2 ⟨b, e1, e2⟩ => by subst e1 e2; exact next b)

theorem AS.nextStr {io : Operand} {it p : Nat} {s : ByteArray} [hat : At H it (.siter s p)] (ho : ops[i]? = some ⟨d, .next io true, ty, pos, aft, gd⟩) (hw : wantedB ops env gd = true) (hd : fitsB n d = true) (hx : env.ev GV io = some (.ptr it 0)) (H' : Nat → AH) [hup : ∀ q, Upd H it (.siter s q) (H' q)]
    (over : s.size ≤ p → AS P GV f n (.inRegion ops rest :: k) (putEnv d (.tup [.bool false]) env) H R)
    (next : p < s.size → AS P GV f n (.inRegion ops rest :: k) (putEnv d (.tup [.bool true, .int .i64 p, .int .i32 (Utf8.decode s p).1]) env) (H' (p + (Utf8.decode s p).2)) R) : AS P GV f n (.inRegion ops (i :: rest) :: k) env H R := by
  refine AS.opG (Φ := fun z H2 => (s.size ≤ p ∧ z = .tup [.bool false] ∧ H2 = H) ∨ (p < s.size ∧ z = .tup [.bool true, .int .i64 p, .int .i32 (Utf8.decode s p).1] ∧ H2 = H' (p + (Utf8.decode s p).2))) ho hw hd (fun V a w hs => ?_)
    (fun z H2 h => by
      rcases h with ⟨h1, e1, e2⟩ | ⟨h1, e1, e2⟩
      · subst e1 e2; exact over h1
      · subst e1 e2; exact next h1)
  have hxv := hs.ev hx
  generalize hq : a.eval io = q at hxv
  cases hxv
  have hit : w.heap[it]? = some (.stringIter s p) := hs.rel.objs _ _ hat.mem
  have hg1 : (getObj it).run P w = .ok (.stringIter s p) w := by simp [getObj, Sem.run, hit]
  by_cases hp : p < s.size
  · have hup := hs.rel.update (w' := { w with heap := w.heap.setIfInBounds it (.stringIter s (p + (Utf8.decode s p).2)) }) (b := it) (o' := .siter s (p + (Utf8.decode s p).2)) (H' := H' (p + (Utf8.decode s p).2)) rfl rfl rfl (by simp)
      (fun c hc => heap_set_else hc) (fun i v hv => by have := hs.rel.claims it i v hv; simp [World.cell?, hit] at this) (heap_set_same (hs.rel.objs _ _ hat.mem).lt)
    refine ⟨.tuple #[.bool true, .int .i64 p, .int .i32 (Utf8.decode s p).1], _, V, _, _, .inl ?_, .tup _ _ rfl (fun i x v hx hv => ?_), hup.1, hup.2, .inr ⟨hp, rfl, rfl⟩⟩
    · have hso : ∀ o, (setObj it o).run P w = .ok () { w with heap := w.heap.setIfInBounds it o } := fun o => by simp [setObj, Sem.run, hit]
      simp [execOp, Instr.next, hq, hg1, hp, hso, goInt]
    · match i with
      | 0 => simp at hx hv; subst hx hv; exact .bool _
      | 1 => simp at hx hv; subst hx hv; exact .int _ _
      | 2 => simp at hx hv; subst hx hv; exact .int _ _
      | i + 3 => simp at hx
  · refine ⟨.tuple #[.bool false], w, V, _, _, .inl ?_, .tup _ _ rfl (fun i x v hx hv => ?_), hs.rel, .refl _ _ _, .inl ⟨by omega, rfl, rfl⟩⟩
    · simp [execOp, Instr.next, hq, hg1, hp]
    · cases i with
      | zero => simp at hx hv; subst hx hv; exact .bool _
      | succ i => simp at hx
end
end Go.Proofs.Fw
namespace Go.Proofs.Fw
open Go Go.Shelf Go.RowKit
/-- A type's zero value. -/
def zI (P : Program) (t : TypeId) : Option Value := match P.info? t with
  | some i => i.zero
  | none => none
theorem zI_info {P : Program} {t : TypeId} {z : Value} (h : zI P t = some z) : ∃ i, P.info? t = some i ∧ i.zero = some z := by
  unfold zI at h
  split at h
  · rename_i i hi; exact ⟨i, hi, h⟩
  · cases h
section
variable {P : Program} {GV : AH} {f : FuncId} {n : Nat} {k : List Item} {env : Env} {H : AH} {R : AV → AH → Prop} {ops : Array Oper} {i : Nat} {rest : List Nat}
variable {d : Option Tmp} {ty : TypeId} {pos : String} {aft : Array Edge} {gd : Option (Nat × Bool)}
theorem AS.allocZ {e : TypeId} {z : Value} (ho : ops[i]? = some ⟨d, .alloc e, ty, pos, aft, gd⟩) (hw : wantedB ops env gd = true) (hd : fitsB n d = true) (hz : zI P e = some z) (hy : (constAV z).plain = true)
    (next : ∀ b, AS P GV f n (.inRegion ops rest :: k) (putEnv d (.ptr b 0) env) ((b, .row (constAV z).cells e) :: H) R) : AS P GV f n (.inRegion ops (i :: rest) :: k) env H R :=
  let ⟨_, hi, hz'⟩ := zI_info hz
  .alloc ho hw hd hi hz' hy next
theorem AS.lookupZ {κ α : Type} [DecidableEq κ] {encK : κ → AV} {encV : α → AV} {t kt et : TypeId} {mo ko : Operand} {b : Nat} {m : List (κ × α)} {x : κ} {ok : Bool} {zv : Value} [hat : At H b (.map (mapAV encK encV m))] (ho : ops[i]? = some ⟨d, .lookup t mo ko ok, ty, pos, aft, gd⟩)
    (hw : wantedB ops env gd = true) (hd : fitsB n d = true) (hm : env.ev GV mo = some (.map b)) (hx : env.ev GV ko = some (encK x)) (ht : mapI P t = some (kt, et)) (hk : KeyR P kt encK) (hz : zI P et = some zv)
    {r : Option α} (hr : mget m x = r) {y : AV} (hy : (match ok, r with | true, some v => AV.tup [encV v, .bool true] | true, none => .tup [constAV zv, .bool false] | false, some v => encV v | false, none => constAV zv) = y)
    (next : AS P GV f n (.inRegion ops rest :: k) (putEnv d y env) H R) : AS P GV f n (.inRegion ops (i :: rest) :: k) env H R :=
  let ⟨_, hi, hz'⟩ := zI_info hz
  .lookup ho hw hd hm hx ht hk hi hz' hr hy next
theorem AS.makeSliceZ {t e : TypeId} {lo co : Operand} {k1 k2 : IntKind} {m : Nat} {sz by_ : Nat} {z : Value} {i1 i2 : Int} (ho : ops[i]? = some ⟨d, .makeSlice t lo co, ty, pos, aft, gd⟩) (hw : wantedB ops env gd = true) (hd : fitsB n d = true)
    (hl : env.ev GV lo = some (.int k1 i1)) (hc : env.ev GV co = some (.int k2 i2)) (h1 : i1 = (m : Int)) (h2 : i2 = (m : Int)) (ht : sliI P t = some (e, sz, by_)) (hz : zI P e = some z) (hzp : (constAV z).plain = true)
    (hb : m * by_ ≤ 140737488355328)
    (next : ∀ b, AS P GV f n (.inRegion ops rest :: k) (putEnv d (.mslice b 0 m m) env) ((b, .row (zrow (constAV z).cells m) e) :: H) R) : AS P GV f n (.inRegion ops (i :: rest) :: k) env H R :=
  let ⟨_, hi, hz'⟩ := zI_info hz
  .makeSlice ho hw hd hl hc h1 h2 ht hi hz' hzp hb next
theorem AS.buildSlice1 {t e : TypeId} {sz by_ : Nat} {o : Operand} {y : AV} (ho : ops[i]? = some ⟨d, .buildSlice t 1 #[(0, o)], ty, pos, aft, gd⟩) (hw : wantedB ops env gd = true) (hd : fitsB n d = true)
    (ht : sliI P t = some (e, sz, by_)) (hy : env.ev GV o = some y) (hsm : Nat.ble sz 16777216 = true) (hsz : allSz sz [y] = true)
    (next : AS P GV f n (.inRegion ops rest :: k) (putEnv d (.slice [y] .full) env) H R) : AS P GV f n (.inRegion ops (i :: rest) :: k) env H R :=
  .buildSlice (xs := [y]) ho hw hd ht (by simp only [evParts, hy]; rfl) rfl (by rw [Nat.one_mul]; exact hsm) hsz next
theorem AS.buildSlice0 {t e : TypeId} {sz by_ : Nat} (ho : ops[i]? = some ⟨d, .buildSlice t 0 #[], ty, pos, aft, gd⟩) (hw : wantedB ops env gd = true) (hd : fitsB n d = true)
    (ht : sliI P t = some (e, sz, by_))
    (next : AS P GV f n (.inRegion ops rest :: k) (putEnv d (.slice [] .full) env) H R) : AS P GV f n (.inRegion ops (i :: rest) :: k) env H R :=
  .buildSlice (xs := []) ho hw hd ht rfl rfl (by rw [Nat.zero_mul]; rfl) rfl next
end
end Go.Proofs.Fw
namespace Go.Proofs.Fw
open Go
inductive FrozeL (b : Nat) (cs : List AV) : List AV → List AV → Prop where
  | nil : FrozeL b cs [] []
  | cons {x y : AV} {xs ys : List AV} (h : Froze b cs x y) (r : FrozeL b cs xs ys) : FrozeL b cs (x :: xs) (y :: ys)
theorem FrozeL.refl {b : Nat} {cs : List AV} : ∀ xs : List AV, FrozeL b cs xs xs
  | [] => .nil
  | x :: xs => .cons (.refl x) (FrozeL.refl xs)
theorem FrozeL.length {b : Nat} {cs xs ys : List AV} (h : FrozeL b cs xs ys) : xs.length = ys.length := by induction h <;> simp_all
theorem FrozeL.get {b : Nat} {cs xs ys : List AV} (h : FrozeL b cs xs ys) : ∀ (i : Nat) x y, xs[i]? = some x → ys[i]? = some y → Froze b cs x y := by
  induction h with
  | nil => intro i x y h; simp at h
  | cons h r ih =>
    intro i x y hx hy
    cases i with
    | zero => simp at hx hy; subst hx hy; exact h
    | succ i => exact ih i x y (by simpa using hx) (by simpa using hy)
theorem Froze.aggL {b : Nat} {cs xs ys : List AV} (h : FrozeL b cs xs ys) : Froze b cs (.agg xs) (.agg ys) := .agg h.length h.get
theorem Froze.tupL {b : Nat} {cs xs ys : List AV} (h : FrozeL b cs xs ys) : Froze b cs (.tup xs) (.tup ys) := .tup h.length h.get
theorem putCells_all {cs xs : List AV} (h : xs.length = cs.length) : putCells cs 0 xs = xs := by
  have := putCells_mid [] cs [] xs h
  simpa using this
/-- A list's elements, each of so many cells. -/
theorem map_sz {α : Type} {enc : α → AV} {sz : Nat} (h : ∀ a, (enc a).cells.length = sz) (l : List α) : ∀ x ∈ l.map enc, x.cells.length = sz := fun x hx => by
  obtain ⟨a, _, rfl⟩ := List.mem_map.1 hx; exact h a
theorem map_one {α : Type} {enc : α → AV} (h : ∀ a, (enc a).flatB = true) (l : List α) : ∀ y ∈ flat (l.map enc), y.one = true := by
  have : allOne (l.map enc) = true := by
    induction l with
    | nil => rfl
    | cons a l ih => simp [allOne, h a, ih]
  exact allOne_flat this
theorem map_allSz {α : Type} {enc : α → AV} {sz : Nat} (h : ∀ a, (enc a).cells.length = sz) (h2 : ∀ a, (enc a).plain = true) (l : List α) : allSz sz (l.map enc) = true := by
  induction l with
  | nil => rfl
  | cons a l ih => simp [allSz, h a, h2 a, ih]
end Go.Proofs.Fw
namespace Go.Proofs.Fw
theorem copied {xs zs : List AV} {m sz : Nat} (hx : ∀ x ∈ xs, x.cells.length = sz) (hz : zs.length = sz) (hm : m = xs.length) : flat xs = ((putCells (zrow zs m) 0 (flat (xs.take m))).drop 0).take (m * sz) := by
  subst hm
  have hl := flat_length hx
  rw [List.take_length, List.drop_zero, putCells_all (by rw [hl, zrow_length, hz]), List.take_of_length_le (by omega)]
end Go.Proofs.Fw
/- Splits on a slot's truth, loops with a fixed part, returning without what was made on the way. -/
namespace Go.Proofs.Fw
open Go Go.Shelf
set_option linter.unusedVariables false
theorem BinR.shr {P : Program} {t : TypeId} {xo yo : Operand} {k k' : IntKind} {a b c : Int} (h0 : 0 ≤ b) (h1 : b ≤ k.bits) (h : a / 2 ^ b.toNat = c) : BinR P .shr t xo yo (.int k a) (.int k' b) (.int k c) := by
  intro V w v u hv hu
  cases hv; cases hu; subst h
  exact ⟨_, by simp [eqGuard_shr, binOp_shr, shift_shr k k' a b h0 h1], .int _ _⟩
section
variable {P : Program} {GV : AH} {f : FuncId} {n : Nat} {k : List Item} {env : Env} {H : AH} {R : AV → AH → Prop}

theorem AS.splitT {todo : List Item} (t : Nat) {b : Bool} (hg : env.get t = some (.bool b)) (h1 : b = true → AS P GV f n todo ((t, .bool true) :: env) H R) (h2 : b = false → AS P GV f n todo ((t, .bool false) :: env) H R) :
    AS P GV f n todo env H R := by
  cases b with
  | true => exact .know _ (EnvLe.cons hg .refl) (h1 rfl)
  | false => exact .know _ (EnvLe.cons hg .refl) (h2 rfl)

/-- A loop: what turns, and what stays. -/
theorem AS.loopI {α : Type} (I : α → Prop) (μ : α → Nat) (E : α → Env) (base : Env) (Hh : α → AH) {body : Code} (x : α) (hI : I x) (he : EnvLe env (E x ++ base)) (hH : H = Hh x)
    (round : ∀ x, I x → (∀ y, I y → μ y < μ x → AS P GV f n (.inLoop body :: k) (E y ++ base) (Hh y) R) → AS P GV f n (.code body :: .inLoop body :: k) (E x ++ base) (Hh x) R) :
    AS P GV f n (.code (.loop body) :: k) env H R := by
  subst hH
  exact .know _ he (AS.rounds I μ (fun x => E x ++ base) Hh x hI round)

theorem AS.nextI {todo : List Item} {env' : Env} {H' : AH} (h : AS P GV f n todo env' H' R) (L : AH) (he : EnvLe env env') (hH : H = L ++ H') : AS P GV f n todo env H R := by
  subst hH
  refine .know _ he (.hold H' (fun _ h => List.mem_append_right _ h) (fun h => ?_) h)
  simp only [keys, List.map_append, List.nodup_append] at h
  exact h.2.1

theorem RWk.drop {x : AV} (L : AH) {H0 : AH} (hH : H = L ++ H0) (h : R x H0) : RWk GV R x H := ⟨x, H0, by subst hH; exact Wk.dropL _, h⟩

theorem RWk.drop2 {x : AV} (A L : AH) {B : AH} (hH : H = A ++ (L ++ B)) (h : R x (A ++ B)) : RWk GV R x H := ⟨x, A ++ B, by
  subst hH
  refine Wk.sub (fun p hp => ?_) (fun hn => ?_)
  · rcases List.mem_append.1 hp with h | h
    · exact List.mem_append_left _ h
    · exact List.mem_append_right _ (List.mem_append_right _ h)
  · simp only [keys, List.map_append, List.nodup_append, List.mem_append] at hn ⊢
    exact ⟨hn.1, hn.2.1.2.1, fun a ha b hb => hn.2.2 a ha b (.inr hb)⟩, h⟩
theorem RWk.permD {x : AV} (L : AH) {B : AH} (hH : H.Perm (L ++ B)) (h : R x B) : RWk GV R x H := ⟨x, B, Wk.sub (fun p hp => hH.mem_iff.2 (List.mem_append_right _ hp)) (fun hn => by
  have := ((hH.map (fun p : Nat × AO => p.1)).nodup_iff).1 hn
  simp only [List.map_append, List.nodup_append] at this
  exact this.2.1), h⟩
theorem AS.permH {todo : List Item} (L : AH) {B : AH} (hH : H.Perm (L ++ B)) (next : AS P GV f n todo env B R) : AS P GV f n todo env H R :=
  .hold _ (fun p hp => hH.mem_iff.2 (List.mem_append_right _ hp)) (fun hn => by
    have := ((hH.map (fun p : Nat × AO => p.1)).nodup_iff).1 hn
    simp only [List.map_append, List.nodup_append] at this
    exact this.2.1) next
theorem SA.splitT {ops : Array Oper} {base : Env} {es : List Rd} {HH : AH → Prop} {i : Nat} {dst : Option Tmp} {need : Env} {b : Bool} (h1 : b = true → SA P GV f n k R ops base (⟨i, dst, .bool true, need⟩ :: es) HH H)
    (h2 : b = false → SA P GV f n k R ops base (⟨i, dst, .bool false, need⟩ :: es) HH H) : SA P GV f n k R ops base (⟨i, dst, .bool b, need⟩ :: es) HH H := by
  cases b with
  | true => exact h1 rfl
  | false => exact h2 rfl

theorem AS.strAt {ops : Array Oper} {i : Nat} {rest : List Nat} {d : Option Tmp} {ty : TypeId} {pos : String} {aft : Array Edge} {gd : Option (Nat × Bool)} {t : TypeId} {xo io : Operand} {s : ByteArray} {kd : IntKind} {m : Int} (ho : ops[i]? = some ⟨d, .index t xo io, ty, pos, aft, gd⟩) (hw : wantedB ops env gd = true) (hd : fitsB n d = true)
    (hx : env.ev GV xo = some (.str s)) (hi : env.ev GV io = some (.int kd m)) (ht : P.underlying t = some .string) (j : Nat) (hj : (j : Int) = m) (h1 : j < s.size)
    (next : AS P GV f n (.inRegion ops rest :: k) (putEnv d (.int .u8 ((s[j]'h1).toNat : Int)) env) H R) : AS P GV f n (.inRegion ops (i :: rest) :: k) env H R := by
  subst hj
  exact AS.strIndex ho hw hd hx hi ht (Int.natCast_nonneg _) h1 rfl next

/-- A slice's value, without what is known of its room. -/
theorem AS.loose {todo : List Item} (t : Nat) {xs : List AV} {tk : Tok} (h : env.get t = some (.slice xs tk)) (next : AS P GV f n todo ((t, .slice xs .any) :: env) H R) : AS P GV f n todo env H R :=
  fun V a w hs => next V a w ⟨hs.defers, hs.size, fun s y hy => by
    simp only [Env.get] at hy
    split at hy
    · rename_i hb
      have := Nat.eq_of_beq_eq_true hb
      subst this
      cases hy
      obtain ⟨v, hv, hr⟩ := hs.env _ _ h
      exact ⟨v, hv, AVLe.tok _ _ _ _ hr⟩
    · exact hs.env s y hy, hs.rel⟩
theorem AS.dropH {todo : List Item} (A L : AH) {B : AH} (hH : H = A ++ (L ++ B)) (next : AS P GV f n todo env (A ++ B) R) : AS P GV f n todo env H R := by
  subst hH
  refine .hold _ (fun p hp => ?_) (fun hn => ?_) next
  · rcases List.mem_append.1 hp with h | h
    · exact List.mem_append_left _ h
    · exact List.mem_append_right _ (List.mem_append_right _ h)
  · simp only [keys, List.map_append, List.nodup_append, List.mem_append] at hn ⊢
    exact ⟨hn.1, hn.2.1.2.1, fun a ha b hb => hn.2.2 a ha b (.inr hb)⟩

theorem AS.dropF {todo : List Item} (L : AH) {B : AH} (hH : H = L ++ B) (next : AS P GV f n todo env B R) : AS P GV f n todo env H R := AS.dropH [] L hH next
theorem AS.append1 {ops : Array Oper} {i : Nat} {rest : List Nat} {d : Option Tmp} {ty : TypeId} {pos : String} {aft : Array Edge} {gd : Option (Nat × Bool)} {α : Type} {enc : α → AV} {l : List α} {a : α} {so yo : Operand} {t e : TypeId} {tk tk2 : Tok} {n0 sz by_ : Nat} {H0 : AH} [hpull : Pull H tk n0 sz e H0]
    (ho : ops[i]? = some ⟨d, .call ⟨.builtin .append, #[so, yo], #[t, t]⟩, ty, pos, aft, gd⟩) (hw : wantedB ops env gd = true) (hd : fitsB n d = true) (hx : env.ev GV so = some (.slice (l.map enc) tk)) (hy : env.ev GV yo = some (.slice [enc a] tk2)) (ht : sliI P t = some (e, sz, by_))
    (hg : tk.grows = true) (hn0 : n0 = (l.map enc).length) (hs : ∀ a, (enc a).cells.length = sz) (hf : ∀ a, (enc a).flatB = true) (hb : (l.length + 1) * by_ ≤ 140737488355328)
    (next : ∀ tk', tk'.grows = true → AS P GV f n (.inRegion ops rest :: k) (putEnv d (.slice ((l ++ [a]).map enc) tk') env) (G tk' ((l ++ [a]).map enc).length sz e ++ H0) R) : AS P GV f n (.inRegion ops (i :: rest) :: k) env H R := by
  have em : (l ++ [a]).map enc = l.map enc ++ [enc a] := by simp
  rw [em] at next
  exact AS.append (H0 := H0) ho hw hd hx hy ht hg hn0 (map_sz hs l) (by intro y hy; rw [List.mem_singleton.1 hy]; exact hs a) (by simpa using map_one hf [a]) (by rw [List.length_map]; exact hb) next

/-- What is behind is shown once. -/
theorem AS.joinK {it : Item} {α : Type} (I : α → Prop) (E : α → Env) (base : Env) (Hh : α → AH) (he : EnvLe env base)
    (main : (∀ x, I x → AS P GV f n k (E x ++ base) (Hh x) R) → AS P GV f n (it :: k) env H R) (behind : ∀ x, I x → AS P GV f n k (E x ++ base) (Hh x) R) : AS P GV f n (it :: k) env H R := main behind

theorem ACalls.eqB {args : List AV} {b c : Bool} (h : ACalls P GV f args H (fun x H' => x = .bool b ∧ H' = H)) (e : b = c) : ACalls P GV f args H (fun x H' => x = .bool c ∧ H' = H) := e ▸ h
end
end Go.Proofs.Fw
/- append onto a row that may yet be written. -/
namespace Go.Proofs.Fw
open Go Go.Shelf Go.RowKit
set_option linter.unusedVariables false
set_option linter.unusedSimpArgs false

theorem Rel.drew {GV H : AH} {w : World} {V : View} (h : Rel GV w V H) : Rel GV w.drew V H :=
  ⟨h.nodup, fun b o hm => by have := h.objs b o hm; cases o <;> exact this, h.claims, h.glob⟩

theorem Rel.alloc_drew {GV H : AH} {w : World} {V : View} (h : Rel GV w V H) {cs : List AV} {arr : Array Value} (hc : Cells V cs arr) (e : TypeId) :
    Rel GV (w.drew.alloc (.cells arr e)) V ((w.heap.size, .row cs e) :: H) ∧ Ext w V H (w.drew.alloc (.cells arr e)) V ((w.heap.size, .row cs e) :: H) := by
  obtain ⟨a, b⟩ := h.drew.alloc_row hc e
  exact ⟨a, b.os, b.tape, b.output, b.size, b.le, b.heap, b.view, b.keyed⟩

theorem Cells.take {V : View} {cs : List AV} {arr : Array Value} (h : Cells V cs arr) (n : Nat) : Cells V (cs.take n) (arr.toList.take n).toArray := by
  refine ⟨by simp [h.1], fun i x v hx hv => ?_⟩
  rw [List.getElem?_take] at hx
  simp only [List.getElem?_toArray, List.getElem?_take] at hv
  split at hx
  · rename_i hi; rw [if_pos hi] at hv; exact h.2 i x v hx (by simpa using hv)
  · cases hx
theorem Cells.drop {V : View} {cs : List AV} {arr : Array Value} (h : Cells V cs arr) (n : Nat) : Cells V (cs.drop n) (arr.toList.drop n).toArray := by
  refine ⟨by simp [h.1], fun i x v hx hv => ?_⟩
  rw [List.getElem?_drop] at hx
  simp only [List.getElem?_toArray, List.getElem?_drop] at hv
  exact h.2 _ x v hx (by simpa using hv)
theorem Cells.raws (V : View) (arr : Array Value) : Cells V (arr.toList.map .raw) arr := by
  refine ⟨by simp, fun i x v hx hv => ?_⟩
  simp only [List.getElem?_map, Array.getElem?_toList, hv, Option.map_some, Option.some.injEq] at hx
  subst hx; exact .raw _
theorem Cells.ofFn {V : View} {xs : List AV} (g : Nat → Value) (m : Nat) (hm : xs.length = m) (h : ∀ (i : Nat) (x : AV), xs[i]? = some x → VR V x (g i)) : Cells V xs ((List.range m).map g).toArray := by
  refine ⟨by simp [hm], fun i x v hx hv => ?_⟩
  simp only [List.getElem?_toArray, List.getElem?_map] at hv
  have hi : i < m := by rw [← hm]; exact (List.getElem?_eq_some_iff.1 hx).1
  rw [List.getElem?_range hi] at hv
  cases hv
  exact h i x hx

section rules
variable {P : Program} {GV : AH} {f : FuncId} {n : Nat} {k : List Item} {env : Env} {H : AH} {R : AV → AH → Prop} {ops : Array Oper} {i : Nat} {rest : List Nat}
variable {d : Option Tmp} {ty : TypeId} {pos : String} {aft : Array Edge} {gd : Option (Nat × Bool)}

theorem AS.appendRow0 {so yo : Operand} {t e : TypeId} {ys : List AV} {tk2 : Tok} {sz by_ : Nat} (ho : ops[i]? = some ⟨d, .call ⟨.builtin .append, #[so, yo], #[t, t]⟩, ty, pos, aft, gd⟩)
    (hw : wantedB ops env gd = true) (hd : fitsB n d = true) (hx : env.ev GV so = some (.slice [] .full)) (hy : env.ev GV yo = some (.slice ys tk2)) (ht : sliI P t = some (e, sz, by_))
    (hys : ∀ y ∈ ys, y.cells.length = sz) (hm : 0 < ys.length) (hb : ys.length * by_ ≤ 140737488355328)
    (next : ∀ b' cap' cs', cs'.length = cap' * sz → ys.length ≤ cap' → cs'.take (ys.length * sz) = flat ys → AS P GV f n (.inRegion ops rest :: k) (putEnv d (.mslice b' 0 ys.length cap') env) ((b', .row cs' e) :: H) R) :
    AS P GV f n (.inRegion ops (i :: rest) :: k) env H R := by
  refine AS.opG (Φ := fun x H2 => ∃ b' cap' cs', cs'.length = cap' * sz ∧ ys.length ≤ cap' ∧ cs'.take (ys.length * sz) = flat ys ∧ x = .mslice b' 0 ys.length cap' ∧ H2 = (b', .row cs' e) :: H) ho hw hd (fun V a w hs => ?_)
    (fun x H2 ⟨b', cap', cs', h1, h2, h3, e1, e2⟩ => by subst e1 e2; exact next b' cap' cs' h1 h2 h3)
  obtain ⟨info, z, hu, hi, hz, hs1, hs2, hs3, hs4, hs5⟩ := sliI_parts ht
  have hv := hs.ev hx
  have hyv := hs.ev hy
  have hfy := flat_length hys
  have hn63 : ys.length ≤ 140737488355328 := Nat.le_trans (Nat.le_mul_of_pos_right _ hs5) hb
  generalize hq : a.eval so = q at hv
  generalize hqy : a.eval yo = qy at hyv
  cases hv with
  | slice _ _ ad l c sz1 bx ox fx hn hnc hsz1 ha hVx hcx htk =>
    cases hyv with
    | slice _ _ ay ly cy sz2 by2 oy fy hny hncy hsz2 hay hVy hcy htky =>
      have hrunof : ∀ v w', (Builtin.append_ #[t, t] ty #[.slice ad l c, .slice ay ly cy]).run P w = .ok v w' → (execOp a.eval ⟨d, .call ⟨.builtin .append, #[so, yo], #[t, t]⟩, ty, pos, aft, gd⟩).run P w = .ok (.value v) w' := by
        intro v w' hr
        refine wpo_builtin ?_
        simp only [builtin, List.map_toArray, List.map_cons, List.map_nil, hq, hqy, Sem.run_bind, hr]
        rfl
      have hayb := hay (by omega)
      subst hayb
      have hnews : ∀ j u, ((List.range (ly * info.size)).map fy)[j]? = some u → w.cell? ((⟨by2, oy, none⟩ : Addr).add j) = some u := by
        intro j u hj
        have hjl : j < ly * info.size := by have := (List.getElem?_eq_some_iff.1 hj).1; simpa using this
        have : fy j = u := by simpa [hjl] using hj
        rw [Addr.add_eq, ← this]
        exact hs.rel.claims _ _ _ (hVy j (by rw [hfy, ← hny, ← hs1]; exact hjl))
      have hnl : ((List.range (ly * info.size)).map fy).length = ly * info.size := by simp
      have hcells : Cells V (flat ys) ((List.range (ly * info.size)).map fy).toArray := .ofFn fy _ (by rw [hfy, hny, hs1]) hcy
      have hl0 : l = 0 := hn
      have hc0 : c = 0 := by have : l = c := htk; omega
      subst hl0 hc0
      have go : ∀ old, ((Builtin.append_ #[t, t] ty #[.slice ad 0 0, .slice (some ⟨by2, oy, none⟩) ly cy]).run P w =
              .ok (.slice (some ⟨w.heap.size, 0, none⟩) ly (grownCap w ly old e)) (w.drew.alloc (.cells (((List.range (ly * info.size)).map fy).toArray ++ Builtin.zeroCells z.cells (grownCap w ly old e - ly)) e))) → old < ly →
          ∃ v w' V' x H', ((execOp a.eval ⟨d, .call ⟨.builtin .append, #[so, yo], #[t, t]⟩, ty, pos, aft, gd⟩).run P w = .ok (.value v) w' ∨ (execOp a.eval ⟨d, .call ⟨.builtin .append, #[so, yo], #[t, t]⟩, ty, pos, aft, gd⟩).run P w = .ok .skip w' ∧ v = Go.undef) ∧
            VR V' x v ∧ Rel GV w' V' H' ∧ Ext w V H w' V' H' ∧ ∃ b' cap' cs', cs'.length = cap' * sz ∧ ys.length ≤ cap' ∧ cs'.take (ys.length * sz) = flat ys ∧ x = .mslice b' 0 ys.length cap' ∧ H' = (b', .row cs' e) :: H := by
        intro old hr hold
        have hge := grownCap_ge w ly old e
        obtain ⟨hA, hB⟩ := hs.rel.alloc_drew (hcells.append (Cells.raws V (Builtin.zeroCells z.cells (grownCap w ly old e - ly)))) e
        refine ⟨_, _, _, _, _, .inl (hrunof _ _ hr), ?_, hA, hB, w.heap.size, grownCap w ly old e, _, ?_, by omega, ?_, rfl, rfl⟩
        · rw [← hny]; exact .mslice _ _ _ _
        · simp only [List.length_append, List.length_map, Array.length_toList, size_zeroCells, hs3, hfy]
          rw [← hny, ← Nat.add_mul]; congr 1; omega
        · rw [← hfy, List.take_left]
      cases ad with
      | none => exact go 0 (run_append_nil (P := P) w t ty e info z hu hi hz ⟨by2, oy, none⟩ ly cy _ hnl hnews (by omega) (by omega) (by rw [hs2, hny]; omega)) (by omega)
      | some adr =>
        have hr := run_append_grow (P := P) w t ty e info z hu hi hz adr 0 0 [] (by simp) (by simp) ⟨by2, oy, none⟩ ly cy _ hnl hnews (by omega) (by omega) (growslice_fits (by omega) (by rw [Nat.zero_add, hny, hs2]; exact hb))
        simp only [Nat.zero_add] at hr
        refine go 0 ?_ (by omega)
        simpa using hr

theorem AS.appendRow {so yo : Operand} {t e : TypeId} {ys : List AV} {tk2 : Tok} {sz by_ b n0 cap : Nat} {cs : List AV} {H0 : AH} [hdel : Del H b (.row cs e) H0] (ho : ops[i]? = some ⟨d, .call ⟨.builtin .append, #[so, yo], #[t, t]⟩, ty, pos, aft, gd⟩)
    (hw : wantedB ops env gd = true) (hd : fitsB n d = true) (hx : env.ev GV so = some (.mslice b 0 n0 cap)) (hy : env.ev GV yo = some (.slice ys tk2)) (ht : sliI P t = some (e, sz, by_))
    (hcs : cs.length = cap * sz) (hcap : n0 ≤ cap) (hys : ∀ y ∈ ys, y.cells.length = sz) (h1 : ∀ y ∈ flat ys, y.one = true) (hm : 0 < ys.length) (hb : (n0 + ys.length) * by_ ≤ 140737488355328)
    (next : ∀ b' cap' cs', cs'.length = cap' * sz → n0 + ys.length ≤ cap' → cs'.take ((n0 + ys.length) * sz) = cs.take (n0 * sz) ++ flat ys → AS P GV f n (.inRegion ops rest :: k) (putEnv d (.mslice b' 0 (n0 + ys.length) cap') env) ((b', .row cs' e) :: H0) R) :
    AS P GV f n (.inRegion ops (i :: rest) :: k) env H R := by
  refine AS.opG (Φ := fun x H2 => ∃ b' cap' cs', cs'.length = cap' * sz ∧ n0 + ys.length ≤ cap' ∧ cs'.take ((n0 + ys.length) * sz) = cs.take (n0 * sz) ++ flat ys ∧ x = .mslice b' 0 (n0 + ys.length) cap' ∧ H2 = (b', .row cs' e) :: H0) ho hw hd (fun V a w hs => ?_)
    (fun x H2 ⟨b', cap', cs', h1, h2, h3, e1, e2⟩ => by subst e1 e2; exact next b' cap' cs' h1 h2 h3)
  obtain ⟨info, z, hu, hi, hz, hs1, hs2, hs3, hs4, hs5⟩ := sliI_parts ht
  have hv := hs.ev hx
  have hyv := hs.ev hy
  have hfy := flat_length hys
  have hn63 : n0 + ys.length ≤ 140737488355328 := Nat.le_trans (Nat.le_mul_of_pos_right _ hs5) hb
  generalize hq : a.eval so = q at hv
  generalize hqy : a.eval yo = qy at hyv
  cases hv
  cases hyv with
  | slice _ _ ay ly cy sz2 by2 oy fy hny hncy hsz2 hay hVy hcy htky =>
    have hrunof : ∀ v w', (Builtin.append_ #[t, t] ty #[.slice (some ⟨b, 0, none⟩) n0 cap, .slice ay ly cy]).run P w = .ok v w' → (execOp a.eval ⟨d, .call ⟨.builtin .append, #[so, yo], #[t, t]⟩, ty, pos, aft, gd⟩).run P w = .ok (.value v) w' := by
      intro v w' hr
      refine wpo_builtin ?_
      simp only [builtin, List.map_toArray, List.map_cons, List.map_nil, hq, hqy, Sem.run_bind, hr]
      rfl
    have hayb := hay (by omega)
    subst hayb
    have hnews : ∀ j u, ((List.range (ly * info.size)).map fy)[j]? = some u → w.cell? ((⟨by2, oy, none⟩ : Addr).add j) = some u := by
      intro j u hj
      have hjl : j < ly * info.size := by have := (List.getElem?_eq_some_iff.1 hj).1; simpa using this
      have : fy j = u := by simpa [hjl] using hj
      rw [Addr.add_eq, ← this]
      exact hs.rel.claims _ _ _ (hVy j (by rw [hfy, ← hny, ← hs1]; exact hjl))
    have hnl : ((List.range (ly * info.size)).map fy).length = ly * info.size := by simp
    have hcells : Cells V (flat ys) ((List.range (ly * info.size)).map fy).toArray := .ofFn fy _ (by rw [hfy, hny, hs1]) hcy
    obtain ⟨cur, hcur, hcc, hclaim⟩ := hs.rel.objs b _ hdel.mem
    have hsub : ∀ p, p ∈ (b, AO.row cs e) :: H0 → p ∈ H := fun p hp => by
      rcases List.mem_cons.1 hp with h | h
      · rw [h]; exact hdel.mem
      · exact hdel.old p h
    have hnd := hdel.nodup hs.rel.nodup
    have hrel1 : Rel GV w V ((b, .row cs e) :: H0) := hs.rel.sub hsub (by simp only [keys, List.map_cons, List.nodup_cons]; exact ⟨hnd.2, hnd.1⟩)
    have hrel0 : Rel GV w V H0 := hs.rel.sub hdel.old hnd.1
    have hext1 : ∀ {w' V' H'}, Ext w V ((b, .row cs e) :: H0) w' V' H' → Ext w V H w' V' H' := fun hE => ((Ext.refl w V H).sub hsub).trans hE
    have hext0 : ∀ {w' V' H'}, Ext w V H0 w' V' H' → Ext w V H w' V' H' := fun hE => ((Ext.refl w V H).sub hdel.old).trans hE
    by_cases hroom : n0 + ly ≤ cap
    · have hone : ∀ u ∈ (List.range (ly * info.size)).map fy, u.oneCell' = true := by
        intro u hu
        obtain ⟨j, hj⟩ := List.getElem?_of_mem hu
        have hjl : j < (flat ys).length := by rw [hfy, ← hny, ← hs1]; have := (List.getElem?_eq_some_iff.1 hj).1; simpa using this
        have hx := List.getElem?_eq_getElem hjl
        have := hcells.2 j _ u hx (by simpa using hj)
        exact this.oneCell (h1 _ (List.getElem_mem hjl))
      have hr := run_append_room (P := P) w t ty e info hu hi b n0 cap cur hcur ⟨by2, oy, none⟩ ly cy _ hnl hnews hone hroom (by rw [hnl, hcc.1, hcs, ← hs1, ← Nat.add_mul]; exact Nat.mul_le_mul_right _ hroom)
      have hnewc : Cells V (cs.take (n0 * sz) ++ flat ys ++ cs.drop (n0 * sz + (flat ys).length)) (cur.toList.take (n0 * info.size) ++ (List.range (ly * info.size)).map fy ++ cur.toList.drop (n0 * info.size + ((List.range (ly * info.size)).map fy).length)).toArray := by
        have := ((hcc.take (n0 * sz)).append hcells).append (hcc.drop (n0 * sz + (flat ys).length))
        have e1 : (flat ys).length = ((List.range (ly * info.size)).map fy).length := by rw [hnl, hfy, hny, hs1]
        rw [hs1] at *
        rw [← e1]
        simpa using this
      have hup := hrel1.update (w' := w.setRow b (cur.toList.take (n0 * info.size) ++ (List.range (ly * info.size)).map fy ++ cur.toList.drop (n0 * info.size + ((List.range (ly * info.size)).map fy).length)).toArray) (b := b)
        (o' := .row (cs.take (n0 * sz) ++ flat ys ++ cs.drop (n0 * sz + (flat ys).length)) e) (H' := (b, .row (cs.take (n0 * sz) ++ flat ys ++ cs.drop (n0 * sz + (flat ys).length)) e) :: H0) rfl rfl rfl (by simp [World.setRow])
        (fun c hc => setRow_other w b c _ hc) (fun j v hv => by rw [hclaim] at hv; cases hv) ⟨_, setRow_heap w b cur _ e (0, 0) hcur, hnewc, hclaim⟩
      have hlen1 : (cs.take (n0 * sz)).length = n0 * sz := by rw [List.length_take, hcs]; exact Nat.min_eq_left (Nat.mul_le_mul_right _ hcap)
      refine ⟨_, _, _, _, _, .inl (hrunof _ _ hr), ?_, hup.1, hext1 hup.2, b, cap, _, ?_, by omega, ?_, rfl, rfl⟩
      · rw [← hny]; exact .mslice _ _ _ _
      · have h2 : (n0 + ys.length) * sz ≤ cap * sz := Nat.mul_le_mul_right _ (by omega)
        rw [Nat.add_mul] at h2
        simp only [List.length_append, hlen1, List.length_drop, hfy, hcs]; omega
      · rw [Nat.add_mul, ← hfy]
        have : n0 * sz + (flat ys).length = (cs.take (n0 * sz) ++ flat ys).length := by rw [List.length_append, hlen1]
        rw [this, List.take_left]
    · have hge := grownCap_ge w (n0 + ly) cap e
      have holds : ∀ j u, (cur.toList.take (n0 * info.size))[j]? = some u → w.cell? ((⟨b, 0, none⟩ : Addr).add j) = some u := by
        intro j u hj
        rw [List.getElem?_take] at hj
        split at hj
        · rw [Addr.add_eq]; simp only [World.cell?, hcur, Nat.zero_add]; simpa using hj
        · cases hj
      have hr := run_append_grow (P := P) w t ty e info z hu hi hz ⟨b, 0, none⟩ n0 cap (cur.toList.take (n0 * info.size)) (by
          rw [List.length_take, Array.length_toList, hcc.1, hcs, hs1]; exact Nat.min_eq_left (Nat.mul_le_mul_right _ hcap)) holds ⟨by2, oy, none⟩ ly cy _ hnl hnews (by omega) (by omega) (growslice_fits (by omega) (by rw [hny, hs2]; exact hb))
      have hnewc := ((hcc.take (n0 * info.size)).append hcells).append (Cells.raws V (Builtin.zeroCells z.cells (grownCap w (n0 + ly) cap e - (n0 + ly))))
      obtain ⟨hA, hB⟩ := hrel0.alloc_drew hnewc e
      have hlen1 : (cs.take (n0 * info.size)).length = n0 * sz := by rw [List.length_take, hcs, hs1]; exact Nat.min_eq_left (Nat.mul_le_mul_right _ hcap)
      refine ⟨_, _, _, _, _, .inl (hrunof _ _ hr), ?_, hA, hext0 hB, w.heap.size, grownCap w (n0 + ly) cap e, _, ?_, by omega, ?_, rfl, rfl⟩
      · rw [← hny]; exact .mslice _ _ _ _
      · simp only [List.length_append, List.length_map, Array.length_toList, size_zeroCells, hs3, hfy, hlen1]
        rw [← hny, ← Nat.add_mul, ← Nat.add_mul]; congr 1; omega
      · rw [Nat.add_mul, ← hfy]
        have : n0 * sz + (flat ys).length = (cs.take (n0 * info.size) ++ flat ys).length := by rw [List.length_append, hlen1]
        rw [this, List.take_left, hs1]
end rules
end Go.Proofs.Fw
/- Rows of elements: loads, stores, and stores where the order is open. -/
namespace Go.Proofs.Fw
open Go Go.Shelf Go.RowKit
set_option linter.unusedVariables false

/-- A row: elements, and what is behind. -/
def rowOf {α : Type} (enc : α → AV) (l : List α) (rest : List AV) : List AV := flat (l.map enc) ++ rest

section
variable {α : Type} {enc : α → AV} {sz : Nat}
theorem row_len (hs : ∀ a, (enc a).cells.length = sz) (l : List α) (rest : List AV) : (rowOf enc l rest).length = l.length * sz + rest.length := by
  rw [rowOf, List.length_append, flat_length (map_sz hs l), List.length_map]
theorem row_cons (a : α) (l : List α) (rest : List AV) : rowOf enc (a :: l) rest = (enc a).cells ++ rowOf enc l rest := by simp [rowOf, flat]
theorem row_drop (hs : ∀ a, (enc a).cells.length = sz) (rest : List AV) : ∀ (l : List α) (i : Nat), i ≤ l.length → (rowOf enc l rest).drop (i * sz) = rowOf enc (l.drop i) rest
  | l, 0, _ => by simp
  | [], i + 1, h => by simp at h
  | a :: l, i + 1, h => by
    rw [row_cons, Nat.succ_mul, Nat.add_comm, ← List.drop_drop, ← hs a, List.drop_left, hs a, row_drop hs rest l i (by simpa using h)]; rfl
theorem row_pick (hs : ∀ a, (enc a).cells.length = sz) {l : List α} (rest : List AV) {i : Nat} {a : α} (h : l[i]? = some a) : ((rowOf enc l rest).drop (i * sz)).take sz = (enc a).cells := by
  have hi : i < l.length := (List.getElem?_eq_some_iff.1 h).1
  rw [row_drop hs rest l i (by omega), List.drop_eq_getElem_cons hi, row_cons]
  rw [List.getElem?_eq_getElem hi] at h
  cases h
  rw [← hs l[i], List.take_left]
theorem row_pick0 {rs : List AV} (hs : ∀ a, (enc a).cells.length = sz) (l : List α) : (rowOf enc l rs).take (l.length * sz) = flat (l.map enc) := by
  have h := flat_length (map_sz hs l)
  rw [List.length_map] at h
  rw [rowOf, ← h, List.take_left]
theorem putCells_append (xs ys : List AV) (o : Nat) (zs : List AV) : putCells (xs ++ ys) (xs.length + o) zs = xs ++ putCells ys o zs := by
  induction zs generalizing ys o with
  | nil => rfl
  | cons z zs ih =>
    simp only [putCells]
    rw [List.set_append_right _ _ (by omega), Nat.add_sub_cancel_left, Nat.add_assoc]
    exact ih _ _
theorem putCells_front : ∀ (xs ys zs : List AV), zs.length = xs.length → putCells (xs ++ ys) 0 zs = zs ++ ys
  | [], ys, [], _ => rfl
  | x :: xs, ys, z :: zs, h => by
    have h' : zs.length = xs.length := by simpa using h
    simp only [putCells, List.cons_append, List.set_cons_zero, Nat.zero_add]
    have := putCells_append [z] (xs ++ ys) 0 zs
    simp only [List.length_singleton, Nat.add_zero, List.singleton_append] at this
    rw [this, putCells_front xs ys zs h']
  | [], _, _ :: _, h => by simp at h
  | _ :: _, _, [], h => by simp at h
theorem row_put (hs : ∀ a, (enc a).cells.length = sz) (rest : List AV) (a : α) : ∀ (l : List α) (i : Nat), i < l.length → putCells (rowOf enc l rest) (i * sz) (enc a).cells = rowOf enc (l.set i a) rest
  | [], i, h => by simp at h
  | x :: l, 0, _ => by
    rw [row_cons, List.set_cons_zero, row_cons, Nat.zero_mul, putCells_front _ _ _ (by rw [hs, hs])]
  | x :: l, i + 1, h => by
    rw [row_cons, List.set_cons_succ, row_cons, Nat.succ_mul, Nat.add_comm, ← hs x, putCells_append, hs x, row_put hs rest a l i (by simpa using h)]
end

section rules
variable {P : Program} {GV : AH} {f : FuncId} {n : Nat} {k : List Item} {env : Env} {H : AH} {R : AV → AH → Prop} {ops : Array Oper} {i : Nat} {rest : List Nat}
variable {d : Option Tmp} {ty : TypeId} {pos : String} {aft : Array Edge} {gd : Option (Nat × Bool)}

theorem AS.rowAddr {t e : TypeId} {xo io : Operand} {b l c : Nat} {kd : IntKind} {m : Int} {sz by_ : Nat} (ho : ops[i]? = some ⟨d, .indexAddr t xo io, ty, pos, aft, gd⟩) (hw : wantedB ops env gd = true) (hd : fitsB n d = true)
    (hx : env.ev GV xo = some (.mslice b 0 l c)) (hi : env.ev GV io = some (.int kd m)) (ht : sliI P t = some (e, sz, by_)) (j : Nat) (hj : (j : Int) = m) (hl : j < l)
    (next : AS P GV f n (.inRegion ops rest :: k) (putEnv d (.ptr b (j * sz)) env) H R) : AS P GV f n (.inRegion ops (i :: rest) :: k) env H R := by
  subst hj
  refine AS.mindexAddr ho hw hd hx hi ht ⟨by omega, by omega⟩ ?_
  rw [Nat.zero_add, Int.toNat_natCast]; exact next

theorem AS.loadAt {α : Type} {enc : α → AV} {t : TypeId} {x : Operand} {b j : Nat} {l : List α} {rs : List AV} {e : TypeId} [hat : At H b (.row (rowOf enc l rs) e)] {sz : Nat} {a : α} (ho : ops[i]? = some ⟨d, .load t x, ty, pos, aft, gd⟩) (hw : wantedB ops env gd = true)
    (hd : fitsB n d = true) (hx : env.ev GV x = some (.ptr b (j * sz))) (ht : tyI P t = some (sz, true)) (hs : ∀ a, (enc a).cells.length = sz) (hag : ∀ a, enc a = .agg (enc a).cells) (ha : l[j]? = some a)
    (next : AS P GV f n (.inRegion ops rest :: k) (putEnv d (enc a) env) H R) : AS P GV f n (.inRegion ops (i :: rest) :: k) env H R := by
  have hj : j < l.length := (List.getElem?_eq_some_iff.1 ha).1
  refine AS.load ho hw hd hx ht ?_ rfl (by rw [pickCells, row_pick hs rs ha, ← hag a]) next
  rw [Nat.ble_eq, row_len hs]
  have : (j + 1) * sz ≤ l.length * sz := Nat.mul_le_mul_right _ hj
  rw [Nat.succ_mul] at this
  omega

theorem AS.storeAt {α : Type} {enc : α → AV} {t : TypeId} {xa xv : Operand} {b j : Nat} {l : List α} {rs : List AV} {e : TypeId} {a : α} [hat : At H b (.row (rowOf enc l rs) e)] {sz : Nat} {H' : AH} [hu : Upd H b (.row (rowOf enc (l.set j a) rs) e) H']
    (ho : ops[i]? = some ⟨d, .store t xa xv, ty, pos, aft, gd⟩) (hw : wantedB ops env gd = true) (hd : fitsB n d = true) (hx : env.ev GV xa = some (.ptr b (j * sz))) (hy : env.ev GV xv = some (enc a)) (hf : ∀ a, (enc a).flatB = true)
    (ht : tyI P t = some (sz, true)) (hs : ∀ a, (enc a).cells.length = sz) (hj : j < l.length)
    (next : AS P GV f n (.inRegion ops rest :: k) (putEnv d .undef env) H' R) : AS P GV f n (.inRegion ops (i :: rest) :: k) env H R := by
  have hu' : Upd H b (.row (putCells (rowOf enc l rs) (j * sz) (enc a).cells) e) H' := by rw [row_put hs rs a l j hj]; exact hu
  refine AS.store (hu := hu') ho hw hd hx hy (hf a) ht (by rw [hs]; exact Nat.beq_refl _) ?_ next
  rw [Nat.ble_eq, row_len hs]
  have : (j + 1) * sz ≤ l.length * sz := Nat.mul_le_mul_right _ hj
  rw [Nat.succ_mul] at this
  omega

/-- What was worked out ahead, and may yet come behind c, holds in any memory. -/
def Ros (P : Program) (GV : AH) (f : FuncId) (n : Nat) (k : List Item) (R : AV → AH → Prop) (ops : Array Oper) (c : Nat) : List Rd → Prop
  | [] => True
  | r :: es => (match (ancs ops ops.size (preOf ops c)).contains r.idx with | true => True | false => Ro P GV f n k R ops (fun _ => True) r) ∧ Ros P GV f n k R ops c es
theorem Ros.get {c : Nat} : ∀ {es : List Rd}, Ros P GV f n k R ops c es → ∀ r ∈ es, r.idx ∉ ancs ops ops.size (preOf ops c) → Ro P GV f n k R ops (fun _ => True) r
  | [], _, r, hr, _ => by cases hr
  | q :: es, h, r, hr, hn => by
    rcases List.mem_cons.1 hr with e | hr
    · subst e
      have h1 := h.1
      have : (ancs ops ops.size (preOf ops c)).contains r.idx = false := by simpa using hn
      rw [this] at h1
      exact h1
    · exact Ros.get h.2 r hr hn

/-- Memory turns, in one way. -/
theorem SA.chg {base : Env} {es : List Rd} {HH : AH → Prop} {val : AV} {H' : AH} (c : Nat) (slots : List Nat) (hp : preOk ops = true) (hd : dstsOk ops = true) (hb : rdB ops c es slots = true) (ho : onlyB ops c es = true)
    (hrun : ∀ env rest, AS P GV f n (.inRegion ops rest :: k) (putEnv (dstOf ops c) val ((full es base).pick slots ++ env)) H' R → AS P GV f n (.inRegion ops (c :: rest) :: k) ((full es base).pick slots ++ env) H R)
    (hros : Ros P GV f n k R ops c es)
    (next : SA P GV f n k R ops base (⟨c, dstOf ops c, val, (full es base).pick slots⟩ :: es) (· = H') H') : SA P GV f n k R ops base es HH H :=
  SA.turn (α := Unit) (val := fun _ => val) (Hn := fun _ => H') (Φ := fun _ => True) c slots hp hd hb ho (fun env rest h => hrun env rest (h () trivial)) hros.get (fun _ _ => next)

/-- Less is known of a slot's value. -/
theorem AS.weak {todo : List Item} (t : Nat) {x : AV} (y : AV) (h : env.get t = some x) (hl : AVLe x y) (next : AS P GV f n todo ((t, y) :: env) H R) : AS P GV f n todo env H R :=
  fun V a w hs => next V a w ⟨hs.defers, hs.size, fun s z hz => by
    simp only [Env.get] at hz
    split at hz
    · rename_i hb
      have := Nat.eq_of_beq_eq_true hb
      subst this
      cases hz
      obtain ⟨v, hv, hr⟩ := hs.env _ _ h
      exact ⟨v, hv, hl _ _ hr⟩
    · exact hs.env s z hz, hs.rel⟩
theorem AS.putLe {todo : List Item} {x y : AV} (hl : AVLe x y) (next : AS P GV f n todo (putEnv d y env) H R) : AS P GV f n todo (putEnv d x env) H R := by
  cases d with
  | none => exact next
  | some t =>
    refine AS.weak t (x := x) y (by simp [putEnv, Env.get]) hl ?_
    · refine AS.know _ (fun s z hz => ?_) next
      simp only [putEnv, Env.get] at hz ⊢
      split at hz
      · exact hz
      · exact hz
/-- A call of a function value that leaves memory as it was. -/
theorem AS.callVP {g : FuncId} {fo : Operand} {first caps : List AV} {os : Array Operand} {ats : Array TypeId} {args : List AV} {v : AV} (ho : ops[i]? = some ⟨d, .call ⟨.value fo, os, ats⟩, ty, pos, aft, gd⟩) (hw : wantedB ops env gd = true) (hd : fitsB n d = true)
    (hfo : env.ev GV fo = some (.func (.func g) first caps)) (he : env.evs GV os.toList = some args) (hg : Enters P g) (hc : ACalls P GV g (first ++ args ++ caps) H (fun x H' => x = v ∧ H' = H))
    (next : AS P GV f n (.inRegion ops rest :: k) (putEnv d v env) H R) : AS P GV f n (.inRegion ops (i :: rest) :: k) env H R :=
  AS.callValue ho hw hd hfo he hg hc (fun x H' ⟨e1, e2⟩ => by subst e1 e2; exact next)
end rules
end Go.Proofs.Fw
/- An iterator's entry. -/
namespace Go.Proofs.Fw
open Go Go.Shelf Go.RowKit
set_option linter.unusedVariables false
theorem Wk.mid {GV : AH} {x : AV} (A L : AH) {B : AH} : Wk GV x (A ++ (L ++ B)) x (A ++ B) :=
  Wk.sub (fun p hp => by
    rcases List.mem_append.1 hp with h | h
    · exact List.mem_append_left _ h
    · exact List.mem_append_right _ (List.mem_append_right _ h)) (fun hn => by
    simp only [keys, List.map_append, List.nodup_append, List.mem_append] at hn ⊢
    exact ⟨hn.1, hn.2.1.2.1, fun a ha b hb => hn.2.2 a ha b (.inr hb)⟩)
instance Upd_app {G H H' : AH} {b : Nat} {o' : AO} [h : Upd H b o' H'] : Upd (G ++ H) b o' (G ++ H') where
  here := by simp only [Fw.keys, List.map_append, List.mem_append]; exact .inr h.here
  keys := by simp only [Fw.keys, List.map_append]; rw [show List.map (·.1) H' = List.map (·.1) H from h.keys]
  old c o hm := by
    rcases List.mem_append.1 hm with hm | hm
    · exact .inl (List.mem_append_left _ hm)
    · exact (h.old c o hm).imp (List.mem_append_right _) id
  fst hn o hm := by
    simp only [Fw.keys, List.map_append, List.nodup_append] at hn
    rcases List.mem_append.1 hm with hm | hm
    · exact absurd rfl (hn.2.2 b (List.mem_map.2 ⟨_, hm, rfl⟩) b h.here)
    · exact h.fst hn.2.1 o hm
theorem ACalls.permP {P : Program} {GV : AH} {f : FuncId} {args : List AV} {H1 H2 : AH} {v : AV} (h : ACalls P GV f args H1 (fun x H' => x = v ∧ H' = H1)) (hp : H2.Perm H1) : ACalls P GV f args H2 (fun x H' => x = v ∧ H' = H2) := by
  intro V w vs hc hrel
  refine (h V w vs hc (hrel.perm hp)).mono ?_
  rintro e w' ⟨u, he, V', x, H', a, b, c, e1, e2⟩
  rw [e1] at a
  rw [e2] at b c
  have hk : ∀ b, b ∈ keys H1 ↔ b ∈ keys H2 := fun b => ((hp.map (·.1)).mem_iff).symm
  exact ⟨u, he, V', v, H2, a, b.perm hp.symm, ⟨c.os, c.tape, c.output, c.size, c.le, fun b hb hn => c.heap b hb (fun hm => hn ((hk b).1 hm)), fun b hb hn => c.view b hb (fun hm => hn ((hk b).1 hm)),
    fun b hb => (c.keyed b ((hk b).2 hb)).imp (hk b).1 id⟩, rfl, rfl⟩
section rules
variable {P : Program} {GV : AH} {f : FuncId} {n : Nat} {k : List Item} {env : Env} {H : AH} {R : AV → AH → Prop} {ops : Array Oper} {i : Nat} {rest : List Nat}
variable {d : Option Tmp} {ty : TypeId} {pos : String} {aft : Array Edge} {gd : Option (Nat × Bool)}

/-- Memory turns ahead of what stays: all that was read of what stays is good yet. -/
theorem SA.turnG {α : Type} {base : Env} {es : List Rd} {H0 : AH} {val : α → AV} {Hn : α → AH} {Φ : α → Prop} (c : Nat) (slots : List Nat) (hp : preOk ops = true) (hd : dstsOk ops = true) (hb : rdB ops c es slots = true) (ho : onlyB ops c es = true)
    (hrun : ∀ env rest, (∀ x, Φ x → AS P GV f n (.inRegion ops rest :: k) (putEnv (dstOf ops c) (val x) ((full es base).pick slots ++ env)) (Hn x) R) → AS P GV f n (.inRegion ops (c :: rest) :: k) ((full es base).pick slots ++ env) H R)
    (hG : ∀ x, ∃ G, Hn x = G ++ H0)
    (next : ∀ x, Φ x → SA P GV f n k R ops base (⟨c, dstOf ops c, val x, (full es base).pick slots⟩ :: es) (fun H' => ∃ G, H' = G ++ H0) (Hn x)) : SA P GV f n k R ops base es (fun H' => ∃ G, H' = G ++ H0) H :=
  SA.changer (HH' := fun _ H' => ∃ G, H' = G ++ H0) c (dstOf ops c) val ((full es base).pick slots) Hn Φ hp hd (fun v => rdB_ok hb v) ho hrun (fun x _ => hG x) (fun _ _ _ _ _ h => h) next
/-- Memory turns; what is new stays, too. -/
theorem SA.turnR {α : Type} {base : Env} {es : List Rd} {H0 : AH} {val : α → AV} {Hn : α → AH} {Φ : α → Prop} (c : Nat) (slots : List Nat) (hp : preOk ops = true) (hd : dstsOk ops = true) (hb : rdB ops c es slots = true) (ho : onlyB ops c es = true)
    (hrun : ∀ env rest, (∀ x, Φ x → AS P GV f n (.inRegion ops rest :: k) (putEnv (dstOf ops c) (val x) ((full es base).pick slots ++ env)) (Hn x) R) → AS P GV f n (.inRegion ops (c :: rest) :: k) ((full es base).pick slots ++ env) H R)
    (hG : ∀ x, ∃ G, Hn x = G ++ H0)
    (next : ∀ x, Φ x → SA P GV f n k R ops base (⟨c, dstOf ops c, val x, (full es base).pick slots⟩ :: es) (fun H' => ∃ G, H' = G ++ Hn x) (Hn x)) : SA P GV f n k R ops base es (fun H' => ∃ G, H' = G ++ H0) H :=
  SA.changer (HH' := fun x H' => ∃ G, H' = G ++ Hn x) c (dstOf ops c) val ((full es base).pick slots) Hn Φ hp hd (fun v => rdB_ok hb v) ho hrun (fun x _ => ⟨[], rfl⟩) (fun x _ r _ _ h H' ⟨G, e⟩ => by obtain ⟨G2, e2⟩ := hG x; exact h H' ⟨G ++ G2, by rw [e, e2]; simp⟩) next

theorem AS.entryMap {κ α : Type} {encK : κ → AV} {encV : α → AV} {io : Operand} {it b c : Nat} {sm : List (Nat × κ × α)} {seen : List Nat} {e : Nat × κ × α} [hat1 : At H it (.miter b c (seen ++ [e.1]))] [hat2 : At H b (.mapB (mapSt encK encV sm) c)]
    (ho : ops[i]? = some ⟨d, .entry io, ty, pos, aft, gd⟩) (hw : wantedB ops env gd = true) (hd : fitsB n d = true) (hx : env.ev GV io = some (.ptr it 0)) (he : e ∈ sm)
    (next : AS P GV f n (.inRegion ops rest :: k) (putEnv d (.tup [encK e.2.1, encV e.2.2]) env) H R) : AS P GV f n (.inRegion ops (i :: rest) :: k) env H R :=
  .opV _ ho hw hd (fun V a w hs => by
    have hxv := hs.ev hx
    generalize hq : a.eval io = q at hxv
    cases hxv
    have hit : w.heap[it]? = some (.mapIter (some b) c (seen ++ [e.1]).toArray c) := hs.rel.objs _ _ hat1.mem
    obtain ⟨ents, hb, h1, h2, h3⟩ := hs.rel.objs _ _ hat2.mem
    have hg1 : (getObj it).run P w = .ok (.mapIter (some b) c (seen ++ [e.1]).toArray c) w := by simp [getObj, Sem.run, hit]
    have hg2 : (getObj b).run P w = .ok (.map ents c) w := by simp [getObj, Sem.run, hb]
    obtain ⟨j, hj⟩ := List.getElem?_of_mem he
    have hjl : j < sm.length := (List.getElem?_eq_some_iff.1 hj).1
    have hje : j < ents.size := by rw [h1, mapSt, List.length_map]; exact hjl
    have hst : ∀ {l : Nat} {x : Nat × κ × α} {r : MapEntry}, sm[l]? = some x → ents[l]? = some r → r.born = x.1 ∧ VR V (encK x.2.1) r.key ∧ VR V (encV x.2.2) r.val := fun {l x r} hl hr => by
      have := h2 l (x.1, encK x.2.1, encV x.2.2) r (by simp [mapSt, hl]) hr
      exact ⟨this.1, this.2.1, this.2.2.1⟩
    have hjr := Array.getElem?_eq_getElem hje
    have hfind : ents.find? (fun x => x.born == e.1) = some ents[j] := by
      have hsome : (ents.find? (fun x => x.born == e.1)).isSome = true := by
        rw [Array.find?_isSome]
        exact ⟨ents[j], Array.getElem_mem hje, by rw [(hst hj hjr).1]; simp⟩
      obtain ⟨r, hr⟩ := Option.isSome_iff_exists.1 hsome
      have hrb : r.born = e.1 := by simpa using Array.find?_some hr
      obtain ⟨l, hl, hlr⟩ := Array.mem_iff_getElem.1 (Array.mem_of_find?_eq_some hr)
      have hlr' : ents[l]? = some r := by rw [Array.getElem?_eq_getElem hl, hlr]
      have hls : l < sm.length := by rw [h1, mapSt, List.length_map] at hl; exact hl
      have hb2 := (hst (List.getElem?_eq_getElem hls) hlr').1
      have hnd : (sm.map (·.1)).Nodup := by
        have : (mapSt encK encV sm).map (·.1) = sm.map (·.1) := by simp [mapSt]
        rw [← this]; exact h3
      have hlj : l = j := by
        have e1 : (sm.map (·.1))[l]? = some e.1 := by rw [List.getElem?_map, List.getElem?_eq_getElem hls, Option.map_some, ← hb2, hrb]
        have e2 : (sm.map (·.1))[j]? = some e.1 := by rw [List.getElem?_map, hj]; rfl
        have hpw := List.pairwise_iff_getElem.1 hnd
        have hl1 : l < (sm.map (·.1)).length := by simpa using hls
        have hl2 : j < (sm.map (·.1)).length := by simpa using hjl
        rw [List.getElem?_eq_getElem hl1] at e1
        rw [List.getElem?_eq_getElem hl2] at e2
        have e3 := Option.some.inj (e1.trans e2.symm)
        rcases Nat.lt_trichotomy l j with h | h | h
        · exact absurd e3 (hpw l j hl1 hl2 h)
        · exact h
        · exact absurd e3.symm (hpw j l hl2 hl1 h)
      subst hlj
      rw [hr, ← hlr]
    refine ⟨.tuple #[ents[j].key, ents[j].val], ?_, .tup _ _ rfl (fun l x v hx hv => ?_)⟩
    · simp [execOp, Instr.entry, hq, hg1, hg2, hfind]
    · match l with
      | 0 => simp at hx hv; subst hx hv; exact (hst hj hjr).2.1
      | 1 => simp at hx hv; subst hx hv; exact (hst hj hjr).2.2
      | l + 2 => simp at hx) next
end rules
end Go.Proofs.Fw
/- Small forms: lengths; calls that hand back a new object. -/
namespace Go.Proofs.Fw
open Go Go.Shelf
theorem lenT_sl {P : Program} {t e : TypeId} {xs : List AV} {tk : Tok} (h : P.underlying t = some (.slice e)) : lenT (P.underlying t) (.slice xs tk) = true := by rw [h]; rfl
theorem lenT_ms {P : Program} {t e : TypeId} {b o n c : Nat} (h : P.underlying t = some (.slice e)) : lenT (P.underlying t) (.mslice b o n c) = true := by rw [h]; rfl
theorem lenT_str {P : Program} {t : TypeId} {s : ByteArray} (h : P.underlying t = some .string) : lenT (P.underlying t) (.str s) = true := by rw [h]; rfl
section
variable {P : Program} {GV : AH} {f : FuncId} {n : Nat} {k : List Item} {env : Env} {H : AH} {R : AV → AH → Prop} {ops : Array Oper} {i : Nat} {rest : List Nat}
variable {d : Option Tmp} {ty : TypeId} {pos : String} {aft : Array Edge} {gd : Option (Nat × Bool)}
/-- A call that hands back a new object. -/
theorem AS.callN {g : FuncId} {os : Array Operand} {ats : Array TypeId} {args : List AV} {val : Nat → AV} {o : Nat → AO}
    (ho : ops[i]? = some ⟨d, .call ⟨.value (.func g), os, ats⟩, ty, pos, aft, gd⟩) (hw : wantedB ops env gd = true) (hd : fitsB n d = true) (he : env.evs GV os.toList = some args)
    (hg : Enters P g) (hc : ACalls P GV g args H (fun x H' => ∃ b, x = val b ∧ H' = (b, o b) :: H)) (next : ∀ b, AS P GV f n (.inRegion ops rest :: k) (putEnv d (val b) env) ((b, o b) :: H) R) :
    AS P GV f n (.inRegion ops (i :: rest) :: k) env H R :=
  AS.call ho hw hd he hg hc (fun x H' ⟨b, e1, e2⟩ => by subst e1 e2; exact next b)
/-- An empty map is one of whatever kind. -/
theorem AS.nomap {todo : List Item} {κ α : Type} {encK : κ → AV} {encV : α → AV} {b : Nat} (next : AS P GV f n todo env ((b, .map (mapAV encK encV [])) :: H) R) : AS P GV f n todo env ((b, .map []) :: H) R := next
theorem AS.condV {o : Operand} {c e : Code} {b : Bool} (t : Bool) (hc : env.ev GV o = some (.bool b)) (hb : b = t) (h1 : AS P GV f n (.code (match t with | true => c | false => e) :: k) env H R) : AS P GV f n (.code (.cond o c e) :: k) env H R := by
  subst hb
  cases b
  · exact AS.condF hc h1
  · exact AS.condT hc h1
end
end Go.Proofs.Fw
/- The program's data, and how they lie in memory. -/
namespace Go.Proofs.Fw
open Go

structure Key where
  kind : ByteArray
  space : ByteArray
  name : ByteArray
  deriving DecidableEq
structure Res where
  name : ByteArray
  n : Int
  deriving DecidableEq
structure Object where
  key : Key
  ver : Int
  cls : ByteArray
  term : Bool
  best : Bool
  charge : List Res
  deriving DecidableEq
structure Evt where
  kind : Int
  obj : Object
  ver : Int
  objs : List Object
  deriving DecidableEq
structure Delta where
  key : Key
  had : Bool
  has : Bool
  old : Object
  new : Object
  deriving DecidableEq

def keyC (k : Key) : List AV := [.str k.kind, .str k.space, .str k.name]
def encKey (k : Key) : AV := .agg [.str k.kind, .str k.space, .str k.name]
def encRes (r : Res) : AV := .agg [.str r.name, .int .i64 r.n]
def encObj (o : Object) : AV := .agg [.str o.key.kind, .str o.key.space, .str o.key.name, .int .i64 o.ver, .str o.cls, .bool o.term, .bool o.best, .slice (o.charge.map encRes) .any]
def encEv (e : Evt) : AV := .agg [.int .i64 e.kind, .str e.obj.key.kind, .str e.obj.key.space, .str e.obj.key.name, .int .i64 e.obj.ver, .str e.obj.cls, .bool e.obj.term, .bool e.obj.best, .slice (e.obj.charge.map encRes) .any, .int .i64 e.ver, .slice (e.objs.map encObj) .any]

theorem encRes_sz (r : Res) : (encRes r).cells.length = 2 := rfl
theorem encRes_flat (r : Res) : (encRes r).flatB = true := rfl
theorem encObj_sz (o : Object) : (encObj o).cells.length = 8 := rfl
theorem encObj_flat (o : Object) : (encObj o).flatB = true := rfl
theorem encEv_sz (e : Evt) : (encEv e).cells.length = 11 := rfl
theorem encEv_flat (e : Evt) : (encEv e).flatB = true := rfl
def noObj : Object := ⟨⟨⟨#[]⟩, ⟨#[]⟩, ⟨#[]⟩⟩, 0, ⟨#[]⟩, false, false, []⟩
end Go.Proofs.Fw
/- Labels and keys, in plain Lean. -/
namespace Go.Proofs.Fw
open Go

def signI (c : Int) : Bool := decide (97 ≤ c) && decide (c ≤ 122) || decide (48 ≤ c) && decide (c ≤ 57) || decide (c = 45)
def okAt (s : ByteArray) (i : Nat) : Bool := if h : i < s.size then signI (s[i]'h).toNat else true
def right (s : ByteArray) : Bool := decide (1 ≤ s.size) && decide (s.size ≤ 24) && (List.range s.size).all (okAt s) && (match s[0]? with | some c => decide (c.toNat ≠ 45) | none => false) && (match s[s.size - 1]? with | some c => decide (c.toNat ≠ 45) | none => false)
def keyRight (k : Key) : Bool := right k.kind && right k.space && right k.name
def slash : ByteArray := ⟨#[47]⟩
def textOf (k : Key) : ByteArray := k.space ++ slash ++ k.kind ++ slash ++ k.name
def keyLess (a b : Key) : Bool := sless (textOf a) (textOf b)

theorem decode_sign (s : ByteArray) (i : Nat) (h : i < s.size) : signI (Utf8.decode s i).1 = okAt s i ∧ (okAt s i = true → (Utf8.decode s i).2 = 1) := by
  have e : s.get! i = s[i]'h := by
    cases s with | mk a =>
    have h' : i < a.size := h
    show a[i]! = a[i]'h'
    simp [h']
  have hb : (s[i]'h).toNat < 256 := (s[i]'h).toNat_lt
  simp only [okAt, h, dif_pos]
  by_cases h1 : (s[i]'h).toNat < 128
  · have : Utf8.decode s i = ((s[i]'h).toNat, 1) := by simp [Utf8.decode, e, h1]
    rw [this]; exact ⟨rfl, fun _ => rfl⟩
  · have hF : signI ((s[i]'h).toNat : Int) = false := by
      simp only [signI, Bool.or_eq_false_iff, Bool.and_eq_false_iff, decide_eq_false_iff_not]; omega
    rw [hF]
    refine ⟨?_, fun h => by cases h⟩
    have h2 : 128 ≤ (Utf8.decode s i).1 := by
      simp only [Utf8.decode, Nat.add_zero, e, h1, if_false, Utf8.runeError]
      repeat' split
      all_goals first | omega | (rename_i hc; simp only [Bool.and_eq_true, decide_eq_true_eq] at hc; omega) | (rename_i hc; simp only [decide_eq_true_eq, ge_iff_le] at hc; omega)
    simp only [signI, Bool.or_eq_false_iff, Bool.and_eq_false_iff, decide_eq_false_iff_not]; omega

theorem okAt_eq {s : ByteArray} {i : Nat} (h : i < s.size) : okAt s i = signI (s[i]'h).toNat := by simp [okAt, h]
theorem allOk {s : ByteArray} (h : ∀ i, i < s.size → okAt s i = true) : (List.range s.size).all (okAt s) = true := by
  simp only [List.all_eq_true, List.mem_range]; exact h
theorem notOk {s : ByteArray} {i : Nat} (hi : i < s.size) (h : okAt s i = false) : (List.range s.size).all (okAt s) = false := by
  simp only [List.all_eq_false, List.mem_range]; exact ⟨i, hi, by simp [h]⟩
theorem right_at {s : ByteArray} (h1 : 0 < s.size) : right s = (decide ((s.size : Int) ≤ 24) && (List.range s.size).all (okAt s) && decide (((s[0]'h1).toNat : Int) ≠ 45) && decide (((s[s.size - 1]'(by omega)).toNat : Int) ≠ 45)) := by
  have e1 : s[0]? = some (s[0]'h1) := by simp [h1]
  have e2 : s[s.size - 1]? = some (s[s.size - 1]'(by omega)) := by simp
  have e3 : decide (1 ≤ s.size) = true := by simp; omega
  have c1 : decide ((s.size : Int) ≤ 24) = decide (s.size ≤ 24) := by congr 1; rw [eq_iff_iff]; omega
  have c2 : ∀ c : UInt8, decide ((c.toNat : Int) ≠ 45) = decide (c.toNat ≠ 45) := fun c => by congr 1; rw [eq_iff_iff]; omega
  simp only [right, e1, e2, e3, Bool.true_and, c1, c2]
theorem right_no {s : ByteArray} (h : (List.range s.size).all (okAt s) = false) : right s = false := by simp [right, h]
theorem right_zero {s : ByteArray} (h : ¬ 1 ≤ s.size) : right s = false := by simp [right, h]
theorem right_long {s : ByteArray} (h : ¬ s.size ≤ 24) : right s = false := by simp [right, h]
theorem upTo {s : ByteArray} {i : Nat} (h : ∀ j, j < i → j < s.size → okAt s j = true) (h2 : okAt s i = true) : ∀ j, j < i + 1 → j < s.size → okAt s j = true := fun j h1 h3 => by
  rcases Nat.lt_or_ge j i with h4 | h4
  · exact h j h4 h3
  · have : j = i := by omega
    subst this; exact h2
theorem w64 {a : Int} (h1 : -9223372036854775808 ≤ a) (h2 : a ≤ 9223372036854775807) : IntKind.i64.wrap a = a := IntWalk.i64_in _ ⟨h1, h2⟩
end Go.Proofs.Fw
/- Order of strings, objects: in plain Lean. -/
namespace Go.Proofs.Fw
open Go

theorem bless_ne : ∀ {x y : List UInt8} (i : Nat) {a b : UInt8}, (∀ j, j < i → x[j]? = y[j]?) → x[i]? = some a → y[i]? = some b → a ≠ b → Op.bytesLess x y = decide (a < b)
  | [], _, _, _, _, _, hx, _, _ => by simp at hx
  | _ :: _, [], _, _, _, _, _, hy, _ => by simp at hy
  | c :: x, d :: y, 0, a, b, _, hx, hy, hn => by
    simp only [List.getElem?_cons_zero, Option.some.injEq] at hx hy
    subst hx hy
    simp [Op.bytesLess, hn]
  | c :: x, d :: y, i + 1, a, b, h, hx, hy, hn => by
    have h0 := h 0 (by omega)
    simp only [List.getElem?_cons_zero, Option.some.injEq] at h0
    subst h0
    have := bless_ne (x := x) (y := y) i (a := a) (b := b) (fun j hj => by simpa using h (j + 1) (by omega)) (by simpa using hx) (by simpa using hy) hn
    simp [Op.bytesLess, this]
theorem bless_len : ∀ {x y : List UInt8}, (∀ j, j < x.length → j < y.length → x[j]? = y[j]?) → Op.bytesLess x y = decide (x.length < y.length)
  | x, [], _ => by cases x <;> simp [Op.bytesLess]
  | [], _ :: _, _ => by simp [Op.bytesLess]
  | c :: x, d :: y, h => by
    have h0 := h 0 (by simp) (by simp)
    simp only [List.getElem?_cons_zero, Option.some.injEq] at h0
    subst h0
    have := bless_len (x := x) (y := y) (fun j h1 h2 => by simpa using h (j + 1) (by simpa using h1) (by simpa using h2))
    simp [Op.bytesLess, this]

theorem tl_get {s : ByteArray} {i : Nat} (h : i < s.size) : s.toList[i]? = some (s[i]'h) := by
  rw [Go.ByteArray.toList_eq]
  obtain ⟨⟨l⟩⟩ := s
  have : i < l.length := h
  show l[i]? = some (l[i])
  simp [this]
theorem tl_len (s : ByteArray) : s.toList.length = s.size := by
  rw [Go.ByteArray.toList_eq]; obtain ⟨⟨l⟩⟩ := s; rfl

def sameTo (a b : ByteArray) (i : Nat) : Prop := ∀ j (h1 : j < a.size) (h2 : j < b.size), j < i → a[j]'h1 = b[j]'h2
theorem sless_ne {a b : ByteArray} {i : Nat} (h : sameTo a b i) (h1 : i < a.size) (h2 : i < b.size) (hn : ((a[i]'h1).toNat : Int) ≠ (b[i]'h2).toNat) : sless a b = decide (((a[i]'h1).toNat : Int) < (b[i]'h2).toNat) := by
  unfold sless
  rw [bless_ne i (fun j hj => by rw [tl_get (by omega : j < a.size), tl_get (by omega : j < b.size)]; congr 1; exact h j _ _ hj) (tl_get h1) (tl_get h2) (fun e => hn (by rw [e]))]
  congr 1
  rw [UInt8.lt_iff_toNat_lt]; simp
theorem sless_len {a b : ByteArray} {i : Nat} (h : sameTo a b i) (hi : a.size ≤ i ∨ b.size ≤ i) : sless a b = decide ((a.size : Int) < b.size) := by
  unfold sless
  rw [bless_len (fun j h1 h2 => by rw [tl_len] at h1 h2; rw [tl_get h1, tl_get h2]; congr 1; exact h j _ _ (by omega)), tl_len, tl_len]
  congr 1; simp
theorem sameTo_succ {a b : ByteArray} {i : Nat} (h : sameTo a b i) (h1 : i < a.size) (h2 : i < b.size) (he : ((a[i]'h1).toNat : Int) = (b[i]'h2).toNat) : sameTo a b (i + 1) := fun j h3 h4 h5 => by
  rcases Nat.lt_or_ge j i with h6 | h6
  · exact h j h3 h4 h6
  · have : j = i := by omega
    subst this
    exact UInt8.toNat_inj.1 (by exact_mod_cast he)

/-! ### Objects -/
def keyFits (k : Key) : Prop := k.kind.size ≤ 200 ∧ k.space.size ≤ 200 ∧ k.name.size ≤ 200
def objFits (o : Object) : Prop := keyFits o.key ∧ o.cls.size ≤ 200 ∧ o.charge.length ≤ 40 ∧ ∀ (i : Nat) (r : Res), o.charge[i]? = some r → r.name.size ≤ 200
def resAt (l : List Res) (i : Nat) : Bool := match l[i]?, l[i - 1]? with
  | some r, some q => right r.name && !decide (r.n < 0) && (!decide ((0 : Int) < (i : Int)) || sless q.name r.name)
  | _, _ => true
theorem resAt_eq {l : List Res} {i : Nat} {r q : Res} (hr : l[i]? = some r) (hq : l[i - 1]? = some q) : resAt l i = (right r.name && !decide (r.n < 0) && (!decide ((0 : Int) < (i : Int)) || sless q.name r.name)) := by simp only [resAt, hr, hq]
def chargeOk (l : List Res) : Bool := (List.range l.length).all (resAt l)
def clsOk (s : ByteArray) : Bool := decide (s = ⟨#[]⟩) || right s
def objRight (o : Object) : Bool := keyRight o.key && decide (1 ≤ o.ver) && clsOk o.cls && decide ((o.charge.length : Int) ≤ 16) && chargeOk o.charge
theorem objRight_alt (o : Object) : objRight o = (keyRight o.key && (!(!right o.cls && decide (o.cls ≠ ⟨#[]⟩))) && !decide (o.ver < 1) && !decide ((16 : Int) < (o.charge.length : Int)) && chargeOk o.charge) := by
  have e1 : decide (1 ≤ o.ver) = !decide (o.ver < 1) := by rw [← decide_not]; congr 1; rw [eq_iff_iff]; omega
  have e2 : decide ((o.charge.length : Int) ≤ 16) = !decide ((16 : Int) < (o.charge.length : Int)) := by rw [← decide_not]; congr 1; rw [eq_iff_iff]; omega
  have e3 : clsOk o.cls = !(!right o.cls && decide (o.cls ≠ ⟨#[]⟩)) := by simp only [clsOk, ne_eq, decide_not]; cases right o.cls <;> cases decide (o.cls = ⟨#[]⟩) <;> rfl
  simp only [objRight, e1, e2, e3]
  cases keyRight o.key <;> cases right o.cls <;> cases decide (o.cls ≠ ⟨#[]⟩) <;> cases decide (o.ver < 1) <;> rfl
def nameFits (l : List Res) (i : Nat) : Bool := match l[i]? with
  | some r => !decide ((200 : Int) < (r.name.size : Int))
  | none => true
def objFitsB (o : Object) : Bool := !decide ((200 : Int) < (o.key.kind.size : Int)) && !decide ((200 : Int) < (o.key.space.size : Int)) && !decide ((200 : Int) < (o.key.name.size : Int)) && !decide ((200 : Int) < (o.cls.size : Int)) && !decide ((40 : Int) < (o.charge.length : Int)) && (List.range o.charge.length).all (nameFits o.charge)
theorem objFits_of {o : Object} (h : objFitsB o = true) : objFits o := by
  simp only [objFitsB, Bool.and_eq_true, Bool.not_eq_true', decide_eq_false_iff_not, List.all_eq_true, List.mem_range] at h
  obtain ⟨⟨⟨⟨⟨h1, h2⟩, h3⟩, h4⟩, h5⟩, h6⟩ := h
  refine ⟨⟨by omega, by omega, by omega⟩, by omega, by omega, fun i r hr => ?_⟩
  have hi : i < o.charge.length := by
    rcases Nat.lt_or_ge i o.charge.length with h | h
    · exact h
    · rw [List.getElem?_eq_none h] at hr; cases hr
  have := h6 i hi
  simp only [nameFits, hr, Bool.not_eq_true', decide_eq_false_iff_not] at this
  omega
theorem lenMap {α : Type} (enc : α → AV) (l : List α) : (((l.map enc).length : Nat) : Int) = (l.length : Int) := by rw [List.length_map]
theorem allR_yes {p : Nat → Bool} {n i : Nat} (h : ∀ j, j < i → j < n → p j = true) (hi : n ≤ i) : (List.range n).all p = true := by
  simp only [List.all_eq_true, List.mem_range]; exact fun j hj => h j (by omega) hj
theorem allR_no {p : Nat → Bool} {n i : Nat} (hi : i < n) (h : p i = false) : (List.range n).all p = false := by
  simp only [List.all_eq_false, List.mem_range]; exact ⟨i, hi, by simp [h]⟩
theorem size_app (a b : ByteArray) : (a ++ b).size = a.size + b.size := ByteArray.size_append
theorem textOf_size (k : Key) : (textOf k).size = k.space.size + k.kind.size + k.name.size + 2 := by
  have h : slash.size = 1 := rfl
  simp only [textOf, size_app, h]; omega
theorem chargeOk_yes {l : List Res} {i : Nat} (h : ∀ j, j < i → j < l.length → resAt l j = true) (hi : l.length ≤ i) : chargeOk l = true := by
  simp only [chargeOk, List.all_eq_true, List.mem_range]; exact fun j hj => h j (by omega) hj
theorem chargeOk_no {l : List Res} {i : Nat} (hi : i < l.length) (h : resAt l i = false) : chargeOk l = false := by
  simp only [chargeOk, List.all_eq_false, List.mem_range]; exact ⟨i, hi, by simp [h]⟩
theorem objRight_no {o : Object} (h : chargeOk o.charge = false) : objRight o = false := by simp [objRight, h]
theorem upToL {p : Nat → Bool} {n i : Nat} (h : ∀ j, j < i → j < n → p j = true) (h2 : p i = true) : ∀ j, j < i + 1 → j < n → p j = true := fun j h1 h3 => by
  rcases Nat.lt_or_ge j i with h4 | h4
  · exact h j h4 h3
  · have : j = i := by omega
    subst this; exact h2
theorem map_get {α : Type} (enc : α → AV) (l : List α) {i : Nat} {a : α} (h : l[i]? = some a) : (l.map enc)[i]? = some (enc a) := by simp [h]
theorem getAt {α : Type} {l : List α} {i : Nat} (h : i < l.length) : ∃ a, l[i]? = some a := ⟨l[i], by simp [h]⟩
end Go.Proofs.Fw
/- Sameness, and the reference's sort, in plain Lean. -/
namespace Go.Proofs.Fw
open Go

theorem keyEq (a b : Key) : allEq [.str a.kind, .str a.space, .str a.name] [.str b.kind, .str b.space, .str b.name] = decide (a = b) := by
  obtain ⟨a1, a2, a3⟩ := a
  obtain ⟨b1, b2, b3⟩ := b
  simp only [allEq, AV.beq, Key.mk.injEq, Bool.and_true]
  by_cases h1 : a1 = b1 <;> by_cases h2 : a2 = b2 <;> by_cases h3 : a3 = b3 <;> simp [h1, h2, h3]
theorem resEq (a b : Res) : allEq [.str a.name, .int .i64 a.n] [.str b.name, .int .i64 b.n] = decide (a = b) := by
  obtain ⟨a1, a2⟩ := a
  obtain ⟨b1, b2⟩ := b
  simp only [allEq, AV.beq, Res.mk.injEq, Bool.and_true]
  by_cases h1 : a1 = b1 <;> by_cases h2 : a2 = b2 <;> simp [h1, h2]
def alikeB (a b : Object) : Bool := decide (a.charge = b.charge) && decide (a.key = b.key) && decide (a.cls = b.cls) && (a.term == b.term) && (a.best == b.best)
theorem sameB_eq (a b : Object) : (alikeB a b && decide (a.ver = b.ver)) = decide (a = b) := by
  obtain ⟨a1, a2, a3, a4, a5, a6⟩ := a
  obtain ⟨b1, b2, b3, b4, b5, b6⟩ := b
  rw [Bool.eq_iff_iff]
  simp only [alikeB, Bool.and_eq_true, decide_eq_true_eq, beq_iff_eq, Object.mk.injEq]
  constructor
  · rintro ⟨⟨⟨⟨⟨h1, h2⟩, h3⟩, h4⟩, h5⟩, h6⟩; exact ⟨h2, h6, h3, h4, h5, h1⟩
  · rintro ⟨h2, h6, h3, h4, h5, h1⟩; exact ⟨⟨⟨⟨⟨h1, h2⟩, h3⟩, h4⟩, h5⟩, h6⟩
theorem evEq (a b : Evt) : (decide (a.obj = b.obj) && decide (a.objs = b.objs) && decide (a.kind = b.kind) && decide (a.ver = b.ver)) = decide (a = b) := by
  obtain ⟨a1, a2, a3, a4⟩ := a
  obtain ⟨b1, b2, b3, b4⟩ := b
  rw [Bool.eq_iff_iff]
  simp only [Bool.and_eq_true, decide_eq_true_eq, Evt.mk.injEq]
  constructor
  · rintro ⟨⟨⟨h1, h2⟩, h3⟩, h4⟩; exact ⟨h3, h1, h4, h2⟩
  · rintro ⟨h3, h1, h4, h2⟩; exact ⟨⟨⟨h1, h2⟩, h3⟩, h4⟩
theorem list_done {α : Type} {xs ys : List α} {i : Nat} (hl : xs.length = ys.length) (h : ∀ j, j < i → xs[j]? = ys[j]?) (hi : xs.length ≤ i) : xs = ys := by
  apply List.ext_getElem? ; intro j
  rcases Nat.lt_or_ge j i with h1 | h1
  · exact h j h1
  · rw [List.getElem?_eq_none (by omega), List.getElem?_eq_none (by omega)]
theorem list_no {α : Type} {xs ys : List α} {i : Nat} {a b : α} (h1 : xs[i]? = some a) (h2 : ys[i]? = some b) (h : a ≠ b) : xs ≠ ys := fun e => by
  subst e; rw [h1] at h2; cases h2; exact h rfl
theorem upToE {α : Type} {xs ys : List α} {i : Nat} (h : ∀ j, j < i → xs[j]? = ys[j]?) (h2 : xs[i]? = ys[i]?) : ∀ j, j < i + 1 → xs[j]? = ys[j]? := fun j h1 => by
  rcases Nat.lt_or_ge j i with h4 | h4
  · exact h j h4
  · have : j = i := by omega
    subst this; exact h2

def insO (o : Object) : List Object → List Object
  | [] => [o]
  | x :: r => if keyLess o.key x.key then o :: x :: r else x :: insO o r
def sortO (l : List Object) : List Object := l.foldl (fun out o => insO o out) []
theorem insO_length (o : Object) : ∀ l, (insO o l).length = l.length + 1
  | [] => rfl
  | x :: r => by unfold insO; split <;> simp [insO_length o r]
theorem mem_insO {o x : Object} : ∀ {l : List Object}, x ∈ insO o l → x = o ∨ x ∈ l
  | [], h => by simpa [insO] using h
  | y :: r, h => by
    unfold insO at h
    split at h
    · simpa using h
    · rcases List.mem_cons.1 h with h | h
      · exact .inr (by simp [h])
      · rcases mem_insO h with h | h
        · exact .inl h
        · exact .inr (by simp [h])
theorem take_succ_fold {α β : Type} (g : β → α → β) (b : β) {l : List α} {i : Nat} {a : α} (h : l[i]? = some a) : (l.take (i + 1)).foldl g b = g ((l.take i).foldl g b) a := by
  rw [List.take_add_one, h]; simp
theorem fold_sub {l : List Object} : ∀ {out : List Object} {x : Object}, x ∈ l.foldl (fun out o => insO o out) out → x ∈ out ∨ x ∈ l := by
  induction l with
  | nil => intro out x h; exact .inl h
  | cons a l ih =>
    intro out x h
    rcases ih h with h | h
    · rcases mem_insO h with h | h
      · exact .inr (by simp [h])
      · exact .inl h
    · exact .inr (by simp [h])
theorem fold_len {l : List Object} : ∀ {out : List Object}, (l.foldl (fun out o => insO o out) out).length = out.length + l.length := by
  induction l with
  | nil => intro out; rfl
  | cons a l ih => intro out; simp only [List.foldl_cons, ih, insO_length, List.length_cons]; omega
theorem sortO_succ {l : List Object} {i : Nat} {o : Object} (h : l[i]? = some o) : sortO (l.take (i + 1)) = insO o (sortO (l.take i)) := take_succ_fold _ _ h
theorem sortO_len (l : List Object) : (sortO l).length = l.length := by simp [sortO, fold_len]
theorem mem_sortO {l : List Object} {x : Object} (h : x ∈ sortO l) : x ∈ l := by simpa using fold_sub h
/-- The reference's inner loop. -/
def inner (o : Object) (out : List Object) (k : Nat) (nx : List Object) (dn : Bool) : Prop := insO o out = nx ++ (if dn then out.drop k else insO o (out.drop k))
theorem inner_start (o : Object) (out : List Object) : inner o out 0 [] false := by simp [inner]
theorem inner_len {o : Object} {out nx : List Object} {k : Nat} {dn : Bool} (h : inner o out k nx dn) : nx.length ≤ out.length + 1 := by
  have := congrArg List.length h; rw [insO_length, List.length_append] at this; omega
theorem inner_len2 {o x : Object} {out nx : List Object} {k : Nat} {dn : Bool} (h : inner o out k nx dn) (hx : out[k]? = some x) : nx.length ≤ out.length := by
  have := congrArg List.length h; rw [insO_length, List.length_append] at this
  have hk : k < out.length := by
    rcases Nat.lt_or_ge k out.length with h | h
    · exact h
    · rw [List.getElem?_eq_none h] at hx; cases hx
  cases dn <;> simp only [if_true, Bool.false_eq_true, if_false, insO_length, List.length_drop] at this <;> omega
theorem drop_at {α : Type} {l : List α} {k : Nat} {x : α} (h : l[k]? = some x) : l.drop k = x :: l.drop (k + 1) := by
  have hk : k < l.length := by
    rcases Nat.lt_or_ge k l.length with h1 | h1
    · exact h1
    · rw [List.getElem?_eq_none h1] at h; cases h
  rw [List.getElem?_eq_getElem hk] at h
  cases h
  rw [List.drop_eq_getElem_cons hk]
theorem inner_done {o x : Object} {out nx : List Object} {k : Nat} (h : inner o out k nx true) (hx : out[k]? = some x) : inner o out (k + 1) (nx ++ [x]) true := by
  simp only [inner, if_true] at h ⊢; rw [h, drop_at hx]; simp
theorem inner_here {o x : Object} {out nx : List Object} {k : Nat} (h : inner o out k nx false) (hx : out[k]? = some x) (hl : keyLess o.key x.key = true) : inner o out (k + 1) (nx ++ [o] ++ [x]) true := by
  simp only [inner, if_true, Bool.false_eq_true, if_false] at h ⊢; rw [h, drop_at hx, insO, if_pos hl]; simp
theorem inner_on {o x : Object} {out nx : List Object} {k : Nat} (h : inner o out k nx false) (hx : out[k]? = some x) (hl : keyLess o.key x.key = false) : inner o out (k + 1) (nx ++ [x]) false := by
  simp only [inner, Bool.false_eq_true, if_false] at h ⊢; rw [h, drop_at hx, insO, if_neg (by simp [hl])]; simp
theorem inner_end {o : Object} {out nx : List Object} {k : Nat} (h : inner o out k nx true) (hk : out.length ≤ k) : insO o out = nx := by
  simp only [inner, if_true] at h; rw [h, List.drop_eq_nil_of_le hk]; simp
theorem inner_end' {o : Object} {out nx : List Object} {k : Nat} (h : inner o out k nx false) (hk : out.length ≤ k) : insO o out = nx ++ [o] := by
  simp only [inner, Bool.false_eq_true, if_false] at h; rw [h, List.drop_eq_nil_of_le hk]; rfl
end Go.Proofs.Fw
/- Order of keys; the stable sort's steps, place by place: in plain Lean. -/
namespace Go.Proofs.Fw
open Go
set_option linter.unusedVariables false

/-! ### The order -/
theorem bl_irr : ∀ x : List UInt8, Op.bytesLess x x = false
  | [] => rfl
  | a :: x => by simp [Op.bytesLess, bl_irr x]
theorem bl_asymm : ∀ {x y : List UInt8}, Op.bytesLess x y = true → Op.bytesLess y x = false
  | x, [], h => by cases x <;> simp [Op.bytesLess] at h
  | [], b :: y, _ => by simp [Op.bytesLess]
  | a :: x, b :: y, h => by
    simp only [Op.bytesLess, Bool.or_eq_true, decide_eq_true_eq, Bool.and_eq_true, beq_iff_eq] at h
    simp only [Op.bytesLess, Bool.or_eq_false_iff, decide_eq_false_iff_not, Bool.and_eq_false_iff, beq_eq_false_iff_ne]
    simp only [UInt8.lt_iff_toNat_lt] at *
    rcases h with h | ⟨h1, h2⟩
    · exact ⟨by omega, .inl (fun e => by rw [e] at h; omega)⟩
    · subst h1; exact ⟨by omega, .inr (bl_asymm h2)⟩
theorem bl_le_trans : ∀ {x y z : List UInt8}, Op.bytesLess y x = false → Op.bytesLess z y = false → Op.bytesLess z x = false
  | [], _, z, _, _ => by cases z <;> simp [Op.bytesLess]
  | a :: x, [], _, h, _ => by simp [Op.bytesLess] at h
  | a :: x, b :: y, [], _, h => by simp [Op.bytesLess] at h
  | a :: x, b :: y, c :: z, h1, h2 => by
    simp only [Op.bytesLess, Bool.or_eq_false_iff, decide_eq_false_iff_not, Bool.and_eq_false_iff, beq_eq_false_iff_ne] at *
    simp only [UInt8.lt_iff_toNat_lt] at *
    refine ⟨by omega, ?_⟩
    by_cases e : c = a
    · right
      subst e
      have hb : b = c := UInt8.toNat_inj.1 (by omega)
      subst hb
      rcases h1.2 with h | h
      · exact absurd rfl h
      · rcases h2.2 with h' | h'
        · exact absurd rfl h'
        · exact bl_le_trans h h'
    · exact .inl e
theorem bl_anti : ∀ {x y : List UInt8}, Op.bytesLess y x = false → Op.bytesLess x y = false → x = y
  | [], [], _, _ => rfl
  | [], b :: y, _, h => by simp [Op.bytesLess] at h
  | a :: x, [], h, _ => by simp [Op.bytesLess] at h
  | a :: x, b :: y, h1, h2 => by
    simp only [Op.bytesLess, Bool.or_eq_false_iff, decide_eq_false_iff_not, Bool.and_eq_false_iff, beq_eq_false_iff_ne] at *
    simp only [UInt8.lt_iff_toNat_lt] at *
    have hb : a = b := UInt8.toNat_inj.1 (by omega)
    subst hb
    rcases h1.2 with h | h
    · exact absurd rfl h
    · rcases h2.2 with h' | h'
      · exact absurd rfl h'
      · rw [bl_anti h h']

def leO (a b : Object) : Prop := keyLess b.key a.key = false
theorem leO_refl (a : Object) : leO a a := bl_irr _
theorem leO_trans {a b c : Object} (h : leO a b) (h' : leO b c) : leO a c := bl_le_trans h h'
theorem leO_of_lt {a b : Object} (h : keyLess a.key b.key = true) : leO a b := bl_asymm h

def cmpO (a b : Object) : Int := if keyLess a.key b.key then -1 else if keyLess b.key a.key then 1 else 0
theorem cmp_lt {a b : Object} : decide (cmpO a b < 0) = keyLess a.key b.key := by
  unfold cmpO; split
  · rename_i h; rw [h]; rfl
  · rename_i h; split <;> simp_all
/-! ### Places -/
def SortedR (l : List Object) (a b : Nat) : Prop := ∀ i j x y, a ≤ i → i < j → j < b → l[i]? = some x → l[j]? = some y → leO x y
structure Within (l l' : List Object) (a b : Nat) : Prop where
  len : l'.length = l.length
  perm : l'.Perm l
  out : ∀ k, k < a ∨ b ≤ k → l'[k]? = l[k]?
  ins : ∀ k, a ≤ k → k < b → ∃ j, a ≤ j ∧ j < b ∧ l'[k]? = l[j]?
theorem Within.refl (l : List Object) (a b : Nat) : Within l l a b := ⟨rfl, .refl _, fun _ _ => rfl, fun k h1 h2 => ⟨k, h1, h2, rfl⟩⟩
theorem Within.trans {l l' l'' : List Object} {a b : Nat} (h : Within l l' a b) (h' : Within l' l'' a b) : Within l l'' a b where
  len := h'.len.trans h.len
  perm := h'.perm.trans h.perm
  out k hk := (h'.out k hk).trans (h.out k hk)
  ins k h1 h2 := by
    obtain ⟨j, j1, j2, e⟩ := h'.ins k h1 h2
    obtain ⟨i, i1, i2, e'⟩ := h.ins j j1 j2
    exact ⟨i, i1, i2, e.trans e'⟩
theorem Within.mono {l l' : List Object} {a b c d : Nat} (h : Within l l' a b) (h1 : c ≤ a) (h2 : b ≤ d) : Within l l' c d where
  len := h.len
  perm := h.perm
  out k hk := h.out k (by omega)
  ins k k1 k2 := by
    by_cases hk : a ≤ k ∧ k < b
    · obtain ⟨j, j1, j2, e⟩ := h.ins k hk.1 hk.2
      exact ⟨j, by omega, by omega, e⟩
    · exact ⟨k, k1, k2, h.out k (by omega)⟩
theorem SortedR.out {l l' : List Object} {a b c d : Nat} (h : Within l l' a b) (hs : SortedR l c d) (hd : d ≤ a ∨ b ≤ c) : SortedR l' c d := fun i j x y h1 h2 h3 h4 h5 => by
  rw [h.out i (by omega)] at h4
  rw [h.out j (by omega)] at h5
  exact hs i j x y h1 h2 h3 h4 h5
theorem SortedR.sub {l : List Object} {a b c d : Nat} (h : SortedR l a b) (h1 : a ≤ c) (h2 : d ≤ b) : SortedR l c d := fun i j x y k1 k2 k3 => h i j x y (by omega) k2 (by omega)

def sw (l : List Object) (p q : Nat) (x y : Object) : List Object := (l.set p y).set q x
theorem sw_get {l : List Object} {p q : Nat} {x y : Object} (hp : l[p]? = some x) (hq : l[q]? = some y) (k : Nat) : (sw l p q x y)[k]? = l[if k = q then p else if k = p then q else k]? := by
  have h1 : p < l.length := (List.getElem?_eq_some_iff.1 hp).1
  have h2 : q < l.length := (List.getElem?_eq_some_iff.1 hq).1
  simp only [sw, List.getElem?_set, List.length_set]
  by_cases e1 : q = k
  · subst e1; rw [if_pos rfl, if_pos h2, if_pos rfl, hp]
  · have e1' : ¬ k = q := fun e => e1 e.symm
    rw [if_neg e1, if_neg e1']
    by_cases e2 : p = k
    · subst e2; rw [if_pos rfl, if_pos h1, if_pos rfl, hq]
    · have e2' : ¬ k = p := fun e => e2 e.symm
      rw [if_neg e2, if_neg e2']
theorem sw_perm {l : List Object} {p q : Nat} {x y : Object} (hp : l[p]? = some x) (hq : l[q]? = some y) : (sw l p q x y).Perm l := by
  have h1 : p < l.length := (List.getElem?_eq_some_iff.1 hp).1
  have h2 : q < l.length := (List.getElem?_eq_some_iff.1 hq).1
  rw [List.getElem?_eq_getElem h1] at hp
  rw [List.getElem?_eq_getElem h2] at hq
  cases hp; cases hq
  exact List.set_set_perm h1 h2
theorem sw_len (l : List Object) (p q : Nat) (x y : Object) : (sw l p q x y).length = l.length := by simp [sw]
theorem sw_within {l : List Object} {p q a b : Nat} {x y : Object} (hp : l[p]? = some x) (hq : l[q]? = some y) (h1 : a ≤ p) (h2 : p < b) (h3 : a ≤ q) (h4 : q < b) : Within l (sw l p q x y) a b where
  len := sw_len ..
  perm := sw_perm hp hq
  out k hk := by rw [sw_get hp hq, if_neg (by omega), if_neg (by omega)]
  ins k k1 k2 := by
    rw [sw_get hp hq]
    refine ⟨_, ?_, ?_, rfl⟩ <;> (repeat' split) <;> omega

/-! ### Insertion -/
def InsInv (l : List Object) (a i j : Nat) : Prop := ∀ p q x y, a ≤ p → p < q → q ≤ i → q ≠ j → l[p]? = some x → l[q]? = some y → leO x y
theorem ins_start {l : List Object} {a i : Nat} (h : SortedR l a i) : InsInv l a i i := fun p q x y h1 h2 h3 h4 => h p q x y h1 h2 (by omega)
theorem ins_step {l : List Object} {a i j : Nat} {x y : Object} (h : InsInv l a i j) (ha : a < j) (hj : j ≤ i) (hx : l[j]? = some x) (hy : l[j - 1]? = some y) (hlt : keyLess x.key y.key = true) : InsInv (sw l j (j - 1) x y) a i (j - 1) := by
  intro p q u v h1 h2 h3 h4 hp hq
  rw [sw_get hx hy] at hp hq
  rw [if_neg h4] at hq
  by_cases e1 : q = j
  · rw [if_pos e1, hy] at hq
    cases hq
    by_cases e2 : p = j - 1
    · rw [if_pos e2, hx] at hp; cases hp; exact leO_of_lt hlt
    · rw [if_neg e2, if_neg (by omega)] at hp
      exact h p (j - 1) _ _ h1 (by omega) (by omega) (by omega) hp hy
  · rw [if_neg e1] at hq
    by_cases e2 : p = j - 1
    · rw [if_pos e2, hx] at hp; cases hp
      exact h j q _ _ (by omega) (by omega) h3 e1 hx hq
    · rw [if_neg e2] at hp
      by_cases e3 : p = j
      · rw [if_pos e3, hy] at hp; cases hp
        exact h (j - 1) q _ _ (by omega) (by omega) h3 e1 hy hq
      · rw [if_neg e3] at hp
        exact h p q _ _ h1 h2 h3 e1 hp hq
theorem ins_end {l : List Object} {a i j : Nat} (h : InsInv l a i j) (hj : j ≤ i) (he : j ≤ a ∨ ∃ x y, l[j]? = some x ∧ l[j - 1]? = some y ∧ keyLess x.key y.key = false) : SortedR l a (i + 1) := by
  intro p q u v h1 h2 h3 hp hq
  by_cases e : q = j
  · subst e
    rcases he with he | ⟨x, y, hx, hy, hle⟩
    · omega
    · rw [hx] at hq; cases hq
      by_cases e2 : p = q - 1
      · subst e2; rw [hy] at hp; cases hp; exact hle
      · exact leO_trans (h p (q - 1) _ _ h1 (by omega) (by omega) (by omega) hp hy) hle
  · exact h p q _ _ h1 h2 (by omega) e hp hq

/-! ### Exchanging ranges; rotating -/
def swapAt (a b n k : Nat) : Nat := if a ≤ k ∧ k < a + n then k - a + b else if b ≤ k ∧ k < b + n then k - b + a else k
theorem swapAt_step {l c : List Object} {a b i : Nat} {x y : Object} (h : ∀ k, c[k]? = l[swapAt a b i k]?) (hab : a + i < b) (hx : c[a + i]? = some x) (hy : c[b + i]? = some y) :
    ∀ k, (sw c (a + i) (b + i) x y)[k]? = l[swapAt a b (i + 1) k]? := fun k => by
  rw [sw_get hx hy, h]
  congr 1
  simp only [swapAt]
  by_cases e1 : k = b + i
  · subst e1; rw [if_pos rfl, if_neg (by omega), if_neg (by omega), if_neg (by omega), if_pos (by omega)]; omega
  · rw [if_neg e1]
    by_cases e2 : k = a + i
    · subst e2; rw [if_pos rfl, if_neg (by omega), if_neg (by omega), if_pos (by omega)]; omega
    · rw [if_neg e2]
      (repeat' split) <;> omega
def rotAt (a m b k : Nat) : Nat := if a ≤ k ∧ k < a + (b - m) then k + (m - a) else if a + (b - m) ≤ k ∧ k < b then k - (b - m) else k
structure RotInv (l c : List Object) (a m b i j : Nat) : Prop where
  out : ∀ k, k < m - i ∨ m + j ≤ k → c[k]? = l[rotAt a m b k]?
  lo : ∀ k, m - i ≤ k → k < m - i + j → c[k + i]? = l[rotAt a m b k]?
  hi : ∀ k, m - i + j ≤ k → k < m + j → c[k - j]? = l[rotAt a m b k]?
theorem rot_start (l : List Object) {a m b : Nat} (h1 : a < m) (h2 : m < b) : RotInv l l a m b (m - a) (b - m) where
  out k hk := by congr 1; simp only [rotAt]; rw [if_neg (by omega), if_neg (by omega)]
  lo k k1 k2 := by congr 1; simp only [rotAt]; rw [if_pos (by omega)]
  hi k k1 k2 := by congr 1; simp only [rotAt]; rw [if_neg (by omega), if_pos (by omega)]
theorem rot_big {l c c' : List Object} {a m b i j : Nat} (h : RotInv l c a m b i j) (hij : j < i) (hi : i ≤ m) (hc : ∀ k, c'[k]? = c[swapAt (m - i) m j k]?) : RotInv l c' a m b (i - j) j where
  out k hk := by
    rw [hc]
    by_cases h1 : k < m - i ∨ m + j ≤ k
    · rw [← h.out k h1]; congr 1; simp only [swapAt]; rw [if_neg (by omega), if_neg (by omega)]
    · rw [← h.lo k (by omega) (by omega)]; congr 1; simp only [swapAt]; rw [if_pos (by omega)]; omega
  lo k k1 k2 := by
    rw [hc]
    by_cases h1 : k < m - i + j
    · omega
    · rw [← h.hi k (by omega) (by omega)]
      congr 1; simp only [swapAt]
      (repeat' split) <;> omega
  hi k k1 k2 := by
    rw [hc, ← h.hi k (by omega) (by omega)]
    congr 1; simp only [swapAt]
    rw [if_neg (by omega), if_neg (by omega)]
theorem rot_small {l c c' : List Object} {a m b i j : Nat} (h : RotInv l c a m b i j) (hij : i < j) (hi : i ≤ m) (hc : ∀ k, c'[k]? = c[swapAt (m - i) (m + j - i) i k]?) : RotInv l c' a m b i (j - i) where
  out k hk := by
    rw [hc]
    by_cases h1 : k < m - i ∨ m + j ≤ k
    · rw [← h.out k h1]; congr 1; simp only [swapAt]; rw [if_neg (by omega), if_neg (by omega)]
    · rw [← h.hi k (by omega) (by omega)]; congr 1; simp only [swapAt]; rw [if_neg (by omega), if_pos (by omega)]; omega
  lo k k1 k2 := by
    rw [hc, ← h.lo k (by omega) (by omega)]
    congr 1; simp only [swapAt]
    rw [if_neg (by omega), if_neg (by omega)]
  hi k k1 k2 := by
    rw [hc]
    by_cases h1 : k < m - i + j
    · rw [← h.lo k (by omega) (by omega)]
      congr 1; simp only [swapAt]
      (repeat' split) <;> omega
    · omega
theorem rot_end {l c c' : List Object} {a m b i : Nat} (h : RotInv l c a m b i i) (hi : i ≤ m) (hc : ∀ k, c'[k]? = c[swapAt (m - i) m i k]?) : ∀ k, c'[k]? = l[rotAt a m b k]? := fun k => by
  rw [hc]
  by_cases h1 : k < m - i ∨ m + i ≤ k
  · rw [← h.out k h1]; congr 1; simp only [swapAt]; rw [if_neg (by omega), if_neg (by omega)]
  · by_cases h2 : k < m
    · rw [← h.lo k (by omega) (by omega)]; congr 1; simp only [swapAt]; rw [if_pos (by omega)]; omega
    · rw [← h.hi k (by omega) (by omega)]; congr 1; simp only [swapAt]; rw [if_neg (by omega), if_pos (by omega)]; omega
/-! ### Merging -/
theorem rotAt_in {a m b k : Nat} (h1 : a < m) (h2 : m < b) (k1 : a ≤ k) (k2 : k < b) : a ≤ rotAt a m b k ∧ rotAt a m b k < b := by
  simp only [rotAt]; (repeat' split) <;> omega
theorem rot_within {l l' : List Object} {a m b : Nat} (h1 : a < m) (h2 : m < b) (hl : l'.length = l.length) (hp : l'.Perm l) (h : ∀ k, l'[k]? = l[rotAt a m b k]?) : Within l l' a b where
  len := hl
  perm := hp
  out k hk := by rw [h]; congr 1; simp only [rotAt]; rw [if_neg (by omega), if_neg (by omega)]
  ins k k1 k2 := ⟨_, (rotAt_in h1 h2 k1 k2).1, (rotAt_in h1 h2 k1 k2).2, h k⟩
/-- What the binary search has found out. -/
structure Bs (l : List Object) (p lo hi s r : Nat) : Prop where
  le : lo ≤ s ∧ s ≤ r ∧ r ≤ hi
  left : s = lo ∨ ∃ x y, l[p - (s - 1)]? = some x ∧ l[s - 1]? = some y ∧ keyLess x.key y.key = false
  right : r = hi ∨ ∃ x y, l[p - r]? = some x ∧ l[r]? = some y ∧ keyLess x.key y.key = true
/-- Both halves, once turned, are sorted, and all of the one comes ahead of all of the other. -/
structure Halves (l : List Object) (a s mid e b : Nat) : Prop where
  l1 : SortedR l a s
  r1 : SortedR l s mid
  l2 : SortedR l mid e
  r2 : SortedR l e b
  across : ∀ i j x y, a ≤ i → i < mid → mid ≤ j → j < b → l[i]? = some x → l[j]? = some y → leO x y
theorem getSome {l : List Object} {i : Nat} (h : i < l.length) : ∃ x, l[i]? = some x := ⟨l[i], by simp [h]⟩
theorem leR {l : List Object} {a b i j : Nat} {x y : Object} (h : SortedR l a b) (h1 : a ≤ i) (h2 : i ≤ j) (h3 : j < b) (hx : l[i]? = some x) (hy : l[j]? = some y) : leO x y := by
  by_cases e : i = j
  · subst e; rw [hx] at hy; cases hy; exact leO_refl _
  · exact h i j x y h1 (by omega) h3 hx hy
theorem halves {l l' : List Object} {a m b s mid : Nat} (hb : b ≤ l.length) (h1 : a < m) (h2 : m < b) (hmid : mid = (a + b) / 2) (s1 : SortedR l a m) (s2 : SortedR l m b)
    {lo hi : Nat} (hlo : (mid < m ∧ lo = mid + m - b ∧ hi = mid) ∨ (m ≤ mid ∧ lo = a ∧ hi = m)) (hbs : Bs l (mid + m - 1) lo hi s s)
    (hl : (s < m ∧ m < mid + m - s ∧ ∀ k, l'[k]? = l[rotAt s m (mid + m - s) k]?) ∨ (¬ (s < m ∧ m < mid + m - s) ∧ l' = l)) : Halves l' a s mid (mid + m - s) b := by
  obtain ⟨⟨b1, b2, b3⟩, bl, br⟩ := hbs
  have hsm : s ≤ m ∧ s ≤ mid ∧ a ≤ s ∧ mid + m - s ≤ b := by omega
  -- where each place of the new list comes from
  have src : ∀ k, l'[k]? = l[rotAt s m (mid + m - s) k]? := by
    rcases hl with ⟨_, _, h⟩ | ⟨h, e⟩
    · exact h
    · subst e
      intro k
      congr 1
      simp only [rotAt]
      (repeat' split) <;> omega
  have cross1 : ∀ i j x y, a ≤ i → i < s → mid + m - s ≤ j → j < b → l[i]? = some x → l[j]? = some y → leO x y := by
    intro i j x y i1 i2 j1 j2 hx hy
    rcases bl with e | ⟨u, v, hu, hv, huv⟩
    · omega
    · have e1 : mid + m - 1 - (s - 1) = mid + m - s := by omega
      rw [e1] at hu
      exact leO_trans (leR s1 i1 (by omega : i ≤ s - 1) (by omega) hx hv) (leO_trans huv (leR s2 (by omega) j1 j2 hu hy))
  have cross2 : ∀ i j x y, m ≤ i → i < mid + m - s → s ≤ j → j < m → l[i]? = some x → l[j]? = some y → leO x y := by
    intro i j x y i1 i2 j1 j2 hx hy
    rcases br with e | ⟨u, v, hu, hv, huv⟩
    · omega
    · exact leO_trans (leR s2 i1 (by omega : i ≤ mid + m - 1 - s) (by omega) hx hu) (leO_trans (leO_of_lt huv) (leR s1 (by omega) j1 j2 hv hy))
  have r1 : ∀ k, k < s → rotAt s m (mid + m - s) k = k := fun k h => by simp only [rotAt]; rw [if_neg (by omega), if_neg (by omega)]
  have r2 : ∀ k, s ≤ k → k < mid → rotAt s m (mid + m - s) k = k + (m - s) := fun k h h' => by simp only [rotAt]; rw [if_pos (by omega)]
  have r3 : ∀ k, mid ≤ k → k < mid + m - s → rotAt s m (mid + m - s) k = k - (mid - s) := fun k h h' => by simp only [rotAt]; rw [if_neg (by omega), if_pos (by omega)]; omega
  have r4 : ∀ k, mid + m - s ≤ k → rotAt s m (mid + m - s) k = k := fun k h => by simp only [rotAt]; rw [if_neg (by omega), if_neg (by omega)]
  refine ⟨?_, ?_, ?_, ?_, ?_⟩
  · intro i j x y h1 h2 h3 hx hy
    rw [src, r1 i (by omega)] at hx; rw [src, r1 j (by omega)] at hy
    exact s1 i j x y h1 h2 (by omega) hx hy
  · intro i j x y h1 h2 h3 hx hy
    rw [src, r2 i (by omega) (by omega)] at hx; rw [src, r2 j (by omega) (by omega)] at hy
    exact s2 _ _ x y (by omega) (by omega) (by omega) hx hy
  · intro i j x y h1 h2 h3 hx hy
    rw [src, r3 i (by omega) (by omega)] at hx; rw [src, r3 j (by omega) (by omega)] at hy
    exact s1 _ _ x y (by omega) (by omega) (by omega) hx hy
  · intro i j x y h1 h2 h3 hx hy
    rw [src, r4 i (by omega)] at hx; rw [src, r4 j (by omega)] at hy
    exact s2 _ _ x y (by omega) (by omega) (by omega) hx hy
  · intro i j x y i1 i2 j1 j2 hx hy
    rw [src] at hx hy
    by_cases ei : i < s
    · rw [r1 i ei] at hx
      by_cases ej : j < mid + m - s
      · rw [r3 j j1 ej] at hy
        exact leR s1 i1 (by omega) (by omega) hx hy
      · rw [r4 j (by omega)] at hy
        exact cross1 _ _ _ _ i1 ei (by omega) j2 hx hy
    · rw [r2 i (by omega) i2] at hx
      by_cases ej : j < mid + m - s
      · rw [r3 j j1 ej] at hy
        exact cross2 _ _ _ _ (by omega) (by omega) (by omega) (by omega) hx hy
      · rw [r4 j (by omega)] at hy
        exact leR s2 (by omega) (by omega) j2 hx hy
/-- Both halves sorted within themselves: the whole is. -/
theorem halves_end {l l1 l2 : List Object} {a s mid e b : Nat} (h : Halves l a s mid e b) (hm : a ≤ mid ∧ mid ≤ b) (w1 : Within l l1 a mid) (s1 : SortedR l1 a mid) (w2 : Within l1 l2 mid b) (s2 : SortedR l2 mid b) : SortedR l2 a b := by
  intro i j x y i1 ij j2 hx hy
  by_cases hj : j < mid
  · rw [w2.out i (by omega)] at hx; rw [w2.out j (by omega)] at hy
    exact s1 i j x y i1 ij hj hx hy
  · by_cases hi : i < mid
    · rw [w2.out i (by omega)] at hx
      obtain ⟨j', j1', j2', ej⟩ := w2.ins j (by omega) j2
      obtain ⟨i', i1', i2', ei⟩ := w1.ins i i1 hi
      rw [ej, w1.out j' (by omega)] at hy
      rw [ei] at hx
      exact h.across i' j' x y i1' i2' j1' j2' hx hy
    · exact s2 i j x y (by omega) ij j2 hx hy

def upAt (a k p : Nat) : Nat := if p < a then p else if p < k then p + 1 else if p = k then a else p
theorem up_start (l : List Object) (a : Nat) : ∀ p, l[p]? = l[upAt a a p]? := fun p => by
  congr 1; simp only [upAt]; (repeat' split) <;> omega
theorem up_step {l c : List Object} {a k : Nat} {x y : Object} (h : ∀ p, c[p]? = l[upAt a k p]?) (hk : a ≤ k) (hx : c[k]? = some x) (hy : c[k + 1]? = some y) : ∀ p, (sw c k (k + 1) x y)[p]? = l[upAt a (k + 1) p]? := fun p => by
  rw [sw_get hx hy, h]
  congr 1
  simp only [upAt]
  by_cases e1 : p = k + 1
  · subst e1; rw [if_pos rfl, if_neg (by omega), if_neg (by omega), if_pos rfl, if_neg (by omega), if_neg (by omega), if_pos rfl]
  · rw [if_neg e1]
    by_cases e2 : p = k
    · subst e2; rw [if_pos rfl, if_neg (by omega), if_neg (by omega), if_neg (by omega), if_neg (by omega), if_pos (by omega)]
    · rw [if_neg e2]; (repeat' split) <;> omega
theorem up_within {l l' : List Object} {a i b : Nat} (h1 : a ≤ i) (h2 : i < b) (hl : l'.length = l.length) (hp : l'.Perm l) (h : ∀ p, l'[p]? = l[upAt a i p]?) : Within l l' a b where
  len := hl
  perm := hp
  out k hk := by rw [h]; congr 1; simp only [upAt]; (repeat' split) <;> omega
  ins k k1 k2 := by
    refine ⟨_, ?_, ?_, h k⟩ <;> (simp only [upAt]; (repeat' split) <;> omega)
def downAt (m k p : Nat) : Nat := if p < k then p else if p = k then m else if p ≤ m then p - 1 else p
theorem down_start (l : List Object) (m : Nat) : ∀ p, l[p]? = l[downAt m m p]? := fun p => by
  congr 1; simp only [downAt]; (repeat' split) <;> omega
theorem down_step {l c : List Object} {m k : Nat} {x y : Object} (h : ∀ p, c[p]? = l[downAt m k p]?) (hk : k ≤ m) (h0 : 0 < k) (hx : c[k]? = some x) (hy : c[k - 1]? = some y) : ∀ p, (sw c k (k - 1) x y)[p]? = l[downAt m (k - 1) p]? := fun p => by
  rw [sw_get hx hy, h]
  congr 1
  simp only [downAt]
  by_cases e1 : p = k - 1
  · subst e1; rw [if_pos rfl, if_neg (by omega), if_pos rfl, if_neg (by omega), if_pos rfl]
  · rw [if_neg e1]
    by_cases e2 : p = k
    · subst e2; rw [if_pos rfl, if_pos (by omega), if_neg (by omega), if_neg (by omega), if_pos (by omega)]
    · rw [if_neg e2]; (repeat' split) <;> omega
theorem down_within {l l' : List Object} {a i m b : Nat} (h1 : a ≤ i) (h3 : i ≤ m) (h2 : m < b) (hl : l'.length = l.length) (hp : l'.Perm l) (h : ∀ p, l'[p]? = l[downAt m i p]?) : Within l l' a b where
  len := hl
  perm := hp
  out k hk := by rw [h]; congr 1; simp only [downAt]; (repeat' split) <;> omega
  ins k k1 k2 := by
    refine ⟨_, ?_, ?_, h k⟩ <;> (simp only [downAt]; (repeat' split) <;> omega)
theorem bs_left {l : List Object} {p lo hi s r : Nat} {x y : Object} (h : Bs l p lo hi s r) (hs : s < r) (hx : l[p - (s + r) / 2]? = some x) (hy : l[(s + r) / 2]? = some y) (hl : keyLess x.key y.key = false) : Bs l p lo hi ((s + r) / 2 + 1) r :=
  ⟨by have := h.le; omega, .inr ⟨x, y, by rw [Nat.add_sub_cancel]; exact hx, by rw [Nat.add_sub_cancel]; exact hy, hl⟩, h.right⟩
theorem bs_right {l : List Object} {p lo hi s r : Nat} {x y : Object} (h : Bs l p lo hi s r) (hs : s < r) (hx : l[p - (s + r) / 2]? = some x) (hy : l[(s + r) / 2]? = some y) (hl : keyLess x.key y.key = true) : Bs l p lo hi s ((s + r) / 2) :=
  ⟨by have := h.le; omega, h.left, .inr ⟨x, y, hx, hy, hl⟩⟩
/-- One element is moved up to its place. -/
theorem up_end {l l' : List Object} {a m b i : Nat} (h1 : m = a + 1) (hi : m ≤ i ∧ i ≤ b) (s2 : SortedR l m b) (hb : b ≤ l.length)
    (hleft : i = m ∨ ∃ x y, l[i - 1]? = some x ∧ l[a]? = some y ∧ keyLess x.key y.key = true) (hright : i = b ∨ ∃ x y, l[i]? = some x ∧ l[a]? = some y ∧ keyLess x.key y.key = false)
    (hl : ∀ k, l'[k]? = l[upAt a (i - 1) k]?) : SortedR l' a b := by
  intro p q x y p1 pq q2 hx hy
  simp only [upAt] at hl
  rw [hl, if_neg (by omega)] at hx
  rw [hl, if_neg (by omega)] at hy
  by_cases e1 : q < i - 1
  · rw [if_pos e1] at hy
    rw [if_pos (by omega)] at hx
    exact s2 _ _ x y (by omega) (by omega) (by omega) hx hy
  · rw [if_neg e1] at hy
    by_cases e2 : q = i - 1
    · rw [if_pos e2] at hy
      rw [if_pos (by omega)] at hx
      rcases hleft with e | ⟨u, v, hu, hv, huv⟩
      · omega
      · rw [hv] at hy; cases hy
        exact leO_trans (leR s2 (by omega) (by omega : p + 1 ≤ i - 1) (by omega) hx hu) (leO_of_lt huv)
    · rw [if_neg e2] at hy
      by_cases e3 : p < i - 1
      · rw [if_pos e3] at hx
        exact s2 _ _ x y (by omega) (by omega) (by omega) hx hy
      · rw [if_neg e3] at hx
        by_cases e4 : p = i - 1
        · rw [if_pos e4] at hx
          rcases hright with e | ⟨u, v, hu, hv, huv⟩
          · omega
          · rw [hv] at hx; cases hx
            exact leO_trans huv (leR s2 (by omega) (by omega : i ≤ q) (by omega) hu hy)
        · rw [if_neg e4] at hx
          exact s2 _ _ x y (by omega) (by omega) (by omega) hx hy
/-- One element is moved down to its place. -/
theorem down_end {l l' : List Object} {a m b i : Nat} (h1 : b = m + 1) (hi : a ≤ i ∧ i ≤ m) (s1 : SortedR l a m) (hb : b ≤ l.length)
    (hleft : i = a ∨ ∃ x y, l[m]? = some x ∧ l[i - 1]? = some y ∧ keyLess x.key y.key = false) (hright : i = m ∨ ∃ x y, l[m]? = some x ∧ l[i]? = some y ∧ keyLess x.key y.key = true)
    (hl : ∀ k, l'[k]? = l[downAt m i k]?) : SortedR l' a b := by
  intro p q x y p1 pq q2 hx hy
  simp only [downAt] at hl
  rw [hl] at hx hy
  by_cases e1 : q < i
  · rw [if_pos e1] at hy; rw [if_pos (by omega)] at hx
    exact s1 _ _ x y (by omega) (by omega) (by omega) hx hy
  · rw [if_neg e1] at hy
    by_cases e2 : q = i
    · rw [if_pos e2] at hy; rw [if_pos (by omega)] at hx
      rcases hleft with e | ⟨u, v, hu, hv, huv⟩
      · omega
      · rw [hu] at hy; cases hy
        exact leO_trans (leR s1 (by omega) (by omega : p ≤ i - 1) (by omega) hx hv) huv
    · rw [if_neg e2, if_pos (by omega)] at hy
      by_cases e3 : p < i
      · rw [if_pos e3] at hx
        exact leR s1 (by omega) (by omega) (by omega) hx hy
      · rw [if_neg e3] at hx
        by_cases e4 : p = i
        · rw [if_pos e4] at hx
          rcases hright with e | ⟨u, v, hu, hv, huv⟩
          · omega
          · rw [hu] at hx; cases hx
            exact leO_trans (leO_of_lt huv) (leR s1 (by omega) (by omega : i ≤ q - 1) (by omega) hv hy)
        · rw [if_neg e4, if_pos (by omega)] at hx
          exact s1 _ _ x y (by omega) (by omega) (by omega) hx hy
end Go.Proofs.Fw
/- The stable sort's blocks; a list's one order: in plain Lean. -/
namespace Go.Proofs.Fw
open Go
set_option linter.unusedVariables false

def Blocks (c : List Object) (u : Nat) : Prop := ∀ t, SortedR c (t * u) ((t + 1) * u)
theorem SortedR.clip {c : List Object} {a b : Nat} (h : SortedR c a c.length) : SortedR c a b := fun i j x y h1 h2 _ h4 h5 => h i j x y h1 h2 (List.getElem?_eq_some_iff.1 h5).1 h4 h5
theorem SortedR.void {c : List Object} {a b : Nat} (h : c.length ≤ a) : SortedR c a b := fun i j x y h1 h2 _ h4 h5 => by have := (List.getElem?_eq_some_iff.1 h5).1; omega
structure StU (c : List Object) (u a : Nat) : Prop where
  q : ∃ q, a = q * u
  done : ∀ t, (t + 1) * u ≤ a → SortedR c (t * u) ((t + 1) * u)
theorem stU_start (c : List Object) {u : Nat} (hu : 0 < u) : StU c u 0 := ⟨⟨0, by simp⟩, fun t h => by rw [Nat.succ_mul] at h; omega⟩
theorem stU_step {c c' : List Object} {u a : Nat} (h : StU c u a) (hu : 0 < u) (w : Within c c' a (a + u)) (s : SortedR c' a (a + u)) : StU c' u (a + u) := by
  obtain ⟨q, hq⟩ := h.q
  refine ⟨⟨q + 1, by rw [Nat.succ_mul, hq]⟩, fun t ht => ?_⟩
  have e1 : a + u = (q + 1) * u := by rw [Nat.succ_mul, hq]
  have h1 : t + 1 ≤ q + 1 := Nat.le_of_mul_le_mul_right (by rw [← e1]; exact ht) hu
  rcases Nat.lt_or_ge t q with h2 | h2
  · have h3 : (t + 1) * u ≤ a := by rw [hq]; exact Nat.mul_le_mul_right _ h2
    exact SortedR.out w (h.done t h3) (.inl h3)
  · have : t = q := by omega
    subst this
    rw [← e1, ← hq]; exact s
theorem stU_end {c c' : List Object} {u a : Nat} (h : StU c u a) (hn : c.length < a + u) (w : Within c c' a c.length) (s : SortedR c' a c.length) : Blocks c' u := fun t => by
  obtain ⟨q, hq⟩ := h.q
  rcases Nat.lt_trichotomy t q with h2 | h2 | h2
  · have h3 : (t + 1) * u ≤ a := by rw [hq]; exact Nat.mul_le_mul_right _ h2
    exact SortedR.out w (h.done t h3) (.inl h3)
  · subst h2
    rw [← hq]
    rw [← w.len] at s
    exact s.clip
  · refine SortedR.void ?_
    have h3 : (q + 1) * u ≤ t * u := Nat.mul_le_mul_right _ h2
    rw [Nat.succ_mul, ← hq] at h3
    rw [w.len]; omega
structure StB (c : List Object) (u a : Nat) : Prop where
  st : StU c (2 * u) a
  rest : ∀ t, a ≤ t * u → SortedR c (t * u) ((t + 1) * u)
theorem stB_start {c : List Object} {u : Nat} (hu : 0 < u) (h : Blocks c u) : StB c u 0 := ⟨stU_start c (by omega), fun t _ => h t⟩
theorem stB_pre {c : List Object} {u a : Nat} (h : StB c u a) : SortedR c a (a + u) ∧ SortedR c (a + u) (a + 2 * u) := by
  obtain ⟨q, hq⟩ := h.st.q
  have e1 : (2 * q) * u = a := by rw [hq, Nat.mul_comm 2 q, Nat.mul_assoc]
  have e2 : (2 * q + 1) * u = a + u := by rw [Nat.succ_mul, e1]
  have e3 : (2 * q + 1 + 1) * u = a + 2 * u := by rw [Nat.succ_mul, e2]; omega
  have h1 := h.rest (2 * q) (by rw [e1]; exact Nat.le_refl _)
  have h2 := h.rest (2 * q + 1) (by rw [e2]; omega)
  rw [e1, e2] at h1
  rw [e2, e3] at h2
  exact ⟨h1, h2⟩
theorem stB_step {c c' : List Object} {u a : Nat} (h : StB c u a) (hu : 0 < u) (w : Within c c' a (a + 2 * u)) (s : SortedR c' a (a + 2 * u)) : StB c' u (a + 2 * u) :=
  ⟨stU_step h.st (by omega) w s, fun t ht => SortedR.out w (h.rest t (by omega)) (.inr ht)⟩
theorem stB_end1 {c c' : List Object} {u a : Nat} (h : StB c u a) (hn : c.length < a + 2 * u) (w : Within c c' a c.length) (s : SortedR c' a c.length) : Blocks c' (u * 2) := by
  rw [Nat.mul_comm]; exact stU_end h.st hn w s
theorem stB_end2 {c : List Object} {u a : Nat} (h : StB c u a) (hu : 0 < u) (hn : c.length ≤ a + u) : Blocks c (u * 2) := by
  rw [Nat.mul_comm]
  exact stU_end h.st (by omega) (.refl c a c.length) ((stB_pre h).1.sub (Nat.le_refl _) hn)
theorem blocks_end {c : List Object} {u : Nat} (h : Blocks c u) (hn : c.length ≤ u) : SortedR c 0 c.length := by
  have := h 0
  rw [Nat.zero_mul, Nat.zero_add, Nat.one_mul] at this
  exact this.sub (Nat.le_refl _) hn

/-! ### One order alone -/
def Apart (l : List Object) : Prop := ∀ x ∈ l, ∀ y ∈ l, leO x y → leO y x → x = y
theorem sorted_cons {x : Object} {l : List Object} (h : SortedR (x :: l) 0 (x :: l).length) : (∀ y ∈ l, leO x y) ∧ SortedR l 0 l.length := by
  refine ⟨fun y hy => ?_, fun i j u v h1 h2 h3 h4 h5 => ?_⟩
  · obtain ⟨j, hj⟩ := List.getElem?_of_mem hy
    exact h 0 (j + 1) x y (Nat.zero_le _) (by omega) (by have := (List.getElem?_eq_some_iff.1 hj).1; simp; omega) rfl (by simpa using hj)
  · exact h (i + 1) (j + 1) u v (Nat.zero_le _) (by omega) (by simp; omega) (by simpa using h4) (by simpa using h5)
theorem one_order : ∀ {l l' : List Object}, l.Perm l' → SortedR l 0 l.length → SortedR l' 0 l'.length → Apart l → l = l'
  | [], l', hp, _, _, _ => (List.nil_perm.1 hp).symm
  | x :: l, [], hp, _, _, _ => absurd hp.length_eq (by simp)
  | x :: l, y :: l', hp, h1, h2, ha => by
    obtain ⟨a1, a2⟩ := sorted_cons h1
    obtain ⟨b1, b2⟩ := sorted_cons h2
    have hxy : x = y := by
      have hx : x ∈ y :: l' := hp.mem_iff.1 List.mem_cons_self
      have hy : y ∈ x :: l := hp.mem_iff.2 List.mem_cons_self
      rcases List.mem_cons.1 hx with e | hx
      · exact e
      · rcases List.mem_cons.1 hy with e | hy
        · exact e.symm
        · exact ha x List.mem_cons_self y (List.mem_cons_of_mem _ hy) (a1 y hy) (b1 x hx)
    subst hxy
    rw [one_order (hp.cons_inv) a2 b2 (fun u hu v hv => ha u (List.mem_cons_of_mem _ hu) v (List.mem_cons_of_mem _ hv))]
theorem insO_perm (o : Object) : ∀ l, (insO o l).Perm (o :: l)
  | [] => .refl _
  | x :: r => by
    unfold insO; split
    · exact .refl _
    · exact ((insO_perm o r).cons x).trans (.swap o x r)
theorem fold_perm : ∀ (l out : List Object), (l.foldl (fun out o => insO o out) out).Perm (l ++ out)
  | [], out => .refl _
  | a :: l, out => by
    refine (fold_perm l (insO a out)).trans ?_
    exact ((insO_perm a out).append_left l).trans (List.perm_middle)
theorem sortO_perm (l : List Object) : (sortO l).Perm l := by simpa [sortO] using fold_perm l []
theorem le_total_of_not {a b : Object} (h : keyLess a.key b.key = false) : leO b a := h
theorem insO_sorted {o : Object} : ∀ {l : List Object}, SortedR l 0 l.length → SortedR (insO o l) 0 (insO o l).length
  | [], _ => fun i j x y _ h2 h3 => by simp [insO] at h3; omega
  | x :: r, h => by
    obtain ⟨a1, a2⟩ := sorted_cons h
    have build : ∀ {z : Object} {s : List Object}, (∀ y ∈ s, leO z y) → SortedR s 0 s.length → SortedR (z :: s) 0 (z :: s).length := by
      intro z s hz hs i j u v h1 h2 h3 h4 h5
      cases j with
      | zero => omega
      | succ j =>
        have hj : s[j]? = some v := by simpa using h5
        cases i with
        | zero => simp at h4; subst h4; exact hz v (List.mem_of_getElem? hj)
        | succ i => exact hs i j u v (Nat.zero_le _) (by omega) (by simpa using h3) (by simpa using h4) hj
    unfold insO
    split
    · rename_i hl
      refine build (fun y hy => ?_) h
      rcases List.mem_cons.1 hy with e | hy
      · subst e; exact leO_of_lt hl
      · exact leO_trans (leO_of_lt hl) (a1 y hy)
    · rename_i hl
      refine build (fun y hy => ?_) (insO_sorted a2)
      rcases mem_insO hy with e | hy
      · subst e; exact (by simpa using hl : keyLess y.key x.key = false)
      · exact a1 y hy
theorem fold_sorted : ∀ (l out : List Object), SortedR out 0 out.length → SortedR (l.foldl (fun out o => insO o out) out) 0 (l.foldl (fun out o => insO o out) out).length
  | [], _, h => h
  | a :: l, out, h => fold_sorted l _ (insO_sorted h)
theorem sortO_sorted (l : List Object) : SortedR (sortO l) 0 (sortO l).length := fold_sorted l [] (fun i j x y _ _ h => by simp at h)
theorem sorted_is {l l' : List Object} (hp : l'.Perm l) (hs : SortedR l' 0 l'.length) (ha : Apart l) : l' = sortO l :=
  one_order (hp.trans (sortO_perm l).symm) hs (sortO_sorted l) (fun x hx y hy => ha x (hp.mem_iff.1 hx) y (hp.mem_iff.1 hy))
end Go.Proofs.Fw
/- Keys of a map that are structs of plain fields. -/
namespace Go.Proofs.Fw
open Go Go.Shelf Go.RowKit
set_option linter.unusedVariables false
set_option linter.unusedSimpArgs false
variable {P : Program}

theorem checkKey_plain {e : Bool} {d : Nat} {t : TypeId} {v : Value} {w : World} (h : plainD (P.underlying t) = true) : (Instr.checkKey e (d + 1) t v).run P w = .ok () w := by
  unfold plainD at h
  split at h
  · rename_i h'; simp [Instr.checkKey, run_underlying h']
  · rename_i h'; simp [Instr.checkKey, run_underlying h']
  · rename_i h'; simp [Instr.checkKey, run_underlying h']
  · cases h

theorem checkFields {e : Bool} {d : Nat} {arr : Array Value} {w : World} : ∀ (fs : List Field) (j : Nat), fieldsOk P fs j = true → arr.size = j + fs.length →
    Sem.run P (forIn fs PUnit.unit fun f r => do
      if f.name ≠ "_" then do
        let a ← part f.type arr f.offset
        Instr.checkKey e (d + 1) f.type a
        pure (ForInStep.yield PUnit.unit)
      else pure (ForInStep.yield PUnit.unit)) w = .ok PUnit.unit w
  | [], j, _, _ => by simp
  | f :: fs, j, hf, hs => by
    simp only [fieldsOk, Bool.and_eq_true, decide_eq_true_eq, beq_iff_eq] at hf
    obtain ⟨⟨⟨hname, hoff⟩, hpl⟩, hrest⟩ := hf
    have hja : j < arr.size := by simp at hs; omega
    have ha : arr[j]? = some (arr[j]'hja) := Array.getElem?_eq_getElem hja
    have ih := checkFields (e := e) (d := d) (arr := arr) (w := w) fs (j + 1) hrest (by simp at hs; omega)
    simp only [List.forIn_cons, hname, ne_eq, not_false_eq_true, if_true, Sem.run_bind, hoff, run_part_plain hpl ha, Result.andThen_ok, checkKey_plain hpl, Sem.run_pure]
    exact ih

theorem checkKey_struct {e : Bool} {d : Nat} {t : TypeId} {fs : Array Field} {arr : Array Value} {w : World} (hu : P.underlying t = some (.struct fs)) (hf : fieldsOk P fs.toList 0 = true) (hs : arr.size = 0 + fs.toList.length) :
    (Instr.checkKey e (d + 1 + 1) t (.agg arr)).run P w = .ok () w := by
  have := checkFields (P := P) (e := e) (d := d) (arr := arr) (w := w) fs.toList 0 hf hs
  rw [Instr.checkKey]
  simp only [Sem.run_bind, run_underlying hu, Result.andThen_ok]
  rw [← Array.forIn_toList]
  rw [this]; rfl

theorem keyR_key {t : TypeId} {fs : Array Field} (hu : P.underlying t = some (.struct fs)) (ht : plainS P t = true) (hn : fs.size = 3) (hl : ∀ a b c a' b' c' : ByteArray, likeAll P fs.toList [.str a, .str b, .str c] [.str a', .str b', .str c'] = true) : KeyR P t encKey where
  check V w v x e hv := by
    cases hv with
    | agg _ arr h1 hc =>
      have hf : fieldsOk P fs.toList 0 = true := by
        simp only [plainS, Bool.and_eq_true] at ht
        have := ht.1.1
        rw [hu] at this; exact this
      have hsz : arr.size = 0 + fs.toList.length := by simp at h1; simp [h1, hn]
      exact checkKey_struct (d := 9998) hu hf hsz
  eq V w v u x y hv hu' := by
    have := (equal_struct (w := w) ht (by rw [hu]; exact hl _ _ _ _ _ _) hv hu').1
    rw [this, keyEq]
  now := ⟨_, hu, .inr fun V v u x y _ _ => by simp [Instr.sameNow]⟩
  same V v u x hv hu' := by
    cases hv with
    | agg _ arr h1 hc =>
      cases hu' with
      | agg _ brr h2 hc2 =>
        have key : ∀ i : Nat, ∀ (hi : i < 3), ∃ s, arr[i]? = some (.string s) ∧ brr[i]? = some (.string s) := by
          intro i hi
          have ha : i < arr.size := by simp at h1; omega
          have hb : i < brr.size := by simp at h2; omega
          have e1 := Array.getElem?_eq_getElem ha
          have e2 := Array.getElem?_eq_getElem hb
          have hx : ∃ s, [AV.str x.kind, .str x.space, .str x.name][i]? = some (.str s) := by
            match i, hi with
            | 0, _ => exact ⟨_, rfl⟩
            | 1, _ => exact ⟨_, rfl⟩
            | 2, _ => exact ⟨_, rfl⟩
          obtain ⟨s, hs⟩ := hx
          have v1 := hc i _ _ hs e1
          have v2 := hc2 i _ _ hs e2
          generalize arr[i] = z1 at v1 e1
          generalize brr[i] = z2 at v2 e2
          cases v1; cases v2
          exact ⟨s, e1, e2⟩
        have he : arr = brr := by
          apply Array.ext_getElem?
          intro i
          rcases Nat.lt_or_ge i 3 with h | h
          · obtain ⟨s, a, b⟩ := key i h; rw [a, b]
          · rw [Array.getElem?_eq_none (by simp at h1; omega), Array.getElem?_eq_none (by simp at h2; omega)]
        subst he
        obtain ⟨s0, a0, _⟩ := key 0 (by omega)
        obtain ⟨s1, a1, _⟩ := key 1 (by omega)
        obtain ⟨s2, a2, _⟩ := key 2 (by omega)
        have hl3 : arr.size = 3 := by simpa using h1
        have : arr = #[.string s0, .string s1, .string s2] := by
          apply Array.ext_getElem?
          intro i
          match i with
          | 0 => simpa using a0
          | 1 => simpa using a1
          | 2 => simpa using a2
          | i + 3 => rw [Array.getElem?_eq_none (by omega)]; simp
        rw [this]
        simp [Instr.sameBits, bytes_eq]
def Object.wv (o : Object) (v : Int) : Object := { o with ver := v }
end Go.Proofs.Fw
/- The reference's store, in plain Lean. -/
namespace Go.Proofs.Fw
open Go
def apartE (e f : Evt) : Bool := !decide (f.obj.key = e.obj.key)
def objsOf : List Evt → List Object
  | [] => []
  | e :: r => if r.all (apartE e) && decide (e.kind = 0) then e.obj :: objsOf r else objsOf r
theorem objs_step {L : List Evt} {out : List Object} {i : Nat} {e : Evt} (h : out ++ objsOf (L.drop i) = objsOf L) (he : L[i]? = some e) :
    (if (L.drop (i + 1)).all (apartE e) && decide (e.kind = 0) then out ++ [e.obj] else out) ++ objsOf (L.drop (i + 1)) = objsOf L := by
  rw [drop_at he] at h
  rw [← h, objsOf]
  split <;> simp
theorem objs_len : ∀ L : List Evt, (objsOf L).length ≤ L.length
  | [] => Nat.le_refl _
  | e :: r => by
    have := objs_len r
    rw [objsOf]; split <;> simp <;> omega
theorem mem_objs {o : Object} : ∀ {L : List Evt}, o ∈ objsOf L → ∃ e ∈ L, e.obj = o
  | [], h => by simp [objsOf] at h
  | e :: r, h => by
    rw [objsOf] at h
    split at h
    · rcases List.mem_cons.1 h with h | h
      · exact ⟨e, List.mem_cons_self, h.symm⟩
      · obtain ⟨f, hf, e1⟩ := mem_objs h; exact ⟨f, List.mem_cons_of_mem _ hf, e1⟩
    · obtain ⟨f, hf, e1⟩ := mem_objs h; exact ⟨f, List.mem_cons_of_mem _ hf, e1⟩
structure Wr where
  gone : Bool
  o : Object
def encWr (w : Wr) : AV := .agg [.bool w.gone, .str w.o.key.kind, .str w.o.key.space, .str w.o.key.name, .int .i64 w.o.ver, .str w.o.cls, .bool w.o.term, .bool w.o.best, .slice (w.o.charge.map encRes) .any]
theorem encWr_sz (w : Wr) : (encWr w).cells.length = 9 := rfl
theorem encWr_flat (w : Wr) : (encWr w).flatB = true := rfl
def wrFits (l : List Wr) (i : Nat) : Bool := match l[i]? with
  | some w => objFitsB w.o
  | none => true
def wrsFit (l : List Wr) : Bool := !decide ((60 : Int) < (l.length : Int)) && (List.range l.length).all (wrFits l)
end Go.Proofs.Fw
/- The store and the reference's store go on together: in plain Lean. -/
namespace Go.Proofs.Fw
open Go
def keyIs (k : Key) (o : Object) : Bool := decide (o.key = k)
theorem objs_append (e : Evt) : ∀ L : List Evt, objsOf (L ++ [e]) = (objsOf L).filter (fun o => !keyIs e.obj.key o) ++ (if e.kind = 0 then [e.obj] else [])
  | [] => by simp [objsOf]
  | f :: r => by
    have ih := objs_append e r
    simp only [List.cons_append, objsOf, List.all_append, List.all_cons, List.all_nil, Bool.and_true, ih]
    by_cases h1 : r.all (apartE f) = true
    · by_cases h2 : f.kind = 0
      · by_cases h3 : e.obj.key = f.obj.key
        · simp [h1, h2, h3, apartE, keyIs]
        · have h3' : ¬ f.obj.key = e.obj.key := fun h => h3 h.symm
          simp [h1, h2, h3, h3', apartE, keyIs]
      · simp [h2]
    · simp [h1]
theorem mset_cons {α : Type} (p : Key × α) (M : List (Key × α)) (k : Key) (o : α) : mset (p :: M) k o = if k = p.1 then (k, o) :: M else p :: mset M k o := by
  unfold mset midx
  rw [List.findIdx?_cons]
  by_cases h : k = p.1
  · simp [h]
  · simp only [h, decide_false, Bool.false_eq_true, if_false]
    cases hm : M.findIdx? (fun q => decide (k = q.1)) with
    | none => simp
    | some i => simp
theorem mget_cons {α : Type} (p : Key × α) (M : List (Key × α)) (k : Key) : mget (p :: M) k = if k = p.1 then some p.2 else mget M k := by
  unfold mget
  rw [List.find?_cons]
  by_cases h : k = p.1
  · simp [h]
  · simp [h]
theorem mdel_cons {α : Type} (p : Key × α) (M : List (Key × α)) (k : Key) : mdel (p :: M) k = if k = p.1 then M else p :: mdel M k := by
  unfold mdel
  rw [List.eraseP_cons]
  by_cases h : k = p.1
  · simp [h]
  · simp [h]
structure SInv (M : List (Key × Object)) (L : List Evt) : Prop where
  keyed : ∀ p ∈ M, p.2.key = p.1
  nodup : (M.map (·.1)).Nodup
  perm : (M.map (·.2)).Perm (objsOf L)
theorem mset_keyed {M : List (Key × Object)} {o : Object} (h : ∀ p ∈ M, p.2.key = p.1) : ∀ p ∈ mset M o.key o, p.2.key = p.1 := by
  induction M with
  | nil => intro p hp; simp [mset, midx] at hp; subst hp; rfl
  | cons q M ih =>
    intro p hp
    rw [mset_cons] at hp
    split at hp
    · rcases List.mem_cons.1 hp with e | hp
      · subst e; rfl
      · exact h p (List.mem_cons_of_mem _ hp)
    · rcases List.mem_cons.1 hp with e | hp
      · subst e; exact h p List.mem_cons_self
      · exact ih (fun p hp => h p (List.mem_cons_of_mem _ hp)) p hp
theorem mset_keys {M : List (Key × Object)} {k k' : Key} {o : Object} (hp : k' ∈ (mset M k o).map (·.1)) : k' = k ∨ k' ∈ M.map (·.1) := by
  induction M with
  | nil => simp [mset, midx] at hp; exact .inl hp
  | cons q M ih =>
    rw [mset_cons] at hp
    split at hp
    · rename_i hk
      rcases List.mem_cons.1 hp with e | hp
      · exact .inl e
      · exact .inr (List.mem_cons_of_mem _ hp)
    · rcases List.mem_cons.1 hp with e | hp
      · exact .inr (by rw [e]; exact List.mem_cons_self)
      · exact (ih hp).imp id (List.mem_cons_of_mem _)
theorem mset_nodup {M : List (Key × Object)} {k : Key} {o : Object} (h : (M.map (·.1)).Nodup) : ((mset M k o).map (·.1)).Nodup := by
  induction M with
  | nil => simp [mset, midx]
  | cons q M ih =>
    simp only [List.map_cons, List.nodup_cons] at h
    rw [mset_cons]
    split
    · rename_i hk
      simp only [List.map_cons, List.nodup_cons]
      exact ⟨by rw [hk]; exact h.1, h.2⟩
    · rename_i hk
      simp only [List.map_cons, List.nodup_cons]
      refine ⟨fun hm => ?_, ih h.2⟩
      rcases mset_keys hm with e | e
      · exact hk e.symm
      · exact h.1 e
theorem filter_all {M : List (Key × Object)} {k : Key} (h : ∀ p ∈ M, p.2.key = p.1) (hn : k ∉ M.map (·.1)) : (M.map (·.2)).filter (fun o => !keyIs k o) = M.map (·.2) := by
  rw [List.filter_eq_self]
  intro o ho
  obtain ⟨p, hp, e⟩ := List.mem_map.1 ho
  subst e
  simp only [keyIs, h p hp, Bool.not_eq_true', decide_eq_false_iff_not]
  exact fun e => hn (by rw [← e]; exact List.mem_map.2 ⟨p, hp, rfl⟩)
theorem mset_vals {M : List (Key × Object)} {o : Object} (h : ∀ p ∈ M, p.2.key = p.1) (hn : (M.map (·.1)).Nodup) : ((mset M o.key o).map (·.2)).Perm ((M.map (·.2)).filter (fun x => !keyIs o.key x) ++ [o]) := by
  induction M with
  | nil => simp [mset, midx]
  | cons q M ih =>
    have hq := h q List.mem_cons_self
    have hM := fun p hp => h p (List.mem_cons_of_mem _ hp)
    simp only [List.map_cons, List.nodup_cons] at hn
    rw [mset_cons]
    split
    · rename_i hk
      have hd : keyIs o.key q.2 = true := by simp [keyIs, hq, hk]
      simp only [List.map_cons, List.filter_cons, hd, Bool.not_true, Bool.false_eq_true, if_false]
      rw [filter_all hM (by rw [hk]; exact hn.1)]
      exact (List.perm_append_singleton o _).symm
    · rename_i hk
      have hd : keyIs o.key q.2 = false := by simp only [keyIs, hq, decide_eq_false_iff_not]; exact fun e => hk e.symm
      simp only [List.map_cons, List.filter_cons, hd, Bool.not_false, if_true, List.cons_append]
      exact (ih hM hn.2).cons _
theorem mdel_vals {M : List (Key × Object)} {k : Key} (h : ∀ p ∈ M, p.2.key = p.1) (hn : (M.map (·.1)).Nodup) : (mdel M k).map (·.2) = (M.map (·.2)).filter (fun x => !keyIs k x) := by
  induction M with
  | nil => rfl
  | cons q M ih =>
    have hq := h q List.mem_cons_self
    have hM := fun p hp => h p (List.mem_cons_of_mem _ hp)
    simp only [List.map_cons, List.nodup_cons] at hn
    rw [mdel_cons]
    split
    · rename_i hk
      have hd : keyIs k q.2 = true := by simp [keyIs, hq, hk]
      simp only [List.map_cons, List.filter_cons, hd, Bool.not_true, Bool.false_eq_true, if_false]
      rw [filter_all hM (by rw [hk]; exact hn.1)]
    · rename_i hk
      have hd : keyIs k q.2 = false := by simp only [keyIs, hq, decide_eq_false_iff_not]; exact fun e => hk e.symm
      simp only [List.map_cons, List.filter_cons, hd, Bool.not_false, if_true]
      rw [ih hM hn.2]
theorem SInv.start : SInv [] [] := ⟨by simp, by simp, by simp [objsOf]⟩
theorem SInv.put {M : List (Key × Object)} {L : List Evt} (h : SInv M L) (o : Object) : SInv (mset M o.key o) (L ++ [⟨0, o, 0, []⟩]) where
  keyed := mset_keyed h.keyed
  nodup := mset_nodup h.nodup
  perm := by
    rw [objs_append]
    exact (mset_vals h.keyed h.nodup).trans ((h.perm.filter _).append_right _)
theorem mdel_sub {M : List (Key × Object)} {k : Key} : (mdel M k).Sublist M := List.eraseP_sublist
theorem SInv.del {M : List (Key × Object)} {L : List Evt} (h : SInv M L) (k : Key) (o : Object) (hk : o.key = k) : SInv (mdel M k) (L ++ [⟨1, o, 0, []⟩]) where
  keyed p hp := h.keyed p (mdel_sub.mem hp)
  nodup := h.nodup.sublist (mdel_sub.map _)
  perm := by
    rw [objs_append, mdel_vals h.keyed h.nodup, ← hk]
    simpa using h.perm.filter (fun x => !keyIs o.key x)
def findK (l : List Object) (k : Key) : Option Object := l.find? fun o => decide (o.key = k)
theorem find_here {l : List Object} {k : Key} {i : Nat} {o : Object} (h : ∀ j, j < i → ∀ p, l[j]? = some p → p.key ≠ k) (ho : l[i]? = some o) (hk : o.key = k) : findK l k = some o := by
  induction l generalizing i with
  | nil => simp at ho
  | cons a l ih =>
    cases i with
    | zero => simp at ho; subst ho; simp [findK, hk]
    | succ i =>
      have h0 := h 0 (by omega) a rfl
      have := ih (i := i) (fun j hj p hp => h (j + 1) (by omega) p (by simpa using hp)) (by simpa using ho)
      simpa [findK, h0] using this
theorem find_none {l : List Object} {k : Key} {i : Nat} (h : ∀ j, j < i → ∀ p, l[j]? = some p → p.key ≠ k) (hi : l.length ≤ i) : findK l k = none := by
  simp only [findK, List.find?_eq_none]
  intro o ho
  obtain ⟨j, hj⟩ := List.getElem?_of_mem ho
  have hl : j < l.length := (List.getElem?_eq_some_iff.1 hj).1
  simpa using h j (by omega) o hj
def KeysApart (l : List Object) : Prop := ∀ x ∈ l, ∀ y ∈ l, x.key = y.key → x = y
theorem findK_iff {l : List Object} (h : KeysApart l) (k : Key) (o : Object) : findK l k = some o ↔ o ∈ l ∧ o.key = k := by
  constructor
  · intro e
    exact ⟨List.mem_of_find?_eq_some e, by simpa using List.find?_some e⟩
  · rintro ⟨h1, h2⟩
    cases hf : findK l k with
    | none =>
      have := List.find?_eq_none.1 hf o h1
      simp [h2] at this
    | some p =>
      have hp := List.mem_of_find?_eq_some hf
      have hk : p.key = k := by simpa using List.find?_some hf
      rw [h p hp o h1 (hk.trans h2.symm)]
theorem mget_iff {M : List (Key × Object)} (h : (M.map (·.1)).Nodup) (k : Key) (o : Object) : mget M k = some o ↔ (k, o) ∈ M := by
  induction M with
  | nil => simp [mget]
  | cons q M ih =>
    simp only [List.map_cons, List.nodup_cons] at h
    rw [mget_cons]
    split
    · rename_i hk
      constructor
      · intro e; cases e; rw [hk]; exact List.mem_cons_self
      · intro e
        rcases List.mem_cons.1 e with e | e
        · rw [← e]
        · exact absurd (List.mem_map.2 ⟨_, e, hk⟩) h.1
    · rename_i hk
      rw [ih h.2]
      constructor
      · exact List.mem_cons_of_mem _
      · intro e
        rcases List.mem_cons.1 e with e | e
        · exact absurd (by rw [← e]) hk
        · exact e
theorem SInv.apart {M : List (Key × Object)} {L : List Evt} (h : SInv M L) : KeysApart (M.map (·.2)) := by
  intro x hx y hy e
  obtain ⟨p, hp, rfl⟩ := List.mem_map.1 hx
  obtain ⟨q, hq, rfl⟩ := List.mem_map.1 hy
  have h1 := h.keyed p hp
  have h2 := h.keyed q hq
  have hk : p.1 = q.1 := by rw [← h1, ← h2, e]
  have a := (mget_iff h.nodup p.1 p.2).2 hp
  have b := (mget_iff h.nodup p.1 q.2).2 (by rw [hk]; exact hq)
  rw [a] at b
  exact Option.some.inj b
theorem SInv.get {M : List (Key × Object)} {L : List Evt} (h : SInv M L) (k : Key) : mget M k = findK (sortO (objsOf L)) k := by
  have hp : (M.map (·.2)).Perm (sortO (objsOf L)) := h.perm.trans (sortO_perm _).symm
  have ha : KeysApart (sortO (objsOf L)) := fun x hx y hy e => h.apart x (hp.mem_iff.2 hx) y (hp.mem_iff.2 hy) e
  apply Option.ext
  intro o
  rw [mget_iff h.nodup, findK_iff ha, ← hp.mem_iff]
  constructor
  · intro hm; exact ⟨List.mem_map.2 ⟨_, hm, rfl⟩, h.keyed _ hm⟩
  · rintro ⟨hm, hk⟩
    obtain ⟨p, hp', rfl⟩ := List.mem_map.1 hm
    rw [← hk, h.keyed p hp']; exact hp'
theorem SInv.len {M : List (Key × Object)} {L : List Evt} (h : SInv M L) : (sortO (objsOf L)).length = M.length := by
  rw [sortO_len, ← h.perm.length_eq, List.length_map]
end Go.Proofs.Fw
/- Keys that may be have texts of their own; the run of the two stores: in plain Lean. -/
namespace Go.Proofs.Fw
open Go
theorem cut_inj {c : UInt8} : ∀ {l1 l2 r1 r2 : List UInt8}, c ∉ l1 → c ∉ l2 → l1 ++ c :: r1 = l2 ++ c :: r2 → l1 = l2 ∧ r1 = r2
  | [], [], _, _, _, _, h => ⟨rfl, by simpa using h⟩
  | [], b :: l2, _, _, _, h2, h => by
    simp only [List.nil_append, List.cons_append, List.cons.injEq] at h
    exact absurd (by rw [h.1]; exact List.mem_cons_self) h2
  | a :: l1, [], _, _, h1, _, h => by
    simp only [List.nil_append, List.cons_append, List.cons.injEq] at h
    exact absurd (by rw [← h.1]; exact List.mem_cons_self) h1
  | a :: l1, b :: l2, r1, r2, h1, h2, h => by
    simp only [List.cons_append, List.cons.injEq] at h
    obtain ⟨e1, e2⟩ := cut_inj (fun hm => h1 (List.mem_cons_of_mem _ hm)) (fun hm => h2 (List.mem_cons_of_mem _ hm)) h.2
    exact ⟨by rw [h.1, e1], e2⟩
theorem toList_app (a b : ByteArray) : (a ++ b).toList = a.toList ++ b.toList := by
  simp only [Go.ByteArray.toList_eq]
  rw [ByteArray.data_append, Array.toList_append]
theorem toList_inj {a b : ByteArray} (h : a.toList = b.toList) : a = b := by
  simp only [Go.ByteArray.toList_eq] at h
  exact ByteArray.ext (Array.toList_inj.1 h)
theorem right_noslash {s : ByteArray} (h : right s = true) : (47 : UInt8) ∉ s.toList := by
  intro hm
  obtain ⟨i, hi⟩ := List.getElem?_of_mem hm
  have hl : i < s.size := by rw [← tl_len]; exact (List.getElem?_eq_some_iff.1 hi).1
  rw [tl_get hl] at hi
  have hs : s[i]'hl = 47 := by simpa using hi
  simp only [right, Bool.and_eq_true, List.all_eq_true, List.mem_range] at h
  have := h.1.1.2 i hl
  rw [okAt_eq hl, hs] at this
  exact absurd this (by decide)
theorem slash_list : slash.toList = [47] := by rw [Go.ByteArray.toList_eq]; rfl
theorem textOf_inj {a b : Key} (ha : keyRight a = true) (hb : keyRight b = true) (h : textOf a = textOf b) : a = b := by
  simp only [keyRight, Bool.and_eq_true] at ha hb
  have h' := congrArg ByteArray.toList h
  simp only [textOf, toList_app, slash_list, List.append_assoc, List.cons_append, List.nil_append] at h'
  obtain ⟨e1, h'⟩ := cut_inj (right_noslash ha.1.2) (right_noslash hb.1.2) h'
  obtain ⟨e2, e3⟩ := cut_inj (right_noslash ha.1.1) (right_noslash hb.1.1) h'
  have e1 := toList_inj e1
  have e2 := toList_inj e2
  have e3 := toList_inj e3
  cases a; cases b
  simp only [Key.mk.injEq]
  exact ⟨e2, e1, e3⟩
theorem less_anti {a b : Key} (ha : keyRight a = true) (hb : keyRight b = true) (h1 : keyLess a b = false) (h2 : keyLess b a = false) : a = b :=
  textOf_inj ha hb (toList_inj (bl_anti h2 h1))
theorem apart_of {l : List Object} (h : KeysApart l) (hk : ∀ o ∈ l, keyRight o.key = true) : Apart l :=
  fun x hx y hy h1 h2 => h x hx y hy (less_anti (hk x hx) (hk y hy) h2 h1)
/-- What each event of the log is like. -/
structure EvFit (e : Evt) : Prop where
  key : keyFits e.obj.key
  right : keyRight e.obj.key = true
  charge : e.obj.charge.length ≤ 1000
  objs : e.objs = []
theorem SInv.objMem {M : List (Key × Object)} {L : List Evt} (h : SInv M L) {o : Object} (ho : o ∈ M.map (·.2)) : ∃ e ∈ L, e.obj = o := mem_objs (h.perm.mem_iff.1 ho)
theorem SInv.apartO {M : List (Key × Object)} {L : List Evt} (h : SInv M L) (hf : ∀ e ∈ L, EvFit e) : Apart (M.map (·.2)) :=
  apart_of h.apart fun o ho => by obtain ⟨e, he, rfl⟩ := h.objMem ho; exact (hf e he).right
theorem SInv.one {M : List (Key × Object)} {L : List Evt} (h : SInv M L) (hf : ∀ e ∈ L, EvFit e) : sortO (M.map (·.2)) = sortO (objsOf L) :=
  one_order ((sortO_perm _).trans (h.perm.trans (sortO_perm _).symm)) (sortO_sorted _) (sortO_sorted _) (fun x hx y hy => h.apartO hf x (mem_sortO hx) y (mem_sortO hy))
theorem SInv.size {M : List (Key × Object)} {L : List Evt} (h : SInv M L) : M.length ≤ L.length := by
  rw [← h.len, sortO_len]; exact objs_len L
end Go.Proofs.Fw
/- What a write does, to the store and to the reference's: in plain Lean. -/
namespace Go.Proofs.Fw
open Go
structure WrR where
  v : Int
  e : Int
  M : List (Key × Object)
  L : List Evt
def nko (k : Key) : Object := ⟨k, 0, ⟨#[]⟩, false, false, []⟩
def evPut (o : Object) (n : Nat) : Evt := ⟨0, o.wv ((n : Int) + 1), 0, []⟩
def evDel (k : Key) (n : Nat) : Evt := ⟨1, (nko k).wv ((n : Int) + 1), 0, []⟩
def putR (M : List (Key × Object)) (L : List Evt) (o : Object) : WrR :=
  if objRight (o.wv 1) = false then ⟨0, 1, M, L⟩
  else if mget M o.key = none ∧ 1000 ≤ M.length then ⟨0, 3, M, L⟩
  else ⟨(L.length : Int) + 1, 0, mset M o.key (o.wv ((L.length : Int) + 1)), L ++ [evPut o L.length]⟩
def delR (M : List (Key × Object)) (L : List Evt) (k : Key) : WrR :=
  if keyRight k = false then ⟨0, 1, M, L⟩
  else if mget M k = none then ⟨0, 4, M, L⟩
  else ⟨(L.length : Int) + 1, 0, mdel M k, L ++ [evDel k L.length]⟩
def doR (M : List (Key × Object)) (L : List Evt) (w : Wr) : WrR := if w.gone then delR M L w.o.key else putR M L w.o
structure LogOk (M : List (Key × Object)) (L : List Evt) : Prop where
  inv : SInv M L
  fit : ∀ e ∈ L, EvFit e
theorem LogOk.start : LogOk [] [] := ⟨SInv.start, by simp⟩
theorem putR_len (M : List (Key × Object)) (L : List Evt) (o : Object) : L.length ≤ (putR M L o).L.length ∧ (putR M L o).L.length ≤ L.length + 1 := by
  unfold putR
  repeat' split
  all_goals simp
theorem delR_len (M : List (Key × Object)) (L : List Evt) (k : Key) : L.length ≤ (delR M L k).L.length ∧ (delR M L k).L.length ≤ L.length + 1 := by
  unfold delR
  repeat' split
  all_goals simp
theorem doR_len (M : List (Key × Object)) (L : List Evt) (w : Wr) : L.length ≤ (doR M L w).L.length ∧ (doR M L w).L.length ≤ L.length + 1 := by
  unfold doR
  split
  · exact delR_len ..
  · exact putR_len ..
theorem objRight_key {o : Object} (h : objRight o = true) : keyRight o.key = true := by
  simp only [objRight, Bool.and_eq_true] at h
  exact h.1.1.1.1
theorem LogOk.put {M : List (Key × Object)} {L : List Evt} (h : LogOk M L) {o : Object} (ho : objFits o) : LogOk (putR M L o).M (putR M L o).L := by
  unfold putR
  split
  · exact h
  · split
    · exact h
    · rename_i h1 _
      refine ⟨h.inv.put (o.wv ((L.length : Int) + 1)), fun e he => ?_⟩
      rcases List.mem_append.1 he with he | he
      · exact h.fit e he
      · simp only [List.mem_singleton] at he
        subst he
        have h2 : objRight (o.wv 1) = true := by simpa using h1
        have h3 := objRight_key h2
        exact ⟨ho.1, h3, Nat.le_trans ho.2.2.1 (by decide), rfl⟩
theorem LogOk.del {M : List (Key × Object)} {L : List Evt} (h : LogOk M L) {k : Key} (hk : keyFits k) : LogOk (delR M L k).M (delR M L k).L := by
  unfold delR
  split
  · exact h
  · split
    · exact h
    · rename_i h1 _
      refine ⟨h.inv.del k ((nko k).wv ((L.length : Int) + 1)) rfl, fun e he => ?_⟩
      rcases List.mem_append.1 he with he | he
      · exact h.fit e he
      · simp only [List.mem_singleton] at he
        subst he
        have h3 : keyRight k = true := by simpa using h1
        exact ⟨hk, h3, Nat.zero_le _, rfl⟩
theorem LogOk.step {M : List (Key × Object)} {L : List Evt} (h : LogOk M L) {w : Wr} (hw : objFits w.o) : LogOk (doR M L w).M (doR M L w).L := by
  unfold doR
  split
  · exact h.del hw.1
  · exact h.put hw
/-- What lies in the map is small. -/
theorem LogOk.charge {M : List (Key × Object)} {L : List Evt} (h : LogOk M L) : ∀ o ∈ M.map (·.2), o.charge.length ≤ 1000 ∧ keyFits o.key := by
  intro o ho
  obtain ⟨e, he, rfl⟩ := h.inv.objMem ho
  exact ⟨(h.fit e he).charge, (h.fit e he).key⟩
theorem LogOk.got {M : List (Key × Object)} {L : List Evt} (h : LogOk M L) {k : Key} {o : Object} (hm : mget M k = some o) : o.charge.length ≤ 1000 :=
  (h.charge o (List.mem_map.2 ⟨_, (mget_iff h.inv.nodup k o).1 hm, rfl⟩)).1
theorem fits_get {l : List Wr} (h : wrsFit l = true) : l.length ≤ 60 ∧ ∀ (i : Nat) w, l[i]? = some w → objFits w.o := by
  simp only [wrsFit, Bool.and_eq_true, Bool.not_eq_true', decide_eq_false_iff_not, List.all_eq_true, List.mem_range] at h
  refine ⟨by omega, fun i w hw => ?_⟩
  have := h.2 i (List.getElem?_eq_some_iff.1 hw).1
  simp only [wrFits, hw] at this
  exact objFits_of this
end Go.Proofs.Fw
/- Events that may be: in plain Lean. -/
namespace Go.Proofs.Fw
open Go
def relAt (v : Int) (l : List Object) (i : Nat) : Bool := match l[i]?, l[i - 1]? with
  | some o, some q => objRight o && !decide (v < o.ver) && (!decide ((0 : Int) < (i : Int)) || keyLess q.key o.key)
  | _, _ => true
theorem relAt_eq {v : Int} {l : List Object} {i : Nat} {o q : Object} (ho : l[i]? = some o) (hq : l[i - 1]? = some q) : relAt v l i = (objRight o && !decide (v < o.ver) && (!decide ((0 : Int) < (i : Int)) || keyLess q.key o.key)) := by simp only [relAt, ho, hq]
def relOk (v : Int) (l : List Object) : Bool := (List.range l.length).all (relAt v l)
def relistOk (e : Evt) : Bool := relOk e.ver e.objs && decide (0 ≤ e.ver) && decide ((e.objs.length : Int) ≤ 1000)
theorem relOk_no {v : Int} {l : List Object} {i : Nat} (hi : i < l.length) (h : relAt v l i = false) : relOk v l = false := by
  simp only [relOk, List.all_eq_false, List.mem_range]; exact ⟨i, hi, by simp [h]⟩
def evRight (e : Evt) : Bool := if e.kind = 0 then objRight e.obj else if e.kind = 1 then keyRight e.obj.key && decide (1 ≤ e.obj.ver) else if e.kind = 2 then relistOk e else if e.kind = 3 then decide (0 ≤ e.ver) else false
theorem kindCases (k : Int) : k = 0 ∨ k = 1 ∨ k = 2 ∨ k = 3 ∨ (k ≠ 0 ∧ k ≠ 1 ∧ k ≠ 2 ∧ k ≠ 3) := by omega
/-- Small enough. -/
structure EvSmall (e : Evt) : Prop where
  charge : e.obj.charge.length ≤ 1000000
  objs : e.objs.length ≤ 1000000
  each : ∀ o ∈ e.objs, o.charge.length ≤ 1000000 ∧ keyFits o.key
end Go.Proofs.Fw
/- A write's outcome; a snapshot may be: in plain Lean. -/
namespace Go.Proofs.Fw
open Go
theorem objRight_wv {o : Object} {v : Int} (h : objRight (o.wv 1) = true) (hv : 1 ≤ v) : objRight (o.wv v) = true := by
  simp only [objRight, Bool.and_eq_true, Object.wv] at *
  exact ⟨⟨⟨⟨h.1.1.1.1, decide_eq_true hv⟩, h.1.1.2⟩, h.1.2⟩, h.2⟩
theorem mget_mset {M : List (Key × Object)} {k : Key} {o : Object} : mget (mset M k o) k = some o := by
  induction M with
  | nil => simp [mset, midx, mget]
  | cons p M ih =>
    rw [mset_cons]
    split
    · rw [mget_cons]; simp
    · rename_i h; rw [mget_cons, if_neg h]; exact ih
theorem mget_none {M : List (Key × Object)} {k : Key} (h : k ∉ M.map (·.1)) : mget M k = none := by
  induction M with
  | nil => rfl
  | cons p M ih =>
    rw [mget_cons, if_neg (fun e => h (by rw [e]; exact List.mem_cons_self))]
    exact ih (fun hm => h (List.mem_cons_of_mem _ hm))
theorem mget_mdel {M : List (Key × Object)} {k : Key} (hn : (M.map (·.1)).Nodup) : mget (mdel M k) k = none := by
  induction M with
  | nil => rfl
  | cons p M ih =>
    simp only [List.map_cons, List.nodup_cons] at hn
    rw [mdel_cons]
    split
    · rename_i h; rw [h]; exact mget_none hn.1
    · rename_i h; rw [mget_cons, if_neg h]; exact ih hn.2
/-- How a write may end. -/
theorem doR_cases (M : List (Key × Object)) (L : List Evt) (w : Wr) (hn : (M.map (·.1)).Nodup) :
    (w.gone = true ∧ (doR M L w).e = 0 ∧ (doR M L w).v = (L.length : Int) + 1 ∧ (doR M L w).L = L ++ [evDel w.o.key L.length] ∧ mget (doR M L w).M w.o.key = none ∧ keyRight w.o.key = true) ∨
    (w.gone = false ∧ (doR M L w).e = 0 ∧ (doR M L w).v = (L.length : Int) + 1 ∧ (doR M L w).L = L ++ [evPut w.o L.length] ∧ mget (doR M L w).M w.o.key = some (w.o.wv ((L.length : Int) + 1)) ∧ objRight (w.o.wv 1) = true) ∨
    ((doR M L w).e ≠ 0 ∧ (doR M L w).v = 0 ∧ (doR M L w).L = L) := by
  cases hg : w.gone with
  | true =>
    have e : doR M L w = delR M L w.o.key := by unfold doR; rw [if_pos hg]
    rw [e]; unfold delR
    split
    · exact .inr (.inr ⟨(show (1 : Int) ≠ 0 by decide), rfl, rfl⟩)
    · split
      · exact .inr (.inr ⟨(show (4 : Int) ≠ 0 by decide), rfl, rfl⟩)
      · rename_i h1 _
        exact .inl ⟨rfl, rfl, rfl, rfl, mget_mdel hn, by simpa using h1⟩
  | false =>
    have e : doR M L w = putR M L w.o := by unfold doR; rw [if_neg (by rw [hg]; decide)]
    rw [e]; unfold putR
    split
    · exact .inr (.inr ⟨(show (1 : Int) ≠ 0 by decide), rfl, rfl⟩)
    · split
      · exact .inr (.inr ⟨(show (3 : Int) ≠ 0 by decide), rfl, rfl⟩)
      · rename_i h1 _
        exact .inr (.inl ⟨rfl, rfl, rfl, rfl, mget_mset, by simpa using h1⟩)
/-- The Puts of the log are of objects that may be, not newer than the log. -/
def PutOk (L : List Evt) : Prop := ∀ e ∈ L, e.kind = 0 → objRight e.obj = true ∧ e.obj.ver ≤ (L.length : Int)
theorem PutOk.step {M : List (Key × Object)} {L : List Evt} (h : PutOk L) (w : Wr) (hn : (M.map (·.1)).Nodup) : PutOk (doR M L w).L := by
  have old : ∀ (x : Evt), PutOk L → ∀ e ∈ L, e.kind = 0 → objRight e.obj = true ∧ e.obj.ver ≤ ((L ++ [x]).length : Int) := fun x h e he hk => by
    have := h e he hk
    refine ⟨this.1, ?_⟩
    simp only [List.length_append, List.length_singleton]; omega
  rcases doR_cases M L w hn with ⟨_, _, _, hl, _, _⟩ | ⟨_, _, _, hl, _, hr⟩ | ⟨_, _, hl⟩
  · rw [hl]
    intro e he hk
    rcases List.mem_append.1 he with he | he
    · exact old _ h e he hk
    · simp only [List.mem_singleton] at he; subst he; exact absurd (show (1 : Int) = 0 from hk) (by decide)
  · rw [hl]
    intro e he hk
    rcases List.mem_append.1 he with he | he
    · exact old _ h e he hk
    · simp only [List.mem_singleton] at he; subst he
      refine ⟨objRight_wv hr (by omega), ?_⟩
      show (L.length : Int) + 1 ≤ _
      simp only [List.length_append, List.length_singleton]; omega
  · rw [hl]; exact h
theorem mem_objs0 {o : Object} : ∀ {L : List Evt}, o ∈ objsOf L → ∃ e ∈ L, e.obj = o ∧ e.kind = 0
  | [], h => by simp [objsOf] at h
  | e :: r, h => by
    rw [objsOf] at h
    split at h
    · rename_i hc
      simp only [Bool.and_eq_true, decide_eq_true_eq] at hc
      rcases List.mem_cons.1 h with h | h
      · exact ⟨e, List.mem_cons_self, h.symm, hc.2⟩
      · obtain ⟨f, hf, e1⟩ := mem_objs0 h; exact ⟨f, List.mem_cons_of_mem _ hf, e1⟩
    · obtain ⟨f, hf, e1⟩ := mem_objs0 h; exact ⟨f, List.mem_cons_of_mem _ hf, e1⟩
theorem SInv.keysNodup {M : List (Key × Object)} {L : List Evt} (h : SInv M L) : ((M.map (·.2)).map (·.key)).Nodup := by
  have e : (M.map (·.2)).map (·.key) = M.map (·.1) := by
    rw [List.map_map]
    exact List.map_congr_left fun p hp => h.keyed p hp
  rw [e]; exact h.nodup
theorem nodup_at {α β : Type} {f : α → β} {l : List α} (h : (l.map f).Nodup) {i j : Nat} {x y : α} (hi : l[i]? = some x) (hj : l[j]? = some y) (hne : i ≠ j) : f x ≠ f y := by
  intro e
  have h1 : (l.map f)[i]? = some (f x) := by simp [hi]
  have h2 : (l.map f)[j]? = some (f x) := by simp [hj, e]
  have hl : i < (l.map f).length := (List.getElem?_eq_some_iff.1 h1).1
  exact hne ((List.getElem?_inj hl h).1 (h1.trans h2.symm))
/-- Objects with keys of their own that may be, sorted, may be a Relist's. -/
theorem relOk_sort {l : List Object} {v : Int} (hn : (l.map (·.key)).Nodup) (hr : ∀ o ∈ l, objRight o = true ∧ o.ver ≤ v) : relOk v (sortO l) = true := by
  simp only [relOk, List.all_eq_true, List.mem_range]
  intro i hi
  obtain ⟨o, ho⟩ : ∃ o, (sortO l)[i]? = some o := ⟨_, List.getElem?_eq_getElem hi⟩
  obtain ⟨q, hq⟩ : ∃ q, (sortO l)[i - 1]? = some q := ⟨_, List.getElem?_eq_getElem (by omega)⟩
  rw [relAt_eq ho hq]
  have mo := mem_sortO (List.mem_of_getElem? ho)
  have mq := mem_sortO (List.mem_of_getElem? hq)
  have h1 := hr o mo
  have h2 := hr q mq
  have e1 : decide (v < o.ver) = false := decide_eq_false (by omega)
  rw [h1.1, e1]
  by_cases h0 : 0 < i
  · have hs := sortO_sorted l (i - 1) i q o (Nat.zero_le _) (by omega) hi hq ho
    have hne : q.key ≠ o.key := nodup_at (((sortO_perm l).map _).nodup_iff.2 hn) hq ho (by omega)
    have hl : keyLess q.key o.key = true := by
      cases hk : keyLess q.key o.key with
      | true => rfl
      | false => exact absurd (less_anti (objRight_key h2.1) (objRight_key h1.1) hk hs) hne
    rw [hl]; simp
  · have : decide ((0 : Int) < (i : Int)) = false := decide_eq_false (by omega)
    rw [this]; rfl
theorem snap_right {M : List (Key × Object)} {L : List Evt} (h : LogOk M L) (hp : PutOk L) (hl : L.length ≤ 1000) : evRight (⟨2, noObj, (L.length : Int), sortO (M.map (·.2))⟩ : Evt) = true := by
  have h1 := relOk_sort (v := (L.length : Int)) h.inv.keysNodup (fun o ho => by
    obtain ⟨e, he, rfl, hk⟩ := mem_objs0 (h.inv.perm.mem_iff.1 ho)
    exact hp e he hk)
  have h2 : (sortO (M.map (·.2))).length ≤ 1000 := by rw [sortO_len, List.length_map]; exact Nat.le_trans h.inv.size hl
  have e2 : decide (((sortO (M.map (·.2))).length : Int) ≤ 1000) = true := decide_eq_true (by omega)
  have e3 : decide ((0 : Int) ≤ (L.length : Int)) = true := decide_eq_true (by omega)
  show relistOk _ = true
  simp only [relistOk, h1, e2, e3, Bool.and_self]
theorem evPut_right {o : Object} {n : Nat} (h : objRight (o.wv 1) = true) : evRight (evPut o n) = true := by
  show objRight (o.wv _) = true
  exact objRight_wv h (by omega)
theorem evDel_right {k : Key} {n : Nat} (h : keyRight k = true) : evRight (evDel k n) = true := by
  show (keyRight k && decide (1 ≤ ((n : Int) + 1))) = true
  rw [h, decide_eq_true (by omega)]; rfl
end Go.Proofs.Fw
/- T2 -/
namespace Go.Proofs.Ytncecheccihjoaa.TT2
open Go Go.Proofs.Fw Go.Shelf
theorem en114 : Enters Go.Proofs.Try.prog 114 := enters_of Go.Proofs.Try.func114 (by kernel_rfl) rfl
theorem en85 : Enters Go.Proofs.Try.prog 85 := enters_of Go.Proofs.Try.func85 (by kernel_rfl) rfl
theorem en86 : Enters Go.Proofs.Try.prog 86 := enters_of Go.Proofs.Try.func86 (by kernel_rfl) rfl
theorem fl35_0 : fldI Go.Proofs.Try.prog 35 0 = some 0 := by kernel_rfl
theorem fl35_1 : fldI Go.Proofs.Try.prog 35 1 = some 1 := by kernel_rfl
theorem fl35_2 : fldI Go.Proofs.Try.prog 35 2 = some 2 := by kernel_rfl
theorem ty9 : tyI Go.Proofs.Try.prog 9 = some (1, false) := by kernel_rfl
theorem u9 : Go.Proofs.Try.prog.underlying 9 = some (.string) := by kernel_rfl
end Go.Proofs.Ytncecheccihjoaa.TT2
namespace Go.Proofs.Ytncecheccihjoaa
open Go Go.Proofs.Fw Go.Proofs
set_option linter.unusedVariables false
set_option linter.unusedSimpArgs false
set_option maxRecDepth 20000
set_option maxHeartbeats 4000000
theorem sign_spec (c : Int) (H : AH) : ACalls Try.prog [] 114 [.int .i32 c] H (fun x H' => x = .bool (signI c) ∧ H' = H) := by
  refine ACalls.enter (n := 21) Try.func114 rfl rfl (Nat.le_of_ble_eq_true rfl) ?_
  refine AS.seq ?_
  refine AS.region rfl ?_
  refine AS.assign rfl rfl rfl rfl ?_
  refine AS.opsEnd ?_
  refine AS.seq ?_
  refine AS.region rfl ?_
  refine AS.move rfl rfl rfl rfl ?_
  refine AS.bin rfl rfl rfl rfl rfl (BinR.geq rfl) ?_
  refine AS.move rfl rfl rfl rfl ?_
  refine AS.splitT 5 rfl (fun g5 => ?_) (fun g5 => ?_)
  · refine AS.move rfl rfl rfl rfl ?_
    refine AS.bin rfl rfl rfl rfl rfl (BinR.leq rfl) ?_
    refine AS.pick rfl rfl rfl rfl rfl ?_
    refine AS.move rfl rfl rfl rfl ?_
    refine AS.splitT 9 rfl (fun g9 => ?_) (fun g9 => ?_)
    · refine AS.pass rfl rfl rfl ?_
      refine AS.pass rfl rfl rfl ?_
      refine AS.pass rfl rfl rfl ?_
      refine AS.pass rfl rfl rfl ?_
      refine AS.pass rfl rfl rfl ?_
      refine AS.pass rfl rfl rfl ?_
      refine AS.pick rfl rfl rfl rfl rfl ?_
      refine AS.move rfl rfl rfl rfl ?_
      refine AS.pass rfl rfl rfl ?_
      refine AS.pass rfl rfl rfl ?_
      refine AS.pick rfl rfl rfl rfl rfl ?_
      refine AS.assign rfl rfl rfl rfl ?_
      refine AS.opsEnd ?_
      refine AS.retW Try.func114 rfl (.tmp rfl (.nil)) ?_
      refine RWk.drop [] rfl ⟨?_, rfl⟩
      show AV.bool _ = AV.bool _
      (simp only [signI, g5, g9]) <;> rfl
    · refine AS.move rfl rfl rfl rfl ?_
      refine AS.bin rfl rfl rfl rfl rfl (BinR.geq rfl) ?_
      refine AS.move rfl rfl rfl rfl ?_
      refine AS.splitT 12 rfl (fun g12 => ?_) (fun g12 => ?_)
      · refine AS.move rfl rfl rfl rfl ?_
        refine AS.bin rfl rfl rfl rfl rfl (BinR.leq rfl) ?_
        refine AS.pick rfl rfl rfl rfl rfl ?_
        refine AS.pick rfl rfl rfl rfl rfl ?_
        refine AS.move rfl rfl rfl rfl ?_
        refine AS.splitT 17 rfl (fun g17 => ?_) (fun g17 => ?_)
        · refine AS.pass rfl rfl rfl ?_
          refine AS.pass rfl rfl rfl ?_
          refine AS.pick rfl rfl rfl rfl rfl ?_
          refine AS.assign rfl rfl rfl rfl ?_
          refine AS.opsEnd ?_
          refine AS.retW Try.func114 rfl (.tmp rfl (.nil)) ?_
          refine RWk.drop [] rfl ⟨?_, rfl⟩
          show AV.bool _ = AV.bool _
          (simp only [signI, g5, g9, g12, g17]) <;> rfl
        · refine AS.move rfl rfl rfl rfl ?_
          refine AS.bin rfl rfl rfl rfl rfl (BinR.eql rfl) ?_
          refine AS.pick rfl rfl rfl rfl rfl ?_
          refine AS.assign rfl rfl rfl rfl ?_
          refine AS.opsEnd ?_
          refine AS.retW Try.func114 rfl (.tmp rfl (.nil)) ?_
          refine RWk.drop [] rfl ⟨?_, rfl⟩
          show AV.bool _ = AV.bool _
          (simp only [signI, g5, g9, g12, g17]) <;> rfl
      · refine AS.pass rfl rfl rfl ?_
        refine AS.pass rfl rfl rfl ?_
        refine AS.pick rfl rfl rfl rfl rfl ?_
        refine AS.pick rfl rfl rfl rfl rfl ?_
        refine AS.move rfl rfl rfl rfl ?_
        refine AS.move rfl rfl rfl rfl ?_
        refine AS.bin rfl rfl rfl rfl rfl (BinR.eql rfl) ?_
        refine AS.pick rfl rfl rfl rfl rfl ?_
        refine AS.assign rfl rfl rfl rfl ?_
        refine AS.opsEnd ?_
        refine AS.retW Try.func114 rfl (.tmp rfl (.nil)) ?_
        refine RWk.drop [] rfl ⟨?_, rfl⟩
        show AV.bool _ = AV.bool _
        (simp only [signI, g5, g9, g12]) <;> rfl
  · refine AS.pass rfl rfl rfl ?_
    refine AS.pass rfl rfl rfl ?_
    refine AS.pick rfl rfl rfl rfl rfl ?_
    refine AS.move rfl rfl rfl rfl ?_
    refine AS.move rfl rfl rfl rfl ?_
    refine AS.bin rfl rfl rfl rfl rfl (BinR.geq rfl) ?_
    refine AS.move rfl rfl rfl rfl ?_
    refine AS.splitT 12 rfl (fun g12 => ?_) (fun g12 => ?_)
    · refine AS.move rfl rfl rfl rfl ?_
      refine AS.bin rfl rfl rfl rfl rfl (BinR.leq rfl) ?_
      refine AS.pick rfl rfl rfl rfl rfl ?_
      refine AS.pick rfl rfl rfl rfl rfl ?_
      refine AS.move rfl rfl rfl rfl ?_
      refine AS.splitT 17 rfl (fun g17 => ?_) (fun g17 => ?_)
      · refine AS.pass rfl rfl rfl ?_
        refine AS.pass rfl rfl rfl ?_
        refine AS.pick rfl rfl rfl rfl rfl ?_
        refine AS.assign rfl rfl rfl rfl ?_
        refine AS.opsEnd ?_
        refine AS.retW Try.func114 rfl (.tmp rfl (.nil)) ?_
        refine RWk.drop [] rfl ⟨?_, rfl⟩
        show AV.bool _ = AV.bool _
        (simp only [signI, g5, g12, g17]) <;> rfl
      · refine AS.move rfl rfl rfl rfl ?_
        refine AS.bin rfl rfl rfl rfl rfl (BinR.eql rfl) ?_
        refine AS.pick rfl rfl rfl rfl rfl ?_
        refine AS.assign rfl rfl rfl rfl ?_
        refine AS.opsEnd ?_
        refine AS.retW Try.func114 rfl (.tmp rfl (.nil)) ?_
        refine RWk.drop [] rfl ⟨?_, rfl⟩
        show AV.bool _ = AV.bool _
        (simp only [signI, g5, g12, g17]) <;> rfl
    · refine AS.pass rfl rfl rfl ?_
      refine AS.pass rfl rfl rfl ?_
      refine AS.pick rfl rfl rfl rfl rfl ?_
      refine AS.pick rfl rfl rfl rfl rfl ?_
      refine AS.move rfl rfl rfl rfl ?_
      refine AS.move rfl rfl rfl rfl ?_
      refine AS.bin rfl rfl rfl rfl rfl (BinR.eql rfl) ?_
      refine AS.pick rfl rfl rfl rfl rfl ?_
      refine AS.assign rfl rfl rfl rfl ?_
      refine AS.opsEnd ?_
      refine AS.retW Try.func114 rfl (.tmp rfl (.nil)) ?_
      refine RWk.drop [] rfl ⟨?_, rfl⟩
      show AV.bool _ = AV.bool _
      (simp only [signI, g5, g12]) <;> rfl
theorem label_right (s : ByteArray) (H : AH) : ACalls Try.prog [] 85 [.str s] H (fun x H' => x = .bool (right s) ∧ H' = H) := by
  refine ACalls.enter (n := 34) Try.func85 rfl rfl (Nat.le_of_ble_eq_true rfl) ?_
  refine AS.seq ?_
  refine AS.region rfl ?_
  refine AS.assign rfl rfl rfl rfl ?_
  refine AS.opsEnd ?_
  refine AS.seq ?_
  refine AS.seq ?_
  refine AS.region rfl ?_
  refine AS.move rfl rfl rfl rfl ?_
  refine AS.rangeStr rfl rfl rfl rfl TT2.u9 ?_
  intro b6
  refine AS.opsEnd ?_
  refine AS.block ?_
  refine AS.loopI (α := Nat) (fun p => p ≤ s.size ∧ ∀ i, i < p → i < s.size → okAt s i = true) (fun p => s.size - p) (fun p => []) [(0, _), (6, _)] (fun p => (b6, .siter s p) :: H) 0 ⟨Nat.zero_le _, fun i h => by omega⟩ (.cons rfl (.cons rfl (.nil))) rfl (fun p hI l0_ih => ?_)
  refine AS.seq ?_
  refine AS.region rfl ?_
  refine AS.nextStr rfl rfl rfl rfl (fun q => (b6, .siter s q) :: H) (fun hp => ?_) (fun hp => ?_)
  · refine AS.extract rfl rfl rfl rfl rfl ?_
    refine AS.opsEnd ?_
    refine AS.seq ?_
    refine AS.condF rfl ?_
    have hall := allOk (fun i hi => hI.2 i (by omega) hi)
    refine AS.exit rfl ?_
    refine AS.seq ?_
    refine AS.region rfl ?_
    refine AS.move rfl rfl rfl rfl ?_
    refine AS.len rfl rfl rfl rfl (by first | exact lenT_str TT2.u9 | exact lenT_ms TT2.u9 | (rw [TT2.u9]; rfl)) rfl rfl ?_
    refine AS.bin rfl rfl rfl rfl rfl (BinR.geq rfl) ?_
    refine AS.move rfl rfl rfl rfl ?_
    refine AS.splitT 16 rfl (fun g16 => ?_) (fun g16 => ?_)
    · refine AS.move rfl rfl rfl rfl ?_
      refine AS.len rfl rfl rfl rfl (by first | exact lenT_str TT2.u9 | exact lenT_ms TT2.u9 | (rw [TT2.u9]; rfl)) rfl rfl ?_
      refine AS.bin rfl rfl rfl rfl rfl (BinR.leq rfl) ?_
      refine AS.pick rfl rfl rfl rfl rfl ?_
      refine AS.move rfl rfl rfl rfl ?_
      refine AS.splitT 21 rfl (fun g21 => ?_) (fun g21 => ?_)
      · refine AS.move rfl rfl rfl rfl ?_
        refine AS.strAt rfl rfl rfl rfl rfl TT2.u9 0 rfl (by simp only [decide_eq_true_eq] at g16; omega) ?_
        refine AS.bin rfl rfl rfl rfl rfl (BinR.neq rfl) ?_
        refine AS.pick rfl rfl rfl rfl rfl ?_
        refine AS.move rfl rfl rfl rfl ?_
        refine AS.splitT 26 rfl (fun g26 => ?_) (fun g26 => ?_)
        · refine AS.move rfl rfl rfl rfl ?_
          refine AS.move rfl rfl rfl rfl ?_
          refine AS.len rfl rfl rfl rfl (by first | exact lenT_str TT2.u9 | exact lenT_ms TT2.u9 | (rw [TT2.u9]; rfl)) rfl rfl ?_
          refine AS.bin rfl rfl rfl rfl rfl (BinR.sub (IntWalk.i64_in _ (by simp only [decide_eq_true_eq] at g16 g21; omega))) ?_
          refine AS.strAt rfl rfl rfl rfl rfl TT2.u9 (s.size - 1) (by simp only [decide_eq_true_eq] at g16 g21; omega) (by simp only [decide_eq_true_eq] at g16 g21; omega) ?_
          refine AS.bin rfl rfl rfl rfl rfl (BinR.neq rfl) ?_
          refine AS.pick rfl rfl rfl rfl rfl ?_
          refine AS.assign rfl rfl rfl rfl ?_
          refine AS.opsEnd ?_
          refine AS.retW Try.func85 rfl (.tmp rfl (.nil)) ?_
          refine RWk.drop [_] rfl ⟨?_, rfl⟩
          have h0 : 0 < s.size := by simp only [decide_eq_true_eq] at g16; omega
          show AV.bool _ = AV.bool _
          (simp only [right_at h0, hall, hp, g16, g21, g26]) <;> rfl
        · refine AS.pass rfl rfl rfl ?_
          refine AS.pass rfl rfl rfl ?_
          refine AS.pass rfl rfl rfl ?_
          refine AS.pass rfl rfl rfl ?_
          refine AS.pass rfl rfl rfl ?_
          refine AS.pass rfl rfl rfl ?_
          refine AS.pick rfl rfl rfl rfl rfl ?_
          refine AS.assign rfl rfl rfl rfl ?_
          refine AS.opsEnd ?_
          refine AS.retW Try.func85 rfl (.tmp rfl (.nil)) ?_
          refine RWk.drop [_] rfl ⟨?_, rfl⟩
          have h0 : 0 < s.size := by simp only [decide_eq_true_eq] at g16; omega
          show AV.bool _ = AV.bool _
          (simp only [right_at h0, hall, hp, g16, g21, g26]) <;> rfl
      · refine AS.pass rfl rfl rfl ?_
        refine AS.pass rfl rfl rfl ?_
        refine AS.pass rfl rfl rfl ?_
        refine AS.pick rfl rfl rfl rfl rfl ?_
        refine AS.move rfl rfl rfl rfl ?_
        refine AS.pass rfl rfl rfl ?_
        refine AS.pass rfl rfl rfl ?_
        refine AS.pass rfl rfl rfl ?_
        refine AS.pass rfl rfl rfl ?_
        refine AS.pass rfl rfl rfl ?_
        refine AS.pass rfl rfl rfl ?_
        refine AS.pick rfl rfl rfl rfl rfl ?_
        refine AS.assign rfl rfl rfl rfl ?_
        refine AS.opsEnd ?_
        refine AS.retW Try.func85 rfl (.tmp rfl (.nil)) ?_
        refine RWk.drop [_] rfl ⟨?_, rfl⟩
        rw [right_long (by simp only [decide_eq_false_iff_not] at g21; omega)]; rfl
    · refine AS.pass rfl rfl rfl ?_
      refine AS.pass rfl rfl rfl ?_
      refine AS.pass rfl rfl rfl ?_
      refine AS.pick rfl rfl rfl rfl rfl ?_
      refine AS.move rfl rfl rfl rfl ?_
      refine AS.pass rfl rfl rfl ?_
      refine AS.pass rfl rfl rfl ?_
      refine AS.pass rfl rfl rfl ?_
      refine AS.pick rfl rfl rfl rfl rfl ?_
      refine AS.move rfl rfl rfl rfl ?_
      refine AS.pass rfl rfl rfl ?_
      refine AS.pass rfl rfl rfl ?_
      refine AS.pass rfl rfl rfl ?_
      refine AS.pass rfl rfl rfl ?_
      refine AS.pass rfl rfl rfl ?_
      refine AS.pass rfl rfl rfl ?_
      refine AS.pick rfl rfl rfl rfl rfl ?_
      refine AS.assign rfl rfl rfl rfl ?_
      refine AS.opsEnd ?_
      refine AS.retW Try.func85 rfl (.tmp rfl (.nil)) ?_
      refine RWk.drop [_] rfl ⟨?_, rfl⟩
      rw [right_zero (by simp only [decide_eq_false_iff_not] at g16; omega)]; rfl
  · obtain ⟨e1, e2⟩ := decode_sign s p hp
    refine AS.extract rfl rfl rfl rfl rfl ?_
    refine AS.opsEnd ?_
    refine AS.seq ?_
    refine AS.condT rfl ?_
    refine AS.skip ?_
    refine AS.block ?_
    refine AS.seq ?_
    refine AS.region rfl ?_
    refine AS.extract rfl rfl rfl rfl rfl ?_
    refine AS.assign rfl rfl rfl rfl ?_
    refine AS.opsEnd ?_
    refine AS.seq ?_
    refine AS.region rfl ?_
    refine AS.move rfl rfl rfl rfl ?_
    refine AS.callP rfl rfl rfl rfl TT2.en114 (sign_spec _ _) ?_
    refine AS.not rfl rfl rfl rfl rfl ?_
    refine AS.opsEnd ?_
    refine AS.cond rfl (fun hc1 => ?_) (fun hc1 => ?_)
    · rw [Bool.not_eq_true'] at hc1
      refine AS.seq ?_
      refine AS.region rfl ?_
      refine AS.assign rfl rfl rfl rfl ?_
      refine AS.opsEnd ?_
      refine AS.retW Try.func85 rfl (.tmp rfl (.nil)) ?_
      refine RWk.drop [_] rfl ⟨?_, rfl⟩
      have e3 : okAt s p = false := by rw [← e1]; simpa using hc1
      rw [right_no (notOk hp e3)]; rfl
    · rw [Bool.not_eq_false'] at hc1
      refine AS.skip ?_
      refine AS.inBlock ?_
      have e3 : okAt s p = true := by rw [← e1]; simpa using hc1
      have e4 : (Utf8.decode s p).2 = 1 := e2 e3
      have e5 : p + (Utf8.decode s p).2 ≤ s.size ∧ ∀ i, i < p + (Utf8.decode s p).2 → i < s.size → okAt s i = true := by
        rw [e4]; refine ⟨hp, fun i h1 h2 => ?_⟩
        rcases Nat.lt_or_ge i p with h | h
        · exact hI.2 i h h2
        · have : i = p := by omega
          subst this; exact e3
      exact AS.nextI (l0_ih (p + (Utf8.decode s p).2) e5 (by omega)) [] (.cons rfl (.cons rfl (.nil))) rfl
theorem ref_right (s : ByteArray) (H : AH) : ACalls Try.prog [] 86 [.str s] H (fun x H' => x = .bool (right s) ∧ H' = H) := by
  refine ACalls.enter (n := 51) Try.func86 rfl rfl (Nat.le_of_ble_eq_true rfl) ?_
  refine AS.seq ?_
  refine AS.region rfl ?_
  refine AS.assign rfl rfl rfl rfl ?_
  refine AS.opsEnd ?_
  refine AS.seq ?_
  refine AS.region rfl ?_
  refine AS.move rfl rfl rfl rfl ?_
  refine AS.len rfl rfl rfl rfl (by first | exact lenT_str TT2.u9 | exact lenT_ms TT2.u9 | (rw [TT2.u9]; rfl)) rfl rfl ?_
  refine AS.assign rfl rfl rfl rfl ?_
  refine AS.opsEnd ?_
  refine AS.seq ?_
  refine AS.seq ?_
  refine AS.region rfl ?_
  refine AS.move rfl rfl rfl rfl ?_
  refine AS.bin rfl rfl rfl rfl rfl (BinR.lss rfl) ?_
  refine AS.move rfl rfl rfl rfl ?_
  refine AS.splitT 10 rfl (fun g10 => ?_) (fun g10 => ?_)
  · refine AS.pass rfl rfl rfl ?_
    refine AS.pass rfl rfl rfl ?_
    refine AS.pick rfl rfl rfl rfl rfl ?_
    refine AS.opsEnd ?_
    refine AS.condT rfl ?_
    refine AS.seq ?_
    refine AS.region rfl ?_
    refine AS.assign rfl rfl rfl rfl ?_
    refine AS.opsEnd ?_
    refine AS.retW Try.func86 rfl (.tmp rfl (.nil)) ?_
    refine RWk.drop [] rfl ⟨?_, rfl⟩
    rw [right_zero (by simp only [decide_eq_true_eq] at g10; omega)]; rfl
  · refine AS.move rfl rfl rfl rfl ?_
    refine AS.bin rfl rfl rfl rfl rfl (BinR.gtr rfl) ?_
    refine AS.pick rfl rfl rfl rfl rfl ?_
    refine AS.opsEnd ?_
    refine AS.cond rfl (fun hc0 => ?_) (fun hc0 => ?_)
    · refine AS.seq ?_
      refine AS.region rfl ?_
      refine AS.assign rfl rfl rfl rfl ?_
      refine AS.opsEnd ?_
      refine AS.retW Try.func86 rfl (.tmp rfl (.nil)) ?_
      refine RWk.drop [] rfl ⟨?_, rfl⟩
      rw [right_long (by simp only [decide_eq_true_eq] at hc0; omega)]; rfl
    · refine AS.skip ?_
      refine AS.seq ?_
      refine AS.seq ?_
      refine AS.region rfl ?_
      refine AS.assign rfl rfl rfl rfl ?_
      refine AS.opsEnd ?_
      have h1 : 0 < s.size := by simp only [decide_eq_false_iff_not] at g10; omega
      have h2 : (s.size : Int) ≤ 24 := by simp only [decide_eq_false_iff_not] at hc0; omega
      refine AS.block ?_
      refine AS.loopI (α := Nat) (fun i => i ≤ s.size ∧ ∀ j, j < i → j < s.size → okAt s j = true) (fun i => s.size - i) (fun i => [(4, .int .i64 i)]) [(0, _), (3, _)] (fun i => _) 0 ⟨Nat.zero_le _, fun i h => by omega⟩ (.cons rfl (.cons rfl (.cons rfl (.nil)))) rfl (fun i hI l0_ih => ?_)
      refine AS.seq ?_
      refine AS.seq ?_
      refine AS.region rfl ?_
      refine AS.move rfl rfl rfl rfl ?_
      refine AS.move rfl rfl rfl rfl ?_
      refine AS.bin rfl rfl rfl rfl rfl (BinR.lss rfl) ?_
      refine AS.opsEnd ?_
      refine AS.cond rfl (fun hc1 => ?_) (fun hc1 => ?_)
      · have hi : i < s.size := by simp only [decide_eq_true_eq] at hc1; omega
        refine AS.skip ?_
        refine AS.seq ?_
        refine AS.block ?_
        refine AS.seq ?_
        refine AS.region rfl ?_
        refine AS.move rfl rfl rfl rfl ?_
        refine AS.move rfl rfl rfl rfl ?_
        refine AS.strAt rfl rfl rfl rfl rfl TT2.u9 i rfl hi ?_
        refine AS.assign rfl rfl rfl rfl ?_
        refine AS.opsEnd ?_
        refine AS.seq ?_
        refine AS.region rfl ?_
        refine AS.move rfl rfl rfl rfl ?_
        refine AS.bin rfl rfl rfl rfl rfl (BinR.geq rfl) ?_
        refine AS.move rfl rfl rfl rfl ?_
        refine AS.splitT 24 rfl (fun g24 => ?_) (fun g24 => ?_)
        · refine AS.move rfl rfl rfl rfl ?_
          refine AS.bin rfl rfl rfl rfl rfl (BinR.leq rfl) ?_
          refine AS.pick rfl rfl rfl rfl rfl ?_
          refine AS.move rfl rfl rfl rfl ?_
          refine AS.splitT 28 rfl (fun g28 => ?_) (fun g28 => ?_)
          · refine AS.pass rfl rfl rfl ?_
            refine AS.pass rfl rfl rfl ?_
            refine AS.pass rfl rfl rfl ?_
            refine AS.pass rfl rfl rfl ?_
            refine AS.pass rfl rfl rfl ?_
            refine AS.pass rfl rfl rfl ?_
            refine AS.pick rfl rfl rfl rfl rfl ?_
            refine AS.move rfl rfl rfl rfl ?_
            refine AS.pass rfl rfl rfl ?_
            refine AS.pass rfl rfl rfl ?_
            refine AS.pick rfl rfl rfl rfl rfl ?_
            refine AS.not rfl rfl rfl rfl rfl ?_
            refine AS.opsEnd ?_
            refine AS.condF rfl ?_
            refine AS.skip ?_
            refine AS.inBlock ?_
            have e3 : okAt s i = true := by rw [okAt_eq hi]; (simp only [signI, g10, hc0, hc1, g24, g28]) <;> rfl
            refine AS.region rfl ?_
            refine AS.move rfl rfl rfl rfl ?_
            refine AS.bin rfl rfl rfl rfl rfl (BinR.add (w64 (by omega) (by omega))) ?_
            refine AS.assign rfl rfl rfl rfl ?_
            refine AS.opsEnd ?_
            exact AS.nextI (l0_ih (i + 1) ⟨hi, upTo hI.2 e3⟩ (by omega)) [] (.cons rfl (.cons rfl (.cons rfl (.nil)))) rfl
          · refine AS.move rfl rfl rfl rfl ?_
            refine AS.bin rfl rfl rfl rfl rfl (BinR.geq rfl) ?_
            refine AS.move rfl rfl rfl rfl ?_
            refine AS.splitT 31 rfl (fun g31 => ?_) (fun g31 => ?_)
            · refine AS.move rfl rfl rfl rfl ?_
              refine AS.bin rfl rfl rfl rfl rfl (BinR.leq rfl) ?_
              refine AS.pick rfl rfl rfl rfl rfl ?_
              refine AS.pick rfl rfl rfl rfl rfl ?_
              refine AS.move rfl rfl rfl rfl ?_
              refine AS.splitT 36 rfl (fun g36 => ?_) (fun g36 => ?_)
              · refine AS.pass rfl rfl rfl ?_
                refine AS.pass rfl rfl rfl ?_
                refine AS.pick rfl rfl rfl rfl rfl ?_
                refine AS.not rfl rfl rfl rfl rfl ?_
                refine AS.opsEnd ?_
                refine AS.condF rfl ?_
                refine AS.skip ?_
                refine AS.inBlock ?_
                have e3 : okAt s i = true := by rw [okAt_eq hi]; (simp only [signI, g10, hc0, hc1, g24, g28, g31, g36]) <;> rfl
                refine AS.region rfl ?_
                refine AS.move rfl rfl rfl rfl ?_
                refine AS.bin rfl rfl rfl rfl rfl (BinR.add (w64 (by omega) (by omega))) ?_
                refine AS.assign rfl rfl rfl rfl ?_
                refine AS.opsEnd ?_
                exact AS.nextI (l0_ih (i + 1) ⟨hi, upTo hI.2 e3⟩ (by omega)) [] (.cons rfl (.cons rfl (.cons rfl (.nil)))) rfl
              · refine AS.move rfl rfl rfl rfl ?_
                refine AS.bin rfl rfl rfl rfl rfl (BinR.eql rfl) ?_
                refine AS.pick rfl rfl rfl rfl rfl ?_
                refine AS.not rfl rfl rfl rfl rfl ?_
                refine AS.opsEnd ?_
                refine AS.cond rfl (fun hc2 => ?_) (fun hc2 => ?_)
                · rw [Bool.not_eq_true'] at hc2
                  refine AS.seq ?_
                  refine AS.region rfl ?_
                  refine AS.assign rfl rfl rfl rfl ?_
                  refine AS.opsEnd ?_
                  refine AS.retW Try.func86 rfl (.tmp rfl (.nil)) ?_
                  have e3 : okAt s i = false := by rw [okAt_eq hi]; (simp only [signI, g10, hc0, hc1, g24, g28, g31, g36, hc2]) <;> rfl
                  refine RWk.drop [] rfl ⟨?_, rfl⟩
                  rw [right_no (notOk hi e3)]; rfl
                · rw [Bool.not_eq_false'] at hc2
                  refine AS.skip ?_
                  refine AS.inBlock ?_
                  have e3 : okAt s i = true := by rw [okAt_eq hi]; (simp only [signI, g10, hc0, hc1, g24, g28, g31, g36, hc2]) <;> rfl
                  refine AS.region rfl ?_
                  refine AS.move rfl rfl rfl rfl ?_
                  refine AS.bin rfl rfl rfl rfl rfl (BinR.add (w64 (by omega) (by omega))) ?_
                  refine AS.assign rfl rfl rfl rfl ?_
                  refine AS.opsEnd ?_
                  exact AS.nextI (l0_ih (i + 1) ⟨hi, upTo hI.2 e3⟩ (by omega)) [] (.cons rfl (.cons rfl (.cons rfl (.nil)))) rfl
            · refine AS.pass rfl rfl rfl ?_
              refine AS.pass rfl rfl rfl ?_
              refine AS.pick rfl rfl rfl rfl rfl ?_
              refine AS.pick rfl rfl rfl rfl rfl ?_
              refine AS.move rfl rfl rfl rfl ?_
              refine AS.move rfl rfl rfl rfl ?_
              refine AS.bin rfl rfl rfl rfl rfl (BinR.eql rfl) ?_
              refine AS.pick rfl rfl rfl rfl rfl ?_
              refine AS.not rfl rfl rfl rfl rfl ?_
              refine AS.opsEnd ?_
              refine AS.cond rfl (fun hc2 => ?_) (fun hc2 => ?_)
              · rw [Bool.not_eq_true'] at hc2
                refine AS.seq ?_
                refine AS.region rfl ?_
                refine AS.assign rfl rfl rfl rfl ?_
                refine AS.opsEnd ?_
                refine AS.retW Try.func86 rfl (.tmp rfl (.nil)) ?_
                have e3 : okAt s i = false := by rw [okAt_eq hi]; (simp only [signI, g10, hc0, hc1, g24, g28, g31, hc2]) <;> rfl
                refine RWk.drop [] rfl ⟨?_, rfl⟩
                rw [right_no (notOk hi e3)]; rfl
              · rw [Bool.not_eq_false'] at hc2
                refine AS.skip ?_
                refine AS.inBlock ?_
                have e3 : okAt s i = true := by rw [okAt_eq hi]; (simp only [signI, g10, hc0, hc1, g24, g28, g31, hc2]) <;> rfl
                refine AS.region rfl ?_
                refine AS.move rfl rfl rfl rfl ?_
                refine AS.bin rfl rfl rfl rfl rfl (BinR.add (w64 (by omega) (by omega))) ?_
                refine AS.assign rfl rfl rfl rfl ?_
                refine AS.opsEnd ?_
                exact AS.nextI (l0_ih (i + 1) ⟨hi, upTo hI.2 e3⟩ (by omega)) [] (.cons rfl (.cons rfl (.cons rfl (.nil)))) rfl
        · refine AS.pass rfl rfl rfl ?_
          refine AS.pass rfl rfl rfl ?_
          refine AS.pick rfl rfl rfl rfl rfl ?_
          refine AS.move rfl rfl rfl rfl ?_
          refine AS.move rfl rfl rfl rfl ?_
          refine AS.bin rfl rfl rfl rfl rfl (BinR.geq rfl) ?_
          refine AS.move rfl rfl rfl rfl ?_
          refine AS.splitT 31 rfl (fun g31 => ?_) (fun g31 => ?_)
          · refine AS.move rfl rfl rfl rfl ?_
            refine AS.bin rfl rfl rfl rfl rfl (BinR.leq rfl) ?_
            refine AS.pick rfl rfl rfl rfl rfl ?_
            refine AS.pick rfl rfl rfl rfl rfl ?_
            refine AS.move rfl rfl rfl rfl ?_
            refine AS.splitT 36 rfl (fun g36 => ?_) (fun g36 => ?_)
            · refine AS.pass rfl rfl rfl ?_
              refine AS.pass rfl rfl rfl ?_
              refine AS.pick rfl rfl rfl rfl rfl ?_
              refine AS.not rfl rfl rfl rfl rfl ?_
              refine AS.opsEnd ?_
              refine AS.condF rfl ?_
              refine AS.skip ?_
              refine AS.inBlock ?_
              have e3 : okAt s i = true := by rw [okAt_eq hi]; (simp only [signI, g10, hc0, hc1, g24, g31, g36]) <;> rfl
              refine AS.region rfl ?_
              refine AS.move rfl rfl rfl rfl ?_
              refine AS.bin rfl rfl rfl rfl rfl (BinR.add (w64 (by omega) (by omega))) ?_
              refine AS.assign rfl rfl rfl rfl ?_
              refine AS.opsEnd ?_
              exact AS.nextI (l0_ih (i + 1) ⟨hi, upTo hI.2 e3⟩ (by omega)) [] (.cons rfl (.cons rfl (.cons rfl (.nil)))) rfl
            · refine AS.move rfl rfl rfl rfl ?_
              refine AS.bin rfl rfl rfl rfl rfl (BinR.eql rfl) ?_
              refine AS.pick rfl rfl rfl rfl rfl ?_
              refine AS.not rfl rfl rfl rfl rfl ?_
              refine AS.opsEnd ?_
              refine AS.cond rfl (fun hc2 => ?_) (fun hc2 => ?_)
              · rw [Bool.not_eq_true'] at hc2
                refine AS.seq ?_
                refine AS.region rfl ?_
                refine AS.assign rfl rfl rfl rfl ?_
                refine AS.opsEnd ?_
                refine AS.retW Try.func86 rfl (.tmp rfl (.nil)) ?_
                have e3 : okAt s i = false := by rw [okAt_eq hi]; (simp only [signI, g10, hc0, hc1, g24, g31, g36, hc2]) <;> rfl
                refine RWk.drop [] rfl ⟨?_, rfl⟩
                rw [right_no (notOk hi e3)]; rfl
              · rw [Bool.not_eq_false'] at hc2
                refine AS.skip ?_
                refine AS.inBlock ?_
                have e3 : okAt s i = true := by rw [okAt_eq hi]; (simp only [signI, g10, hc0, hc1, g24, g31, g36, hc2]) <;> rfl
                refine AS.region rfl ?_
                refine AS.move rfl rfl rfl rfl ?_
                refine AS.bin rfl rfl rfl rfl rfl (BinR.add (w64 (by omega) (by omega))) ?_
                refine AS.assign rfl rfl rfl rfl ?_
                refine AS.opsEnd ?_
                exact AS.nextI (l0_ih (i + 1) ⟨hi, upTo hI.2 e3⟩ (by omega)) [] (.cons rfl (.cons rfl (.cons rfl (.nil)))) rfl
          · refine AS.pass rfl rfl rfl ?_
            refine AS.pass rfl rfl rfl ?_
            refine AS.pick rfl rfl rfl rfl rfl ?_
            refine AS.pick rfl rfl rfl rfl rfl ?_
            refine AS.move rfl rfl rfl rfl ?_
            refine AS.move rfl rfl rfl rfl ?_
            refine AS.bin rfl rfl rfl rfl rfl (BinR.eql rfl) ?_
            refine AS.pick rfl rfl rfl rfl rfl ?_
            refine AS.not rfl rfl rfl rfl rfl ?_
            refine AS.opsEnd ?_
            refine AS.cond rfl (fun hc2 => ?_) (fun hc2 => ?_)
            · rw [Bool.not_eq_true'] at hc2
              refine AS.seq ?_
              refine AS.region rfl ?_
              refine AS.assign rfl rfl rfl rfl ?_
              refine AS.opsEnd ?_
              refine AS.retW Try.func86 rfl (.tmp rfl (.nil)) ?_
              have e3 : okAt s i = false := by rw [okAt_eq hi]; (simp only [signI, g10, hc0, hc1, g24, g31, hc2]) <;> rfl
              refine RWk.drop [] rfl ⟨?_, rfl⟩
              rw [right_no (notOk hi e3)]; rfl
            · rw [Bool.not_eq_false'] at hc2
              refine AS.skip ?_
              refine AS.inBlock ?_
              have e3 : okAt s i = true := by rw [okAt_eq hi]; (simp only [signI, g10, hc0, hc1, g24, g31, hc2]) <;> rfl
              refine AS.region rfl ?_
              refine AS.move rfl rfl rfl rfl ?_
              refine AS.bin rfl rfl rfl rfl rfl (BinR.add (w64 (by omega) (by omega))) ?_
              refine AS.assign rfl rfl rfl rfl ?_
              refine AS.opsEnd ?_
              exact AS.nextI (l0_ih (i + 1) ⟨hi, upTo hI.2 e3⟩ (by omega)) [] (.cons rfl (.cons rfl (.cons rfl (.nil)))) rfl
      · have hall := allOk (fun j hj => hI.2 j (by simp only [decide_eq_false_iff_not] at hc1; omega) hj)
        refine AS.exit rfl ?_
        refine AS.seq ?_
        refine AS.region rfl ?_
        refine AS.move rfl rfl rfl rfl ?_
        refine AS.strAt rfl rfl rfl rfl rfl TT2.u9 0 rfl h1 ?_
        refine AS.bin rfl rfl rfl rfl rfl (BinR.neq rfl) ?_
        refine AS.move rfl rfl rfl rfl ?_
        refine AS.splitT 44 rfl (fun g44 => ?_) (fun g44 => ?_)
        · refine AS.move rfl rfl rfl rfl ?_
          refine AS.move rfl rfl rfl rfl ?_
          refine AS.bin rfl rfl rfl rfl rfl (BinR.sub (w64 (by omega) (by omega))) ?_
          refine AS.strAt rfl rfl rfl rfl rfl TT2.u9 (s.size - 1) (by omega) (by omega) ?_
          refine AS.bin rfl rfl rfl rfl rfl (BinR.neq rfl) ?_
          refine AS.pick rfl rfl rfl rfl rfl ?_
          refine AS.assign rfl rfl rfl rfl ?_
          refine AS.opsEnd ?_
          refine AS.retW Try.func86 rfl (.tmp rfl (.nil)) ?_
          refine RWk.drop [] rfl ⟨?_, rfl⟩
          show AV.bool _ = AV.bool _
          have h3 : decide ((s.size : Int) ≤ 24) = true := decide_eq_true h2
          (simp only [right_at h1, hall, h3, g10, hc0, hc1, g44]) <;> rfl
        · refine AS.pass rfl rfl rfl ?_
          refine AS.pass rfl rfl rfl ?_
          refine AS.pass rfl rfl rfl ?_
          refine AS.pass rfl rfl rfl ?_
          refine AS.pass rfl rfl rfl ?_
          refine AS.pick rfl rfl rfl rfl rfl ?_
          refine AS.assign rfl rfl rfl rfl ?_
          refine AS.opsEnd ?_
          refine AS.retW Try.func86 rfl (.tmp rfl (.nil)) ?_
          refine RWk.drop [] rfl ⟨?_, rfl⟩
          show AV.bool _ = AV.bool _
          have h3 : decide ((s.size : Int) ≤ 24) = true := decide_eq_true h2
          (simp only [right_at h1, hall, h3, g10, hc0, hc1, g44]) <;> rfl
theorem label_key (k : Key) (H : AH) : ACalls Try.prog [] 71 [encKey k] H (fun x H' => x = .bool (keyRight k) ∧ H' = H) := by
  refine ACalls.enter (n := 16) Try.func71 rfl rfl (Nat.le_of_ble_eq_true rfl) ?_
  refine AS.seq ?_
  refine AS.region rfl ?_
  refine AS.box rfl rfl rfl rfl rfl ?_
  intro b1
  refine AS.assign rfl rfl rfl rfl ?_
  refine AS.opsEnd ?_
  refine AS.seq ?_
  refine AS.region rfl ?_
  refine AS.fieldAddr rfl rfl rfl rfl TT2.fl35_1 ?_
  refine AS.load rfl rfl rfl rfl TT2.ty9 rfl rfl rfl ?_
  refine AS.callP rfl rfl rfl rfl TT2.en85 (label_right _ _) ?_
  refine AS.move rfl rfl rfl rfl ?_
  refine AS.splitT 6 rfl (fun g6 => ?_) (fun g6 => ?_)
  · refine AS.fieldAddr rfl rfl rfl rfl TT2.fl35_0 ?_
    refine AS.load rfl rfl rfl rfl TT2.ty9 rfl rfl rfl ?_
    refine AS.callP rfl rfl rfl rfl TT2.en85 (label_right _ _) ?_
    refine AS.pick rfl rfl rfl rfl rfl ?_
    refine AS.move rfl rfl rfl rfl ?_
    refine AS.splitT 11 rfl (fun g11 => ?_) (fun g11 => ?_)
    · refine AS.fieldAddr rfl rfl rfl rfl TT2.fl35_2 ?_
      refine AS.load rfl rfl rfl rfl TT2.ty9 rfl rfl rfl ?_
      refine AS.callP rfl rfl rfl rfl TT2.en85 (label_right _ _) ?_
      refine AS.pick rfl rfl rfl rfl rfl ?_
      refine AS.assign rfl rfl rfl rfl ?_
      refine AS.opsEnd ?_
      refine AS.retW Try.func71 rfl (.tmp rfl (.nil)) ?_
      refine RWk.drop [_] rfl ⟨?_, rfl⟩
      show AV.bool _ = AV.bool _
      (simp only [keyRight, g6, g11, Bool.and_false, Bool.false_and, Bool.and_true, Bool.true_and]) <;> rfl
    · refine AS.pass rfl rfl rfl ?_
      refine AS.pass rfl rfl rfl ?_
      refine AS.pass rfl rfl rfl ?_
      refine AS.pick rfl rfl rfl rfl rfl ?_
      refine AS.assign rfl rfl rfl rfl ?_
      refine AS.opsEnd ?_
      refine AS.retW Try.func71 rfl (.tmp rfl (.nil)) ?_
      refine RWk.drop [_] rfl ⟨?_, rfl⟩
      show AV.bool _ = AV.bool _
      (simp only [keyRight, g6, g11, Bool.and_false, Bool.false_and, Bool.and_true, Bool.true_and]) <;> rfl
  · refine AS.pass rfl rfl rfl ?_
    refine AS.pass rfl rfl rfl ?_
    refine AS.pass rfl rfl rfl ?_
    refine AS.pick rfl rfl rfl rfl rfl ?_
    refine AS.move rfl rfl rfl rfl ?_
    refine AS.pass rfl rfl rfl ?_
    refine AS.pass rfl rfl rfl ?_
    refine AS.pass rfl rfl rfl ?_
    refine AS.pick rfl rfl rfl rfl rfl ?_
    refine AS.assign rfl rfl rfl rfl ?_
    refine AS.opsEnd ?_
    refine AS.retW Try.func71 rfl (.tmp rfl (.nil)) ?_
    refine RWk.drop [_] rfl ⟨?_, rfl⟩
    show AV.bool _ = AV.bool _
    (simp only [keyRight, g6, Bool.and_false, Bool.false_and, Bool.and_true, Bool.true_and]) <;> rfl
theorem ref_key (k : Key) (H : AH) : ACalls Try.prog [] 63 [encKey k] H (fun x H' => x = .bool (keyRight k) ∧ H' = H) := by
  refine ACalls.enter (n := 22) Try.func63 rfl rfl (Nat.le_of_ble_eq_true rfl) ?_
  refine AS.seq ?_
  refine AS.region rfl ?_
  refine AS.box rfl rfl rfl rfl rfl ?_
  intro b1
  refine AS.assign rfl rfl rfl rfl ?_
  refine AS.opsEnd ?_
  refine AS.seq ?_
  refine AS.region rfl ?_
  refine AS.fieldAddr rfl rfl rfl rfl TT2.fl35_0 ?_
  refine AS.load rfl rfl rfl rfl TT2.ty9 rfl rfl rfl ?_
  refine AS.callP rfl rfl rfl rfl TT2.en86 (ref_right _ _) ?_
  refine AS.assign rfl rfl rfl rfl ?_
  refine AS.opsEnd ?_
  refine AS.seq ?_
  refine AS.region rfl ?_
  refine AS.fieldAddr rfl rfl rfl rfl TT2.fl35_1 ?_
  refine AS.load rfl rfl rfl rfl TT2.ty9 rfl rfl rfl ?_
  refine AS.callP rfl rfl rfl rfl TT2.en86 (ref_right _ _) ?_
  refine AS.assign rfl rfl rfl rfl ?_
  refine AS.opsEnd ?_
  refine AS.seq ?_
  refine AS.region rfl ?_
  refine AS.fieldAddr rfl rfl rfl rfl TT2.fl35_2 ?_
  refine AS.load rfl rfl rfl rfl TT2.ty9 rfl rfl rfl ?_
  refine AS.callP rfl rfl rfl rfl TT2.en86 (ref_right _ _) ?_
  refine AS.assign rfl rfl rfl rfl ?_
  refine AS.opsEnd ?_
  refine AS.seq ?_
  refine AS.region rfl ?_
  refine AS.move rfl rfl rfl rfl ?_
  refine AS.move rfl rfl rfl rfl ?_
  refine AS.splitT 16 rfl (fun g16 => ?_) (fun g16 => ?_)
  · refine AS.move rfl rfl rfl rfl ?_
    refine AS.pick rfl rfl rfl rfl rfl ?_
    refine AS.move rfl rfl rfl rfl ?_
    refine AS.splitT 19 rfl (fun g19 => ?_) (fun g19 => ?_)
    · refine AS.move rfl rfl rfl rfl ?_
      refine AS.pick rfl rfl rfl rfl rfl ?_
      refine AS.assign rfl rfl rfl rfl ?_
      refine AS.opsEnd ?_
      refine AS.retW Try.func63 rfl (.tmp rfl (.nil)) ?_
      refine RWk.drop [_] rfl ⟨?_, rfl⟩
      show AV.bool _ = AV.bool _
      (simp only [keyRight, g16, g19, Bool.and_false, Bool.false_and, Bool.and_true, Bool.true_and]) <;> rfl
    · refine AS.pass rfl rfl rfl ?_
      refine AS.pick rfl rfl rfl rfl rfl ?_
      refine AS.assign rfl rfl rfl rfl ?_
      refine AS.opsEnd ?_
      refine AS.retW Try.func63 rfl (.tmp rfl (.nil)) ?_
      refine RWk.drop [_] rfl ⟨?_, rfl⟩
      show AV.bool _ = AV.bool _
      (simp only [keyRight, g16, g19, Bool.and_false, Bool.false_and, Bool.and_true, Bool.true_and]) <;> rfl
  · refine AS.pass rfl rfl rfl ?_
    refine AS.pick rfl rfl rfl rfl rfl ?_
    refine AS.move rfl rfl rfl rfl ?_
    refine AS.pass rfl rfl rfl ?_
    refine AS.pick rfl rfl rfl rfl rfl ?_
    refine AS.assign rfl rfl rfl rfl ?_
    refine AS.opsEnd ?_
    refine AS.retW Try.func63 rfl (.tmp rfl (.nil)) ?_
    refine RWk.drop [_] rfl ⟨?_, rfl⟩
    show AV.bool _ = AV.bool _
    (simp only [keyRight, g16, Bool.and_false, Bool.false_and, Bool.and_true, Bool.true_and]) <;> rfl
end Go.Proofs.Ytncecheccihjoaa
