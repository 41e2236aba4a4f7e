/- A part of the proof: XFwJ, XFwK, XFwL, XFwM, XFwN, XFwO, XFwP, XDat, XLab, XObj, XSort, XT2, XT3, XT4, XT5. -/
import Derived.Test.YtncecheccihjoaaP0
import Derived.Orders
import Derived.Laws.Strings
import Derived.Test.YtncecheccihjoaaProg
/- A region whose order is open. -/
namespace Go.Proofs.Fw
open Go Go.Shelf Go.RowKit
set_option linter.unusedVariables false
set_option linter.unusedSimpArgs false

/-- What must have been carried out ahead of an operation. -/
def preOf (ops : Array Oper) (i : Nat) : List Nat := match ops[i]? with
  | some o => (o.after.toList.filter fun e => Region.binds .any e).map (·.on)
  | none => []
def preOk (ops : Array Oper) : Bool := (List.range ops.size).all fun i => (preOf ops i).all fun j => Nat.blt j i

/-- An order that may be: what is done, and what is to come. -/
inductive Legal (ops : Array Oper) : List Nat → List Nat → Prop where
  | nil (done : List Nat) (h : ∀ i, i < ops.size → i ∈ done) : Legal ops done []
  | cons (i : Nat) (done rest : List Nat) (h : i < ops.size) (hn : i ∉ done) (hp : ∀ j, j ∈ preOf ops i → j ∈ done) (r : Legal ops (i :: done) rest) : Legal ops done (i :: rest)

theorem getD_set_same {listed : Array Bool} {i : Nat} (h : i < listed.size) (d : Bool) : (listed.setIfInBounds i true).getD i d = true := by
  simp [Array.getD_eq_getD_getElem?, h]

theorem ready_of {ops : Array Oper} {listed : Array Bool} {done : List Nat} (hsz : listed.size = ops.size) (hl : ∀ j, j < ops.size → (listed.getD j false = true ↔ j ∈ done)) {i : Nat} (hi : i < ops.size) (hn : i ∉ done)
    (hp : ∀ j, j ∈ preOf ops i → j ∈ done ∧ j < ops.size) : i ∈ Region.ready .any ops listed := by
  rw [mem_ready]
  have hlf : listed.getD i false = false := by
    cases h : listed.getD i false with
    | false => rfl
    | true => exact absurd ((hl i hi).1 h) hn
  refine ⟨?_, ops[i], by simp [hi], fun e he hb => ?_⟩
  · simpa [Array.getD_eq_getD_getElem?, hsz, hi] using hlf
  · have : e.on ∈ preOf ops i := by
      simp only [preOf, Array.getElem?_eq_getElem hi, List.mem_map, List.mem_filter, Array.mem_toList_iff]
      exact ⟨e, ⟨he, hb⟩, rfl⟩
    exact (hl _ (hp _ this).2).2 (hp _ this).1

theorem of_ready {ops : Array Oper} {listed : Array Bool} {done : List Nat} (hsz : listed.size = ops.size) (hl : ∀ j, j < ops.size → (listed.getD j false = true ↔ j ∈ done)) {i : Nat} (h : i ∈ Region.ready .any ops listed) :
    i < ops.size ∧ i ∉ done ∧ ∀ j, j ∈ preOf ops i → j ∈ done := by
  rw [mem_ready] at h
  obtain ⟨h0, o, ho, hall⟩ := h
  have hi : i < ops.size := (Array.getElem?_eq_some_iff.1 ho).1
  refine ⟨hi, fun hm => ?_, fun j hj => ?_⟩
  · have h1 := (hl i hi).2 hm
    simp only [Array.getD_eq_getD_getElem?, Array.getElem?_eq_getElem (show i < listed.size by omega)] at h0 h1
    simp at h0 h1
    rw [h0] at h1; cases h1
  · simp only [preOf, ho, List.mem_map, List.mem_filter, Array.mem_toList_iff] at hj
    obtain ⟨e, ⟨he, hb⟩, rfl⟩ := hj
    have h1 := hall e he hb
    have hlt : e.on < ops.size := by
      rcases Nat.lt_or_ge e.on ops.size with h2 | h2
      · exact h2
      · simp [Array.getD_eq_getD_getElem?, Array.getElem?_eq_none (show listed.size ≤ e.on by omega)] at h1
    exact (hl _ hlt).1 h1

theorem legal_go {ops : Array Oper} (hpre : preOk ops = true) : ∀ (fuel t : Nat) (listed : Array Bool) (done : List Nat), listed.size = ops.size → (∀ j, j < ops.size → (listed.getD j false = true ↔ j ∈ done)) →
    done.Nodup → (∀ j ∈ done, j < ops.size) → fuel + done.length = ops.size → Legal ops done (Region.linearise.go .any ops fuel t listed []) := by
  intro fuel
  induction fuel with
  | zero =>
    intro t listed done hsz hl hnd hlt hf
    simp only [Region.linearise.go, List.reverse_nil]
    refine .nil _ fun i hi => Classical.byContradiction fun hn => ?_
    have h1 : (i :: done).Nodup := List.nodup_cons.2 ⟨hn, hnd⟩
    have h2 : (i :: done) ⊆ List.range ops.size := fun j hj => by
      rcases List.mem_cons.1 hj with e | hj
      · subst e; exact List.mem_range.2 hi
      · exact List.mem_range.2 (hlt j hj)
    have := h1.length_le_of_subset h2
    simp at this; omega
  | succ fuel ih =>
    intro t listed done hsz hl hnd hlt hf
    have hne : Region.ready .any ops listed ≠ [] := by
      -- the least that isn't done
      have hex : ∃ i, i < ops.size ∧ i ∉ done := Classical.byContradiction fun hno => by
        have hall : ∀ i, i < ops.size → i ∈ done := fun i hi => Classical.byContradiction fun hn => hno ⟨i, hi, hn⟩
        have h2 : List.range ops.size ⊆ done := fun j hj => hall j (List.mem_range.1 hj)
        have := (List.nodup_range (n := ops.size)).length_le_of_subset h2
        simp at this; omega
      have hleast : ∃ i, i < ops.size ∧ i ∉ done ∧ ∀ j, j < i → j ∈ done := by
        obtain ⟨i, hi⟩ := hex
        induction i using Nat.strongRecOn with
        | _ i ihi =>
          by_cases h : ∃ j, j < i ∧ j ∉ done
          · obtain ⟨j, hj, hjd⟩ := h
            exact ihi j hj ⟨by omega, hjd⟩
          · exact ⟨i, hi.1, hi.2, fun j hj => Classical.byContradiction fun hn => h ⟨j, hj, hn⟩⟩
      obtain ⟨i, hi, hn, hb⟩ := hleast
      have hp : ∀ j, j ∈ preOf ops i → j < i := fun j hj => by
        have := List.all_eq_true.1 hpre i (List.mem_range.2 hi)
        exact Nat.le_of_ble_eq_true (List.all_eq_true.1 this j hj)
      exact List.ne_nil_of_mem (ready_of hsz hl hi hn (fun j hj => ⟨hb j (hp j hj), by have := hp j hj; omega⟩))
    simp only [Region.linearise.go]
    change Legal ops done (match (Region.ready .any ops listed)[t % (Region.ready .any ops listed).length]? with
      | some i => Region.linearise.go .any ops fuel (t / (Region.ready .any ops listed).length) (listed.setIfInBounds i true) [i]
      | none => [].reverse)
    have hlen : t % (Region.ready .any ops listed).length < (Region.ready .any ops listed).length := Nat.mod_lt _ (List.length_pos_iff.2 hne)
    rw [List.getElem?_eq_getElem hlen]
    simp only
    have hmem := List.getElem_mem hlen
    generalize (Region.ready .any ops listed)[t % (Region.ready .any ops listed).length] = i at hmem
    obtain ⟨hi, hn, hp⟩ := of_ready hsz hl hmem
    rw [linearise_go_acc, List.reverse_singleton, List.singleton_append]
    refine .cons i done _ hi hn hp (ih _ _ _ (by simpa using hsz) (fun j hj => ?_) (List.nodup_cons.2 ⟨hn, hnd⟩) (fun j hj => ?_) (by simp; omega))
    · by_cases hij : i = j
      · subst hij
        simp [getD_set_same (show i < listed.size by omega)]
      · rw [getD_set_ne false hij, hl j hj, List.mem_cons]
        exact ⟨fun h => .inr h, fun h => h.resolve_left (fun e => hij e.symm)⟩
    · rcases List.mem_cons.1 hj with e | hj
      · subst e; exact hi
      · exact hlt j hj

theorem legal_schedule {ops : Array Oper} (hpre : preOk ops = true) (t : Nat) : Legal ops [] (Region.schedule true ops t) := by
  unfold Region.schedule
  simp only [Bool.true_or, if_true]
  unfold Region.linearise
  refine legal_go hpre ops.size t _ [] (by simp) (fun j hj => by simp [Array.getD_eq_getD_getElem?, hj]) List.nodup_nil (by simp) (by simp)

/-! ### What has been worked out ahead -/
structure Rd where
  idx : Nat
  dst : Option Tmp
  val : AV
  need : Env

/-- What is known where 'pend' are still to be carried out. -/
def cur (es : List Rd) (pend : List Nat) (base : Env) : Env := match es with
  | [] => base
  | r :: es => if r.idx ∈ pend then cur es pend base else putEnv r.dst r.val (cur es pend base)
def full (es : List Rd) (base : Env) : Env := match es with
  | [] => base
  | r :: es => putEnv r.dst r.val (full es base)

section
variable {P : Program} {GV : AH} {f : FuncId} {n : Nat} {k : List Item} {R : AV → AH → Prop} {ops : Array Oper}

def Ro (P : Program) (GV : AH) (f : FuncId) (n : Nat) (k : List Item) (R : AV → AH → Prop) (ops : Array Oper) (HH : AH → Prop) (r : Rd) : Prop :=
  ∀ H, HH H → ∀ env rest, AS P GV f n (.inRegion ops rest :: k) (putEnv r.dst r.val (r.need ++ env)) H R → AS P GV f n (.inRegion ops (r.idx :: rest) :: k) (r.need ++ env) H R

/-- What an entry must be like, those ahead of it being es. -/
structure RdOk (ops : Array Oper) (r : Rd) (es : List Rd) (base : Env) : Prop where
  lt : r.idx < ops.size
  fresh : ∀ q ∈ es, q.idx ≠ r.idx
  dst : (ops[r.idx]?).bind (·.dst) = r.dst
  pre : ∀ j, j ∈ preOf ops r.idx → ∃ q ∈ es, q.idx = j
  need : EnvLe (full es base) r.need
  slots : ∀ t x, r.need.get t = some x → ∀ j, j < ops.size → (ops[j]?).bind (·.dst) = some t → j ∈ preOf ops r.idx ∨ r.idx ∈ preOf ops j

inductive EsOk (ops : Array Oper) (base : Env) : List Rd → Prop where
  | nil : EsOk ops base []
  | cons {r : Rd} {es : List Rd} (h : RdOk ops r es base) (hs : EsOk ops base es) : EsOk ops base (r :: es)

def dstsOk (ops : Array Oper) : Bool := (List.range ops.size).all fun i => (List.range ops.size).all fun j => Nat.beq i j || (match (ops[i]?).bind (·.dst), (ops[j]?).bind (·.dst) with | some a, some b => !Nat.beq a b | _, _ => true)

theorem dstsOk_ne {ops : Array Oper} (h : dstsOk ops = true) {i j t : Nat} (hi : i < ops.size) (hj : j < ops.size) (h1 : (ops[i]?).bind (·.dst) = some t) (h2 : (ops[j]?).bind (·.dst) = some t) : i = j := by
  have := List.all_eq_true.1 (List.all_eq_true.1 h i (List.mem_range.2 hi)) j (List.mem_range.2 hj)
  rw [h1, h2] at this
  simp only [Nat.beq_refl, Bool.not_true, Bool.or_false] at this
  exact Nat.eq_of_beq_eq_true this

theorem get_put {d : Option Tmp} {x : AV} {env : Env} {t : Nat} : (putEnv d x env).get t = if d = some t then some x else env.get t := by
  cases d with
  | none => simp [putEnv]
  | some d =>
    simp only [putEnv, Env.get]
    by_cases h : d = t
    · subst h; simp
    · have : Nat.beq d t = false := by
        cases hb : Nat.beq d t with
        | false => rfl
        | true => exact absurd (Nat.eq_of_beq_eq_true hb) h
      simp [this, h]

theorem get_append {a b : Env} {t : Nat} : (a ++ b : Env).get t = match a.get t with | some x => some x | none => b.get t := by
  induction a with
  | nil => rfl
  | cons p a ih =>
    obtain ⟨s, x⟩ := p
    simp only [List.cons_append, Env.get]
    split <;> simp_all

theorem EsOk.mem {base : Env} {es : List Rd} (h : EsOk ops base es) {r : Rd} (hr : r ∈ es) : ∃ es1 es2, es = es1 ++ r :: es2 ∧ RdOk ops r es2 base ∧ EsOk ops base es2 := by
  induction h with
  | nil => cases hr
  | @cons q es hq hs ih =>
    rcases List.mem_cons.1 hr with e | hr
    · subst e; exact ⟨[], es, rfl, hq, hs⟩
    · obtain ⟨es1, es2, e, h1, h2⟩ := ih hr
      exact ⟨q :: es1, es2, by rw [e]; rfl, h1, h2⟩

/-- Of a slot: nobody who is done has written it but who is named. -/
theorem cur_get {base : Env} {pend : List Nat} {t : Nat} : ∀ {es : List Rd}, (∀ r ∈ es, r.dst = some t → r.idx ∈ pend) → (cur es pend base).get t = base.get t
  | [], _ => rfl
  | r :: es, h => by
    simp only [cur]
    split
    · exact cur_get (fun q hq => h q (List.mem_cons_of_mem _ hq))
    · rename_i hp
      rw [get_put, if_neg (fun e => hp (h r List.mem_cons_self e))]
      exact cur_get (fun q hq => h q (List.mem_cons_of_mem _ hq))
theorem cur_append (es1 es2 : List Rd) (pend : List Nat) (base : Env) : cur (es1 ++ es2) pend base = cur es1 pend (cur es2 pend base) := by
  induction es1 with
  | nil => rfl
  | cons r es ih => simp only [List.cons_append, cur, ih]
theorem full_get_eq {base : Env} {pend : List Nat} {t : Nat} : ∀ {es : List Rd}, (∀ r ∈ es, r.dst = some t → r.idx ∉ pend) → (cur es pend base).get t = (full es base).get t
  | [], _ => rfl
  | r :: es, h => by
    have ih := full_get_eq (base := base) (fun q hq => h q (List.mem_cons_of_mem _ hq))
    simp only [cur, full, get_put]
    split
    · rename_i hp
      rw [if_neg (fun e => h r List.mem_cons_self e hp)]; exact ih
    · rw [get_put]
      split
      · rfl
      · exact ih

/-- Where an operation is at the head of an order, what it needs is at hand. -/
theorem need_at {base : Env} {es1 es2 : List Rd} {r : Rd} {pend done : List Nat} (hr : RdOk ops r es2 base) (h1 : ∀ q ∈ es1 ++ es2, q.idx < ops.size ∧ (ops[q.idx]?).bind (·.dst) = q.dst ∧ (q.idx ∈ pend ∨ q.idx ∈ done))
    (hpd : ∀ j ∈ pend, j ∉ done) (hpre : ∀ j, j ∈ preOf ops r.idx → j ∈ done) (h2 : ∀ q ∈ es2, r.idx ∉ preOf ops q.idx) (h3 : ∀ q ∈ es1, r.idx ∈ preOf ops q.idx → q.idx ∈ pend) (hpre1 : ∀ q ∈ es1, q.idx ∉ preOf ops r.idx) :
    EnvLe (cur (es1 ++ es2) pend base) r.need := by
  intro t x hx
  have hf := hr.need t x hx
  have hsl := hr.slots t x hx
  rw [cur_append]
  rw [cur_get (fun q hq hd => ?_), full_get_eq (fun q hq hd => ?_)]
  · exact hf
  · obtain ⟨hl, hdst, _⟩ := h1 q (List.mem_append_right _ hq)
    rcases hsl q.idx hl (by rw [hdst, hd]) with h | h
    · exact fun hp => hpd _ hp (hpre _ h)
    · exact absurd h (h2 q hq)
  · obtain ⟨hl, hdst, _⟩ := h1 q (List.mem_append_left _ hq)
    rcases hsl q.idx hl (by rw [hdst, hd]) with h | h
    · exact absurd h (hpre1 q hq)
    · exact h3 q hq h

theorem EsOk.all {base : Env} {es : List Rd} (h : EsOk ops base es) : ∀ q ∈ es, q.idx < ops.size ∧ (ops[q.idx]?).bind (·.dst) = q.dst := by
  induction h with
  | nil => intro q hq; cases hq
  | cons h hs ih =>
    intro q hq
    rcases List.mem_cons.1 hq with e | hq
    · subst e; exact ⟨h.lt, h.dst⟩
    · exact ih q hq

theorem EsOk.later {base : Env} {es1 es2 : List Rd} {r : Rd} (h : EsOk ops base (es1 ++ r :: es2)) : (∀ q ∈ es1, q.idx ≠ r.idx) ∧ (∀ q ∈ es1, ∀ p ∈ es2, q.idx ≠ p.idx) := by
  induction es1 with
  | nil => exact ⟨by simp, by simp⟩
  | cons q es ih =>
    cases h with
    | cons hq hs =>
      obtain ⟨h1, h2⟩ := ih hs
      refine ⟨fun p hp => ?_, fun p hp z hz => ?_⟩
      · rcases List.mem_cons.1 hp with e | hp
        · subst e; exact fun e => hq.fresh r (by simp) e.symm
        · exact h1 p hp
      · rcases List.mem_cons.1 hp with e | hp
        · subst e; exact fun e => hq.fresh z (by simp [hz]) e.symm
        · exact h2 p hp z hz

theorem EsOk.preIn {base : Env} {es : List Rd} (h : EsOk ops base es) : ∀ q ∈ es, ∀ j, j ∈ preOf ops q.idx → ∃ p ∈ es, p.idx = j := by
  induction h with
  | nil => intro q hq; cases hq
  | cons h hs ih =>
    intro q hq j hj
    rcases List.mem_cons.1 hq with e | hq
    · subst e; obtain ⟨p, hp, e⟩ := h.pre j hj; exact ⟨p, List.mem_cons_of_mem _ hp, e⟩
    · obtain ⟨p, hp, e⟩ := ih q hq j hj; exact ⟨p, List.mem_cons_of_mem _ hp, e⟩

/-- One of those that are still to come comes. -/
theorem run_pend {base : Env} {es : List Rd} {HH : AH → Prop} {H : AH} {pend done l : List Nat} {i : Nat} (hd : dstsOk ops = true) (hes : EsOk ops base es) (hH : HH H) (hi : i ∈ pend) (hpe : ∀ j ∈ pend, ∃ r ∈ es, r.idx = j) (hnd : pend.Nodup)
    (hdone : ∀ j, j < ops.size → (j ∈ done ↔ (∃ r ∈ es, r.idx = j) ∧ j ∉ pend)) (hpre : ∀ j, j ∈ preOf ops i → j ∈ done) (hpreS : ∀ q ∈ es, ∀ j ∈ preOf ops q.idx, j < ops.size) (hlater : ∀ j, j ∈ done → j < ops.size → i ∉ preOf ops j)
    (hro : ∀ r ∈ es, r.idx ∈ pend → Ro P GV f n k R ops HH r) (next : AS P GV f n (.inRegion ops l :: k) (cur es (pend.erase i) base) H R) :
    AS P GV f n (.inRegion ops (i :: l) :: k) (cur es pend base) H R := by
  obtain ⟨r, hr, rfl⟩ := hpe i hi
  obtain ⟨es1, es2, hsplit, hrok, hes2⟩ := hes.mem hr
  subst hsplit
  obtain ⟨hf1, hf12⟩ := hes.later
  have hall := hes.all
  have hin : ∀ q ∈ es1 ++ r :: es2, q.idx ∈ pend ∨ q.idx ∈ done := fun q hq => by
    by_cases hp : q.idx ∈ pend
    · exact .inl hp
    · exact .inr ((hdone q.idx (hall q hq).1).2 ⟨⟨q, hq, rfl⟩, hp⟩)
  have hpd : ∀ j ∈ pend, j ∉ done := fun j hj hjd => by
    obtain ⟨q, hq, rfl⟩ := hpe j hj
    exact ((hdone _ (hall q hq).1).1 hjd).2 hj
  have hcur : cur (es1 ++ r :: es2) pend base = cur (es1 ++ es2) pend base := by
    rw [cur_append, cur_append]
    congr 1
    simp only [cur, if_pos hi]
  have hneed : EnvLe (cur (es1 ++ r :: es2) pend base) r.need := by
    rw [hcur]
    refine need_at (done := done) hrok (fun q hq => ?_) hpd hpre (fun q hq hm => ?_) (fun q hq hm => ?_) (fun q hq hm => ?_)
    · have hq' : q ∈ es1 ++ r :: es2 := by
        rcases List.mem_append.1 hq with h | h
        · exact List.mem_append_left _ h
        · exact List.mem_append_right _ (List.mem_cons_of_mem _ h)
      exact ⟨(hall q hq').1, (hall q hq').2, hin q hq'⟩
    · obtain ⟨p, hp, e⟩ := hes2.preIn q hq r.idx hm
      exact hrok.fresh p hp e
    · rcases hin q (List.mem_append_left _ hq) with h | h
      · exact h
      · exact absurd hm (hlater q.idx h (hall q (List.mem_append_left _ hq)).1)
    · obtain ⟨p, hp, e⟩ := hrok.pre q.idx hm
      exact hf12 q hq p hp e.symm
  have hrun := hro r hr hi H hH (cur (es1 ++ r :: es2) pend base) l
  refine AS.know (r.need ++ cur (es1 ++ r :: es2) pend base) (fun t x hx => ?_) (hrun (AS.know (cur (es1 ++ r :: es2) (pend.erase r.idx) base) (fun t x hx => ?_) next))
  · rw [get_append] at hx
    split at hx
    · rename_i y hy; cases hx; exact hneed t _ hy
    · exact hx
  · rw [get_put, get_append]
    have hni : r.idx ∉ pend.erase r.idx := fun h => by rw [hnd.mem_erase_iff] at h; exact h.1 rfl
    have hcong : ∀ (es : List Rd) (b : Env), (∀ q ∈ es, q.idx ≠ r.idx) → cur es (pend.erase r.idx) b = cur es pend b := by
      intro es
      induction es with
      | nil => intro b _; rfl
      | cons q es ih =>
        intro b hq
        have hne := hq q List.mem_cons_self
        have : q.idx ∈ pend.erase r.idx ↔ q.idx ∈ pend := by rw [hnd.mem_erase_iff]; exact ⟨fun h => h.2, fun h => ⟨hne, h⟩⟩
        simp only [cur, this]
        rw [ih b (fun p hp => hq p (List.mem_cons_of_mem _ hp))]
    have he : cur (es1 ++ r :: es2) (pend.erase r.idx) base = cur es1 pend (putEnv r.dst r.val (cur es2 pend base)) := by
      rw [cur_append, hcong es1 _ hf1]
      congr 1
      simp only [cur, if_neg hni]
      rw [hcong es2 _ (fun q hq => hrok.fresh q hq)]
    rw [he] at hx
    by_cases hdt : r.dst = some t
    · rw [if_pos hdt]
      rw [cur_get (fun q hq hqd => absurd (dstsOk_ne hd (hall q (List.mem_append_left _ hq)).1 hrok.lt (by rw [(hall q (List.mem_append_left _ hq)).2, hqd]) (by rw [hrok.dst, hdt])) (hf1 q hq)), get_put, if_pos hdt] at hx
      exact hx
    · rw [if_neg hdt]
      have hx2 : (cur (es1 ++ r :: es2) pend base).get t = some x := by
        rw [hcur, cur_append]
        have key : ∀ (es : List Rd) (b b' : Env), (b.get t = b'.get t) → (cur es pend b).get t = (cur es pend b').get t := by
          intro es
          induction es with
          | nil => intro b b' h; exact h
          | cons q es ih =>
            intro b b' h
            simp only [cur]
            split
            · exact ih b b' h
            · rw [get_put, get_put]
              split
              · rfl
              · exact ih b b' h
        rw [← key es1 (putEnv r.dst r.val (cur es2 pend base)) (cur es2 pend base) (by rw [get_put, if_neg hdt])]
        exact hx
      split
      · rename_i y hy
        have := hneed t y hy
        rw [hx2] at this; exact this.symm
      · exact hx2

/-- The judgement: the entries es are worked out ahead; in whatever order what is left comes. -/
def SA (P : Program) (GV : AH) (f : FuncId) (n : Nat) (k : List Item) (R : AV → AH → Prop) (ops : Array Oper) (base : Env) (es : List Rd) (HH : AH → Prop) (H : AH) : Prop :=
  EsOk ops base es → HH H → ∀ pend l done, (∀ j ∈ pend, ∃ r ∈ es, r.idx = j) → pend.Nodup → Legal ops done l → (∀ j, j < ops.size → (j ∈ done ↔ (∃ r ∈ es, r.idx = j) ∧ j ∉ pend)) → (∀ j ∈ done, ∀ i ∈ preOf ops j, i ∈ done) →
    (∀ r ∈ es, r.idx ∈ pend → Ro P GV f n k R ops HH r) → AS P GV f n (.inRegion ops l :: k) (cur es pend base) H R

theorem preOf_lt (h : preOk ops = true) {i j : Nat} (hi : i < ops.size) (hj : j ∈ preOf ops i) : j < ops.size := by
  have := List.all_eq_true.1 (List.all_eq_true.1 h i (List.mem_range.2 hi)) j hj
  have h2 : j < i := Nat.le_of_ble_eq_true this
  omega

theorem SA.start {id : Nat} {env : Env} {H : AH} {HH : AH → Prop} (hm : P.follows .mixedOrders = true) (hp : preOk ops = true) (hH : HH H) (h : SA P GV f n k R ops env [] HH H) : AS P GV f n (.code (.region id ops true) :: k) env H R := by
  intro V a w hs
  refine Runs.region_draw fun t => ?_
  rw [hm]
  have hs' : Sim GV n V env H a { w with drawn := w.drawn + 1 } := ⟨hs.defers, hs.size, hs.env, ⟨hs.rel.nodup, fun b o hm => (hs.rel.objs b o hm).keep (.refl _) rfl (fun _ => rfl), hs.rel.claims, hs.rel.glob⟩⟩
  refine ((h .nil hH [] _ [] (by simp) List.nodup_nil (legal_schedule hp t) (by simp) (by simp) (by simp)) V a _ hs').mono ?_
  rintro v w' ⟨V', x, H', h1, h2, h3, h4⟩
  exact ⟨V', x, H', h1, h2, ⟨h3.os, h3.tape, h3.output, h3.size, h3.le, h3.heap, h3.view, h3.keyed⟩, h4⟩

/-- An operation that turns nothing is worked out ahead. -/
theorem SA.reader {base : Env} {es : List Rd} {HH : AH → Prop} {H : AH} (r : Rd) (hok : RdOk ops r es base) (hro : Ro P GV f n k R ops HH r) (h : SA P GV f n k R ops base (r :: es) HH H) : SA P GV f n k R ops base es HH H := by
  intro hes hH pend l done hpe hnd hl hdone hcl hros
  have hrn : r.idx ∉ pend := fun hm => by obtain ⟨q, hq, e⟩ := hpe _ hm; exact hok.fresh q hq e
  have := h (.cons hok hes) hH (r.idx :: pend) l done (fun j hj => by
      rcases List.mem_cons.1 hj with e | hj
      · subst e; exact ⟨r, List.mem_cons_self, rfl⟩
      · obtain ⟨q, hq, e⟩ := hpe j hj; exact ⟨q, List.mem_cons_of_mem _ hq, e⟩)
    (List.nodup_cons.2 ⟨hrn, hnd⟩) hl (fun j hj => by
      rw [hdone j hj]
      constructor
      · rintro ⟨⟨q, hq, e⟩, hp⟩
        refine ⟨⟨q, List.mem_cons_of_mem _ hq, e⟩, fun hm => ?_⟩
        rcases List.mem_cons.1 hm with e2 | hm
        · exact hok.fresh q hq (e.trans e2)
        · exact hp hm
      · rintro ⟨⟨q, hq, e⟩, hp⟩
        rw [List.mem_cons, not_or] at hp
        rcases List.mem_cons.1 hq with e2 | hq
        · subst e2; exact absurd e.symm hp.1
        · exact ⟨⟨q, hq, e⟩, hp.2⟩) hcl (fun q hq hqp => by
      rcases List.mem_cons.1 hq with e | hq
      · subst e; exact hro
      · rcases List.mem_cons.1 hqp with e | hqp
        · exact absurd e (hok.fresh q hq)
        · exact hros q hq hqp)
  have hc : cur (r :: es) (r.idx :: pend) base = cur es pend base := by
    simp only [cur, List.mem_cons, true_or, if_true]
    have : ∀ (l : List Rd), (∀ q ∈ l, q.idx ≠ r.idx) → cur l (r.idx :: pend) base = cur l pend base := by
      intro l
      induction l with
      | nil => intro _; rfl
      | cons q l ih =>
        intro hq
        simp only [cur, List.mem_cons, hq q List.mem_cons_self, false_or]
        rw [ih (fun p hp => hq p (List.mem_cons_of_mem _ hp))]
    exact this es hok.fresh
  rw [hc] at this; exact this

theorem legal_head {done l : List Nat} {i : Nat} (h : Legal ops done (i :: l)) : i < ops.size ∧ i ∉ done ∧ (∀ j, j ∈ preOf ops i → j ∈ done) ∧ Legal ops (i :: done) l := by
  cases h with
  | cons _ _ _ h hn hp r => exact ⟨h, hn, hp, r⟩

/-- What is left over, come what may. -/
theorem SA.done {base : Env} {es : List Rd} {HH : AH → Prop} {H : AH} (hp : preOk ops = true) (hd : dstsOk ops = true) (hall : (List.range ops.size).all (fun i => es.any fun r => Nat.beq r.idx i) = true) (next : AS P GV f n k (full es base) H R) :
    SA P GV f n k R ops base es HH H := by
  intro hes hH pend l
  induction l generalizing pend with
  | nil =>
    intro done hpe hnd hl hdone hcl hros
    have hpn : pend = [] := List.eq_nil_iff_forall_not_mem.2 fun j hj => by
      obtain ⟨r, hr, rfl⟩ := hpe j hj
      have hlt := (hes.all r hr).1
      cases hl with
      | nil _ h => exact ((hdone _ hlt).1 (h _ hlt)).2 hj
    subst hpn
    have hc : cur es [] base = full es base := by
      clear next hros hdone hpe hes hall
      induction es with
      | nil => rfl
      | cons r es ih => simp only [cur, full, List.not_mem_nil, if_false, ih]
    rw [hc]
    exact .opsEnd next
  | cons i l ih =>
    intro done hpe hnd hl hdone hcl hros
    obtain ⟨hi, hn, hpr, hl'⟩ := legal_head hl
    have hex : ∃ r ∈ es, r.idx = i := by
      obtain ⟨r, hr, e⟩ := List.any_eq_true.1 (List.all_eq_true.1 hall i (List.mem_range.2 hi))
      exact ⟨r, hr, Nat.eq_of_beq_eq_true e⟩
    have hip : i ∈ pend := Classical.byContradiction fun hnp => hn ((hdone i hi).2 ⟨hex, hnp⟩)
    refine run_pend hd hes hH hip hpe hnd hdone hpr (fun q hq j hj => preOf_lt hp (hes.all q hq).1 hj) (fun j hj hjl hm => hn (hcl j hj i hm)) hros (ih (pend.erase i) (i :: done) (fun j hj => hpe j (List.mem_of_mem_erase hj)) (hnd.erase i) hl' (fun j hj => ?_) (fun j hj q hq => ?_)
      (fun r hr hrp => hros r hr (List.mem_of_mem_erase hrp)))
    · rw [hnd.mem_erase_iff, List.mem_cons, hdone j hj]
      constructor
      · rintro (e | ⟨h1, h2⟩)
        · subst e; exact ⟨hex, fun h => h.1 rfl⟩
        · exact ⟨h1, fun h => h2 h.2⟩
      · rintro ⟨h1, h2⟩
        by_cases e : j = i
        · exact .inl e
        · exact .inr ⟨h1, fun h => h2 ⟨e, h⟩⟩
    · rcases List.mem_cons.1 hj with e | hj
      · subst e; exact List.mem_cons_of_mem _ (hpr q hq)
      · exact List.mem_cons_of_mem _ (hcl j hj q hq)

/-- All that must come ahead, and what must come ahead of that. -/
def ancs (ops : Array Oper) : Nat → List Nat → List Nat
  | 0, s => s
  | j + 1, s => ancs ops j (match s.contains j with | true => preOf ops j ++ s | false => s)
theorem ancs_done {ops : Array Oper} {done : List Nat} (hcl : ∀ j ∈ done, ∀ i ∈ preOf ops j, i ∈ done) : ∀ (k : Nat) (s : List Nat), (∀ j ∈ s, j ∈ done) → ∀ j ∈ ancs ops k s, j ∈ done
  | 0, s, h => h
  | k + 1, s, h => by
    refine ancs_done hcl k _ ?_
    intro j hj
    cases hc : s.contains k with
    | false => rw [hc] at hj; exact h j hj
    | true =>
      rw [hc] at hj
      rcases List.mem_append.1 hj with hj | hj
      · exact hcl k (h k (by simpa using hc)) j hj
      · exact h j hj
/-- The one operation that may come next but for those worked out ahead: it may turn memory. -/
theorem SA.changer {base : Env} {es : List Rd} {HH HH' : AH → Prop} {H : AH} {α : Type} (c : Nat) (dst : Option Tmp) (val : α → AV) (need : Env) (Hn : α → AH) (Φ : α → Prop) (hp : preOk ops = true) (hd : dstsOk ops = true)
    (hok : ∀ v, RdOk ops ⟨c, dst, v, need⟩ es base)
    (honly : (List.range ops.size).all (fun i => Nat.beq i c || es.any (fun r => Nat.beq r.idx i) || (preOf ops i).any (fun j => !es.any fun r => Nat.beq r.idx j)) = true)
    (hrun : ∀ env rest, (∀ x, Φ x → AS P GV f n (.inRegion ops rest :: k) (putEnv dst (val x) (need ++ env)) (Hn x) R) → AS P GV f n (.inRegion ops (c :: rest) :: k) (need ++ env) H R)
    (hH' : ∀ x, Φ x → HH' (Hn x)) (hros' : ∀ r ∈ es, r.idx ∉ ancs ops ops.size (preOf ops c) → Ro P GV f n k R ops HH r → Ro P GV f n k R ops HH' r)
    (next : ∀ x, Φ x → SA P GV f n k R ops base (⟨c, dst, val x, need⟩ :: es) HH' (Hn x)) : SA P GV f n k R ops base es HH H := by
  intro hes hH pend l
  have hok0 := hok .undef
  have hcn : ∀ q ∈ es, q.idx ≠ c := hok0.fresh
  induction l generalizing pend with
  | nil =>
    intro done hpe hnd hl hdone hcl hros
    exfalso
    have hlt : c < ops.size := hok0.lt
    cases hl with
    | nil _ h =>
      obtain ⟨⟨r, hr, e⟩, _⟩ := (hdone c hlt).1 (h c hlt)
      exact hcn r hr e
  | cons i l ih =>
    intro done hpe hnd hl hdone hcl hros
    obtain ⟨hi, hn, hpr, hl'⟩ := legal_head hl
    have hcp : c ∉ pend := fun h => by obtain ⟨r, hr, e⟩ := hpe c h; exact hcn r hr e
    have h1 := List.all_eq_true.1 honly i (List.mem_range.2 hi)
    simp only [Bool.or_eq_true] at h1
    rcases h1 with (h1 | h1) | h1
    · -- here it is
      have hic : i = c := Nat.eq_of_beq_eq_true h1
      subst hic
      have hneed : EnvLe (cur es pend base) need := by
        intro t x hx
        have hf := hok0.need t x hx
        rw [full_get_eq (fun q hq hqd hqp => ?_)]
        · exact hf
        · have hqa := hes.all q hq
          rcases hok0.slots t x hx q.idx hqa.1 (by rw [hqa.2, hqd]) with h | h
          · exact ((hdone q.idx hqa.1).1 (hpr _ h)).2 hqp
          · obtain ⟨p, hp', e⟩ := hes.preIn q hq i h
            exact hcn p hp' e
      refine AS.know (need ++ cur es pend base) (fun t x hx => ?_) (hrun _ _ fun x hx => ?_)
      · rw [get_append] at hx
        split at hx
        · rename_i y hy; cases hx; exact hneed t _ hy
        · exact hx
      · have hcc : cur (⟨i, dst, val x, need⟩ :: es) pend base = putEnv dst (val x) (cur es pend base) := by simp only [cur, if_neg hcp]
        refine AS.know (putEnv dst (val x) (cur es pend base)) (fun t y hy => ?_) ?_
        · rw [get_put] at hy ⊢
          split
          · rename_i h; rw [if_pos h] at hy; exact hy
          · rename_i h
            rw [if_neg h] at hy
            rw [get_append]
            split
            · rename_i z hz
              have := hneed t z hz
              rw [hy] at this; exact this.symm
            · exact hy
        · rw [← hcc]
          refine next x hx (.cons (hok _) hes) (hH' x hx) pend l (i :: done) (fun j hj => ?_) hnd hl' (fun j hj => ?_) (fun j hj q hq => ?_) (fun r hr hrp => ?_)
          · obtain ⟨r, hr, e⟩ := hpe j hj; exact ⟨r, List.mem_cons_of_mem _ hr, e⟩
          · rw [List.mem_cons, hdone j hj]
            constructor
            · rintro (e | ⟨⟨r, hr, e⟩, h2⟩)
              · subst e; exact ⟨⟨_, List.mem_cons_self, rfl⟩, hcp⟩
              · exact ⟨⟨r, List.mem_cons_of_mem _ hr, e⟩, h2⟩
            · rintro ⟨⟨r, hr, e⟩, h2⟩
              rcases List.mem_cons.1 hr with e2 | hr
              · subst e2; exact .inl e.symm
              · exact .inr ⟨⟨r, hr, e⟩, h2⟩
          · rcases List.mem_cons.1 hj with e | hj
            · subst e; exact List.mem_cons_of_mem _ (hpr q hq)
            · exact List.mem_cons_of_mem _ (hcl j hj q hq)
          · rcases List.mem_cons.1 hr with e | hr
            · subst e; exact absurd hrp hcp
            · refine hros' r hr (fun hm => ?_) (hros r hr hrp)
              exact ((hdone r.idx (hes.all r hr).1).1 (ancs_done hcl _ _ hpr _ hm)).2 hrp
    · -- one of those worked out ahead
      obtain ⟨r0, hr0, e0⟩ := List.any_eq_true.1 h1
      have hex : ∃ r ∈ es, r.idx = i := ⟨r0, hr0, Nat.eq_of_beq_eq_true e0⟩
      have hip : i ∈ pend := Classical.byContradiction fun hnp => hn ((hdone i hi).2 ⟨hex, hnp⟩)
      refine run_pend hd hes hH hip hpe hnd hdone hpr (fun q hq j hj => preOf_lt hp (hes.all q hq).1 hj) (fun j hj hjl hm => hn (hcl j hj i hm)) hros (ih (pend.erase i) (i :: done) (fun j hj => hpe j (List.mem_of_mem_erase hj)) (hnd.erase i) hl' (fun j hj => ?_) (fun j hj q hq => ?_)
        (fun r hr hrp => hros r hr (List.mem_of_mem_erase hrp)))
      · rw [hnd.mem_erase_iff, List.mem_cons, hdone j hj]
        constructor
        · rintro (e | ⟨h1, h2⟩)
          · subst e; exact ⟨hex, fun h => h.1 rfl⟩
          · exact ⟨h1, fun h => h2 h.2⟩
        · rintro ⟨h1, h2⟩
          by_cases e : j = i
          · exact .inl e
          · exact .inr ⟨h1, fun h => h2 ⟨e, h⟩⟩
      · rcases List.mem_cons.1 hj with e | hj
        · subst e; exact List.mem_cons_of_mem _ (hpr q hq)
        · exact List.mem_cons_of_mem _ (hcl j hj q hq)
    · -- it can't come yet
      exfalso
      obtain ⟨j, hj, hje⟩ := List.any_eq_true.1 h1
      have hjd := hpr j hj
      obtain ⟨⟨r, hr, e⟩, _⟩ := (hdone j (preOf_lt hp hi hj)).1 hjd
      have : es.any (fun r => Nat.beq r.idx j) = true := List.any_eq_true.2 ⟨r, hr, by rw [e]; exact Nat.beq_refl j⟩
      rw [this] at hje; cases hje
end
end Go.Proofs.Fw
/- Short forms of rules; closures; going through a string. -/
namespace Go.Proofs.Fw
open Go Go.Shelf Go.RowKit
set_option linter.unusedVariables false
set_option linter.unusedSimpArgs false

def Env.pick (env : Env) : List Nat → Env
  | [] => []
  | t :: ts => match env.get t with
    | some x => (t, x) :: Env.pick env ts
    | none => Env.pick env ts
theorem Env.pick_le (env : Env) : ∀ ts : List Nat, EnvLe env (env.pick ts)
  | [] => .nil
  | t :: ts => by
    simp only [Env.pick]
    split
    · rename_i x hx; exact .cons hx (Env.pick_le env ts)
    · exact Env.pick_le env ts
theorem Env.pick_mem (env : Env) : ∀ (ts : List Nat) (t : Nat) (x : AV), (env.pick ts).get t = some x → t ∈ ts
  | [], t, x, h => by cases h
  | s :: ts, t, x, h => by
    simp only [Env.pick] at h
    split at h
    · simp only [Env.get] at h
      split at h
      · rename_i hb; rw [Nat.eq_of_beq_eq_true hb]; exact List.mem_cons_self
      · exact List.mem_cons_of_mem _ (Env.pick_mem env ts t x h)
    · exact List.mem_cons_of_mem _ (Env.pick_mem env ts t x h)

/-- The checks on an operation that is worked out ahead. -/
def rdB (ops : Array Oper) (i : Nat) (es : List Rd) (slots : List Nat) : Bool :=
  Nat.blt i ops.size && es.all (fun q => !Nat.beq q.idx i) && (preOf ops i).all (fun j => es.any fun q => Nat.beq q.idx j) &&
  slots.all (fun t => (List.range ops.size).all fun j => (match (ops[j]?).bind (·.dst) with | some s => !Nat.beq s t | none => true) || (preOf ops i).any (fun p => Nat.beq p j) || (preOf ops j).any (fun p => Nat.beq p i))

def dstOf (ops : Array Oper) (i : Nat) : Option Tmp := (ops[i]?).bind (·.dst)

section
variable {P : Program} {GV : AH} {f : FuncId} {n : Nat} {k : List Item} {env : Env} {H : AH} {R : AV → AH → Prop} {ops : Array Oper} {i : Nat} {rest : List Nat}
variable {d : Option Tmp} {ty : TypeId} {pos : String} {aft : Array Edge} {gd : Option (Nat × Bool)}

theorem rdB_ok {es : List Rd} {slots : List Nat} {base : Env} (h : rdB ops i es slots = true) (v : AV) : RdOk ops ⟨i, dstOf ops i, v, (full es base).pick slots⟩ es base := by
  simp only [rdB, Bool.and_eq_true] at h
  obtain ⟨⟨⟨h1, h2⟩, h3⟩, h4⟩ := h
  refine ⟨Nat.le_of_ble_eq_true h1, fun q hq e => ?_, rfl, fun j hj => ?_, Env.pick_le _ _, fun t x hx j hj hjd => ?_⟩
  · have := List.all_eq_true.1 h2 q hq
    rw [e] at this
    simp [Nat.beq_refl] at this
  · obtain ⟨q, hq, e⟩ := List.any_eq_true.1 (List.all_eq_true.1 h3 j hj)
    exact ⟨q, hq, Nat.eq_of_beq_eq_true e⟩
  · have hm := Env.pick_mem _ _ _ _ hx
    have := List.all_eq_true.1 (List.all_eq_true.1 h4 t hm) j (List.mem_range.2 hj)
    rw [hjd] at this
    simp only [Nat.beq_refl, Bool.not_true, Bool.false_or, Bool.or_eq_true] at this
    rcases this with h | h
    · obtain ⟨p, hp, e⟩ := List.any_eq_true.1 h
      exact .inl (by rw [← Nat.eq_of_beq_eq_true e]; exact hp)
    · obtain ⟨p, hp, e⟩ := List.any_eq_true.1 h
      exact .inr (by rw [← Nat.eq_of_beq_eq_true e]; exact hp)

/-- In a region whose order is open, memory staying: an operation. -/
theorem SA.rd {base : Env} {es : List Rd} {val : AV} (i : Nat) (slots : List Nat) (hb : rdB ops i es slots = true)
    (hro : ∀ env rest, AS P GV f n (.inRegion ops rest :: k) (putEnv (dstOf ops i) val ((full es base).pick slots ++ env)) H R → AS P GV f n (.inRegion ops (i :: rest) :: k) ((full es base).pick slots ++ env) H R)
    (h : SA P GV f n k R ops base (⟨i, dstOf ops i, val, (full es base).pick slots⟩ :: es) (· = H) H) : SA P GV f n k R ops base es (· = H) H :=
  SA.reader _ (rdB_ok hb val) (fun H' hH' env rest next => by subst hH'; exact hro env rest next) h
/-- Memory may grow. -/
theorem SA.rdG {base : Env} {es : List Rd} {val : AV} {H0 : AH} (i : Nat) (slots : List Nat) (hb : rdB ops i es slots = true)
    (hro : ∀ G env rest, AS P GV f n (.inRegion ops rest :: k) (putEnv (dstOf ops i) val ((full es base).pick slots ++ env)) (G ++ H0) R → AS P GV f n (.inRegion ops (i :: rest) :: k) ((full es base).pick slots ++ env) (G ++ H0) R)
    (h : SA P GV f n k R ops base (⟨i, dstOf ops i, val, (full es base).pick slots⟩ :: es) (fun H' => ∃ G, H' = G ++ H0) H) : SA P GV f n k R ops base es (fun H' => ∃ G, H' = G ++ H0) H :=
  SA.reader _ (rdB_ok hb val) (fun H' ⟨G, hH'⟩ env rest next => by subst hH'; exact hro G env rest next) h
/-- Whatever memory is. -/
theorem SA.rdA {base : Env} {es : List Rd} {val : AV} {HH : AH → Prop} (i : Nat) (slots : List Nat) (hb : rdB ops i es slots = true)
    (hro : ∀ H' env rest, AS P GV f n (.inRegion ops rest :: k) (putEnv (dstOf ops i) val ((full es base).pick slots ++ env)) H' R → AS P GV f n (.inRegion ops (i :: rest) :: k) ((full es base).pick slots ++ env) H' R)
    (h : SA P GV f n k R ops base (⟨i, dstOf ops i, val, (full es base).pick slots⟩ :: es) HH H) : SA P GV f n k R ops base es HH H :=
  SA.reader _ (rdB_ok hb val) (fun H' _ env rest next => hro H' env rest next) h

def onlyB (ops : Array Oper) (c : Nat) (es : List Rd) : Bool :=
  (List.range ops.size).all (fun i => Nat.beq i c || es.any (fun r => Nat.beq r.idx i) || (preOf ops i).any (fun j => !es.any fun r => Nat.beq r.idx j))

/-- A new object, memory growing. -/
theorem SA.new {base : Env} {es : List Rd} {H0 : AH} {val : Nat → AV} {o : Nat → AO} (c : Nat) (slots : List Nat) (hp : preOk ops = true) (hd : dstsOk ops = true) (hb : rdB ops c es slots = true) (ho : onlyB ops c es = true)
    (hrun : ∀ env rest, (∀ b, AS P GV f n (.inRegion ops rest :: k) (putEnv (dstOf ops c) (val b) ((full es base).pick slots ++ env)) ((b, o b) :: H) R) → AS P GV f n (.inRegion ops (c :: rest) :: k) ((full es base).pick slots ++ env) H R)
    (next : ∀ b, SA P GV f n k R ops base (⟨c, dstOf ops c, val b, (full es base).pick slots⟩ :: es) (fun H' => ∃ G, H' = G ++ H0) ((b, o b) :: H)) (hH : ∃ G, H = G ++ H0) : SA P GV f n k R ops base es (fun H' => ∃ G, H' = G ++ H0) H :=
  SA.changer (HH' := fun H' => ∃ G, H' = G ++ H0) c (dstOf ops c) val ((full es base).pick slots) (fun b => (b, o b) :: H) (fun _ => True) hp hd (fun v => rdB_ok hb v) ho (fun env rest h => hrun env rest fun b => h b trivial)
    (fun b _ => by obtain ⟨G, e⟩ := hH; exact ⟨(b, o b) :: G, by rw [e]; rfl⟩) (fun r _ _ h => h) (fun b _ => next b)

/-- Memory turns; all that was worked out ahead is done, but for what holds in any memory. -/
theorem SA.turn {α : Type} {base : Env} {es : List Rd} {HH : AH → Prop} {val : α → AV} {Hn : α → AH} {Φ : α → Prop} (c : Nat) (slots : List Nat) (hp : preOk ops = true) (hd : dstsOk ops = true) (hb : rdB ops c es slots = true) (ho : onlyB ops c es = true)
    (hrun : ∀ env rest, (∀ x, Φ x → AS P GV f n (.inRegion ops rest :: k) (putEnv (dstOf ops c) (val x) ((full es base).pick slots ++ env)) (Hn x) R) → AS P GV f n (.inRegion ops (c :: rest) :: k) ((full es base).pick slots ++ env) H R)
    (hros : ∀ r ∈ es, r.idx ∉ ancs ops ops.size (preOf ops c) → Ro P GV f n k R ops (fun _ => True) r)
    (next : ∀ x, Φ x → SA P GV f n k R ops base (⟨c, dstOf ops c, val x, (full es base).pick slots⟩ :: es) (fun _ => True) (Hn x)) : SA P GV f n k R ops base es HH H :=
  SA.changer (HH' := fun _ => True) c (dstOf ops c) val ((full es base).pick slots) Hn Φ hp hd (fun v => rdB_ok hb v) ho hrun (fun _ _ => trivial) (fun r hr hn _ => hros r hr hn) next

theorem SA.start1 {id : Nat} (hm : P.follows .mixedOrders = true) (hp : preOk ops = true) (h : SA P GV f n k R ops env [] (· = H) H) : AS P GV f n (.code (.region id ops true) :: k) env H R := SA.start (HH := fun H' => H' = H) hm hp rfl h
theorem SA.startG {id : Nat} (hm : P.follows .mixedOrders = true) (hp : preOk ops = true) (h : SA P GV f n k R ops env [] (fun H' => ∃ G, H' = G ++ H) H) : AS P GV f n (.code (.region id ops true) :: k) env H R := SA.start hm hp ⟨[], rfl⟩ h
instance At_app {G : AH} {b : Nat} {o : AO} [h : At H b o] : At (G ++ H) b o := ⟨List.mem_append_right _ h.mem⟩

theorem AS.condT {o : Operand} {c e : Code} (hc : env.ev GV o = some (.bool true)) (h1 : AS P GV f n (.code c :: k) env H R) : AS P GV f n (.code (.cond o c e) :: k) env H R := .cond hc (fun _ => h1) (fun h => by cases h)
theorem AS.condF {o : Operand} {c e : Code} (hc : env.ev GV o = some (.bool false)) (h1 : AS P GV f n (.code e :: k) env H R) : AS P GV f n (.code (.cond o c e) :: k) env H R := .cond hc (fun h => by cases h) (fun _ => h1)

/-- A call that turns nothing, of a function that is named. -/
theorem AS.callP {g : FuncId} {os : Array Operand} {ats : Array TypeId} {args : List AV} {v : AV} (ho : ops[i]? = some ⟨d, .call ⟨.value (.func g), os, ats⟩, ty, pos, aft, gd⟩) (hw : wantedB ops env gd = true) (hd : fitsB n d = true) (he : env.evs GV os.toList = some args)
    (hg : Enters P g) (hc : ACalls P GV g args H (fun x H' => x = v ∧ H' = H)) (next : AS P GV f n (.inRegion ops rest :: k) (putEnv d v env) H R) : AS P GV f n (.inRegion ops (i :: rest) :: k) env H R :=
  .call ho hw hd he hg hc (fun x H' ⟨e1, e2⟩ => by subst e1 e2; exact next)

/-- func literals, method values -/
theorem AS.makeFunc {fn : Fn} {fo co : Array Operand} {first caps : List AV} (ho : ops[i]? = some ⟨d, .makeFunc fn fo co, ty, pos, aft, gd⟩) (hw : wantedB ops env gd = true) (hd : fitsB n d = true) (h1 : env.evs GV fo.toList = some first) (h2 : env.evs GV co.toList = some caps)
    (next : AS P GV f n (.inRegion ops rest :: k) (putEnv d (.func fn first caps) env) H R) : AS P GV f n (.inRegion ops (i :: rest) :: k) env H R :=
  .opV _ ho hw hd (fun V a w hs => by
    have c1 := Cells.mk hs h1
    have c2 := Cells.mk hs h2
    exact ⟨.func fn (fo.map a.eval) (co.map a.eval), by simp [execOp, Instr.makeFunc], .func _ _ _ _ _ c1.1 c2.1 c1.2 c2.2⟩) next

/-! ### for _, c := range s -/
theorem AS.rangeStr {t : TypeId} {so : Operand} {s : ByteArray} (ho : ops[i]? = some ⟨d, .range t so, ty, pos, aft, gd⟩) (hw : wantedB ops env gd = true) (hd : fitsB n d = true) (hx : env.ev GV so = some (.str s)) (ht : P.underlying t = some .string)
    (next : ∀ b, AS P GV f n (.inRegion ops rest :: k) (putEnv d (.ptr b 0) env) ((b, .siter s 0) :: H) R) : AS P GV f n (.inRegion ops (i :: rest) :: k) env H R :=
  .opG (Φ := fun z H2 => ∃ b, z = .ptr b 0 ∧ H2 = (b, .siter s 0) :: H) ho hw hd (fun V a w hs => by
    have hv := hs.ev hx
    generalize hq : a.eval so = q at hv
    cases hv
    have hr := hs.rel.alloc (.stringIter s 0) (.siter s 0) (heap_alloc_new w _)
    exact ⟨.pointer (some ⟨w.heap.size, 0, none⟩), w.alloc (.stringIter s 0), V, _, _, .inl (by simp [execOp, Instr.range, hq, run_underlying ht]), .ptr _ _, hr.1, hr.2, _, rfl, rfl⟩)
    (fun z H2 ⟨b, e1, e2⟩ => by subst e1 e2; exact next b)

theorem AS.nextStr {io : Operand} {it p : Nat} {s : ByteArray} [hat : At H it (.siter s p)] (ho : ops[i]? = some ⟨d, .next io true, ty, pos, aft, gd⟩) (hw : wantedB ops env gd = true) (hd : fitsB n d = true) (hx : env.ev GV io = some (.ptr it 0)) (H' : Nat → AH) [hup : ∀ q, Upd H it (.siter s q) (H' q)]
    (over : s.size ≤ p → AS P GV f n (.inRegion ops rest :: k) (putEnv d (.tup [.bool false]) env) H R)
    (next : p < s.size → AS P GV f n (.inRegion ops rest :: k) (putEnv d (.tup [.bool true, .int .i64 p, .int .i32 (Utf8.decode s p).1]) env) (H' (p + (Utf8.decode s p).2)) R) : AS P GV f n (.inRegion ops (i :: rest) :: k) env H R := by
  refine AS.opG (Φ := fun z H2 => (s.size ≤ p ∧ z = .tup [.bool false] ∧ H2 = H) ∨ (p < s.size ∧ z = .tup [.bool true, .int .i64 p, .int .i32 (Utf8.decode s p).1] ∧ H2 = H' (p + (Utf8.decode s p).2))) ho hw hd (fun V a w hs => ?_)
    (fun z H2 h => by
      rcases h with ⟨h1, e1, e2⟩ | ⟨h1, e1, e2⟩
      · subst e1 e2; exact over h1
      · subst e1 e2; exact next h1)
  have hxv := hs.ev hx
  generalize hq : a.eval io = q at hxv
  cases hxv
  have hit : w.heap[it]? = some (.stringIter s p) := hs.rel.objs _ _ hat.mem
  have hg1 : (getObj it).run P w = .ok (.stringIter s p) w := by simp [getObj, Sem.run, hit]
  by_cases hp : p < s.size
  · have hup := hs.rel.update (w' := { w with heap := w.heap.setIfInBounds it (.stringIter s (p + (Utf8.decode s p).2)) }) (b := it) (o' := .siter s (p + (Utf8.decode s p).2)) (H' := H' (p + (Utf8.decode s p).2)) rfl rfl rfl (by simp)
      (fun c hc => heap_set_else hc) (fun i v hv => by have := hs.rel.claims it i v hv; simp [World.cell?, hit] at this) (heap_set_same (hs.rel.objs _ _ hat.mem).lt)
    refine ⟨.tuple #[.bool true, .int .i64 p, .int .i32 (Utf8.decode s p).1], _, V, _, _, .inl ?_, .tup _ _ rfl (fun i x v hx hv => ?_), hup.1, hup.2, .inr ⟨hp, rfl, rfl⟩⟩
    · have hso : ∀ o, (setObj it o).run P w = .ok () { w with heap := w.heap.setIfInBounds it o } := fun o => by simp [setObj, Sem.run, hit]
      simp [execOp, Instr.next, hq, hg1, hp, hso, goInt]
    · match i with
      | 0 => simp at hx hv; subst hx hv; exact .bool _
      | 1 => simp at hx hv; subst hx hv; exact .int _ _
      | 2 => simp at hx hv; subst hx hv; exact .int _ _
      | i + 3 => simp at hx
  · refine ⟨.tuple #[.bool false], w, V, _, _, .inl ?_, .tup _ _ rfl (fun i x v hx hv => ?_), hs.rel, .refl _ _ _, .inl ⟨by omega, rfl, rfl⟩⟩
    · simp [execOp, Instr.next, hq, hg1, hp]
    · cases i with
      | zero => simp at hx hv; subst hx hv; exact .bool _
      | succ i => simp at hx
end
end Go.Proofs.Fw
namespace Go.Proofs.Fw
open Go Go.Shelf Go.RowKit
/-- A type's zero value. -/
def zI (P : Program) (t : TypeId) : Option Value := match P.info? t with
  | some i => i.zero
  | none => none
theorem zI_info {P : Program} {t : TypeId} {z : Value} (h : zI P t = some z) : ∃ i, P.info? t = some i ∧ i.zero = some z := by
  unfold zI at h
  split at h
  · rename_i i hi; exact ⟨i, hi, h⟩
  · cases h
section
variable {P : Program} {GV : AH} {f : FuncId} {n : Nat} {k : List Item} {env : Env} {H : AH} {R : AV → AH → Prop} {ops : Array Oper} {i : Nat} {rest : List Nat}
variable {d : Option Tmp} {ty : TypeId} {pos : String} {aft : Array Edge} {gd : Option (Nat × Bool)}
theorem AS.allocZ {e : TypeId} {z : Value} (ho : ops[i]? = some ⟨d, .alloc e, ty, pos, aft, gd⟩) (hw : wantedB ops env gd = true) (hd : fitsB n d = true) (hz : zI P e = some z) (hy : (constAV z).plain = true)
    (next : ∀ b, AS P GV f n (.inRegion ops rest :: k) (putEnv d (.ptr b 0) env) ((b, .row (constAV z).cells e) :: H) R) : AS P GV f n (.inRegion ops (i :: rest) :: k) env H R :=
  let ⟨_, hi, hz'⟩ := zI_info hz
  .alloc ho hw hd hi hz' hy next
theorem AS.lookupZ {κ α : Type} [DecidableEq κ] {encK : κ → AV} {encV : α → AV} {t kt et : TypeId} {mo ko : Operand} {b : Nat} {m : List (κ × α)} {x : κ} {ok : Bool} {zv : Value} [hat : At H b (.map (mapAV encK encV m))] (ho : ops[i]? = some ⟨d, .lookup t mo ko ok, ty, pos, aft, gd⟩)
    (hw : wantedB ops env gd = true) (hd : fitsB n d = true) (hm : env.ev GV mo = some (.map b)) (hx : env.ev GV ko = some (encK x)) (ht : mapI P t = some (kt, et)) (hk : KeyR P kt encK) (hz : zI P et = some zv)
    {r : Option α} (hr : mget m x = r) {y : AV} (hy : (match ok, r with | true, some v => AV.tup [encV v, .bool true] | true, none => .tup [constAV zv, .bool false] | false, some v => encV v | false, none => constAV zv) = y)
    (next : AS P GV f n (.inRegion ops rest :: k) (putEnv d y env) H R) : AS P GV f n (.inRegion ops (i :: rest) :: k) env H R :=
  let ⟨_, hi, hz'⟩ := zI_info hz
  .lookup ho hw hd hm hx ht hk hi hz' hr hy next
theorem AS.makeSliceZ {t e : TypeId} {lo co : Operand} {k1 k2 : IntKind} {m : Nat} {sz by_ : Nat} {z : Value} {i1 i2 : Int} (ho : ops[i]? = some ⟨d, .makeSlice t lo co, ty, pos, aft, gd⟩) (hw : wantedB ops env gd = true) (hd : fitsB n d = true)
    (hl : env.ev GV lo = some (.int k1 i1)) (hc : env.ev GV co = some (.int k2 i2)) (h1 : i1 = (m : Int)) (h2 : i2 = (m : Int)) (ht : sliI P t = some (e, sz, by_)) (hz : zI P e = some z) (hzp : (constAV z).plain = true)
    (hb : m * by_ ≤ 140737488355328)
    (next : ∀ b, AS P GV f n (.inRegion ops rest :: k) (putEnv d (.mslice b 0 m m) env) ((b, .row (zrow (constAV z).cells m) e) :: H) R) : AS P GV f n (.inRegion ops (i :: rest) :: k) env H R :=
  let ⟨_, hi, hz'⟩ := zI_info hz
  .makeSlice ho hw hd hl hc h1 h2 ht hi hz' hzp hb next
theorem AS.buildSlice1 {t e : TypeId} {sz by_ : Nat} {o : Operand} {y : AV} (ho : ops[i]? = some ⟨d, .buildSlice t 1 #[(0, o)], ty, pos, aft, gd⟩) (hw : wantedB ops env gd = true) (hd : fitsB n d = true)
    (ht : sliI P t = some (e, sz, by_)) (hy : env.ev GV o = some y) (hsm : Nat.ble sz 16777216 = true) (hsz : allSz sz [y] = true)
    (next : AS P GV f n (.inRegion ops rest :: k) (putEnv d (.slice [y] .full) env) H R) : AS P GV f n (.inRegion ops (i :: rest) :: k) env H R :=
  .buildSlice (xs := [y]) ho hw hd ht (by simp only [evParts, hy]; rfl) rfl (by rw [Nat.one_mul]; exact hsm) hsz next
theorem AS.buildSlice0 {t e : TypeId} {sz by_ : Nat} (ho : ops[i]? = some ⟨d, .buildSlice t 0 #[], ty, pos, aft, gd⟩) (hw : wantedB ops env gd = true) (hd : fitsB n d = true)
    (ht : sliI P t = some (e, sz, by_))
    (next : AS P GV f n (.inRegion ops rest :: k) (putEnv d (.slice [] .full) env) H R) : AS P GV f n (.inRegion ops (i :: rest) :: k) env H R :=
  .buildSlice (xs := []) ho hw hd ht rfl rfl (by rw [Nat.zero_mul]; rfl) rfl next
end
end Go.Proofs.Fw
namespace Go.Proofs.Fw
open Go
inductive FrozeL (b : Nat) (cs : List AV) : List AV → List AV → Prop where
  | nil : FrozeL b cs [] []
  | cons {x y : AV} {xs ys : List AV} (h : Froze b cs x y) (r : FrozeL b cs xs ys) : FrozeL b cs (x :: xs) (y :: ys)
theorem FrozeL.refl {b : Nat} {cs : List AV} : ∀ xs : List AV, FrozeL b cs xs xs
  | [] => .nil
  | x :: xs => .cons (.refl x) (FrozeL.refl xs)
theorem FrozeL.length {b : Nat} {cs xs ys : List AV} (h : FrozeL b cs xs ys) : xs.length = ys.length := by induction h <;> simp_all
theorem FrozeL.get {b : Nat} {cs xs ys : List AV} (h : FrozeL b cs xs ys) : ∀ (i : Nat) x y, xs[i]? = some x → ys[i]? = some y → Froze b cs x y := by
  induction h with
  | nil => intro i x y h; simp at h
  | cons h r ih =>
    intro i x y hx hy
    cases i with
    | zero => simp at hx hy; subst hx hy; exact h
    | succ i => exact ih i x y (by simpa using hx) (by simpa using hy)
theorem Froze.aggL {b : Nat} {cs xs ys : List AV} (h : FrozeL b cs xs ys) : Froze b cs (.agg xs) (.agg ys) := .agg h.length h.get
theorem Froze.tupL {b : Nat} {cs xs ys : List AV} (h : FrozeL b cs xs ys) : Froze b cs (.tup xs) (.tup ys) := .tup h.length h.get
theorem putCells_all {cs xs : List AV} (h : xs.length = cs.length) : putCells cs 0 xs = xs := by
  have := putCells_mid [] cs [] xs h
  simpa using this
/-- A list's elements, each of so many cells. -/
theorem map_sz {α : Type} {enc : α → AV} {sz : Nat} (h : ∀ a, (enc a).cells.length = sz) (l : List α) : ∀ x ∈ l.map enc, x.cells.length = sz := fun x hx => by
  obtain ⟨a, _, rfl⟩ := List.mem_map.1 hx; exact h a
theorem map_one {α : Type} {enc : α → AV} (h : ∀ a, (enc a).flatB = true) (l : List α) : ∀ y ∈ flat (l.map enc), y.one = true := by
  have : allOne (l.map enc) = true := by
    induction l with
    | nil => rfl
    | cons a l ih => simp [allOne, h a, ih]
  exact allOne_flat this
theorem map_allSz {α : Type} {enc : α → AV} {sz : Nat} (h : ∀ a, (enc a).cells.length = sz) (h2 : ∀ a, (enc a).plain = true) (l : List α) : allSz sz (l.map enc) = true := by
  induction l with
  | nil => rfl
  | cons a l ih => simp [allSz, h a, h2 a, ih]
end Go.Proofs.Fw
namespace Go.Proofs.Fw
theorem copied {xs zs : List AV} {m sz : Nat} (hx : ∀ x ∈ xs, x.cells.length = sz) (hz : zs.length = sz) (hm : m = xs.length) : flat xs = ((putCells (zrow zs m) 0 (flat (xs.take m))).drop 0).take (m * sz) := by
  subst hm
  have hl := flat_length hx
  rw [List.take_length, List.drop_zero, putCells_all (by rw [hl, zrow_length, hz]), List.take_of_length_le (by omega)]
end Go.Proofs.Fw
/- Splits on a slot's truth, loops with a fixed part, returning without what was made on the way. -/
namespace Go.Proofs.Fw
open Go Go.Shelf
set_option linter.unusedVariables false
theorem BinR.shr {P : Program} {t : TypeId} {xo yo : Operand} {k k' : IntKind} {a b c : Int} (h0 : 0 ≤ b) (h1 : b ≤ k.bits) (h : a / 2 ^ b.toNat = c) : BinR P .shr t xo yo (.int k a) (.int k' b) (.int k c) := by
  intro V w v u hv hu
  cases hv; cases hu; subst h
  exact ⟨_, by simp [eqGuard_shr, binOp_shr, shift_shr k k' a b h0 h1], .int _ _⟩
section
variable {P : Program} {GV : AH} {f : FuncId} {n : Nat} {k : List Item} {env : Env} {H : AH} {R : AV → AH → Prop}

theorem AS.splitT {todo : List Item} (t : Nat) {b : Bool} (hg : env.get t = some (.bool b)) (h1 : b = true → AS P GV f n todo ((t, .bool true) :: env) H R) (h2 : b = false → AS P GV f n todo ((t, .bool false) :: env) H R) :
    AS P GV f n todo env H R := by
  cases b with
  | true => exact .know _ (EnvLe.cons hg .refl) (h1 rfl)
  | false => exact .know _ (EnvLe.cons hg .refl) (h2 rfl)

/-- A loop: what turns, and what stays. -/
theorem AS.loopI {α : Type} (I : α → Prop) (μ : α → Nat) (E : α → Env) (base : Env) (Hh : α → AH) {body : Code} (x : α) (hI : I x) (he : EnvLe env (E x ++ base)) (hH : H = Hh x)
    (round : ∀ x, I x → (∀ y, I y → μ y < μ x → AS P GV f n (.inLoop body :: k) (E y ++ base) (Hh y) R) → AS P GV f n (.code body :: .inLoop body :: k) (E x ++ base) (Hh x) R) :
    AS P GV f n (.code (.loop body) :: k) env H R := by
  subst hH
  exact .know _ he (AS.rounds I μ (fun x => E x ++ base) Hh x hI round)

theorem AS.nextI {todo : List Item} {env' : Env} {H' : AH} (h : AS P GV f n todo env' H' R) (L : AH) (he : EnvLe env env') (hH : H = L ++ H') : AS P GV f n todo env H R := by
  subst hH
  refine .know _ he (.hold H' (fun _ h => List.mem_append_right _ h) (fun h => ?_) h)
  simp only [keys, List.map_append, List.nodup_append] at h
  exact h.2.1

theorem RWk.drop {x : AV} (L : AH) {H0 : AH} (hH : H = L ++ H0) (h : R x H0) : RWk GV R x H := ⟨x, H0, by subst hH; exact Wk.dropL _, h⟩

theorem RWk.drop2 {x : AV} (A L : AH) {B : AH} (hH : H = A ++ (L ++ B)) (h : R x (A ++ B)) : RWk GV R x H := ⟨x, A ++ B, by
  subst hH
  refine Wk.sub (fun p hp => ?_) (fun hn => ?_)
  · rcases List.mem_append.1 hp with h | h
    · exact List.mem_append_left _ h
    · exact List.mem_append_right _ (List.mem_append_right _ h)
  · simp only [keys, List.map_append, List.nodup_append, List.mem_append] at hn ⊢
    exact ⟨hn.1, hn.2.1.2.1, fun a ha b hb => hn.2.2 a ha b (.inr hb)⟩, h⟩
theorem RWk.permD {x : AV} (L : AH) {B : AH} (hH : H.Perm (L ++ B)) (h : R x B) : RWk GV R x H := ⟨x, B, Wk.sub (fun p hp => hH.mem_iff.2 (List.mem_append_right _ hp)) (fun hn => by
  have := ((hH.map (fun p : Nat × AO => p.1)).nodup_iff).1 hn
  simp only [List.map_append, List.nodup_append] at this
  exact this.2.1), h⟩
theorem AS.permH {todo : List Item} (L : AH) {B : AH} (hH : H.Perm (L ++ B)) (next : AS P GV f n todo env B R) : AS P GV f n todo env H R :=
  .hold _ (fun p hp => hH.mem_iff.2 (List.mem_append_right _ hp)) (fun hn => by
    have := ((hH.map (fun p : Nat × AO => p.1)).nodup_iff).1 hn
    simp only [List.map_append, List.nodup_append] at this
    exact this.2.1) next
theorem SA.splitT {ops : Array Oper} {base : Env} {es : List Rd} {HH : AH → Prop} {i : Nat} {dst : Option Tmp} {need : Env} {b : Bool} (h1 : b = true → SA P GV f n k R ops base (⟨i, dst, .bool true, need⟩ :: es) HH H)
    (h2 : b = false → SA P GV f n k R ops base (⟨i, dst, .bool false, need⟩ :: es) HH H) : SA P GV f n k R ops base (⟨i, dst, .bool b, need⟩ :: es) HH H := by
  cases b with
  | true => exact h1 rfl
  | false => exact h2 rfl

theorem AS.strAt {ops : Array Oper} {i : Nat} {rest : List Nat} {d : Option Tmp} {ty : TypeId} {pos : String} {aft : Array Edge} {gd : Option (Nat × Bool)} {t : TypeId} {xo io : Operand} {s : ByteArray} {kd : IntKind} {m : Int} (ho : ops[i]? = some ⟨d, .index t xo io, ty, pos, aft, gd⟩) (hw : wantedB ops env gd = true) (hd : fitsB n d = true)
    (hx : env.ev GV xo = some (.str s)) (hi : env.ev GV io = some (.int kd m)) (ht : P.underlying t = some .string) (j : Nat) (hj : (j : Int) = m) (h1 : j < s.size)
    (next : AS P GV f n (.inRegion ops rest :: k) (putEnv d (.int .u8 ((s[j]'h1).toNat : Int)) env) H R) : AS P GV f n (.inRegion ops (i :: rest) :: k) env H R := by
  subst hj
  exact AS.strIndex ho hw hd hx hi ht (Int.natCast_nonneg _) h1 rfl next

/-- A slice's value, without what is known of its room. -/
theorem AS.loose {todo : List Item} (t : Nat) {xs : List AV} {tk : Tok} (h : env.get t = some (.slice xs tk)) (next : AS P GV f n todo ((t, .slice xs .any) :: env) H R) : AS P GV f n todo env H R :=
  fun V a w hs => next V a w ⟨hs.defers, hs.size, fun s y hy => by
    simp only [Env.get] at hy
    split at hy
    · rename_i hb
      have := Nat.eq_of_beq_eq_true hb
      subst this
      cases hy
      obtain ⟨v, hv, hr⟩ := hs.env _ _ h
      exact ⟨v, hv, AVLe.tok _ _ _ _ hr⟩
    · exact hs.env s y hy, hs.rel⟩
theorem AS.dropH {todo : List Item} (A L : AH) {B : AH} (hH : H = A ++ (L ++ B)) (next : AS P GV f n todo env (A ++ B) R) : AS P GV f n todo env H R := by
  subst hH
  refine .hold _ (fun p hp => ?_) (fun hn => ?_) next
  · rcases List.mem_append.1 hp with h | h
    · exact List.mem_append_left _ h
    · exact List.mem_append_right _ (List.mem_append_right _ h)
  · simp only [keys, List.map_append, List.nodup_append, List.mem_append] at hn ⊢
    exact ⟨hn.1, hn.2.1.2.1, fun a ha b hb => hn.2.2 a ha b (.inr hb)⟩

theorem AS.dropF {todo : List Item} (L : AH) {B : AH} (hH : H = L ++ B) (next : AS P GV f n todo env B R) : AS P GV f n todo env H R := AS.dropH [] L hH next
theorem AS.append1 {ops : Array Oper} {i : Nat} {rest : List Nat} {d : Option Tmp} {ty : TypeId} {pos : String} {aft : Array Edge} {gd : Option (Nat × Bool)} {α : Type} {enc : α → AV} {l : List α} {a : α} {so yo : Operand} {t e : TypeId} {tk tk2 : Tok} {n0 sz by_ : Nat} {H0 : AH} [hpull : Pull H tk n0 sz e H0]
    (ho : ops[i]? = some ⟨d, .call ⟨.builtin .append, #[so, yo], #[t, t]⟩, ty, pos, aft, gd⟩) (hw : wantedB ops env gd = true) (hd : fitsB n d = true) (hx : env.ev GV so = some (.slice (l.map enc) tk)) (hy : env.ev GV yo = some (.slice [enc a] tk2)) (ht : sliI P t = some (e, sz, by_))
    (hg : tk.grows = true) (hn0 : n0 = (l.map enc).length) (hs : ∀ a, (enc a).cells.length = sz) (hf : ∀ a, (enc a).flatB = true) (hb : (l.length + 1) * by_ ≤ 140737488355328)
    (next : ∀ tk', tk'.grows = true → AS P GV f n (.inRegion ops rest :: k) (putEnv d (.slice ((l ++ [a]).map enc) tk') env) (G tk' ((l ++ [a]).map enc).length sz e ++ H0) R) : AS P GV f n (.inRegion ops (i :: rest) :: k) env H R := by
  have em : (l ++ [a]).map enc = l.map enc ++ [enc a] := by simp
  rw [em] at next
  exact AS.append (H0 := H0) ho hw hd hx hy ht hg hn0 (map_sz hs l) (by intro y hy; rw [List.mem_singleton.1 hy]; exact hs a) (by simpa using map_one hf [a]) (by rw [List.length_map]; exact hb) next

/-- What is behind is shown once. -/
theorem AS.joinK {it : Item} {α : Type} (I : α → Prop) (E : α → Env) (base : Env) (Hh : α → AH) (he : EnvLe env base)
    (main : (∀ x, I x → AS P GV f n k (E x ++ base) (Hh x) R) → AS P GV f n (it :: k) env H R) (behind : ∀ x, I x → AS P GV f n k (E x ++ base) (Hh x) R) : AS P GV f n (it :: k) env H R := main behind

theorem ACalls.eqB {args : List AV} {b c : Bool} (h : ACalls P GV f args H (fun x H' => x = .bool b ∧ H' = H)) (e : b = c) : ACalls P GV f args H (fun x H' => x = .bool c ∧ H' = H) := e ▸ h
end
end Go.Proofs.Fw
/- append onto a row that may yet be written. -/
namespace Go.Proofs.Fw
open Go Go.Shelf Go.RowKit
set_option linter.unusedVariables false
set_option linter.unusedSimpArgs false

theorem Rel.drew {GV H : AH} {w : World} {V : View} (h : Rel GV w V H) : Rel GV w.drew V H :=
  ⟨h.nodup, fun b o hm => by have := h.objs b o hm; cases o <;> exact this, h.claims, h.glob⟩

theorem Rel.alloc_drew {GV H : AH} {w : World} {V : View} (h : Rel GV w V H) {cs : List AV} {arr : Array Value} (hc : Cells V cs arr) (e : TypeId) :
    Rel GV (w.drew.alloc (.cells arr e)) V ((w.heap.size, .row cs e) :: H) ∧ Ext w V H (w.drew.alloc (.cells arr e)) V ((w.heap.size, .row cs e) :: H) := by
  obtain ⟨a, b⟩ := h.drew.alloc_row hc e
  exact ⟨a, b.os, b.tape, b.output, b.size, b.le, b.heap, b.view, b.keyed⟩

theorem Cells.take {V : View} {cs : List AV} {arr : Array Value} (h : Cells V cs arr) (n : Nat) : Cells V (cs.take n) (arr.toList.take n).toArray := by
  refine ⟨by simp [h.1], fun i x v hx hv => ?_⟩
  rw [List.getElem?_take] at hx
  simp only [List.getElem?_toArray, List.getElem?_take] at hv
  split at hx
  · rename_i hi; rw [if_pos hi] at hv; exact h.2 i x v hx (by simpa using hv)
  · cases hx
theorem Cells.drop {V : View} {cs : List AV} {arr : Array Value} (h : Cells V cs arr) (n : Nat) : Cells V (cs.drop n) (arr.toList.drop n).toArray := by
  refine ⟨by simp [h.1], fun i x v hx hv => ?_⟩
  rw [List.getElem?_drop] at hx
  simp only [List.getElem?_toArray, List.getElem?_drop] at hv
  exact h.2 _ x v hx (by simpa using hv)
theorem Cells.raws (V : View) (arr : Array Value) : Cells V (arr.toList.map .raw) arr := by
  refine ⟨by simp, fun i x v hx hv => ?_⟩
  simp only [List.getElem?_map, Array.getElem?_toList, hv, Option.map_some, Option.some.injEq] at hx
  subst hx; exact .raw _
theorem Cells.ofFn {V : View} {xs : List AV} (g : Nat → Value) (m : Nat) (hm : xs.length = m) (h : ∀ (i : Nat) (x : AV), xs[i]? = some x → VR V x (g i)) : Cells V xs ((List.range m).map g).toArray := by
  refine ⟨by simp [hm], fun i x v hx hv => ?_⟩
  simp only [List.getElem?_toArray, List.getElem?_map] at hv
  have hi : i < m := by rw [← hm]; exact (List.getElem?_eq_some_iff.1 hx).1
  rw [List.getElem?_range hi] at hv
  cases hv
  exact h i x hx

section rules
variable {P : Program} {GV : AH} {f : FuncId} {n : Nat} {k : List Item} {env : Env} {H : AH} {R : AV → AH → Prop} {ops : Array Oper} {i : Nat} {rest : List Nat}
variable {d : Option Tmp} {ty : TypeId} {pos : String} {aft : Array Edge} {gd : Option (Nat × Bool)}

theorem AS.appendRow0 {so yo : Operand} {t e : TypeId} {ys : List AV} {tk2 : Tok} {sz by_ : Nat} (ho : ops[i]? = some ⟨d, .call ⟨.builtin .append, #[so, yo], #[t, t]⟩, ty, pos, aft, gd⟩)
    (hw : wantedB ops env gd = true) (hd : fitsB n d = true) (hx : env.ev GV so = some (.slice [] .full)) (hy : env.ev GV yo = some (.slice ys tk2)) (ht : sliI P t = some (e, sz, by_))
    (hys : ∀ y ∈ ys, y.cells.length = sz) (hm : 0 < ys.length) (hb : ys.length * by_ ≤ 140737488355328)
    (next : ∀ b' cap' cs', cs'.length = cap' * sz → ys.length ≤ cap' → cs'.take (ys.length * sz) = flat ys → AS P GV f n (.inRegion ops rest :: k) (putEnv d (.mslice b' 0 ys.length cap') env) ((b', .row cs' e) :: H) R) :
    AS P GV f n (.inRegion ops (i :: rest) :: k) env H R := by
  refine AS.opG (Φ := fun x H2 => ∃ b' cap' cs', cs'.length = cap' * sz ∧ ys.length ≤ cap' ∧ cs'.take (ys.length * sz) = flat ys ∧ x = .mslice b' 0 ys.length cap' ∧ H2 = (b', .row cs' e) :: H) ho hw hd (fun V a w hs => ?_)
    (fun x H2 ⟨b', cap', cs', h1, h2, h3, e1, e2⟩ => by subst e1 e2; exact next b' cap' cs' h1 h2 h3)
  obtain ⟨info, z, hu, hi, hz, hs1, hs2, hs3, hs4, hs5⟩ := sliI_parts ht
  have hv := hs.ev hx
  have hyv := hs.ev hy
  have hfy := flat_length hys
  have hn63 : ys.length ≤ 140737488355328 := Nat.le_trans (Nat.le_mul_of_pos_right _ hs5) hb
  generalize hq : a.eval so = q at hv
  generalize hqy : a.eval yo = qy at hyv
  cases hv with
  | slice _ _ ad l c sz1 bx ox fx hn hnc hsz1 ha hVx hcx htk =>
    cases hyv with
    | slice _ _ ay ly cy sz2 by2 oy fy hny hncy hsz2 hay hVy hcy htky =>
      have hrunof : ∀ v w', (Builtin.append_ #[t, t] ty #[.slice ad l c, .slice ay ly cy]).run P w = .ok v w' → (execOp a.eval ⟨d, .call ⟨.builtin .append, #[so, yo], #[t, t]⟩, ty, pos, aft, gd⟩).run P w = .ok (.value v) w' := by
        intro v w' hr
        refine wpo_builtin ?_
        simp only [builtin, List.map_toArray, List.map_cons, List.map_nil, hq, hqy, Sem.run_bind, hr]
        rfl
      have hayb := hay (by omega)
      subst hayb
      have hnews : ∀ j u, ((List.range (ly * info.size)).map fy)[j]? = some u → w.cell? ((⟨by2, oy, none⟩ : Addr).add j) = some u := by
        intro j u hj
        have hjl : j < ly * info.size := by have := (List.getElem?_eq_some_iff.1 hj).1; simpa using this
        have : fy j = u := by simpa [hjl] using hj
        rw [Addr.add_eq, ← this]
        exact hs.rel.claims _ _ _ (hVy j (by rw [hfy, ← hny, ← hs1]; exact hjl))
      have hnl : ((List.range (ly * info.size)).map fy).length = ly * info.size := by simp
      have hcells : Cells V (flat ys) ((List.range (ly * info.size)).map fy).toArray := .ofFn fy _ (by rw [hfy, hny, hs1]) hcy
      have hl0 : l = 0 := hn
      have hc0 : c = 0 := by have : l = c := htk; omega
      subst hl0 hc0
      have go : ∀ old, ((Builtin.append_ #[t, t] ty #[.slice ad 0 0, .slice (some ⟨by2, oy, none⟩) ly cy]).run P w =
              .ok (.slice (some ⟨w.heap.size, 0, none⟩) ly (grownCap w ly old e)) (w.drew.alloc (.cells (((List.range (ly * info.size)).map fy).toArray ++ Builtin.zeroCells z.cells (grownCap w ly old e - ly)) e))) → old < ly →
          ∃ v w' V' x H', ((execOp a.eval ⟨d, .call ⟨.builtin .append, #[so, yo], #[t, t]⟩, ty, pos, aft, gd⟩).run P w = .ok (.value v) w' ∨ (execOp a.eval ⟨d, .call ⟨.builtin .append, #[so, yo], #[t, t]⟩, ty, pos, aft, gd⟩).run P w = .ok .skip w' ∧ v = Go.undef) ∧
            VR V' x v ∧ Rel GV w' V' H' ∧ Ext w V H w' V' H' ∧ ∃ b' cap' cs', cs'.length = cap' * sz ∧ ys.length ≤ cap' ∧ cs'.take (ys.length * sz) = flat ys ∧ x = .mslice b' 0 ys.length cap' ∧ H' = (b', .row cs' e) :: H := by
        intro old hr hold
        have hge := grownCap_ge w ly old e
        obtain ⟨hA, hB⟩ := hs.rel.alloc_drew (hcells.append (Cells.raws V (Builtin.zeroCells z.cells (grownCap w ly old e - ly)))) e
        refine ⟨_, _, _, _, _, .inl (hrunof _ _ hr), ?_, hA, hB, w.heap.size, grownCap w ly old e, _, ?_, by omega, ?_, rfl, rfl⟩
        · rw [← hny]; exact .mslice _ _ _ _
        · simp only [List.length_append, List.length_map, Array.length_toList, size_zeroCells, hs3, hfy]
          rw [← hny, ← Nat.add_mul]; congr 1; omega
        · rw [← hfy, List.take_left]
      cases ad with
      | none => exact go 0 (run_append_nil (P := P) w t ty e info z hu hi hz ⟨by2, oy, none⟩ ly cy _ hnl hnews (by omega) (by omega) (by rw [hs2, hny]; omega)) (by omega)
      | some adr =>
        have hr := run_append_grow (P := P) w t ty e info z hu hi hz adr 0 0 [] (by simp) (by simp) ⟨by2, oy, none⟩ ly cy _ hnl hnews (by omega) (by omega) (growslice_fits (by omega) (by rw [Nat.zero_add, hny, hs2]; exact hb))
        simp only [Nat.zero_add] at hr
        refine go 0 ?_ (by omega)
        simpa using hr

theorem AS.appendRow {so yo : Operand} {t e : TypeId} {ys : List AV} {tk2 : Tok} {sz by_ b n0 cap : Nat} {cs : List AV} {H0 : AH} [hdel : Del H b (.row cs e) H0] (ho : ops[i]? = some ⟨d, .call ⟨.builtin .append, #[so, yo], #[t, t]⟩, ty, pos, aft, gd⟩)
    (hw : wantedB ops env gd = true) (hd : fitsB n d = true) (hx : env.ev GV so = some (.mslice b 0 n0 cap)) (hy : env.ev GV yo = some (.slice ys tk2)) (ht : sliI P t = some (e, sz, by_))
    (hcs : cs.length = cap * sz) (hcap : n0 ≤ cap) (hys : ∀ y ∈ ys, y.cells.length = sz) (h1 : ∀ y ∈ flat ys, y.one = true) (hm : 0 < ys.length) (hb : (n0 + ys.length) * by_ ≤ 140737488355328)
    (next : ∀ b' cap' cs', cs'.length = cap' * sz → n0 + ys.length ≤ cap' → cs'.take ((n0 + ys.length) * sz) = cs.take (n0 * sz) ++ flat ys → AS P GV f n (.inRegion ops rest :: k) (putEnv d (.mslice b' 0 (n0 + ys.length) cap') env) ((b', .row cs' e) :: H0) R) :
    AS P GV f n (.inRegion ops (i :: rest) :: k) env H R := by
  refine AS.opG (Φ := fun x H2 => ∃ b' cap' cs', cs'.length = cap' * sz ∧ n0 + ys.length ≤ cap' ∧ cs'.take ((n0 + ys.length) * sz) = cs.take (n0 * sz) ++ flat ys ∧ x = .mslice b' 0 (n0 + ys.length) cap' ∧ H2 = (b', .row cs' e) :: H0) ho hw hd (fun V a w hs => ?_)
    (fun x H2 ⟨b', cap', cs', h1, h2, h3, e1, e2⟩ => by subst e1 e2; exact next b' cap' cs' h1 h2 h3)
  obtain ⟨info, z, hu, hi, hz, hs1, hs2, hs3, hs4, hs5⟩ := sliI_parts ht
  have hv := hs.ev hx
  have hyv := hs.ev hy
  have hfy := flat_length hys
  have hn63 : n0 + ys.length ≤ 140737488355328 := Nat.le_trans (Nat.le_mul_of_pos_right _ hs5) hb
  generalize hq : a.eval so = q at hv
  generalize hqy : a.eval yo = qy at hyv
  cases hv
  cases hyv with
  | slice _ _ ay ly cy sz2 by2 oy fy hny hncy hsz2 hay hVy hcy htky =>
    have hrunof : ∀ v w', (Builtin.append_ #[t, t] ty #[.slice (some ⟨b, 0, none⟩) n0 cap, .slice ay ly cy]).run P w = .ok v w' → (execOp a.eval ⟨d, .call ⟨.builtin .append, #[so, yo], #[t, t]⟩, ty, pos, aft, gd⟩).run P w = .ok (.value v) w' := by
      intro v w' hr
      refine wpo_builtin ?_
      simp only [builtin, List.map_toArray, List.map_cons, List.map_nil, hq, hqy, Sem.run_bind, hr]
      rfl
    have hayb := hay (by omega)
    subst hayb
    have hnews : ∀ j u, ((List.range (ly * info.size)).map fy)[j]? = some u → w.cell? ((⟨by2, oy, none⟩ : Addr).add j) = some u := by
      intro j u hj
      have hjl : j < ly * info.size := by have := (List.getElem?_eq_some_iff.1 hj).1; simpa using this
      have : fy j = u := by simpa [hjl] using hj
      rw [Addr.add_eq, ← this]
      exact hs.rel.claims _ _ _ (hVy j (by rw [hfy, ← hny, ← hs1]; exact hjl))
    have hnl : ((List.range (ly * info.size)).map fy).length = ly * info.size := by simp
    have hcells : Cells V (flat ys) ((List.range (ly * info.size)).map fy).toArray := .ofFn fy _ (by rw [hfy, hny, hs1]) hcy
    obtain ⟨cur, hcur, hcc, hclaim⟩ := hs.rel.objs b _ hdel.mem
    have hsub : ∀ p, p ∈ (b, AO.row cs e) :: H0 → p ∈ H := fun p hp => by
      rcases List.mem_cons.1 hp with h | h
      · rw [h]; exact hdel.mem
      · exact hdel.old p h
    have hnd := hdel.nodup hs.rel.nodup
    have hrel1 : Rel GV w V ((b, .row cs e) :: H0) := hs.rel.sub hsub (by simp only [keys, List.map_cons, List.nodup_cons]; exact ⟨hnd.2, hnd.1⟩)
    have hrel0 : Rel GV w V H0 := hs.rel.sub hdel.old hnd.1
    have hext1 : ∀ {w' V' H'}, Ext w V ((b, .row cs e) :: H0) w' V' H' → Ext w V H w' V' H' := fun hE => ((Ext.refl w V H).sub hsub).trans hE
    have hext0 : ∀ {w' V' H'}, Ext w V H0 w' V' H' → Ext w V H w' V' H' := fun hE => ((Ext.refl w V H).sub hdel.old).trans hE
    by_cases hroom : n0 + ly ≤ cap
    · have hone : ∀ u ∈ (List.range (ly * info.size)).map fy, u.oneCell' = true := by
        intro u hu
        obtain ⟨j, hj⟩ := List.getElem?_of_mem hu
        have hjl : j < (flat ys).length := by rw [hfy, ← hny, ← hs1]; have := (List.getElem?_eq_some_iff.1 hj).1; simpa using this
        have hx := List.getElem?_eq_getElem hjl
        have := hcells.2 j _ u hx (by simpa using hj)
        exact this.oneCell (h1 _ (List.getElem_mem hjl))
      have hr := run_append_room (P := P) w t ty e info hu hi b n0 cap cur hcur ⟨by2, oy, none⟩ ly cy _ hnl hnews hone hroom (by rw [hnl, hcc.1, hcs, ← hs1, ← Nat.add_mul]; exact Nat.mul_le_mul_right _ hroom)
      have hnewc : Cells V (cs.take (n0 * sz) ++ flat ys ++ cs.drop (n0 * sz + (flat ys).length)) (cur.toList.take (n0 * info.size) ++ (List.range (ly * info.size)).map fy ++ cur.toList.drop (n0 * info.size + ((List.range (ly * info.size)).map fy).length)).toArray := by
        have := ((hcc.take (n0 * sz)).append hcells).append (hcc.drop (n0 * sz + (flat ys).length))
        have e1 : (flat ys).length = ((List.range (ly * info.size)).map fy).length := by rw [hnl, hfy, hny, hs1]
        rw [hs1] at *
        rw [← e1]
        simpa using this
      have hup := hrel1.update (w' := w.setRow b (cur.toList.take (n0 * info.size) ++ (List.range (ly * info.size)).map fy ++ cur.toList.drop (n0 * info.size + ((List.range (ly * info.size)).map fy).length)).toArray) (b := b)
        (o' := .row (cs.take (n0 * sz) ++ flat ys ++ cs.drop (n0 * sz + (flat ys).length)) e) (H' := (b, .row (cs.take (n0 * sz) ++ flat ys ++ cs.drop (n0 * sz + (flat ys).length)) e) :: H0) rfl rfl rfl (by simp [World.setRow])
        (fun c hc => setRow_other w b c _ hc) (fun j v hv => by rw [hclaim] at hv; cases hv) ⟨_, setRow_heap w b cur _ e (0, 0) hcur, hnewc, hclaim⟩
      have hlen1 : (cs.take (n0 * sz)).length = n0 * sz := by rw [List.length_take, hcs]; exact Nat.min_eq_left (Nat.mul_le_mul_right _ hcap)
      refine ⟨_, _, _, _, _, .inl (hrunof _ _ hr), ?_, hup.1, hext1 hup.2, b, cap, _, ?_, by omega, ?_, rfl, rfl⟩
      · rw [← hny]; exact .mslice _ _ _ _
      · have h2 : (n0 + ys.length) * sz ≤ cap * sz := Nat.mul_le_mul_right _ (by omega)
        rw [Nat.add_mul] at h2
        simp only [List.length_append, hlen1, List.length_drop, hfy, hcs]; omega
      · rw [Nat.add_mul, ← hfy]
        have : n0 * sz + (flat ys).length = (cs.take (n0 * sz) ++ flat ys).length := by rw [List.length_append, hlen1]
        rw [this, List.take_left]
    · have hge := grownCap_ge w (n0 + ly) cap e
      have holds : ∀ j u, (cur.toList.take (n0 * info.size))[j]? = some u → w.cell? ((⟨b, 0, none⟩ : Addr).add j) = some u := by
        intro j u hj
        rw [List.getElem?_take] at hj
        split at hj
        · rw [Addr.add_eq]; simp only [World.cell?, hcur, Nat.zero_add]; simpa using hj
        · cases hj
      have hr := run_append_grow (P := P) w t ty e info z hu hi hz ⟨b, 0, none⟩ n0 cap (cur.toList.take (n0 * info.size)) (by
          rw [List.length_take, Array.length_toList, hcc.1, hcs, hs1]; exact Nat.min_eq_left (Nat.mul_le_mul_right _ hcap)) holds ⟨by2, oy, none⟩ ly cy _ hnl hnews (by omega) (by omega) (growslice_fits (by omega) (by rw [hny, hs2]; exact hb))
      have hnewc := ((hcc.take (n0 * info.size)).append hcells).append (Cells.raws V (Builtin.zeroCells z.cells (grownCap w (n0 + ly) cap e - (n0 + ly))))
      obtain ⟨hA, hB⟩ := hrel0.alloc_drew hnewc e
      have hlen1 : (cs.take (n0 * info.size)).length = n0 * sz := by rw [List.length_take, hcs, hs1]; exact Nat.min_eq_left (Nat.mul_le_mul_right _ hcap)
      refine ⟨_, _, _, _, _, .inl (hrunof _ _ hr), ?_, hA, hext0 hB, w.heap.size, grownCap w (n0 + ly) cap e, _, ?_, by omega, ?_, rfl, rfl⟩
      · rw [← hny]; exact .mslice _ _ _ _
      · simp only [List.length_append, List.length_map, Array.length_toList, size_zeroCells, hs3, hfy, hlen1]
        rw [← hny, ← Nat.add_mul, ← Nat.add_mul]; congr 1; omega
      · rw [Nat.add_mul, ← hfy]
        have : n0 * sz + (flat ys).length = (cs.take (n0 * info.size) ++ flat ys).length := by rw [List.length_append, hlen1]
        rw [this, List.take_left, hs1]
end rules
end Go.Proofs.Fw
/- Rows of elements: loads, stores, and stores where the order is open. -/
namespace Go.Proofs.Fw
open Go Go.Shelf Go.RowKit
set_option linter.unusedVariables false

/-- A row: elements, and what is behind. -/
def rowOf {α : Type} (enc : α → AV) (l : List α) (rest : List AV) : List AV := flat (l.map enc) ++ rest

section
variable {α : Type} {enc : α → AV} {sz : Nat}
theorem row_len (hs : ∀ a, (enc a).cells.length = sz) (l : List α) (rest : List AV) : (rowOf enc l rest).length = l.length * sz + rest.length := by
  rw [rowOf, List.length_append, flat_length (map_sz hs l), List.length_map]
theorem row_cons (a : α) (l : List α) (rest : List AV) : rowOf enc (a :: l) rest = (enc a).cells ++ rowOf enc l rest := by simp [rowOf, flat]
theorem row_drop (hs : ∀ a, (enc a).cells.length = sz) (rest : List AV) : ∀ (l : List α) (i : Nat), i ≤ l.length → (rowOf enc l rest).drop (i * sz) = rowOf enc (l.drop i) rest
  | l, 0, _ => by simp
  | [], i + 1, h => by simp at h
  | a :: l, i + 1, h => by
    rw [row_cons, Nat.succ_mul, Nat.add_comm, ← List.drop_drop, ← hs a, List.drop_left, hs a, row_drop hs rest l i (by simpa using h)]; rfl
theorem row_pick (hs : ∀ a, (enc a).cells.length = sz) {l : List α} (rest : List AV) {i : Nat} {a : α} (h : l[i]? = some a) : ((rowOf enc l rest).drop (i * sz)).take sz = (enc a).cells := by
  have hi : i < l.length := (List.getElem?_eq_some_iff.1 h).1
  rw [row_drop hs rest l i (by omega), List.drop_eq_getElem_cons hi, row_cons]
  rw [List.getElem?_eq_getElem hi] at h
  cases h
  rw [← hs l[i], List.take_left]
theorem row_pick0 {rs : List AV} (hs : ∀ a, (enc a).cells.length = sz) (l : List α) : (rowOf enc l rs).take (l.length * sz) = flat (l.map enc) := by
  have h := flat_length (map_sz hs l)
  rw [List.length_map] at h
  rw [rowOf, ← h, List.take_left]
theorem putCells_append (xs ys : List AV) (o : Nat) (zs : List AV) : putCells (xs ++ ys) (xs.length + o) zs = xs ++ putCells ys o zs := by
  induction zs generalizing ys o with
  | nil => rfl
  | cons z zs ih =>
    simp only [putCells]
    rw [List.set_append_right _ _ (by omega), Nat.add_sub_cancel_left, Nat.add_assoc]
    exact ih _ _
theorem putCells_front : ∀ (xs ys zs : List AV), zs.length = xs.length → putCells (xs ++ ys) 0 zs = zs ++ ys
  | [], ys, [], _ => rfl
  | x :: xs, ys, z :: zs, h => by
    have h' : zs.length = xs.length := by simpa using h
    simp only [putCells, List.cons_append, List.set_cons_zero, Nat.zero_add]
    have := putCells_append [z] (xs ++ ys) 0 zs
    simp only [List.length_singleton, Nat.add_zero, List.singleton_append] at this
    rw [this, putCells_front xs ys zs h']
  | [], _, _ :: _, h => by simp at h
  | _ :: _, _, [], h => by simp at h
theorem row_put (hs : ∀ a, (enc a).cells.length = sz) (rest : List AV) (a : α) : ∀ (l : List α) (i : Nat), i < l.length → putCells (rowOf enc l rest) (i * sz) (enc a).cells = rowOf enc (l.set i a) rest
  | [], i, h => by simp at h
  | x :: l, 0, _ => by
    rw [row_cons, List.set_cons_zero, row_cons, Nat.zero_mul, putCells_front _ _ _ (by rw [hs, hs])]
  | x :: l, i + 1, h => by
    rw [row_cons, List.set_cons_succ, row_cons, Nat.succ_mul, Nat.add_comm, ← hs x, putCells_append, hs x, row_put hs rest a l i (by simpa using h)]
end

section rules
variable {P : Program} {GV : AH} {f : FuncId} {n : Nat} {k : List Item} {env : Env} {H : AH} {R : AV → AH → Prop} {ops : Array Oper} {i : Nat} {rest : List Nat}
variable {d : Option Tmp} {ty : TypeId} {pos : String} {aft : Array Edge} {gd : Option (Nat × Bool)}

theorem AS.rowAddr {t e : TypeId} {xo io : Operand} {b l c : Nat} {kd : IntKind} {m : Int} {sz by_ : Nat} (ho : ops[i]? = some ⟨d, .indexAddr t xo io, ty, pos, aft, gd⟩) (hw : wantedB ops env gd = true) (hd : fitsB n d = true)
    (hx : env.ev GV xo = some (.mslice b 0 l c)) (hi : env.ev GV io = some (.int kd m)) (ht : sliI P t = some (e, sz, by_)) (j : Nat) (hj : (j : Int) = m) (hl : j < l)
    (next : AS P GV f n (.inRegion ops rest :: k) (putEnv d (.ptr b (j * sz)) env) H R) : AS P GV f n (.inRegion ops (i :: rest) :: k) env H R := by
  subst hj
  refine AS.mindexAddr ho hw hd hx hi ht ⟨by omega, by omega⟩ ?_
  rw [Nat.zero_add, Int.toNat_natCast]; exact next

theorem AS.loadAt {α : Type} {enc : α → AV} {t : TypeId} {x : Operand} {b j : Nat} {l : List α} {rs : List AV} {e : TypeId} [hat : At H b (.row (rowOf enc l rs) e)] {sz : Nat} {a : α} (ho : ops[i]? = some ⟨d, .load t x, ty, pos, aft, gd⟩) (hw : wantedB ops env gd = true)
    (hd : fitsB n d = true) (hx : env.ev GV x = some (.ptr b (j * sz))) (ht : tyI P t = some (sz, true)) (hs : ∀ a, (enc a).cells.length = sz) (hag : ∀ a, enc a = .agg (enc a).cells) (ha : l[j]? = some a)
    (next : AS P GV f n (.inRegion ops rest :: k) (putEnv d (enc a) env) H R) : AS P GV f n (.inRegion ops (i :: rest) :: k) env H R := by
  have hj : j < l.length := (List.getElem?_eq_some_iff.1 ha).1
  refine AS.load ho hw hd hx ht ?_ rfl (by rw [pickCells, row_pick hs rs ha, ← hag a]) next
  rw [Nat.ble_eq, row_len hs]
  have : (j + 1) * sz ≤ l.length * sz := Nat.mul_le_mul_right _ hj
  rw [Nat.succ_mul] at this
  omega

theorem AS.storeAt {α : Type} {enc : α → AV} {t : TypeId} {xa xv : Operand} {b j : Nat} {l : List α} {rs : List AV} {e : TypeId} {a : α} [hat : At H b (.row (rowOf enc l rs) e)] {sz : Nat} {H' : AH} [hu : Upd H b (.row (rowOf enc (l.set j a) rs) e) H']
    (ho : ops[i]? = some ⟨d, .store t xa xv, ty, pos, aft, gd⟩) (hw : wantedB ops env gd = true) (hd : fitsB n d = true) (hx : env.ev GV xa = some (.ptr b (j * sz))) (hy : env.ev GV xv = some (enc a)) (hf : ∀ a, (enc a).flatB = true)
    (ht : tyI P t = some (sz, true)) (hs : ∀ a, (enc a).cells.length = sz) (hj : j < l.length)
    (next : AS P GV f n (.inRegion ops rest :: k) (putEnv d .undef env) H' R) : AS P GV f n (.inRegion ops (i :: rest) :: k) env H R := by
  have hu' : Upd H b (.row (putCells (rowOf enc l rs) (j * sz) (enc a).cells) e) H' := by rw [row_put hs rs a l j hj]; exact hu
  refine AS.store (hu := hu') ho hw hd hx hy (hf a) ht (by rw [hs]; exact Nat.beq_refl _) ?_ next
  rw [Nat.ble_eq, row_len hs]
  have : (j + 1) * sz ≤ l.length * sz := Nat.mul_le_mul_right _ hj
  rw [Nat.succ_mul] at this
  omega

/-- What was worked out ahead, and may yet come behind c, holds in any memory. -/
def Ros (P : Program) (GV : AH) (f : FuncId) (n : Nat) (k : List Item) (R : AV → AH → Prop) (ops : Array Oper) (c : Nat) : List Rd → Prop
  | [] => True
  | r :: es => (match (ancs ops ops.size (preOf ops c)).contains r.idx with | true => True | false => Ro P GV f n k R ops (fun _ => True) r) ∧ Ros P GV f n k R ops c es
theorem Ros.get {c : Nat} : ∀ {es : List Rd}, Ros P GV f n k R ops c es → ∀ r ∈ es, r.idx ∉ ancs ops ops.size (preOf ops c) → Ro P GV f n k R ops (fun _ => True) r
  | [], _, r, hr, _ => by cases hr
  | q :: es, h, r, hr, hn => by
    rcases List.mem_cons.1 hr with e | hr
    · subst e
      have h1 := h.1
      have : (ancs ops ops.size (preOf ops c)).contains r.idx = false := by simpa using hn
      rw [this] at h1
      exact h1
    · exact Ros.get h.2 r hr hn

/-- Memory turns, in one way. -/
theorem SA.chg {base : Env} {es : List Rd} {HH : AH → Prop} {val : AV} {H' : AH} (c : Nat) (slots : List Nat) (hp : preOk ops = true) (hd : dstsOk ops = true) (hb : rdB ops c es slots = true) (ho : onlyB ops c es = true)
    (hrun : ∀ env rest, AS P GV f n (.inRegion ops rest :: k) (putEnv (dstOf ops c) val ((full es base).pick slots ++ env)) H' R → AS P GV f n (.inRegion ops (c :: rest) :: k) ((full es base).pick slots ++ env) H R)
    (hros : Ros P GV f n k R ops c es)
    (next : SA P GV f n k R ops base (⟨c, dstOf ops c, val, (full es base).pick slots⟩ :: es) (fun _ => True) H') : SA P GV f n k R ops base es HH H :=
  SA.turn (α := Unit) (val := fun _ => val) (Hn := fun _ => H') (Φ := fun _ => True) c slots hp hd hb ho (fun env rest h => hrun env rest (h () trivial)) hros.get (fun _ _ => next)

/-- Less is known of a slot's value. -/
theorem AS.weak {todo : List Item} (t : Nat) {x : AV} (y : AV) (h : env.get t = some x) (hl : AVLe x y) (next : AS P GV f n todo ((t, y) :: env) H R) : AS P GV f n todo env H R :=
  fun V a w hs => next V a w ⟨hs.defers, hs.size, fun s z hz => by
    simp only [Env.get] at hz
    split at hz
    · rename_i hb
      have := Nat.eq_of_beq_eq_true hb
      subst this
      cases hz
      obtain ⟨v, hv, hr⟩ := hs.env _ _ h
      exact ⟨v, hv, hl _ _ hr⟩
    · exact hs.env s z hz, hs.rel⟩
theorem AS.putLe {todo : List Item} {x y : AV} (hl : AVLe x y) (next : AS P GV f n todo (putEnv d y env) H R) : AS P GV f n todo (putEnv d x env) H R := by
  cases d with
  | none => exact next
  | some t =>
    refine AS.weak t (x := x) y (by simp [putEnv, Env.get]) hl ?_
    · refine AS.know _ (fun s z hz => ?_) next
      simp only [putEnv, Env.get] at hz ⊢
      split at hz
      · exact hz
      · exact hz
/-- A call of a function value that leaves memory as it was. -/
theorem AS.callVP {g : FuncId} {fo : Operand} {first caps : List AV} {os : Array Operand} {ats : Array TypeId} {args : List AV} {v : AV} (ho : ops[i]? = some ⟨d, .call ⟨.value fo, os, ats⟩, ty, pos, aft, gd⟩) (hw : wantedB ops env gd = true) (hd : fitsB n d = true)
    (hfo : env.ev GV fo = some (.func (.func g) first caps)) (he : env.evs GV os.toList = some args) (hg : Enters P g) (hc : ACalls P GV g (first ++ args ++ caps) H (fun x H' => x = v ∧ H' = H))
    (next : AS P GV f n (.inRegion ops rest :: k) (putEnv d v env) H R) : AS P GV f n (.inRegion ops (i :: rest) :: k) env H R :=
  AS.callValue ho hw hd hfo he hg hc (fun x H' ⟨e1, e2⟩ => by subst e1 e2; exact next)
end rules
end Go.Proofs.Fw
/- An iterator's entry. -/
namespace Go.Proofs.Fw
open Go Go.Shelf Go.RowKit
set_option linter.unusedVariables false
theorem Wk.mid {GV : AH} {x : AV} (A L : AH) {B : AH} : Wk GV x (A ++ (L ++ B)) x (A ++ B) :=
  Wk.sub (fun p hp => by
    rcases List.mem_append.1 hp with h | h
    · exact List.mem_append_left _ h
    · exact List.mem_append_right _ (List.mem_append_right _ h)) (fun hn => by
    simp only [keys, List.map_append, List.nodup_append, List.mem_append] at hn ⊢
    exact ⟨hn.1, hn.2.1.2.1, fun a ha b hb => hn.2.2 a ha b (.inr hb)⟩)
instance Upd_app {G H H' : AH} {b : Nat} {o' : AO} [h : Upd H b o' H'] : Upd (G ++ H) b o' (G ++ H') where
  here := by simp only [Fw.keys, List.map_append, List.mem_append]; exact .inr h.here
  keys := by simp only [Fw.keys, List.map_append]; rw [show List.map (·.1) H' = List.map (·.1) H from h.keys]
  old c o hm := by
    rcases List.mem_append.1 hm with hm | hm
    · exact .inl (List.mem_append_left _ hm)
    · exact (h.old c o hm).imp (List.mem_append_right _) id
  fst hn o hm := by
    simp only [Fw.keys, List.map_append, List.nodup_append] at hn
    rcases List.mem_append.1 hm with hm | hm
    · exact absurd rfl (hn.2.2 b (List.mem_map.2 ⟨_, hm, rfl⟩) b h.here)
    · exact h.fst hn.2.1 o hm
theorem ACalls.permP {P : Program} {GV : AH} {f : FuncId} {args : List AV} {H1 H2 : AH} {v : AV} (h : ACalls P GV f args H1 (fun x H' => x = v ∧ H' = H1)) (hp : H2.Perm H1) : ACalls P GV f args H2 (fun x H' => x = v ∧ H' = H2) := by
  intro V w vs hc hrel
  refine (h V w vs hc (hrel.perm hp)).mono ?_
  rintro e w' ⟨u, he, V', x, H', a, b, c, e1, e2⟩
  rw [e1] at a
  rw [e2] at b c
  have hk : ∀ b, b ∈ keys H1 ↔ b ∈ keys H2 := fun b => ((hp.map (·.1)).mem_iff).symm
  exact ⟨u, he, V', v, H2, a, b.perm hp.symm, ⟨c.os, c.tape, c.output, c.size, c.le, fun b hb hn => c.heap b hb (fun hm => hn ((hk b).1 hm)), fun b hb hn => c.view b hb (fun hm => hn ((hk b).1 hm)),
    fun b hb => (c.keyed b ((hk b).2 hb)).imp (hk b).1 id⟩, rfl, rfl⟩
section rules
variable {P : Program} {GV : AH} {f : FuncId} {n : Nat} {k : List Item} {env : Env} {H : AH} {R : AV → AH → Prop} {ops : Array Oper} {i : Nat} {rest : List Nat}
variable {d : Option Tmp} {ty : TypeId} {pos : String} {aft : Array Edge} {gd : Option (Nat × Bool)}

/-- Memory turns ahead of what stays: all that was read of what stays is good yet. -/
theorem SA.turnG {α : Type} {base : Env} {es : List Rd} {H0 : AH} {val : α → AV} {Hn : α → AH} {Φ : α → Prop} (c : Nat) (slots : List Nat) (hp : preOk ops = true) (hd : dstsOk ops = true) (hb : rdB ops c es slots = true) (ho : onlyB ops c es = true)
    (hrun : ∀ env rest, (∀ x, Φ x → AS P GV f n (.inRegion ops rest :: k) (putEnv (dstOf ops c) (val x) ((full es base).pick slots ++ env)) (Hn x) R) → AS P GV f n (.inRegion ops (c :: rest) :: k) ((full es base).pick slots ++ env) H R)
    (hG : ∀ x, ∃ G, Hn x = G ++ H0)
    (next : ∀ x, Φ x → SA P GV f n k R ops base (⟨c, dstOf ops c, val x, (full es base).pick slots⟩ :: es) (fun H' => ∃ G, H' = G ++ H0) (Hn x)) : SA P GV f n k R ops base es (fun H' => ∃ G, H' = G ++ H0) H :=
  SA.changer (HH' := fun H' => ∃ G, H' = G ++ H0) c (dstOf ops c) val ((full es base).pick slots) Hn Φ hp hd (fun v => rdB_ok hb v) ho hrun (fun x _ => hG x) (fun _ _ _ h => h) next

theorem AS.entryMap {κ α : Type} {encK : κ → AV} {encV : α → AV} {io : Operand} {it b c : Nat} {sm : List (Nat × κ × α)} {seen : List Nat} {e : Nat × κ × α} [hat1 : At H it (.miter b c (seen ++ [e.1]))] [hat2 : At H b (.mapB (mapSt encK encV sm) c)]
    (ho : ops[i]? = some ⟨d, .entry io, ty, pos, aft, gd⟩) (hw : wantedB ops env gd = true) (hd : fitsB n d = true) (hx : env.ev GV io = some (.ptr it 0)) (he : e ∈ sm)
    (next : AS P GV f n (.inRegion ops rest :: k) (putEnv d (.tup [encK e.2.1, encV e.2.2]) env) H R) : AS P GV f n (.inRegion ops (i :: rest) :: k) env H R :=
  .opV _ ho hw hd (fun V a w hs => by
    have hxv := hs.ev hx
    generalize hq : a.eval io = q at hxv
    cases hxv
    have hit : w.heap[it]? = some (.mapIter (some b) c (seen ++ [e.1]).toArray c) := hs.rel.objs _ _ hat1.mem
    obtain ⟨ents, hb, h1, h2, h3⟩ := hs.rel.objs _ _ hat2.mem
    have hg1 : (getObj it).run P w = .ok (.mapIter (some b) c (seen ++ [e.1]).toArray c) w := by simp [getObj, Sem.run, hit]
    have hg2 : (getObj b).run P w = .ok (.map ents c) w := by simp [getObj, Sem.run, hb]
    obtain ⟨j, hj⟩ := List.getElem?_of_mem he
    have hjl : j < sm.length := (List.getElem?_eq_some_iff.1 hj).1
    have hje : j < ents.size := by rw [h1, mapSt, List.length_map]; exact hjl
    have hst : ∀ {l : Nat} {x : Nat × κ × α} {r : MapEntry}, sm[l]? = some x → ents[l]? = some r → r.born = x.1 ∧ VR V (encK x.2.1) r.key ∧ VR V (encV x.2.2) r.val := fun {l x r} hl hr => by
      have := h2 l (x.1, encK x.2.1, encV x.2.2) r (by simp [mapSt, hl]) hr
      exact ⟨this.1, this.2.1, this.2.2.1⟩
    have hjr := Array.getElem?_eq_getElem hje
    have hfind : ents.find? (fun x => x.born == e.1) = some ents[j] := by
      have hsome : (ents.find? (fun x => x.born == e.1)).isSome = true := by
        rw [Array.find?_isSome]
        exact ⟨ents[j], Array.getElem_mem hje, by rw [(hst hj hjr).1]; simp⟩
      obtain ⟨r, hr⟩ := Option.isSome_iff_exists.1 hsome
      have hrb : r.born = e.1 := by simpa using Array.find?_some hr
      obtain ⟨l, hl, hlr⟩ := Array.mem_iff_getElem.1 (Array.mem_of_find?_eq_some hr)
      have hlr' : ents[l]? = some r := by rw [Array.getElem?_eq_getElem hl, hlr]
      have hls : l < sm.length := by rw [h1, mapSt, List.length_map] at hl; exact hl
      have hb2 := (hst (List.getElem?_eq_getElem hls) hlr').1
      have hnd : (sm.map (·.1)).Nodup := by
        have : (mapSt encK encV sm).map (·.1) = sm.map (·.1) := by simp [mapSt]
        rw [← this]; exact h3
      have hlj : l = j := by
        have e1 : (sm.map (·.1))[l]? = some e.1 := by rw [List.getElem?_map, List.getElem?_eq_getElem hls, Option.map_some, ← hb2, hrb]
        have e2 : (sm.map (·.1))[j]? = some e.1 := by rw [List.getElem?_map, hj]; rfl
        have hpw := List.pairwise_iff_getElem.1 hnd
        have hl1 : l < (sm.map (·.1)).length := by simpa using hls
        have hl2 : j < (sm.map (·.1)).length := by simpa using hjl
        rw [List.getElem?_eq_getElem hl1] at e1
        rw [List.getElem?_eq_getElem hl2] at e2
        have e3 := Option.some.inj (e1.trans e2.symm)
        rcases Nat.lt_trichotomy l j with h | h | h
        · exact absurd e3 (hpw l j hl1 hl2 h)
        · exact h
        · exact absurd e3.symm (hpw j l hl2 hl1 h)
      subst hlj
      rw [hr, ← hlr]
    refine ⟨.tuple #[ents[j].key, ents[j].val], ?_, .tup _ _ rfl (fun l x v hx hv => ?_)⟩
    · simp [execOp, Instr.entry, hq, hg1, hg2, hfind]
    · match l with
      | 0 => simp at hx hv; subst hx hv; exact (hst hj hjr).2.1
      | 1 => simp at hx hv; subst hx hv; exact (hst hj hjr).2.2
      | l + 2 => simp at hx) next
end rules
end Go.Proofs.Fw
/- Small forms: lengths. -/
namespace Go.Proofs.Fw
open Go Go.Shelf
theorem lenT_sl {P : Program} {t e : TypeId} {xs : List AV} {tk : Tok} (h : P.underlying t = some (.slice e)) : lenT (P.underlying t) (.slice xs tk) = true := by rw [h]; rfl
theorem lenT_ms {P : Program} {t e : TypeId} {b o n c : Nat} (h : P.underlying t = some (.slice e)) : lenT (P.underlying t) (.mslice b o n c) = true := by rw [h]; rfl
theorem lenT_str {P : Program} {t : TypeId} {s : ByteArray} (h : P.underlying t = some .string) : lenT (P.underlying t) (.str s) = true := by rw [h]; rfl
end Go.Proofs.Fw
/- The program's data, and how they lie in memory. -/
namespace Go.Proofs.Fw
open Go

structure Key where
  kind : ByteArray
  space : ByteArray
  name : ByteArray
  deriving DecidableEq
structure Res where
  name : ByteArray
  n : Int
  deriving DecidableEq
structure Object where
  key : Key
  ver : Int
  cls : ByteArray
  term : Bool
  best : Bool
  charge : List Res
  deriving DecidableEq
structure Evt where
  kind : Int
  obj : Object
  ver : Int
  objs : List Object
  deriving DecidableEq
structure Delta where
  key : Key
  had : Bool
  has : Bool
  old : Object
  new : Object
  deriving DecidableEq

def keyC (k : Key) : List AV := [.str k.kind, .str k.space, .str k.name]
def encKey (k : Key) : AV := .agg [.str k.kind, .str k.space, .str k.name]
def encRes (r : Res) : AV := .agg [.str r.name, .int .i64 r.n]
def encObj (o : Object) : AV := .agg [.str o.key.kind, .str o.key.space, .str o.key.name, .int .i64 o.ver, .str o.cls, .bool o.term, .bool o.best, .slice (o.charge.map encRes) .any]
def encEv (e : Evt) : AV := .agg [.int .i64 e.kind, .str e.obj.key.kind, .str e.obj.key.space, .str e.obj.key.name, .int .i64 e.obj.ver, .str e.obj.cls, .bool e.obj.term, .bool e.obj.best, .slice (e.obj.charge.map encRes) .any, .int .i64 e.ver, .slice (e.objs.map encObj) .any]

theorem encRes_sz (r : Res) : (encRes r).cells.length = 2 := rfl
theorem encRes_flat (r : Res) : (encRes r).flatB = true := rfl
theorem encObj_sz (o : Object) : (encObj o).cells.length = 8 := rfl
theorem encObj_flat (o : Object) : (encObj o).flatB = true := rfl
theorem encEv_sz (e : Evt) : (encEv e).cells.length = 11 := rfl
theorem encEv_flat (e : Evt) : (encEv e).flatB = true := rfl
def noObj : Object := ⟨⟨⟨#[]⟩, ⟨#[]⟩, ⟨#[]⟩⟩, 0, ⟨#[]⟩, false, false, []⟩
end Go.Proofs.Fw
/- Labels and keys, in plain Lean. -/
namespace Go.Proofs.Fw
open Go

def signI (c : Int) : Bool := decide (97 ≤ c) && decide (c ≤ 122) || decide (48 ≤ c) && decide (c ≤ 57) || decide (c = 45)
def okAt (s : ByteArray) (i : Nat) : Bool := if h : i < s.size then signI (s[i]'h).toNat else true
def right (s : ByteArray) : Bool := decide (1 ≤ s.size) && decide (s.size ≤ 24) && (List.range s.size).all (okAt s) && (match s[0]? with | some c => decide (c.toNat ≠ 45) | none => false) && (match s[s.size - 1]? with | some c => decide (c.toNat ≠ 45) | none => false)
def keyRight (k : Key) : Bool := right k.kind && right k.space && right k.name
def slash : ByteArray := ⟨#[47]⟩
def textOf (k : Key) : ByteArray := k.space ++ slash ++ k.kind ++ slash ++ k.name
def keyLess (a b : Key) : Bool := sless (textOf a) (textOf b)

theorem decode_sign (s : ByteArray) (i : Nat) (h : i < s.size) : signI (Utf8.decode s i).1 = okAt s i ∧ (okAt s i = true → (Utf8.decode s i).2 = 1) := by
  have e : s.get! i = s[i]'h := by
    cases s with | mk a =>
    have h' : i < a.size := h
    show a[i]! = a[i]'h'
    simp [h']
  have hb : (s[i]'h).toNat < 256 := (s[i]'h).toNat_lt
  simp only [okAt, h, dif_pos]
  by_cases h1 : (s[i]'h).toNat < 128
  · have : Utf8.decode s i = ((s[i]'h).toNat, 1) := by simp [Utf8.decode, e, h1]
    rw [this]; exact ⟨rfl, fun _ => rfl⟩
  · have hF : signI ((s[i]'h).toNat : Int) = false := by
      simp only [signI, Bool.or_eq_false_iff, Bool.and_eq_false_iff, decide_eq_false_iff_not]; omega
    rw [hF]
    refine ⟨?_, fun h => by cases h⟩
    have h2 : 128 ≤ (Utf8.decode s i).1 := by
      simp only [Utf8.decode, Nat.add_zero, e, h1, if_false, Utf8.runeError]
      repeat' split
      all_goals first | omega | (rename_i hc; simp only [Bool.and_eq_true, decide_eq_true_eq] at hc; omega) | (rename_i hc; simp only [decide_eq_true_eq, ge_iff_le] at hc; omega)
    simp only [signI, Bool.or_eq_false_iff, Bool.and_eq_false_iff, decide_eq_false_iff_not]; omega

theorem okAt_eq {s : ByteArray} {i : Nat} (h : i < s.size) : okAt s i = signI (s[i]'h).toNat := by simp [okAt, h]
theorem allOk {s : ByteArray} (h : ∀ i, i < s.size → okAt s i = true) : (List.range s.size).all (okAt s) = true := by
  simp only [List.all_eq_true, List.mem_range]; exact h
theorem notOk {s : ByteArray} {i : Nat} (hi : i < s.size) (h : okAt s i = false) : (List.range s.size).all (okAt s) = false := by
  simp only [List.all_eq_false, List.mem_range]; exact ⟨i, hi, by simp [h]⟩
theorem right_at {s : ByteArray} (h1 : 0 < s.size) : right s = (decide ((s.size : Int) ≤ 24) && (List.range s.size).all (okAt s) && decide (((s[0]'h1).toNat : Int) ≠ 45) && decide (((s[s.size - 1]'(by omega)).toNat : Int) ≠ 45)) := by
  have e1 : s[0]? = some (s[0]'h1) := by simp [h1]
  have e2 : s[s.size - 1]? = some (s[s.size - 1]'(by omega)) := by simp
  have e3 : decide (1 ≤ s.size) = true := by simp; omega
  have c1 : decide ((s.size : Int) ≤ 24) = decide (s.size ≤ 24) := by congr 1; rw [eq_iff_iff]; omega
  have c2 : ∀ c : UInt8, decide ((c.toNat : Int) ≠ 45) = decide (c.toNat ≠ 45) := fun c => by congr 1; rw [eq_iff_iff]; omega
  simp only [right, e1, e2, e3, Bool.true_and, c1, c2]
theorem right_no {s : ByteArray} (h : (List.range s.size).all (okAt s) = false) : right s = false := by simp [right, h]
theorem right_zero {s : ByteArray} (h : ¬ 1 ≤ s.size) : right s = false := by simp [right, h]
theorem right_long {s : ByteArray} (h : ¬ s.size ≤ 24) : right s = false := by simp [right, h]
theorem upTo {s : ByteArray} {i : Nat} (h : ∀ j, j < i → j < s.size → okAt s j = true) (h2 : okAt s i = true) : ∀ j, j < i + 1 → j < s.size → okAt s j = true := fun j h1 h3 => by
  rcases Nat.lt_or_ge j i with h4 | h4
  · exact h j h4 h3
  · have : j = i := by omega
    subst this; exact h2
theorem w64 {a : Int} (h1 : -9223372036854775808 ≤ a) (h2 : a ≤ 9223372036854775807) : IntKind.i64.wrap a = a := IntWalk.i64_in _ ⟨h1, h2⟩
end Go.Proofs.Fw
/- Order of strings, objects: in plain Lean. -/
namespace Go.Proofs.Fw
open Go

theorem bless_ne : ∀ {x y : List UInt8} (i : Nat) {a b : UInt8}, (∀ j, j < i → x[j]? = y[j]?) → x[i]? = some a → y[i]? = some b → a ≠ b → Op.bytesLess x y = decide (a < b)
  | [], _, _, _, _, _, hx, _, _ => by simp at hx
  | _ :: _, [], _, _, _, _, _, hy, _ => by simp at hy
  | c :: x, d :: y, 0, a, b, _, hx, hy, hn => by
    simp only [List.getElem?_cons_zero, Option.some.injEq] at hx hy
    subst hx hy
    simp [Op.bytesLess, hn]
  | c :: x, d :: y, i + 1, a, b, h, hx, hy, hn => by
    have h0 := h 0 (by omega)
    simp only [List.getElem?_cons_zero, Option.some.injEq] at h0
    subst h0
    have := bless_ne (x := x) (y := y) i (a := a) (b := b) (fun j hj => by simpa using h (j + 1) (by omega)) (by simpa using hx) (by simpa using hy) hn
    simp [Op.bytesLess, this]
theorem bless_len : ∀ {x y : List UInt8}, (∀ j, j < x.length → j < y.length → x[j]? = y[j]?) → Op.bytesLess x y = decide (x.length < y.length)
  | x, [], _ => by cases x <;> simp [Op.bytesLess]
  | [], _ :: _, _ => by simp [Op.bytesLess]
  | c :: x, d :: y, h => by
    have h0 := h 0 (by simp) (by simp)
    simp only [List.getElem?_cons_zero, Option.some.injEq] at h0
    subst h0
    have := bless_len (x := x) (y := y) (fun j h1 h2 => by simpa using h (j + 1) (by simpa using h1) (by simpa using h2))
    simp [Op.bytesLess, this]

theorem tl_get {s : ByteArray} {i : Nat} (h : i < s.size) : s.toList[i]? = some (s[i]'h) := by
  rw [Go.ByteArray.toList_eq]
  obtain ⟨⟨l⟩⟩ := s
  have : i < l.length := h
  show l[i]? = some (l[i])
  simp [this]
theorem tl_len (s : ByteArray) : s.toList.length = s.size := by
  rw [Go.ByteArray.toList_eq]; obtain ⟨⟨l⟩⟩ := s; rfl

def sameTo (a b : ByteArray) (i : Nat) : Prop := ∀ j (h1 : j < a.size) (h2 : j < b.size), j < i → a[j]'h1 = b[j]'h2
theorem sless_ne {a b : ByteArray} {i : Nat} (h : sameTo a b i) (h1 : i < a.size) (h2 : i < b.size) (hn : ((a[i]'h1).toNat : Int) ≠ (b[i]'h2).toNat) : sless a b = decide (((a[i]'h1).toNat : Int) < (b[i]'h2).toNat) := by
  unfold sless
  rw [bless_ne i (fun j hj => by rw [tl_get (by omega : j < a.size), tl_get (by omega : j < b.size)]; congr 1; exact h j _ _ hj) (tl_get h1) (tl_get h2) (fun e => hn (by rw [e]))]
  congr 1
  rw [UInt8.lt_iff_toNat_lt]; simp
theorem sless_len {a b : ByteArray} {i : Nat} (h : sameTo a b i) (hi : a.size ≤ i ∨ b.size ≤ i) : sless a b = decide ((a.size : Int) < b.size) := by
  unfold sless
  rw [bless_len (fun j h1 h2 => by rw [tl_len] at h1 h2; rw [tl_get h1, tl_get h2]; congr 1; exact h j _ _ (by omega)), tl_len, tl_len]
  congr 1; simp
theorem sameTo_succ {a b : ByteArray} {i : Nat} (h : sameTo a b i) (h1 : i < a.size) (h2 : i < b.size) (he : ((a[i]'h1).toNat : Int) = (b[i]'h2).toNat) : sameTo a b (i + 1) := fun j h3 h4 h5 => by
  rcases Nat.lt_or_ge j i with h6 | h6
  · exact h j h3 h4 h6
  · have : j = i := by omega
    subst this
    exact UInt8.toNat_inj.1 (by exact_mod_cast he)

/-! ### Objects -/
def keyFits (k : Key) : Prop := k.kind.size ≤ 200 ∧ k.space.size ≤ 200 ∧ k.name.size ≤ 200
def objFits (o : Object) : Prop := keyFits o.key ∧ o.cls.size ≤ 200 ∧ o.charge.length ≤ 40 ∧ ∀ (i : Nat) (r : Res), o.charge[i]? = some r → r.name.size ≤ 200
def resAt (l : List Res) (i : Nat) : Bool := match l[i]?, l[i - 1]? with
  | some r, some q => right r.name && !decide (r.n < 0) && (!decide ((0 : Int) < (i : Int)) || sless q.name r.name)
  | _, _ => true
theorem resAt_eq {l : List Res} {i : Nat} {r q : Res} (hr : l[i]? = some r) (hq : l[i - 1]? = some q) : resAt l i = (right r.name && !decide (r.n < 0) && (!decide ((0 : Int) < (i : Int)) || sless q.name r.name)) := by simp only [resAt, hr, hq]
def chargeOk (l : List Res) : Bool := (List.range l.length).all (resAt l)
def clsOk (s : ByteArray) : Bool := decide (s = ⟨#[]⟩) || right s
def objRight (o : Object) : Bool := keyRight o.key && decide (1 ≤ o.ver) && clsOk o.cls && decide ((o.charge.length : Int) ≤ 16) && chargeOk o.charge
theorem objRight_alt (o : Object) : objRight o = (keyRight o.key && (!(!right o.cls && decide (o.cls ≠ ⟨#[]⟩))) && !decide (o.ver < 1) && !decide ((16 : Int) < (o.charge.length : Int)) && chargeOk o.charge) := by
  have e1 : decide (1 ≤ o.ver) = !decide (o.ver < 1) := by rw [← decide_not]; congr 1; rw [eq_iff_iff]; omega
  have e2 : decide ((o.charge.length : Int) ≤ 16) = !decide ((16 : Int) < (o.charge.length : Int)) := by rw [← decide_not]; congr 1; rw [eq_iff_iff]; omega
  have e3 : clsOk o.cls = !(!right o.cls && decide (o.cls ≠ ⟨#[]⟩)) := by simp only [clsOk, ne_eq, decide_not]; cases right o.cls <;> cases decide (o.cls = ⟨#[]⟩) <;> rfl
  simp only [objRight, e1, e2, e3]
  cases keyRight o.key <;> cases right o.cls <;> cases decide (o.cls ≠ ⟨#[]⟩) <;> cases decide (o.ver < 1) <;> rfl
def nameFits (l : List Res) (i : Nat) : Bool := match l[i]? with
  | some r => !decide ((200 : Int) < (r.name.size : Int))
  | none => true
def objFitsB (o : Object) : Bool := !decide ((200 : Int) < (o.key.kind.size : Int)) && !decide ((200 : Int) < (o.key.space.size : Int)) && !decide ((200 : Int) < (o.key.name.size : Int)) && !decide ((200 : Int) < (o.cls.size : Int)) && !decide ((40 : Int) < (o.charge.length : Int)) && (List.range o.charge.length).all (nameFits o.charge)
theorem objFits_of {o : Object} (h : objFitsB o = true) : objFits o := by
  simp only [objFitsB, Bool.and_eq_true, Bool.not_eq_true', decide_eq_false_iff_not, List.all_eq_true, List.mem_range] at h
  obtain ⟨⟨⟨⟨⟨h1, h2⟩, h3⟩, h4⟩, h5⟩, h6⟩ := h
  refine ⟨⟨by omega, by omega, by omega⟩, by omega, by omega, fun i r hr => ?_⟩
  have hi : i < o.charge.length := by
    rcases Nat.lt_or_ge i o.charge.length with h | h
    · exact h
    · rw [List.getElem?_eq_none h] at hr; cases hr
  have := h6 i hi
  simp only [nameFits, hr, Bool.not_eq_true', decide_eq_false_iff_not] at this
  omega
theorem lenMap {α : Type} (enc : α → AV) (l : List α) : (((l.map enc).length : Nat) : Int) = (l.length : Int) := by rw [List.length_map]
theorem allR_yes {p : Nat → Bool} {n i : Nat} (h : ∀ j, j < i → j < n → p j = true) (hi : n ≤ i) : (List.range n).all p = true := by
  simp only [List.all_eq_true, List.mem_range]; exact fun j hj => h j (by omega) hj
theorem allR_no {p : Nat → Bool} {n i : Nat} (hi : i < n) (h : p i = false) : (List.range n).all p = false := by
  simp only [List.all_eq_false, List.mem_range]; exact ⟨i, hi, by simp [h]⟩
theorem size_app (a b : ByteArray) : (a ++ b).size = a.size + b.size := ByteArray.size_append
theorem textOf_size (k : Key) : (textOf k).size = k.space.size + k.kind.size + k.name.size + 2 := by
  have h : slash.size = 1 := rfl
  simp only [textOf, size_app, h]; omega
theorem chargeOk_yes {l : List Res} {i : Nat} (h : ∀ j, j < i → j < l.length → resAt l j = true) (hi : l.length ≤ i) : chargeOk l = true := by
  simp only [chargeOk, List.all_eq_true, List.mem_range]; exact fun j hj => h j (by omega) hj
theorem chargeOk_no {l : List Res} {i : Nat} (hi : i < l.length) (h : resAt l i = false) : chargeOk l = false := by
  simp only [chargeOk, List.all_eq_false, List.mem_range]; exact ⟨i, hi, by simp [h]⟩
theorem objRight_no {o : Object} (h : chargeOk o.charge = false) : objRight o = false := by simp [objRight, h]
theorem upToL {p : Nat → Bool} {n i : Nat} (h : ∀ j, j < i → j < n → p j = true) (h2 : p i = true) : ∀ j, j < i + 1 → j < n → p j = true := fun j h1 h3 => by
  rcases Nat.lt_or_ge j i with h4 | h4
  · exact h j h4 h3
  · have : j = i := by omega
    subst this; exact h2
theorem map_get {α : Type} (enc : α → AV) (l : List α) {i : Nat} {a : α} (h : l[i]? = some a) : (l.map enc)[i]? = some (enc a) := by simp [h]
theorem getAt {α : Type} {l : List α} {i : Nat} (h : i < l.length) : ∃ a, l[i]? = some a := ⟨l[i], by simp [h]⟩
end Go.Proofs.Fw
/- Sameness, and the reference's sort, in plain Lean. -/
namespace Go.Proofs.Fw
open Go

theorem keyEq (a b : Key) : allEq [.str a.kind, .str a.space, .str a.name] [.str b.kind, .str b.space, .str b.name] = decide (a = b) := by
  obtain ⟨a1, a2, a3⟩ := a
  obtain ⟨b1, b2, b3⟩ := b
  simp only [allEq, AV.beq, Key.mk.injEq, Bool.and_true]
  by_cases h1 : a1 = b1 <;> by_cases h2 : a2 = b2 <;> by_cases h3 : a3 = b3 <;> simp [h1, h2, h3]
theorem resEq (a b : Res) : allEq [.str a.name, .int .i64 a.n] [.str b.name, .int .i64 b.n] = decide (a = b) := by
  obtain ⟨a1, a2⟩ := a
  obtain ⟨b1, b2⟩ := b
  simp only [allEq, AV.beq, Res.mk.injEq, Bool.and_true]
  by_cases h1 : a1 = b1 <;> by_cases h2 : a2 = b2 <;> simp [h1, h2]
def alikeB (a b : Object) : Bool := decide (a.charge = b.charge) && decide (a.key = b.key) && decide (a.cls = b.cls) && (a.term == b.term) && (a.best == b.best)
theorem sameB_eq (a b : Object) : (alikeB a b && decide (a.ver = b.ver)) = decide (a = b) := by
  obtain ⟨a1, a2, a3, a4, a5, a6⟩ := a
  obtain ⟨b1, b2, b3, b4, b5, b6⟩ := b
  rw [Bool.eq_iff_iff]
  simp only [alikeB, Bool.and_eq_true, decide_eq_true_eq, beq_iff_eq, Object.mk.injEq]
  constructor
  · rintro ⟨⟨⟨⟨⟨h1, h2⟩, h3⟩, h4⟩, h5⟩, h6⟩; exact ⟨h2, h6, h3, h4, h5, h1⟩
  · rintro ⟨h2, h6, h3, h4, h5, h1⟩; exact ⟨⟨⟨⟨⟨h1, h2⟩, h3⟩, h4⟩, h5⟩, h6⟩
theorem evEq (a b : Evt) : (decide (a.obj = b.obj) && decide (a.objs = b.objs) && decide (a.kind = b.kind) && decide (a.ver = b.ver)) = decide (a = b) := by
  obtain ⟨a1, a2, a3, a4⟩ := a
  obtain ⟨b1, b2, b3, b4⟩ := b
  rw [Bool.eq_iff_iff]
  simp only [Bool.and_eq_true, decide_eq_true_eq, Evt.mk.injEq]
  constructor
  · rintro ⟨⟨⟨h1, h2⟩, h3⟩, h4⟩; exact ⟨h3, h1, h4, h2⟩
  · rintro ⟨h3, h1, h4, h2⟩; exact ⟨⟨⟨h1, h2⟩, h3⟩, h4⟩
theorem list_done {α : Type} {xs ys : List α} {i : Nat} (hl : xs.length = ys.length) (h : ∀ j, j < i → xs[j]? = ys[j]?) (hi : xs.length ≤ i) : xs = ys := by
  apply List.ext_getElem? ; intro j
  rcases Nat.lt_or_ge j i with h1 | h1
  · exact h j h1
  · rw [List.getElem?_eq_none (by omega), List.getElem?_eq_none (by omega)]
theorem list_no {α : Type} {xs ys : List α} {i : Nat} {a b : α} (h1 : xs[i]? = some a) (h2 : ys[i]? = some b) (h : a ≠ b) : xs ≠ ys := fun e => by
  subst e; rw [h1] at h2; cases h2; exact h rfl
theorem upToE {α : Type} {xs ys : List α} {i : Nat} (h : ∀ j, j < i → xs[j]? = ys[j]?) (h2 : xs[i]? = ys[i]?) : ∀ j, j < i + 1 → xs[j]? = ys[j]? := fun j h1 => by
  rcases Nat.lt_or_ge j i with h4 | h4
  · exact h j h4
  · have : j = i := by omega
    subst this; exact h2

def insO (o : Object) : List Object → List Object
  | [] => [o]
  | x :: r => if keyLess o.key x.key then o :: x :: r else x :: insO o r
def sortO (l : List Object) : List Object := l.foldl (fun out o => insO o out) []
theorem insO_length (o : Object) : ∀ l, (insO o l).length = l.length + 1
  | [] => rfl
  | x :: r => by unfold insO; split <;> simp [insO_length o r]
theorem mem_insO {o x : Object} : ∀ {l : List Object}, x ∈ insO o l → x = o ∨ x ∈ l
  | [], h => by simpa [insO] using h
  | y :: r, h => by
    unfold insO at h
    split at h
    · simpa using h
    · rcases List.mem_cons.1 h with h | h
      · exact .inr (by simp [h])
      · rcases mem_insO h with h | h
        · exact .inl h
        · exact .inr (by simp [h])
theorem take_succ_fold {α β : Type} (g : β → α → β) (b : β) {l : List α} {i : Nat} {a : α} (h : l[i]? = some a) : (l.take (i + 1)).foldl g b = g ((l.take i).foldl g b) a := by
  rw [List.take_add_one, h]; simp
theorem fold_sub {l : List Object} : ∀ {out : List Object} {x : Object}, x ∈ l.foldl (fun out o => insO o out) out → x ∈ out ∨ x ∈ l := by
  induction l with
  | nil => intro out x h; exact .inl h
  | cons a l ih =>
    intro out x h
    rcases ih h with h | h
    · rcases mem_insO h with h | h
      · exact .inr (by simp [h])
      · exact .inl h
    · exact .inr (by simp [h])
theorem fold_len {l : List Object} : ∀ {out : List Object}, (l.foldl (fun out o => insO o out) out).length = out.length + l.length := by
  induction l with
  | nil => intro out; rfl
  | cons a l ih => intro out; simp only [List.foldl_cons, ih, insO_length, List.length_cons]; omega
theorem sortO_succ {l : List Object} {i : Nat} {o : Object} (h : l[i]? = some o) : sortO (l.take (i + 1)) = insO o (sortO (l.take i)) := take_succ_fold _ _ h
theorem sortO_len (l : List Object) : (sortO l).length = l.length := by simp [sortO, fold_len]
theorem mem_sortO {l : List Object} {x : Object} (h : x ∈ sortO l) : x ∈ l := by simpa using fold_sub h
/-- The reference's inner loop. -/
def inner (o : Object) (out : List Object) (k : Nat) (nx : List Object) (dn : Bool) : Prop := insO o out = nx ++ (if dn then out.drop k else insO o (out.drop k))
theorem inner_start (o : Object) (out : List Object) : inner o out 0 [] false := by simp [inner]
theorem inner_len {o : Object} {out nx : List Object} {k : Nat} {dn : Bool} (h : inner o out k nx dn) : nx.length ≤ out.length + 1 := by
  have := congrArg List.length h; rw [insO_length, List.length_append] at this; omega
theorem inner_len2 {o x : Object} {out nx : List Object} {k : Nat} {dn : Bool} (h : inner o out k nx dn) (hx : out[k]? = some x) : nx.length ≤ out.length := by
  have := congrArg List.length h; rw [insO_length, List.length_append] at this
  have hk : k < out.length := by
    rcases Nat.lt_or_ge k out.length with h | h
    · exact h
    · rw [List.getElem?_eq_none h] at hx; cases hx
  cases dn <;> simp only [if_true, Bool.false_eq_true, if_false, insO_length, List.length_drop] at this <;> omega
theorem drop_at {α : Type} {l : List α} {k : Nat} {x : α} (h : l[k]? = some x) : l.drop k = x :: l.drop (k + 1) := by
  have hk : k < l.length := by
    rcases Nat.lt_or_ge k l.length with h1 | h1
    · exact h1
    · rw [List.getElem?_eq_none h1] at h; cases h
  rw [List.getElem?_eq_getElem hk] at h
  cases h
  rw [List.drop_eq_getElem_cons hk]
theorem inner_done {o x : Object} {out nx : List Object} {k : Nat} (h : inner o out k nx true) (hx : out[k]? = some x) : inner o out (k + 1) (nx ++ [x]) true := by
  simp only [inner, if_true] at h ⊢; rw [h, drop_at hx]; simp
theorem inner_here {o x : Object} {out nx : List Object} {k : Nat} (h : inner o out k nx false) (hx : out[k]? = some x) (hl : keyLess o.key x.key = true) : inner o out (k + 1) (nx ++ [o] ++ [x]) true := by
  simp only [inner, if_true, Bool.false_eq_true, if_false] at h ⊢; rw [h, drop_at hx, insO, if_pos hl]; simp
theorem inner_on {o x : Object} {out nx : List Object} {k : Nat} (h : inner o out k nx false) (hx : out[k]? = some x) (hl : keyLess o.key x.key = false) : inner o out (k + 1) (nx ++ [x]) false := by
  simp only [inner, Bool.false_eq_true, if_false] at h ⊢; rw [h, drop_at hx, insO, if_neg (by simp [hl])]; simp
theorem inner_end {o : Object} {out nx : List Object} {k : Nat} (h : inner o out k nx true) (hk : out.length ≤ k) : insO o out = nx := by
  simp only [inner, if_true] at h; rw [h, List.drop_eq_nil_of_le hk]; simp
theorem inner_end' {o : Object} {out nx : List Object} {k : Nat} (h : inner o out k nx false) (hk : out.length ≤ k) : insO o out = nx ++ [o] := by
  simp only [inner, Bool.false_eq_true, if_false] at h; rw [h, List.drop_eq_nil_of_le hk]; rfl
end Go.Proofs.Fw
/- T2 -/
namespace Go.Proofs.Ytncecheccihjoaa.TT2
open Go Go.Proofs.Fw Go.Shelf
theorem en114 : Enters Go.Proofs.Try.prog 114 := enters_of Go.Proofs.Try.func114 (by kernel_rfl) rfl
theorem en85 : Enters Go.Proofs.Try.prog 85 := enters_of Go.Proofs.Try.func85 (by kernel_rfl) rfl
theorem en86 : Enters Go.Proofs.Try.prog 86 := enters_of Go.Proofs.Try.func86 (by kernel_rfl) rfl
theorem fl35_0 : fldI Go.Proofs.Try.prog 35 0 = some 0 := by kernel_rfl
theorem fl35_1 : fldI Go.Proofs.Try.prog 35 1 = some 1 := by kernel_rfl
theorem fl35_2 : fldI Go.Proofs.Try.prog 35 2 = some 2 := by kernel_rfl
theorem ty9 : tyI Go.Proofs.Try.prog 9 = some (1, false) := by kernel_rfl
theorem u9 : Go.Proofs.Try.prog.underlying 9 = some (.string) := by kernel_rfl
end Go.Proofs.Ytncecheccihjoaa.TT2
namespace Go.Proofs.Ytncecheccihjoaa
open Go Go.Proofs.Fw Go.Proofs
set_option linter.unusedVariables false
set_option linter.unusedSimpArgs false
set_option maxRecDepth 20000
set_option maxHeartbeats 4000000
theorem sign_spec (c : Int) (H : AH) : ACalls Try.prog [] 114 [.int .i32 c] H (fun x H' => x = .bool (signI c) ∧ H' = H) := by
  refine ACalls.enter (n := 21) Try.func114 rfl rfl (Nat.le_of_ble_eq_true rfl) ?_
  refine AS.seq ?_
  refine AS.region rfl ?_
  refine AS.assign rfl rfl rfl rfl ?_
  refine AS.opsEnd ?_
  refine AS.seq ?_
  refine AS.region rfl ?_
  refine AS.move rfl rfl rfl rfl ?_
  refine AS.bin rfl rfl rfl rfl rfl (BinR.geq rfl) ?_
  refine AS.move rfl rfl rfl rfl ?_
  refine AS.splitT 5 rfl (fun g5 => ?_) (fun g5 => ?_)
  · refine AS.move rfl rfl rfl rfl ?_
    refine AS.bin rfl rfl rfl rfl rfl (BinR.leq rfl) ?_
    refine AS.pick rfl rfl rfl rfl rfl ?_
    refine AS.move rfl rfl rfl rfl ?_
    refine AS.splitT 9 rfl (fun g9 => ?_) (fun g9 => ?_)
    · refine AS.pass rfl rfl rfl ?_
      refine AS.pass rfl rfl rfl ?_
      refine AS.pass rfl rfl rfl ?_
      refine AS.pass rfl rfl rfl ?_
      refine AS.pass rfl rfl rfl ?_
      refine AS.pass rfl rfl rfl ?_
      refine AS.pick rfl rfl rfl rfl rfl ?_
      refine AS.move rfl rfl rfl rfl ?_
      refine AS.pass rfl rfl rfl ?_
      refine AS.pass rfl rfl rfl ?_
      refine AS.pick rfl rfl rfl rfl rfl ?_
      refine AS.assign rfl rfl rfl rfl ?_
      refine AS.opsEnd ?_
      refine AS.retW Try.func114 rfl (.tmp rfl (.nil)) ?_
      refine RWk.drop [] rfl ⟨?_, rfl⟩
      show AV.bool _ = AV.bool _
      (simp only [signI, g5, g9]) <;> rfl
    · refine AS.move rfl rfl rfl rfl ?_
      refine AS.bin rfl rfl rfl rfl rfl (BinR.geq rfl) ?_
      refine AS.move rfl rfl rfl rfl ?_
      refine AS.splitT 12 rfl (fun g12 => ?_) (fun g12 => ?_)
      · refine AS.move rfl rfl rfl rfl ?_
        refine AS.bin rfl rfl rfl rfl rfl (BinR.leq rfl) ?_
        refine AS.pick rfl rfl rfl rfl rfl ?_
        refine AS.pick rfl rfl rfl rfl rfl ?_
        refine AS.move rfl rfl rfl rfl ?_
        refine AS.splitT 17 rfl (fun g17 => ?_) (fun g17 => ?_)
        · refine AS.pass rfl rfl rfl ?_
          refine AS.pass rfl rfl rfl ?_
          refine AS.pick rfl rfl rfl rfl rfl ?_
          refine AS.assign rfl rfl rfl rfl ?_
          refine AS.opsEnd ?_
          refine AS.retW Try.func114 rfl (.tmp rfl (.nil)) ?_
          refine RWk.drop [] rfl ⟨?_, rfl⟩
          show AV.bool _ = AV.bool _
          (simp only [signI, g5, g9, g12, g17]) <;> rfl
        · refine AS.move rfl rfl rfl rfl ?_
          refine AS.bin rfl rfl rfl rfl rfl (BinR.eql rfl) ?_
          refine AS.pick rfl rfl rfl rfl rfl ?_
          refine AS.assign rfl rfl rfl rfl ?_
          refine AS.opsEnd ?_
          refine AS.retW Try.func114 rfl (.tmp rfl (.nil)) ?_
          refine RWk.drop [] rfl ⟨?_, rfl⟩
          show AV.bool _ = AV.bool _
          (simp only [signI, g5, g9, g12, g17]) <;> rfl
      · refine AS.pass rfl rfl rfl ?_
        refine AS.pass rfl rfl rfl ?_
        refine AS.pick rfl rfl rfl rfl rfl ?_
        refine AS.pick rfl rfl rfl rfl rfl ?_
        refine AS.move rfl rfl rfl rfl ?_
        refine AS.move rfl rfl rfl rfl ?_
        refine AS.bin rfl rfl rfl rfl rfl (BinR.eql rfl) ?_
        refine AS.pick rfl rfl rfl rfl rfl ?_
        refine AS.assign rfl rfl rfl rfl ?_
        refine AS.opsEnd ?_
        refine AS.retW Try.func114 rfl (.tmp rfl (.nil)) ?_
        refine RWk.drop [] rfl ⟨?_, rfl⟩
        show AV.bool _ = AV.bool _
        (simp only [signI, g5, g9, g12]) <;> rfl
  · refine AS.pass rfl rfl rfl ?_
    refine AS.pass rfl rfl rfl ?_
    refine AS.pick rfl rfl rfl rfl rfl ?_
    refine AS.move rfl rfl rfl rfl ?_
    refine AS.move rfl rfl rfl rfl ?_
    refine AS.bin rfl rfl rfl rfl rfl (BinR.geq rfl) ?_
    refine AS.move rfl rfl rfl rfl ?_
    refine AS.splitT 12 rfl (fun g12 => ?_) (fun g12 => ?_)
    · refine AS.move rfl rfl rfl rfl ?_
      refine AS.bin rfl rfl rfl rfl rfl (BinR.leq rfl) ?_
      refine AS.pick rfl rfl rfl rfl rfl ?_
      refine AS.pick rfl rfl rfl rfl rfl ?_
      refine AS.move rfl rfl rfl rfl ?_
      refine AS.splitT 17 rfl (fun g17 => ?_) (fun g17 => ?_)
      · refine AS.pass rfl rfl rfl ?_
        refine AS.pass rfl rfl rfl ?_
        refine AS.pick rfl rfl rfl rfl rfl ?_
        refine AS.assign rfl rfl rfl rfl ?_
        refine AS.opsEnd ?_
        refine AS.retW Try.func114 rfl (.tmp rfl (.nil)) ?_
        refine RWk.drop [] rfl ⟨?_, rfl⟩
        show AV.bool _ = AV.bool _
        (simp only [signI, g5, g12, g17]) <;> rfl
      · refine AS.move rfl rfl rfl rfl ?_
        refine AS.bin rfl rfl rfl rfl rfl (BinR.eql rfl) ?_
        refine AS.pick rfl rfl rfl rfl rfl ?_
        refine AS.assign rfl rfl rfl rfl ?_
        refine AS.opsEnd ?_
        refine AS.retW Try.func114 rfl (.tmp rfl (.nil)) ?_
        refine RWk.drop [] rfl ⟨?_, rfl⟩
        show AV.bool _ = AV.bool _
        (simp only [signI, g5, g12, g17]) <;> rfl
    · refine AS.pass rfl rfl rfl ?_
      refine AS.pass rfl rfl rfl ?_
      refine AS.pick rfl rfl rfl rfl rfl ?_
      refine AS.pick rfl rfl rfl rfl rfl ?_
      refine AS.move rfl rfl rfl rfl ?_
      refine AS.move rfl rfl rfl rfl ?_
      refine AS.bin rfl rfl rfl rfl rfl (BinR.eql rfl) ?_
      refine AS.pick rfl rfl rfl rfl rfl ?_
      refine AS.assign rfl rfl rfl rfl ?_
      refine AS.opsEnd ?_
      refine AS.retW Try.func114 rfl (.tmp rfl (.nil)) ?_
      refine RWk.drop [] rfl ⟨?_, rfl⟩
      show AV.bool _ = AV.bool _
      (simp only [signI, g5, g12]) <;> rfl
theorem label_right (s : ByteArray) (H : AH) : ACalls Try.prog [] 85 [.str s] H (fun x H' => x = .bool (right s) ∧ H' = H) := by
  refine ACalls.enter (n := 34) Try.func85 rfl rfl (Nat.le_of_ble_eq_true rfl) ?_
  refine AS.seq ?_
  refine AS.region rfl ?_
  refine AS.assign rfl rfl rfl rfl ?_
  refine AS.opsEnd ?_
  refine AS.seq ?_
  refine AS.seq ?_
  refine AS.region rfl ?_
  refine AS.move rfl rfl rfl rfl ?_
  refine AS.rangeStr rfl rfl rfl rfl TT2.u9 ?_
  intro b6
  refine AS.opsEnd ?_
  refine AS.block ?_
  refine AS.loopI (α := Nat) (fun p => p ≤ s.size ∧ ∀ i, i < p → i < s.size → okAt s i = true) (fun p => s.size - p) (fun p => []) [(0, _), (6, _)] (fun p => (b6, .siter s p) :: H) 0 ⟨Nat.zero_le _, fun i h => by omega⟩ (.cons rfl (.cons rfl (.nil))) rfl (fun p hI l0_ih => ?_)
  refine AS.seq ?_
  refine AS.region rfl ?_
  refine AS.nextStr rfl rfl rfl rfl (fun q => (b6, .siter s q) :: H) (fun hp => ?_) (fun hp => ?_)
  · refine AS.extract rfl rfl rfl rfl rfl ?_
    refine AS.opsEnd ?_
    refine AS.seq ?_
    refine AS.condF rfl ?_
    have hall := allOk (fun i hi => hI.2 i (by omega) hi)
    refine AS.exit rfl ?_
    refine AS.seq ?_
    refine AS.region rfl ?_
    refine AS.move rfl rfl rfl rfl ?_
    refine AS.len rfl rfl rfl rfl (by first | exact lenT_str TT2.u9 | exact lenT_ms TT2.u9 | (rw [TT2.u9]; rfl)) rfl rfl ?_
    refine AS.bin rfl rfl rfl rfl rfl (BinR.geq rfl) ?_
    refine AS.move rfl rfl rfl rfl ?_
    refine AS.splitT 16 rfl (fun g16 => ?_) (fun g16 => ?_)
    · refine AS.move rfl rfl rfl rfl ?_
      refine AS.len rfl rfl rfl rfl (by first | exact lenT_str TT2.u9 | exact lenT_ms TT2.u9 | (rw [TT2.u9]; rfl)) rfl rfl ?_
      refine AS.bin rfl rfl rfl rfl rfl (BinR.leq rfl) ?_
      refine AS.pick rfl rfl rfl rfl rfl ?_
      refine AS.move rfl rfl rfl rfl ?_
      refine AS.splitT 21 rfl (fun g21 => ?_) (fun g21 => ?_)
      · refine AS.move rfl rfl rfl rfl ?_
        refine AS.strAt rfl rfl rfl rfl rfl TT2.u9 0 rfl (by simp only [decide_eq_true_eq] at g16; omega) ?_
        refine AS.bin rfl rfl rfl rfl rfl (BinR.neq rfl) ?_
        refine AS.pick rfl rfl rfl rfl rfl ?_
        refine AS.move rfl rfl rfl rfl ?_
        refine AS.splitT 26 rfl (fun g26 => ?_) (fun g26 => ?_)
        · refine AS.move rfl rfl rfl rfl ?_
          refine AS.move rfl rfl rfl rfl ?_
          refine AS.len rfl rfl rfl rfl (by first | exact lenT_str TT2.u9 | exact lenT_ms TT2.u9 | (rw [TT2.u9]; rfl)) rfl rfl ?_
          refine AS.bin rfl rfl rfl rfl rfl (BinR.sub (IntWalk.i64_in _ (by simp only [decide_eq_true_eq] at g16 g21; omega))) ?_
          refine AS.strAt rfl rfl rfl rfl rfl TT2.u9 (s.size - 1) (by simp only [decide_eq_true_eq] at g16 g21; omega) (by simp only [decide_eq_true_eq] at g16 g21; omega) ?_
          refine AS.bin rfl rfl rfl rfl rfl (BinR.neq rfl) ?_
          refine AS.pick rfl rfl rfl rfl rfl ?_
          refine AS.assign rfl rfl rfl rfl ?_
          refine AS.opsEnd ?_
          refine AS.retW Try.func85 rfl (.tmp rfl (.nil)) ?_
          refine RWk.drop [_] rfl ⟨?_, rfl⟩
          have h0 : 0 < s.size := by simp only [decide_eq_true_eq] at g16; omega
          show AV.bool _ = AV.bool _
          (simp only [right_at h0, hall, hp, g16, g21, g26]) <;> rfl
        · refine AS.pass rfl rfl rfl ?_
          refine AS.pass rfl rfl rfl ?_
          refine AS.pass rfl rfl rfl ?_
          refine AS.pass rfl rfl rfl ?_
          refine AS.pass rfl rfl rfl ?_
          refine AS.pass rfl rfl rfl ?_
          refine AS.pick rfl rfl rfl rfl rfl ?_
          refine AS.assign rfl rfl rfl rfl ?_
          refine AS.opsEnd ?_
          refine AS.retW Try.func85 rfl (.tmp rfl (.nil)) ?_
          refine RWk.drop [_] rfl ⟨?_, rfl⟩
          have h0 : 0 < s.size := by simp only [decide_eq_true_eq] at g16; omega
          show AV.bool _ = AV.bool _
          (simp only [right_at h0, hall, hp, g16, g21, g26]) <;> rfl
      · refine AS.pass rfl rfl rfl ?_
        refine AS.pass rfl rfl rfl ?_
        refine AS.pass rfl rfl rfl ?_
        refine AS.pick rfl rfl rfl rfl rfl ?_
        refine AS.move rfl rfl rfl rfl ?_
        refine AS.pass rfl rfl rfl ?_
        refine AS.pass rfl rfl rfl ?_
        refine AS.pass rfl rfl rfl ?_
        refine AS.pass rfl rfl rfl ?_
        refine AS.pass rfl rfl rfl ?_
        refine AS.pass rfl rfl rfl ?_
        refine AS.pick rfl rfl rfl rfl rfl ?_
        refine AS.assign rfl rfl rfl rfl ?_
        refine AS.opsEnd ?_
        refine AS.retW Try.func85 rfl (.tmp rfl (.nil)) ?_
        refine RWk.drop [_] rfl ⟨?_, rfl⟩
        rw [right_long (by simp only [decide_eq_false_iff_not] at g21; omega)]; rfl
    · refine AS.pass rfl rfl rfl ?_
      refine AS.pass rfl rfl rfl ?_
      refine AS.pass rfl rfl rfl ?_
      refine AS.pick rfl rfl rfl rfl rfl ?_
      refine AS.move rfl rfl rfl rfl ?_
      refine AS.pass rfl rfl rfl ?_
      refine AS.pass rfl rfl rfl ?_
      refine AS.pass rfl rfl rfl ?_
      refine AS.pick rfl rfl rfl rfl rfl ?_
      refine AS.move rfl rfl rfl rfl ?_
      refine AS.pass rfl rfl rfl ?_
      refine AS.pass rfl rfl rfl ?_
      refine AS.pass rfl rfl rfl ?_
      refine AS.pass rfl rfl rfl ?_
      refine AS.pass rfl rfl rfl ?_
      refine AS.pass rfl rfl rfl ?_
      refine AS.pick rfl rfl rfl rfl rfl ?_
      refine AS.assign rfl rfl rfl rfl ?_
      refine AS.opsEnd ?_
      refine AS.retW Try.func85 rfl (.tmp rfl (.nil)) ?_
      refine RWk.drop [_] rfl ⟨?_, rfl⟩
      rw [right_zero (by simp only [decide_eq_false_iff_not] at g16; omega)]; rfl
  · obtain ⟨e1, e2⟩ := decode_sign s p hp
    refine AS.extract rfl rfl rfl rfl rfl ?_
    refine AS.opsEnd ?_
    refine AS.seq ?_
    refine AS.condT rfl ?_
    refine AS.skip ?_
    refine AS.block ?_
    refine AS.seq ?_
    refine AS.region rfl ?_
    refine AS.extract rfl rfl rfl rfl rfl ?_
    refine AS.assign rfl rfl rfl rfl ?_
    refine AS.opsEnd ?_
    refine AS.seq ?_
    refine AS.region rfl ?_
    refine AS.move rfl rfl rfl rfl ?_
    refine AS.callP rfl rfl rfl rfl TT2.en114 (sign_spec _ _) ?_
    refine AS.not rfl rfl rfl rfl rfl ?_
    refine AS.opsEnd ?_
    refine AS.cond rfl (fun hc1 => ?_) (fun hc1 => ?_)
    · rw [Bool.not_eq_true'] at hc1
      refine AS.seq ?_
      refine AS.region rfl ?_
      refine AS.assign rfl rfl rfl rfl ?_
      refine AS.opsEnd ?_
      refine AS.retW Try.func85 rfl (.tmp rfl (.nil)) ?_
      refine RWk.drop [_] rfl ⟨?_, rfl⟩
      have e3 : okAt s p = false := by rw [← e1]; simpa using hc1
      rw [right_no (notOk hp e3)]; rfl
    · rw [Bool.not_eq_false'] at hc1
      refine AS.skip ?_
      refine AS.inBlock ?_
      have e3 : okAt s p = true := by rw [← e1]; simpa using hc1
      have e4 : (Utf8.decode s p).2 = 1 := e2 e3
      have e5 : p + (Utf8.decode s p).2 ≤ s.size ∧ ∀ i, i < p + (Utf8.decode s p).2 → i < s.size → okAt s i = true := by
        rw [e4]; refine ⟨hp, fun i h1 h2 => ?_⟩
        rcases Nat.lt_or_ge i p with h | h
        · exact hI.2 i h h2
        · have : i = p := by omega
          subst this; exact e3
      exact AS.nextI (l0_ih (p + (Utf8.decode s p).2) e5 (by omega)) [] (.cons rfl (.cons rfl (.nil))) rfl
theorem ref_right (s : ByteArray) (H : AH) : ACalls Try.prog [] 86 [.str s] H (fun x H' => x = .bool (right s) ∧ H' = H) := by
  refine ACalls.enter (n := 51) Try.func86 rfl rfl (Nat.le_of_ble_eq_true rfl) ?_
  refine AS.seq ?_
  refine AS.region rfl ?_
  refine AS.assign rfl rfl rfl rfl ?_
  refine AS.opsEnd ?_
  refine AS.seq ?_
  refine AS.region rfl ?_
  refine AS.move rfl rfl rfl rfl ?_
  refine AS.len rfl rfl rfl rfl (by first | exact lenT_str TT2.u9 | exact lenT_ms TT2.u9 | (rw [TT2.u9]; rfl)) rfl rfl ?_
  refine AS.assign rfl rfl rfl rfl ?_
  refine AS.opsEnd ?_
  refine AS.seq ?_
  refine AS.seq ?_
  refine AS.region rfl ?_
  refine AS.move rfl rfl rfl rfl ?_
  refine AS.bin rfl rfl rfl rfl rfl (BinR.lss rfl) ?_
  refine AS.move rfl rfl rfl rfl ?_
  refine AS.splitT 10 rfl (fun g10 => ?_) (fun g10 => ?_)
  · refine AS.pass rfl rfl rfl ?_
    refine AS.pass rfl rfl rfl ?_
    refine AS.pick rfl rfl rfl rfl rfl ?_
    refine AS.opsEnd ?_
    refine AS.condT rfl ?_
    refine AS.seq ?_
    refine AS.region rfl ?_
    refine AS.assign rfl rfl rfl rfl ?_
    refine AS.opsEnd ?_
    refine AS.retW Try.func86 rfl (.tmp rfl (.nil)) ?_
    refine RWk.drop [] rfl ⟨?_, rfl⟩
    rw [right_zero (by simp only [decide_eq_true_eq] at g10; omega)]; rfl
  · refine AS.move rfl rfl rfl rfl ?_
    refine AS.bin rfl rfl rfl rfl rfl (BinR.gtr rfl) ?_
    refine AS.pick rfl rfl rfl rfl rfl ?_
    refine AS.opsEnd ?_
    refine AS.cond rfl (fun hc0 => ?_) (fun hc0 => ?_)
    · refine AS.seq ?_
      refine AS.region rfl ?_
      refine AS.assign rfl rfl rfl rfl ?_
      refine AS.opsEnd ?_
      refine AS.retW Try.func86 rfl (.tmp rfl (.nil)) ?_
      refine RWk.drop [] rfl ⟨?_, rfl⟩
      rw [right_long (by simp only [decide_eq_true_eq] at hc0; omega)]; rfl
    · refine AS.skip ?_
      refine AS.seq ?_
      refine AS.seq ?_
      refine AS.region rfl ?_
      refine AS.assign rfl rfl rfl rfl ?_
      refine AS.opsEnd ?_
      have h1 : 0 < s.size := by simp only [decide_eq_false_iff_not] at g10; omega
      have h2 : (s.size : Int) ≤ 24 := by simp only [decide_eq_false_iff_not] at hc0; omega
      refine AS.block ?_
      refine AS.loopI (α := Nat) (fun i => i ≤ s.size ∧ ∀ j, j < i → j < s.size → okAt s j = true) (fun i => s.size - i) (fun i => [(4, .int .i64 i)]) [(0, _), (3, _)] (fun i => _) 0 ⟨Nat.zero_le _, fun i h => by omega⟩ (.cons rfl (.cons rfl (.cons rfl (.nil)))) rfl (fun i hI l0_ih => ?_)
      refine AS.seq ?_
      refine AS.seq ?_
      refine AS.region rfl ?_
      refine AS.move rfl rfl rfl rfl ?_
      refine AS.move rfl rfl rfl rfl ?_
      refine AS.bin rfl rfl rfl rfl rfl (BinR.lss rfl) ?_
      refine AS.opsEnd ?_
      refine AS.cond rfl (fun hc1 => ?_) (fun hc1 => ?_)
      · have hi : i < s.size := by simp only [decide_eq_true_eq] at hc1; omega
        refine AS.skip ?_
        refine AS.seq ?_
        refine AS.block ?_
        refine AS.seq ?_
        refine AS.region rfl ?_
        refine AS.move rfl rfl rfl rfl ?_
        refine AS.move rfl rfl rfl rfl ?_
        refine AS.strAt rfl rfl rfl rfl rfl TT2.u9 i rfl hi ?_
        refine AS.assign rfl rfl rfl rfl ?_
        refine AS.opsEnd ?_
        refine AS.seq ?_
        refine AS.region rfl ?_
        refine AS.move rfl rfl rfl rfl ?_
        refine AS.bin rfl rfl rfl rfl rfl (BinR.geq rfl) ?_
        refine AS.move rfl rfl rfl rfl ?_
        refine AS.splitT 24 rfl (fun g24 => ?_) (fun g24 => ?_)
        · refine AS.move rfl rfl rfl rfl ?_
          refine AS.bin rfl rfl rfl rfl rfl (BinR.leq rfl) ?_
          refine AS.pick rfl rfl rfl rfl rfl ?_
          refine AS.move rfl rfl rfl rfl ?_
          refine AS.splitT 28 rfl (fun g28 => ?_) (fun g28 => ?_)
          · refine AS.pass rfl rfl rfl ?_
            refine AS.pass rfl rfl rfl ?_
            refine AS.pass rfl rfl rfl ?_
            refine AS.pass rfl rfl rfl ?_
            refine AS.pass rfl rfl rfl ?_
            refine AS.pass rfl rfl rfl ?_
            refine AS.pick rfl rfl rfl rfl rfl ?_
            refine AS.move rfl rfl rfl rfl ?_
            refine AS.pass rfl rfl rfl ?_
            refine AS.pass rfl rfl rfl ?_
            refine AS.pick rfl rfl rfl rfl rfl ?_
            refine AS.not rfl rfl rfl rfl rfl ?_
            refine AS.opsEnd ?_
            refine AS.condF rfl ?_
            refine AS.skip ?_
            refine AS.inBlock ?_
            have e3 : okAt s i = true := by rw [okAt_eq hi]; (simp only [signI, g10, hc0, hc1, g24, g28]) <;> rfl
            refine AS.region rfl ?_
            refine AS.move rfl rfl rfl rfl ?_
            refine AS.bin rfl rfl rfl rfl rfl (BinR.add (w64 (by omega) (by omega))) ?_
            refine AS.assign rfl rfl rfl rfl ?_
            refine AS.opsEnd ?_
            exact AS.nextI (l0_ih (i + 1) ⟨hi, upTo hI.2 e3⟩ (by omega)) [] (.cons rfl (.cons rfl (.cons rfl (.nil)))) rfl
          · refine AS.move rfl rfl rfl rfl ?_
            refine AS.bin rfl rfl rfl rfl rfl (BinR.geq rfl) ?_
            refine AS.move rfl rfl rfl rfl ?_
            refine AS.splitT 31 rfl (fun g31 => ?_) (fun g31 => ?_)
            · refine AS.move rfl rfl rfl rfl ?_
              refine AS.bin rfl rfl rfl rfl rfl (BinR.leq rfl) ?_
              refine AS.pick rfl rfl rfl rfl rfl ?_
              refine AS.pick rfl rfl rfl rfl rfl ?_
              refine AS.move rfl rfl rfl rfl ?_
              refine AS.splitT 36 rfl (fun g36 => ?_) (fun g36 => ?_)
              · refine AS.pass rfl rfl rfl ?_
                refine AS.pass rfl rfl rfl ?_
                refine AS.pick rfl rfl rfl rfl rfl ?_
                refine AS.not rfl rfl rfl rfl rfl ?_
                refine AS.opsEnd ?_
                refine AS.condF rfl ?_
                refine AS.skip ?_
                refine AS.inBlock ?_
                have e3 : okAt s i = true := by rw [okAt_eq hi]; (simp only [signI, g10, hc0, hc1, g24, g28, g31, g36]) <;> rfl
                refine AS.region rfl ?_
                refine AS.move rfl rfl rfl rfl ?_
                refine AS.bin rfl rfl rfl rfl rfl (BinR.add (w64 (by omega) (by omega))) ?_
                refine AS.assign rfl rfl rfl rfl ?_
                refine AS.opsEnd ?_
                exact AS.nextI (l0_ih (i + 1) ⟨hi, upTo hI.2 e3⟩ (by omega)) [] (.cons rfl (.cons rfl (.cons rfl (.nil)))) rfl
              · refine AS.move rfl rfl rfl rfl ?_
                refine AS.bin rfl rfl rfl rfl rfl (BinR.eql rfl) ?_
                refine AS.pick rfl rfl rfl rfl rfl ?_
                refine AS.not rfl rfl rfl rfl rfl ?_
                refine AS.opsEnd ?_
                refine AS.cond rfl (fun hc2 => ?_) (fun hc2 => ?_)
                · rw [Bool.not_eq_true'] at hc2
                  refine AS.seq ?_
                  refine AS.region rfl ?_
                  refine AS.assign rfl rfl rfl rfl ?_
                  refine AS.opsEnd ?_
                  refine AS.retW Try.func86 rfl (.tmp rfl (.nil)) ?_
                  have e3 : okAt s i = false := by rw [okAt_eq hi]; (simp only [signI, g10, hc0, hc1, g24, g28, g31, g36, hc2]) <;> rfl
                  refine RWk.drop [] rfl ⟨?_, rfl⟩
                  rw [right_no (notOk hi e3)]; rfl
                · rw [Bool.not_eq_false'] at hc2
                  refine AS.skip ?_
                  refine AS.inBlock ?_
                  have e3 : okAt s i = true := by rw [okAt_eq hi]; (simp only [signI, g10, hc0, hc1, g24, g28, g31, g36, hc2]) <;> rfl
                  refine AS.region rfl ?_
                  refine AS.move rfl rfl rfl rfl ?_
                  refine AS.bin rfl rfl rfl rfl rfl (BinR.add (w64 (by omega) (by omega))) ?_
                  refine AS.assign rfl rfl rfl rfl ?_
                  refine AS.opsEnd ?_
                  exact AS.nextI (l0_ih (i + 1) ⟨hi, upTo hI.2 e3⟩ (by omega)) [] (.cons rfl (.cons rfl (.cons rfl (.nil)))) rfl
            · refine AS.pass rfl rfl rfl ?_
              refine AS.pass rfl rfl rfl ?_
              refine AS.pick rfl rfl rfl rfl rfl ?_
              refine AS.pick rfl rfl rfl rfl rfl ?_
              refine AS.move rfl rfl rfl rfl ?_
              refine AS.move rfl rfl rfl rfl ?_
              refine AS.bin rfl rfl rfl rfl rfl (BinR.eql rfl) ?_
              refine AS.pick rfl rfl rfl rfl rfl ?_
              refine AS.not rfl rfl rfl rfl rfl ?_
              refine AS.opsEnd ?_
              refine AS.cond rfl (fun hc2 => ?_) (fun hc2 => ?_)
              · rw [Bool.not_eq_true'] at hc2
                refine AS.seq ?_
                refine AS.region rfl ?_
                refine AS.assign rfl rfl rfl rfl ?_
                refine AS.opsEnd ?_
                refine AS.retW Try.func86 rfl (.tmp rfl (.nil)) ?_
                have e3 : okAt s i = false := by rw [okAt_eq hi]; (simp only [signI, g10, hc0, hc1, g24, g28, g31, hc2]) <;> rfl
                refine RWk.drop [] rfl ⟨?_, rfl⟩
                rw [right_no (notOk hi e3)]; rfl
              · rw [Bool.not_eq_false'] at hc2
                refine AS.skip ?_
                refine AS.inBlock ?_
                have e3 : okAt s i = true := by rw [okAt_eq hi]; (simp only [signI, g10, hc0, hc1, g24, g28, g31, hc2]) <;> rfl
                refine AS.region rfl ?_
                refine AS.move rfl rfl rfl rfl ?_
                refine AS.bin rfl rfl rfl rfl rfl (BinR.add (w64 (by omega) (by omega))) ?_
                refine AS.assign rfl rfl rfl rfl ?_
                refine AS.opsEnd ?_
                exact AS.nextI (l0_ih (i + 1) ⟨hi, upTo hI.2 e3⟩ (by omega)) [] (.cons rfl (.cons rfl (.cons rfl (.nil)))) rfl
        · refine AS.pass rfl rfl rfl ?_
          refine AS.pass rfl rfl rfl ?_
          refine AS.pick rfl rfl rfl rfl rfl ?_
          refine AS.move rfl rfl rfl rfl ?_
          refine AS.move rfl rfl rfl rfl ?_
          refine AS.bin rfl rfl rfl rfl rfl (BinR.geq rfl) ?_
          refine AS.move rfl rfl rfl rfl ?_
          refine AS.splitT 31 rfl (fun g31 => ?_) (fun g31 => ?_)
          · refine AS.move rfl rfl rfl rfl ?_
            refine AS.bin rfl rfl rfl rfl rfl (BinR.leq rfl) ?_
            refine AS.pick rfl rfl rfl rfl rfl ?_
            refine AS.pick rfl rfl rfl rfl rfl ?_
            refine AS.move rfl rfl rfl rfl ?_
            refine AS.splitT 36 rfl (fun g36 => ?_) (fun g36 => ?_)
            · refine AS.pass rfl rfl rfl ?_
              refine AS.pass rfl rfl rfl ?_
              refine AS.pick rfl rfl rfl rfl rfl ?_
              refine AS.not rfl rfl rfl rfl rfl ?_
              refine AS.opsEnd ?_
              refine AS.condF rfl ?_
              refine AS.skip ?_
              refine AS.inBlock ?_
              have e3 : okAt s i = true := by rw [okAt_eq hi]; (simp only [signI, g10, hc0, hc1, g24, g31, g36]) <;> rfl
              refine AS.region rfl ?_
              refine AS.move rfl rfl rfl rfl ?_
              refine AS.bin rfl rfl rfl rfl rfl (BinR.add (w64 (by omega) (by omega))) ?_
              refine AS.assign rfl rfl rfl rfl ?_
              refine AS.opsEnd ?_
              exact AS.nextI (l0_ih (i + 1) ⟨hi, upTo hI.2 e3⟩ (by omega)) [] (.cons rfl (.cons rfl (.cons rfl (.nil)))) rfl
            · refine AS.move rfl rfl rfl rfl ?_
              refine AS.bin rfl rfl rfl rfl rfl (BinR.eql rfl) ?_
              refine AS.pick rfl rfl rfl rfl rfl ?_
              refine AS.not rfl rfl rfl rfl rfl ?_
              refine AS.opsEnd ?_
              refine AS.cond rfl (fun hc2 => ?_) (fun hc2 => ?_)
              · rw [Bool.not_eq_true'] at hc2
                refine AS.seq ?_
                refine AS.region rfl ?_
                refine AS.assign rfl rfl rfl rfl ?_
                refine AS.opsEnd ?_
                refine AS.retW Try.func86 rfl (.tmp rfl (.nil)) ?_
                have e3 : okAt s i = false := by rw [okAt_eq hi]; (simp only [signI, g10, hc0, hc1, g24, g31, g36, hc2]) <;> rfl
                refine RWk.drop [] rfl ⟨?_, rfl⟩
                rw [right_no (notOk hi e3)]; rfl
              · rw [Bool.not_eq_false'] at hc2
                refine AS.skip ?_
                refine AS.inBlock ?_
                have e3 : okAt s i = true := by rw [okAt_eq hi]; (simp only [signI, g10, hc0, hc1, g24, g31, g36, hc2]) <;> rfl
                refine AS.region rfl ?_
                refine AS.move rfl rfl rfl rfl ?_
                refine AS.bin rfl rfl rfl rfl rfl (BinR.add (w64 (by omega) (by omega))) ?_
                refine AS.assign rfl rfl rfl rfl ?_
                refine AS.opsEnd ?_
                exact AS.nextI (l0_ih (i + 1) ⟨hi, upTo hI.2 e3⟩ (by omega)) [] (.cons rfl (.cons rfl (.cons rfl (.nil)))) rfl
          · refine AS.pass rfl rfl rfl ?_
            refine AS.pass rfl rfl rfl ?_
            refine AS.pick rfl rfl rfl rfl rfl ?_
            refine AS.pick rfl rfl rfl rfl rfl ?_
            refine AS.move rfl rfl rfl rfl ?_
            refine AS.move rfl rfl rfl rfl ?_
            refine AS.bin rfl rfl rfl rfl rfl (BinR.eql rfl) ?_
            refine AS.pick rfl rfl rfl rfl rfl ?_
            refine AS.not rfl rfl rfl rfl rfl ?_
            refine AS.opsEnd ?_
            refine AS.cond rfl (fun hc2 => ?_) (fun hc2 => ?_)
            · rw [Bool.not_eq_true'] at hc2
              refine AS.seq ?_
              refine AS.region rfl ?_
              refine AS.assign rfl rfl rfl rfl ?_
              refine AS.opsEnd ?_
              refine AS.retW Try.func86 rfl (.tmp rfl (.nil)) ?_
              have e3 : okAt s i = false := by rw [okAt_eq hi]; (simp only [signI, g10, hc0, hc1, g24, g31, hc2]) <;> rfl
              refine RWk.drop [] rfl ⟨?_, rfl⟩
              rw [right_no (notOk hi e3)]; rfl
            · rw [Bool.not_eq_false'] at hc2
              refine AS.skip ?_
              refine AS.inBlock ?_
              have e3 : okAt s i = true := by rw [okAt_eq hi]; (simp only [signI, g10, hc0, hc1, g24, g31, hc2]) <;> rfl
              refine AS.region rfl ?_
              refine AS.move rfl rfl rfl rfl ?_
              refine AS.bin rfl rfl rfl rfl rfl (BinR.add (w64 (by omega) (by omega))) ?_
              refine AS.assign rfl rfl rfl rfl ?_
              refine AS.opsEnd ?_
              exact AS.nextI (l0_ih (i + 1) ⟨hi, upTo hI.2 e3⟩ (by omega)) [] (.cons rfl (.cons rfl (.cons rfl (.nil)))) rfl
      · have hall := allOk (fun j hj => hI.2 j (by simp only [decide_eq_false_iff_not] at hc1; omega) hj)
        refine AS.exit rfl ?_
        refine AS.seq ?_
        refine AS.region rfl ?_
        refine AS.move rfl rfl rfl rfl ?_
        refine AS.strAt rfl rfl rfl rfl rfl TT2.u9 0 rfl h1 ?_
        refine AS.bin rfl rfl rfl rfl rfl (BinR.neq rfl) ?_
        refine AS.move rfl rfl rfl rfl ?_
        refine AS.splitT 44 rfl (fun g44 => ?_) (fun g44 => ?_)
        · refine AS.move rfl rfl rfl rfl ?_
          refine AS.move rfl rfl rfl rfl ?_
          refine AS.bin rfl rfl rfl rfl rfl (BinR.sub (w64 (by omega) (by omega))) ?_
          refine AS.strAt rfl rfl rfl rfl rfl TT2.u9 (s.size - 1) (by omega) (by omega) ?_
          refine AS.bin rfl rfl rfl rfl rfl (BinR.neq rfl) ?_
          refine AS.pick rfl rfl rfl rfl rfl ?_
          refine AS.assign rfl rfl rfl rfl ?_
          refine AS.opsEnd ?_
          refine AS.retW Try.func86 rfl (.tmp rfl (.nil)) ?_
          refine RWk.drop [] rfl ⟨?_, rfl⟩
          show AV.bool _ = AV.bool _
          have h3 : decide ((s.size : Int) ≤ 24) = true := decide_eq_true h2
          (simp only [right_at h1, hall, h3, g10, hc0, hc1, g44]) <;> rfl
        · refine AS.pass rfl rfl rfl ?_
          refine AS.pass rfl rfl rfl ?_
          refine AS.pass rfl rfl rfl ?_
          refine AS.pass rfl rfl rfl ?_
          refine AS.pass rfl rfl rfl ?_
          refine AS.pick rfl rfl rfl rfl rfl ?_
          refine AS.assign rfl rfl rfl rfl ?_
          refine AS.opsEnd ?_
          refine AS.retW Try.func86 rfl (.tmp rfl (.nil)) ?_
          refine RWk.drop [] rfl ⟨?_, rfl⟩
          show AV.bool _ = AV.bool _
          have h3 : decide ((s.size : Int) ≤ 24) = true := decide_eq_true h2
          (simp only [right_at h1, hall, h3, g10, hc0, hc1, g44]) <;> rfl
theorem label_key (k : Key) (H : AH) : ACalls Try.prog [] 71 [encKey k] H (fun x H' => x = .bool (keyRight k) ∧ H' = H) := by
  refine ACalls.enter (n := 16) Try.func71 rfl rfl (Nat.le_of_ble_eq_true rfl) ?_
  refine AS.seq ?_
  refine AS.region rfl ?_
  refine AS.box rfl rfl rfl rfl rfl ?_
  intro b1
  refine AS.assign rfl rfl rfl rfl ?_
  refine AS.opsEnd ?_
  refine AS.seq ?_
  refine AS.region rfl ?_
  refine AS.fieldAddr rfl rfl rfl rfl TT2.fl35_1 ?_
  refine AS.load rfl rfl rfl rfl TT2.ty9 rfl rfl rfl ?_
  refine AS.callP rfl rfl rfl rfl TT2.en85 (label_right _ _) ?_
  refine AS.move rfl rfl rfl rfl ?_
  refine AS.splitT 6 rfl (fun g6 => ?_) (fun g6 => ?_)
  · refine AS.fieldAddr rfl rfl rfl rfl TT2.fl35_0 ?_
    refine AS.load rfl rfl rfl rfl TT2.ty9 rfl rfl rfl ?_
    refine AS.callP rfl rfl rfl rfl TT2.en85 (label_right _ _) ?_
    refine AS.pick rfl rfl rfl rfl rfl ?_
    refine AS.move rfl rfl rfl rfl ?_
    refine AS.splitT 11 rfl (fun g11 => ?_) (fun g11 => ?_)
    · refine AS.fieldAddr rfl rfl rfl rfl TT2.fl35_2 ?_
      refine AS.load rfl rfl rfl rfl TT2.ty9 rfl rfl rfl ?_
      refine AS.callP rfl rfl rfl rfl TT2.en85 (label_right _ _) ?_
      refine AS.pick rfl rfl rfl rfl rfl ?_
      refine AS.assign rfl rfl rfl rfl ?_
      refine AS.opsEnd ?_
      refine AS.retW Try.func71 rfl (.tmp rfl (.nil)) ?_
      refine RWk.drop [_] rfl ⟨?_, rfl⟩
      show AV.bool _ = AV.bool _
      (simp only [keyRight, g6, g11, Bool.and_false, Bool.false_and, Bool.and_true, Bool.true_and]) <;> rfl
    · refine AS.pass rfl rfl rfl ?_
      refine AS.pass rfl rfl rfl ?_
      refine AS.pass rfl rfl rfl ?_
      refine AS.pick rfl rfl rfl rfl rfl ?_
      refine AS.assign rfl rfl rfl rfl ?_
      refine AS.opsEnd ?_
      refine AS.retW Try.func71 rfl (.tmp rfl (.nil)) ?_
      refine RWk.drop [_] rfl ⟨?_, rfl⟩
      show AV.bool _ = AV.bool _
      (simp only [keyRight, g6, g11, Bool.and_false, Bool.false_and, Bool.and_true, Bool.true_and]) <;> rfl
  · refine AS.pass rfl rfl rfl ?_
    refine AS.pass rfl rfl rfl ?_
    refine AS.pass rfl rfl rfl ?_
    refine AS.pick rfl rfl rfl rfl rfl ?_
    refine AS.move rfl rfl rfl rfl ?_
    refine AS.pass rfl rfl rfl ?_
    refine AS.pass rfl rfl rfl ?_
    refine AS.pass rfl rfl rfl ?_
    refine AS.pick rfl rfl rfl rfl rfl ?_
    refine AS.assign rfl rfl rfl rfl ?_
    refine AS.opsEnd ?_
    refine AS.retW Try.func71 rfl (.tmp rfl (.nil)) ?_
    refine RWk.drop [_] rfl ⟨?_, rfl⟩
    show AV.bool _ = AV.bool _
    (simp only [keyRight, g6, Bool.and_false, Bool.false_and, Bool.and_true, Bool.true_and]) <;> rfl
theorem ref_key (k : Key) (H : AH) : ACalls Try.prog [] 63 [encKey k] H (fun x H' => x = .bool (keyRight k) ∧ H' = H) := by
  refine ACalls.enter (n := 22) Try.func63 rfl rfl (Nat.le_of_ble_eq_true rfl) ?_
  refine AS.seq ?_
  refine AS.region rfl ?_
  refine AS.box rfl rfl rfl rfl rfl ?_
  intro b1
  refine AS.assign rfl rfl rfl rfl ?_
  refine AS.opsEnd ?_
  refine AS.seq ?_
  refine AS.region rfl ?_
  refine AS.fieldAddr rfl rfl rfl rfl TT2.fl35_0 ?_
  refine AS.load rfl rfl rfl rfl TT2.ty9 rfl rfl rfl ?_
  refine AS.callP rfl rfl rfl rfl TT2.en86 (ref_right _ _) ?_
  refine AS.assign rfl rfl rfl rfl ?_
  refine AS.opsEnd ?_
  refine AS.seq ?_
  refine AS.region rfl ?_
  refine AS.fieldAddr rfl rfl rfl rfl TT2.fl35_1 ?_
  refine AS.load rfl rfl rfl rfl TT2.ty9 rfl rfl rfl ?_
  refine AS.callP rfl rfl rfl rfl TT2.en86 (ref_right _ _) ?_
  refine AS.assign rfl rfl rfl rfl ?_
  refine AS.opsEnd ?_
  refine AS.seq ?_
  refine AS.region rfl ?_
  refine AS.fieldAddr rfl rfl rfl rfl TT2.fl35_2 ?_
  refine AS.load rfl rfl rfl rfl TT2.ty9 rfl rfl rfl ?_
  refine AS.callP rfl rfl rfl rfl TT2.en86 (ref_right _ _) ?_
  refine AS.assign rfl rfl rfl rfl ?_
  refine AS.opsEnd ?_
  refine AS.seq ?_
  refine AS.region rfl ?_
  refine AS.move rfl rfl rfl rfl ?_
  refine AS.move rfl rfl rfl rfl ?_
  refine AS.splitT 16 rfl (fun g16 => ?_) (fun g16 => ?_)
  · refine AS.move rfl rfl rfl rfl ?_
    refine AS.pick rfl rfl rfl rfl rfl ?_
    refine AS.move rfl rfl rfl rfl ?_
    refine AS.splitT 19 rfl (fun g19 => ?_) (fun g19 => ?_)
    · refine AS.move rfl rfl rfl rfl ?_
      refine AS.pick rfl rfl rfl rfl rfl ?_
      refine AS.assign rfl rfl rfl rfl ?_
      refine AS.opsEnd ?_
      refine AS.retW Try.func63 rfl (.tmp rfl (.nil)) ?_
      refine RWk.drop [_] rfl ⟨?_, rfl⟩
      show AV.bool _ = AV.bool _
      (simp only [keyRight, g16, g19, Bool.and_false, Bool.false_and, Bool.and_true, Bool.true_and]) <;> rfl
    · refine AS.pass rfl rfl rfl ?_
      refine AS.pick rfl rfl rfl rfl rfl ?_
      refine AS.assign rfl rfl rfl rfl ?_
      refine AS.opsEnd ?_
      refine AS.retW Try.func63 rfl (.tmp rfl (.nil)) ?_
      refine RWk.drop [_] rfl ⟨?_, rfl⟩
      show AV.bool _ = AV.bool _
      (simp only [keyRight, g16, g19, Bool.and_false, Bool.false_and, Bool.and_true, Bool.true_and]) <;> rfl
  · refine AS.pass rfl rfl rfl ?_
    refine AS.pick rfl rfl rfl rfl rfl ?_
    refine AS.move rfl rfl rfl rfl ?_
    refine AS.pass rfl rfl rfl ?_
    refine AS.pick rfl rfl rfl rfl rfl ?_
    refine AS.assign rfl rfl rfl rfl ?_
    refine AS.opsEnd ?_
    refine AS.retW Try.func63 rfl (.tmp rfl (.nil)) ?_
    refine RWk.drop [_] rfl ⟨?_, rfl⟩
    show AV.bool _ = AV.bool _
    (simp only [keyRight, g16, Bool.and_false, Bool.false_and, Bool.and_true, Bool.true_and]) <;> rfl
end Go.Proofs.Ytncecheccihjoaa
/- T3 -/
namespace Go.Proofs.Ytncecheccihjoaa.TT3
open Go Go.Proofs.Fw Go.Shelf
theorem en134 : Enters Go.Proofs.Try.prog 134 := enters_of Go.Proofs.Try.func134 (by kernel_rfl) rfl
theorem en87 : Enters Go.Proofs.Try.prog 87 := enters_of Go.Proofs.Try.func87 (by kernel_rfl) rfl
theorem fl116_0 : fldI Go.Proofs.Try.prog 116 0 = some 0 := by kernel_rfl
theorem fl35_0 : fldI Go.Proofs.Try.prog 35 0 = some 0 := by kernel_rfl
theorem fl35_1 : fldI Go.Proofs.Try.prog 35 1 = some 1 := by kernel_rfl
theorem fl35_2 : fldI Go.Proofs.Try.prog 35 2 = some 2 := by kernel_rfl
theorem fl38_0 : fldI Go.Proofs.Try.prog 38 0 = some 0 := by kernel_rfl
theorem fl38_2 : fldI Go.Proofs.Try.prog 38 2 = some 4 := by kernel_rfl
theorem fl38_5 : fldI Go.Proofs.Try.prog 38 5 = some 7 := by kernel_rfl
theorem mixed : Go.Proofs.Try.prog.follows .mixedOrders = true := by kernel_rfl
theorem sl36 : sliI Go.Proofs.Try.prog 36 = some (116, 2, 24) := by kernel_rfl
theorem ty35 : tyI Go.Proofs.Try.prog 35 = some (3, true) := by kernel_rfl
theorem ty36 : tyI Go.Proofs.Try.prog 36 = some (1, false) := by kernel_rfl
theorem ty9 : tyI Go.Proofs.Try.prog 9 = some (1, false) := by kernel_rfl
theorem u36 : Go.Proofs.Try.prog.underlying 36 = some (.slice 116) := by kernel_rfl
theorem u9 : Go.Proofs.Try.prog.underlying 9 = some (.string) := by kernel_rfl
end Go.Proofs.Ytncecheccihjoaa.TT3
namespace Go.Proofs.Ytncecheccihjoaa
open Go Go.Proofs.Fw Go.Proofs
set_option linter.unusedVariables false
set_option linter.unusedSimpArgs false
set_option maxRecDepth 20000
set_option maxHeartbeats 4000000
theorem text_spec (k : Key) (H : AH) (hk : keyFits k) : ACalls Try.prog [] 134 [encKey k] H (fun x H' => x = .str (textOf k) ∧ H' = H) := by
  obtain ⟨k1, k2, k3⟩ := hk
  refine ACalls.enter (n := 13) Try.func134 rfl rfl (Nat.le_of_ble_eq_true rfl) ?_
  refine AS.seq ?_
  refine AS.region rfl ?_
  refine AS.box rfl rfl rfl rfl rfl ?_
  intro b1
  refine AS.assign rfl rfl rfl rfl ?_
  refine AS.opsEnd ?_
  refine AS.seq ?_
  refine AS.region rfl ?_
  refine AS.fieldAddr rfl rfl rfl rfl TT3.fl35_1 ?_
  refine AS.load rfl rfl rfl rfl TT3.ty9 rfl rfl rfl ?_
  refine AS.bin rfl rfl rfl rfl rfl (BinR.concat (by (try simp only [size_app]); have h1 : slash.size = 1 := rfl; have h2 : (⟨#[47]⟩ : ByteArray).size = 1 := rfl; omega) rfl) ?_
  refine AS.fieldAddr rfl rfl rfl rfl TT3.fl35_0 ?_
  refine AS.load rfl rfl rfl rfl TT3.ty9 rfl rfl rfl ?_
  refine AS.bin rfl rfl rfl rfl rfl (BinR.concat (by (try simp only [size_app]); have h1 : slash.size = 1 := rfl; have h2 : (⟨#[47]⟩ : ByteArray).size = 1 := rfl; omega) rfl) ?_
  refine AS.bin rfl rfl rfl rfl rfl (BinR.concat (by (try simp only [size_app]); have h1 : slash.size = 1 := rfl; have h2 : (⟨#[47]⟩ : ByteArray).size = 1 := rfl; omega) rfl) ?_
  refine AS.fieldAddr rfl rfl rfl rfl TT3.fl35_2 ?_
  refine AS.load rfl rfl rfl rfl TT3.ty9 rfl rfl rfl ?_
  refine AS.bin rfl rfl rfl rfl rfl (BinR.concat (by (try simp only [size_app]); have h1 : slash.size = 1 := rfl; have h2 : (⟨#[47]⟩ : ByteArray).size = 1 := rfl; omega) rfl) ?_
  refine AS.assign rfl rfl rfl rfl ?_
  refine AS.opsEnd ?_
  refine AS.retW Try.func134 rfl (.tmp rfl (.nil)) ?_
  refine RWk.drop [_] rfl ⟨?_, rfl⟩
  rfl
theorem label_less (a b : Key) (H : AH) (ha : keyFits a) (hb : keyFits b) : ACalls Try.prog [] 102 [encKey a, encKey b] H (fun x H' => x = .bool (keyLess a b) ∧ H' = H) := by
  refine ACalls.enter (n := 10) Try.func102 rfl rfl (Nat.le_of_ble_eq_true rfl) ?_
  refine AS.seq ?_
  refine AS.region rfl ?_
  refine AS.box rfl rfl rfl rfl rfl ?_
  intro b2
  refine AS.box rfl rfl rfl rfl rfl ?_
  intro b3
  refine AS.assign rfl rfl rfl rfl ?_
  refine AS.opsEnd ?_
  refine AS.seq ?_
  refine SA.start1 TT3.mixed rfl ?_
  refine SA.rd 0 [2] rfl (fun env rest next => AS.load rfl rfl rfl rfl TT3.ty35 rfl rfl rfl next) ?_
  refine SA.rd 1 [5] rfl (fun env rest next => AS.callP rfl rfl rfl rfl TT3.en134 (text_spec _ _ (by assumption)) next) ?_
  refine SA.rd 2 [3] rfl (fun env rest next => AS.load rfl rfl rfl rfl TT3.ty35 rfl rfl rfl next) ?_
  refine SA.rd 3 [7] rfl (fun env rest next => AS.callP rfl rfl rfl rfl TT3.en134 (text_spec _ _ (by assumption)) next) ?_
  refine SA.rd 4 [6, 8] rfl (fun env rest next => AS.bin rfl rfl rfl rfl rfl (BinR.slss rfl) next) ?_
  refine SA.rd 5 [9] rfl (fun env rest next => AS.assign rfl rfl rfl rfl next) ?_
  refine SA.done rfl rfl rfl ?_
  refine AS.retW Try.func102 rfl (.tmp rfl (.nil)) ?_
  refine RWk.drop [_, _] rfl ⟨?_, rfl⟩
  rfl
theorem before_spec (a b : ByteArray) (H : AH) (ha : a.size ≤ 1000) (hb : b.size ≤ 1000) : ACalls Try.prog [] 87 [.str a, .str b] H (fun x H' => x = .bool (sless a b) ∧ H' = H) := by
  refine ACalls.enter (n := 37) Try.func87 rfl rfl (Nat.le_of_ble_eq_true rfl) ?_
  refine AS.seq ?_
  refine AS.region rfl ?_
  refine AS.assign rfl rfl rfl rfl ?_
  refine AS.opsEnd ?_
  refine AS.seq ?_
  refine AS.seq ?_
  refine AS.region rfl ?_
  refine AS.assign rfl rfl rfl rfl ?_
  refine AS.opsEnd ?_
  refine AS.block ?_
  refine AS.loopI (α := Nat) (fun i => i ≤ a.size ∧ i ≤ b.size ∧ sameTo a b i) (fun i => a.size - i) (fun i => [(5, .int .i64 i)]) [(0, _), (1, _)] (fun i => _) 0 ⟨Nat.zero_le _, Nat.zero_le _, fun _ _ _ h => by omega⟩ (.cons rfl (.cons rfl (.cons rfl (.nil)))) rfl (fun i hI l0_ih => ?_)
  refine AS.seq ?_
  refine AS.seq ?_
  refine AS.region rfl ?_
  refine AS.move rfl rfl rfl rfl ?_
  refine AS.move rfl rfl rfl rfl ?_
  refine AS.len rfl rfl rfl rfl (by first | exact lenT_str TT3.u9 | exact lenT_ms TT3.u9 | (rw [TT3.u9]; rfl)) rfl rfl ?_
  refine AS.bin rfl rfl rfl rfl rfl (BinR.lss rfl) ?_
  refine AS.move rfl rfl rfl rfl ?_
  refine AS.splitT 10 rfl (fun g10 => ?_) (fun g10 => ?_)
  · refine AS.move rfl rfl rfl rfl ?_
    refine AS.move rfl rfl rfl rfl ?_
    refine AS.len rfl rfl rfl rfl (by first | exact lenT_str TT3.u9 | exact lenT_ms TT3.u9 | (rw [TT3.u9]; rfl)) rfl rfl ?_
    refine AS.bin rfl rfl rfl rfl rfl (BinR.lss rfl) ?_
    refine AS.pick rfl rfl rfl rfl rfl ?_
    refine AS.opsEnd ?_
    refine AS.cond rfl (fun hc0 => ?_) (fun hc0 => ?_)
    · have h1 : i < a.size := by simp only [decide_eq_true_eq] at g10; omega
      have h2 : i < b.size := by simp only [decide_eq_true_eq] at hc0; omega
      refine AS.skip ?_
      refine AS.seq ?_
      refine AS.block ?_
      refine AS.seq ?_
      refine SA.start1 TT3.mixed rfl ?_
      refine SA.rd 0 [0] rfl (fun env rest next => AS.move rfl rfl rfl rfl next) ?_
      refine SA.rd 1 [5] rfl (fun env rest next => AS.move rfl rfl rfl rfl next) ?_
      refine SA.rd 2 [18, 19] rfl (fun env rest next => AS.strAt rfl rfl rfl rfl rfl TT3.u9 i rfl h1 next) ?_
      refine SA.rd 3 [1] rfl (fun env rest next => AS.move rfl rfl rfl rfl next) ?_
      refine SA.rd 4 [5] rfl (fun env rest next => AS.move rfl rfl rfl rfl next) ?_
      refine SA.rd 5 [21, 22] rfl (fun env rest next => AS.strAt rfl rfl rfl rfl rfl TT3.u9 i rfl h2 next) ?_
      refine SA.rd 6 [20, 23] rfl (fun env rest next => AS.bin rfl rfl rfl rfl rfl (BinR.neq rfl) next) ?_
      refine SA.done rfl rfl rfl ?_
      refine AS.cond rfl (fun hc1 => ?_) (fun hc1 => ?_)
      · refine AS.seq ?_
        refine SA.start1 TT3.mixed rfl ?_
        refine SA.rd 0 [0] rfl (fun env rest next => AS.move rfl rfl rfl rfl next) ?_
        refine SA.rd 1 [5] rfl (fun env rest next => AS.move rfl rfl rfl rfl next) ?_
        refine SA.rd 2 [25, 26] rfl (fun env rest next => AS.strAt rfl rfl rfl rfl rfl TT3.u9 i rfl h1 next) ?_
        refine SA.rd 3 [1] rfl (fun env rest next => AS.move rfl rfl rfl rfl next) ?_
        refine SA.rd 4 [5] rfl (fun env rest next => AS.move rfl rfl rfl rfl next) ?_
        refine SA.rd 5 [28, 29] rfl (fun env rest next => AS.strAt rfl rfl rfl rfl rfl TT3.u9 i rfl h2 next) ?_
        refine SA.rd 6 [27, 30] rfl (fun env rest next => AS.bin rfl rfl rfl rfl rfl (BinR.lss rfl) next) ?_
        refine SA.rd 7 [31] rfl (fun env rest next => AS.assign rfl rfl rfl rfl next) ?_
        refine SA.done rfl rfl rfl ?_
        refine AS.retW Try.func87 rfl (.tmp rfl (.nil)) ?_
        refine RWk.drop [] rfl ⟨?_, rfl⟩
        have h3 : ((a[i]'h1).toNat : Int) ≠ ((b[i]'h2).toNat : Int) := of_decide_eq_true hc1
        rw [sless_ne hI.2.2 h1 h2 h3]; rfl
      · refine AS.skip ?_
        refine AS.inBlock ?_
        refine AS.region rfl ?_
        refine AS.move rfl rfl rfl rfl ?_
        refine AS.bin rfl rfl rfl rfl rfl (BinR.add (w64 (by omega) (by omega))) ?_
        refine AS.assign rfl rfl rfl rfl ?_
        refine AS.opsEnd ?_
        have h3 : ((a[i]'h1).toNat : Int) = ((b[i]'h2).toNat : Int) := by simpa using hc1
        exact AS.nextI (l0_ih (i + 1) ⟨h1, h2, sameTo_succ hI.2.2 h1 h2 h3⟩ (by omega)) [] (.cons rfl (.cons rfl (.cons rfl (.nil)))) rfl
    · refine AS.exit rfl ?_
      refine AS.seq ?_
      refine AS.region rfl ?_
      refine AS.move rfl rfl rfl rfl ?_
      refine AS.len rfl rfl rfl rfl (by first | exact lenT_str TT3.u9 | exact lenT_ms TT3.u9 | (rw [TT3.u9]; rfl)) rfl rfl ?_
      refine AS.move rfl rfl rfl rfl ?_
      refine AS.len rfl rfl rfl rfl (by first | exact lenT_str TT3.u9 | exact lenT_ms TT3.u9 | (rw [TT3.u9]; rfl)) rfl rfl ?_
      refine AS.bin rfl rfl rfl rfl rfl (BinR.lss rfl) ?_
      refine AS.assign rfl rfl rfl rfl ?_
      refine AS.opsEnd ?_
      refine AS.retW Try.func87 rfl (.tmp rfl (.nil)) ?_
      refine RWk.drop [] rfl ⟨?_, rfl⟩
      rw [sless_len hI.2.2 (by simp only [decide_eq_true_eq, decide_eq_false_iff_not] at g10 hc0; omega)]; rfl
  · refine AS.pass rfl rfl rfl ?_
    refine AS.pass rfl rfl rfl ?_
    refine AS.pass rfl rfl rfl ?_
    refine AS.pass rfl rfl rfl ?_
    refine AS.pick rfl rfl rfl rfl rfl ?_
    refine AS.opsEnd ?_
    refine AS.condF rfl ?_
    refine AS.exit rfl ?_
    refine AS.seq ?_
    refine AS.region rfl ?_
    refine AS.move rfl rfl rfl rfl ?_
    refine AS.len rfl rfl rfl rfl (by first | exact lenT_str TT3.u9 | exact lenT_ms TT3.u9 | (rw [TT3.u9]; rfl)) rfl rfl ?_
    refine AS.move rfl rfl rfl rfl ?_
    refine AS.len rfl rfl rfl rfl (by first | exact lenT_str TT3.u9 | exact lenT_ms TT3.u9 | (rw [TT3.u9]; rfl)) rfl rfl ?_
    refine AS.bin rfl rfl rfl rfl rfl (BinR.lss rfl) ?_
    refine AS.assign rfl rfl rfl rfl ?_
    refine AS.opsEnd ?_
    refine AS.retW Try.func87 rfl (.tmp rfl (.nil)) ?_
    refine RWk.drop [] rfl ⟨?_, rfl⟩
    rw [sless_len hI.2.2 (by simp only [decide_eq_false_iff_not] at g10; omega)]; rfl
-- UNUSED annotation cond
theorem ref_less (a b : Key) (H : AH) (ha : keyFits a) (hb : keyFits b) : ACalls Try.prog [] 126 [encKey a, encKey b] H (fun x H' => x = .bool (keyLess a b) ∧ H' = H) := by
  obtain ⟨k1, k2, k3⟩ := ha
  obtain ⟨m1, m2, m3⟩ := hb
  refine ACalls.enter (n := 26) Try.func126 rfl rfl (Nat.le_of_ble_eq_true rfl) ?_
  refine AS.seq ?_
  refine AS.region rfl ?_
  refine AS.box rfl rfl rfl rfl rfl ?_
  intro b2
  refine AS.box rfl rfl rfl rfl rfl ?_
  intro b3
  refine AS.assign rfl rfl rfl rfl ?_
  refine AS.opsEnd ?_
  refine AS.seq ?_
  refine AS.region rfl ?_
  refine AS.fieldAddr rfl rfl rfl rfl TT3.fl35_1 ?_
  refine AS.load rfl rfl rfl rfl TT3.ty9 rfl rfl rfl ?_
  refine AS.bin rfl rfl rfl rfl rfl (BinR.concat (by (try simp only [size_app]); have h1 : slash.size = 1 := rfl; have h2 : (⟨#[47]⟩ : ByteArray).size = 1 := rfl; omega) rfl) ?_
  refine AS.fieldAddr rfl rfl rfl rfl TT3.fl35_0 ?_
  refine AS.load rfl rfl rfl rfl TT3.ty9 rfl rfl rfl ?_
  refine AS.bin rfl rfl rfl rfl rfl (BinR.concat (by (try simp only [size_app]); have h1 : slash.size = 1 := rfl; have h2 : (⟨#[47]⟩ : ByteArray).size = 1 := rfl; omega) rfl) ?_
  refine AS.bin rfl rfl rfl rfl rfl (BinR.concat (by (try simp only [size_app]); have h1 : slash.size = 1 := rfl; have h2 : (⟨#[47]⟩ : ByteArray).size = 1 := rfl; omega) rfl) ?_
  refine AS.fieldAddr rfl rfl rfl rfl TT3.fl35_2 ?_
  refine AS.load rfl rfl rfl rfl TT3.ty9 rfl rfl rfl ?_
  refine AS.bin rfl rfl rfl rfl rfl (BinR.concat (by (try simp only [size_app]); have h1 : slash.size = 1 := rfl; have h2 : (⟨#[47]⟩ : ByteArray).size = 1 := rfl; omega) rfl) ?_
  refine AS.fieldAddr rfl rfl rfl rfl TT3.fl35_1 ?_
  refine AS.load rfl rfl rfl rfl TT3.ty9 rfl rfl rfl ?_
  refine AS.bin rfl rfl rfl rfl rfl (BinR.concat (by (try simp only [size_app]); have h1 : slash.size = 1 := rfl; have h2 : (⟨#[47]⟩ : ByteArray).size = 1 := rfl; omega) rfl) ?_
  refine AS.fieldAddr rfl rfl rfl rfl TT3.fl35_0 ?_
  refine AS.load rfl rfl rfl rfl TT3.ty9 rfl rfl rfl ?_
  refine AS.bin rfl rfl rfl rfl rfl (BinR.concat (by (try simp only [size_app]); have h1 : slash.size = 1 := rfl; have h2 : (⟨#[47]⟩ : ByteArray).size = 1 := rfl; omega) rfl) ?_
  refine AS.bin rfl rfl rfl rfl rfl (BinR.concat (by (try simp only [size_app]); have h1 : slash.size = 1 := rfl; have h2 : (⟨#[47]⟩ : ByteArray).size = 1 := rfl; omega) rfl) ?_
  refine AS.fieldAddr rfl rfl rfl rfl TT3.fl35_2 ?_
  refine AS.load rfl rfl rfl rfl TT3.ty9 rfl rfl rfl ?_
  refine AS.bin rfl rfl rfl rfl rfl (BinR.concat (by (try simp only [size_app]); have h1 : slash.size = 1 := rfl; have h2 : (⟨#[47]⟩ : ByteArray).size = 1 := rfl; omega) rfl) ?_
  refine AS.callP rfl rfl rfl rfl TT3.en87 (before_spec (textOf a) (textOf b) _ (by rw [textOf_size]; omega) (by rw [textOf_size]; omega)) ?_
  refine AS.assign rfl rfl rfl rfl ?_
  refine AS.opsEnd ?_
  refine AS.retW Try.func126 rfl (.tmp rfl (.nil)) ?_
  refine RWk.drop [_, _] rfl ⟨?_, rfl⟩
  rfl
theorem fits05 (o : Object) (H : AH) : ACalls Try.prog [] 62 [encObj o] H (fun x H' => x = .bool (objFitsB o) ∧ H' = H) := by
  refine ACalls.enter (n := 50) Try.func62 rfl rfl (Nat.le_of_ble_eq_true rfl) ?_
  refine AS.seq ?_
  refine AS.region rfl ?_
  refine AS.box rfl rfl rfl rfl rfl ?_
  intro b1
  refine AS.assign rfl rfl rfl rfl ?_
  refine AS.opsEnd ?_
  refine AS.seq ?_
  refine AS.seq ?_
  refine AS.region rfl ?_
  refine AS.fieldAddr rfl rfl rfl rfl TT3.fl38_0 ?_
  refine AS.fieldAddr rfl rfl rfl rfl TT3.fl35_0 ?_
  refine AS.load rfl rfl rfl rfl TT3.ty9 rfl rfl rfl ?_
  refine AS.len rfl rfl rfl rfl (by first | exact lenT_str TT3.u9 | exact lenT_ms TT3.u9 | (rw [TT3.u9]; rfl)) rfl rfl ?_
  refine AS.bin rfl rfl rfl rfl rfl (BinR.gtr rfl) ?_
  refine AS.move rfl rfl rfl rfl ?_
  refine AS.splitT 9 rfl (fun g9 => ?_) (fun g9 => ?_)
  · refine AS.pass rfl rfl rfl ?_
    refine AS.pass rfl rfl rfl ?_
    refine AS.pass rfl rfl rfl ?_
    refine AS.pass rfl rfl rfl ?_
    refine AS.pass rfl rfl rfl ?_
    refine AS.pick rfl rfl rfl rfl rfl ?_
    refine AS.move rfl rfl rfl rfl ?_
    refine AS.pass rfl rfl rfl ?_
    refine AS.pass rfl rfl rfl ?_
    refine AS.pass rfl rfl rfl ?_
    refine AS.pass rfl rfl rfl ?_
    refine AS.pass rfl rfl rfl ?_
    refine AS.pick rfl rfl rfl rfl rfl ?_
    refine AS.move rfl rfl rfl rfl ?_
    refine AS.pass rfl rfl rfl ?_
    refine AS.pass rfl rfl rfl ?_
    refine AS.pass rfl rfl rfl ?_
    refine AS.pass rfl rfl rfl ?_
    refine AS.pick rfl rfl rfl rfl rfl ?_
    refine AS.move rfl rfl rfl rfl ?_
    refine AS.pass rfl rfl rfl ?_
    refine AS.pass rfl rfl rfl ?_
    refine AS.pass rfl rfl rfl ?_
    refine AS.pass rfl rfl rfl ?_
    refine AS.pick rfl rfl rfl rfl rfl ?_
    refine AS.opsEnd ?_
    refine AS.condT rfl ?_
    refine AS.seq ?_
    refine AS.region rfl ?_
    refine AS.assign rfl rfl rfl rfl ?_
    refine AS.opsEnd ?_
    refine AS.retW Try.func62 rfl (.tmp rfl (.nil)) ?_
    refine RWk.drop [_] rfl ⟨?_, rfl⟩
    show AV.bool _ = AV.bool _
    (simp only [objFitsB, g9]) <;> rfl
  · refine AS.fieldAddr rfl rfl rfl rfl TT3.fl38_0 ?_
    refine AS.fieldAddr rfl rfl rfl rfl TT3.fl35_1 ?_
    refine AS.load rfl rfl rfl rfl TT3.ty9 rfl rfl rfl ?_
    refine AS.len rfl rfl rfl rfl (by first | exact lenT_str TT3.u9 | exact lenT_ms TT3.u9 | (rw [TT3.u9]; rfl)) rfl rfl ?_
    refine AS.bin rfl rfl rfl rfl rfl (BinR.gtr rfl) ?_
    refine AS.pick rfl rfl rfl rfl rfl ?_
    refine AS.move rfl rfl rfl rfl ?_
    refine AS.splitT 16 rfl (fun g16 => ?_) (fun g16 => ?_)
    · refine AS.pass rfl rfl rfl ?_
      refine AS.pass rfl rfl rfl ?_
      refine AS.pass rfl rfl rfl ?_
      refine AS.pass rfl rfl rfl ?_
      refine AS.pass rfl rfl rfl ?_
      refine AS.pick rfl rfl rfl rfl rfl ?_
      refine AS.move rfl rfl rfl rfl ?_
      refine AS.pass rfl rfl rfl ?_
      refine AS.pass rfl rfl rfl ?_
      refine AS.pass rfl rfl rfl ?_
      refine AS.pass rfl rfl rfl ?_
      refine AS.pick rfl rfl rfl rfl rfl ?_
      refine AS.move rfl rfl rfl rfl ?_
      refine AS.pass rfl rfl rfl ?_
      refine AS.pass rfl rfl rfl ?_
      refine AS.pass rfl rfl rfl ?_
      refine AS.pass rfl rfl rfl ?_
      refine AS.pick rfl rfl rfl rfl rfl ?_
      refine AS.opsEnd ?_
      refine AS.condT rfl ?_
      refine AS.seq ?_
      refine AS.region rfl ?_
      refine AS.assign rfl rfl rfl rfl ?_
      refine AS.opsEnd ?_
      refine AS.retW Try.func62 rfl (.tmp rfl (.nil)) ?_
      refine RWk.drop [_] rfl ⟨?_, rfl⟩
      show AV.bool _ = AV.bool _
      (simp only [objFitsB, g9, g16]) <;> rfl
    · refine AS.fieldAddr rfl rfl rfl rfl TT3.fl38_0 ?_
      refine AS.fieldAddr rfl rfl rfl rfl TT3.fl35_2 ?_
      refine AS.load rfl rfl rfl rfl TT3.ty9 rfl rfl rfl ?_
      refine AS.len rfl rfl rfl rfl (by first | exact lenT_str TT3.u9 | exact lenT_ms TT3.u9 | (rw [TT3.u9]; rfl)) rfl rfl ?_
      refine AS.bin rfl rfl rfl rfl rfl (BinR.gtr rfl) ?_
      refine AS.pick rfl rfl rfl rfl rfl ?_
      refine AS.move rfl rfl rfl rfl ?_
      refine AS.splitT 23 rfl (fun g23 => ?_) (fun g23 => ?_)
      · refine AS.pass rfl rfl rfl ?_
        refine AS.pass rfl rfl rfl ?_
        refine AS.pass rfl rfl rfl ?_
        refine AS.pass rfl rfl rfl ?_
        refine AS.pick rfl rfl rfl rfl rfl ?_
        refine AS.move rfl rfl rfl rfl ?_
        refine AS.pass rfl rfl rfl ?_
        refine AS.pass rfl rfl rfl ?_
        refine AS.pass rfl rfl rfl ?_
        refine AS.pass rfl rfl rfl ?_
        refine AS.pick rfl rfl rfl rfl rfl ?_
        refine AS.opsEnd ?_
        refine AS.condT rfl ?_
        refine AS.seq ?_
        refine AS.region rfl ?_
        refine AS.assign rfl rfl rfl rfl ?_
        refine AS.opsEnd ?_
        refine AS.retW Try.func62 rfl (.tmp rfl (.nil)) ?_
        refine RWk.drop [_] rfl ⟨?_, rfl⟩
        show AV.bool _ = AV.bool _
        (simp only [objFitsB, g9, g16, g23]) <;> rfl
      · refine AS.fieldAddr rfl rfl rfl rfl TT3.fl38_2 ?_
        refine AS.load rfl rfl rfl rfl TT3.ty9 rfl rfl rfl ?_
        refine AS.len rfl rfl rfl rfl (by first | exact lenT_str TT3.u9 | exact lenT_ms TT3.u9 | (rw [TT3.u9]; rfl)) rfl rfl ?_
        refine AS.bin rfl rfl rfl rfl rfl (BinR.gtr rfl) ?_
        refine AS.pick rfl rfl rfl rfl rfl ?_
        refine AS.move rfl rfl rfl rfl ?_
        refine AS.splitT 29 rfl (fun g29 => ?_) (fun g29 => ?_)
        · refine AS.pass rfl rfl rfl ?_
          refine AS.pass rfl rfl rfl ?_
          refine AS.pass rfl rfl rfl ?_
          refine AS.pass rfl rfl rfl ?_
          refine AS.pick rfl rfl rfl rfl rfl ?_
          refine AS.opsEnd ?_
          refine AS.condT rfl ?_
          refine AS.seq ?_
          refine AS.region rfl ?_
          refine AS.assign rfl rfl rfl rfl ?_
          refine AS.opsEnd ?_
          refine AS.retW Try.func62 rfl (.tmp rfl (.nil)) ?_
          refine RWk.drop [_] rfl ⟨?_, rfl⟩
          show AV.bool _ = AV.bool _
          (simp only [objFitsB, g9, g16, g23, g29]) <;> rfl
        · refine AS.fieldAddr rfl rfl rfl rfl TT3.fl38_5 ?_
          refine AS.load rfl rfl rfl rfl TT3.ty36 rfl rfl rfl ?_
          refine AS.len rfl rfl rfl rfl (by first | exact lenT_sl TT3.u36 | exact lenT_ms TT3.u36 | (rw [TT3.u36]; rfl)) rfl (lenMap _ _) ?_
          refine AS.bin rfl rfl rfl rfl rfl (BinR.gtr rfl) ?_
          refine AS.pick rfl rfl rfl rfl rfl ?_
          refine AS.opsEnd ?_
          refine AS.cond rfl (fun hc0 => ?_) (fun hc0 => ?_)
          · refine AS.seq ?_
            refine AS.region rfl ?_
            refine AS.assign rfl rfl rfl rfl ?_
            refine AS.opsEnd ?_
            refine AS.retW Try.func62 rfl (.tmp rfl (.nil)) ?_
            refine RWk.drop [_] rfl ⟨?_, rfl⟩
            show AV.bool _ = AV.bool _
            (simp only [objFitsB, g9, g16, g23, g29, hc0]) <;> rfl
          · refine AS.skip ?_
            refine AS.seq ?_
            refine AS.seq ?_
            refine AS.region rfl ?_
            refine AS.assign rfl rfl rfl rfl ?_
            refine AS.opsEnd ?_
            have hl : ¬ (40 : Int) < (o.charge.length : Int) := of_decide_eq_false hc0
            refine AS.block ?_
            refine AS.loopI (α := Nat) (fun i => i ≤ o.charge.length ∧ ∀ j, j < i → j < o.charge.length → nameFits o.charge j = true) (fun i => o.charge.length - i) (fun i => [(3, .int .i64 i)]) [(1, _)] (fun i => _) 0 ⟨Nat.zero_le _, fun i h => by omega⟩ (.cons rfl (.cons rfl (.nil))) rfl (fun i hI l0_ih => ?_)
            refine AS.seq ?_
            refine AS.seq ?_
            refine AS.region rfl ?_
            refine AS.move rfl rfl rfl rfl ?_
            refine AS.fieldAddr rfl rfl rfl rfl TT3.fl38_5 ?_
            refine AS.load rfl rfl rfl rfl TT3.ty36 rfl rfl rfl ?_
            refine AS.len rfl rfl rfl rfl (by first | exact lenT_sl TT3.u36 | exact lenT_ms TT3.u36 | (rw [TT3.u36]; rfl)) rfl (lenMap _ _) ?_
            refine AS.bin rfl rfl rfl rfl rfl (BinR.lss rfl) ?_
            refine AS.opsEnd ?_
            refine AS.cond rfl (fun hc1 => ?_) (fun hc1 => ?_)
            · have hi : i < o.charge.length := by simp only [decide_eq_true_eq] at hc1; omega
              obtain ⟨r, hr⟩ := getAt hi
              refine AS.skip ?_
              refine AS.seq ?_
              refine AS.block ?_
              refine AS.seq ?_
              refine AS.region rfl ?_
              refine AS.fieldAddr rfl rfl rfl rfl TT3.fl38_5 ?_
              refine AS.load rfl rfl rfl rfl TT3.ty36 rfl rfl rfl ?_
              refine AS.move rfl rfl rfl rfl ?_
              refine AS.indexAddr rfl rfl rfl rfl rfl TT3.sl36 (Int.natCast_nonneg _) (map_get _ _ hr) rfl ?_
              refine AS.ifieldAddr rfl rfl rfl rfl TT3.fl116_0 ?_
              refine AS.iload rfl rfl rfl rfl TT3.ty9 rfl rfl rfl ?_
              refine AS.len rfl rfl rfl rfl (by first | exact lenT_str TT3.u9 | exact lenT_ms TT3.u9 | (rw [TT3.u9]; rfl)) rfl rfl ?_
              refine AS.bin rfl rfl rfl rfl rfl (BinR.gtr rfl) ?_
              refine AS.opsEnd ?_
              refine AS.cond rfl (fun hc2 => ?_) (fun hc2 => ?_)
              · refine AS.seq ?_
                refine AS.region rfl ?_
                refine AS.assign rfl rfl rfl rfl ?_
                refine AS.opsEnd ?_
                refine AS.retW Try.func62 rfl (.tmp rfl (.nil)) ?_
                refine RWk.drop [_] rfl ⟨?_, rfl⟩
                have e3 := allR_no hi (p := nameFits o.charge) (by simp only [nameFits, hr, hc2]; rfl)
                show AV.bool _ = AV.bool _
                (simp only [objFitsB, e3, Bool.and_false]) <;> rfl
              · refine AS.skip ?_
                refine AS.inBlock ?_
                refine AS.region rfl ?_
                refine AS.move rfl rfl rfl rfl ?_
                refine AS.bin rfl rfl rfl rfl rfl (BinR.add (w64 (by omega) (by omega))) ?_
                refine AS.assign rfl rfl rfl rfl ?_
                refine AS.opsEnd ?_
                exact AS.nextI (l0_ih (i + 1) ⟨hi, upToL hI.2 (by simp only [nameFits, hr, hc2]; rfl)⟩ (by omega)) [] (.cons rfl (.cons rfl (.nil))) rfl
            · have hall := allR_yes hI.2 (by simp only [decide_eq_false_iff_not] at hc1; omega)
              refine AS.exit rfl ?_
              refine AS.seq ?_
              refine AS.region rfl ?_
              refine AS.assign rfl rfl rfl rfl ?_
              refine AS.opsEnd ?_
              refine AS.retW Try.func62 rfl (.tmp rfl (.nil)) ?_
              refine RWk.drop [_] rfl ⟨?_, rfl⟩
              show AV.bool _ = AV.bool _
              (simp only [objFitsB, hall, g9, g16, g23, g29, hc0, hc1]) <;> rfl
end Go.Proofs.Ytncecheccihjoaa
/- T4 -/
namespace Go.Proofs.Ytncecheccihjoaa.TT4
open Go Go.Proofs.Fw Go.Shelf
theorem en63 : Enters Go.Proofs.Try.prog 63 := enters_of Go.Proofs.Try.func63 (by kernel_rfl) rfl
theorem en71 : Enters Go.Proofs.Try.prog 71 := enters_of Go.Proofs.Try.func71 (by kernel_rfl) rfl
theorem en85 : Enters Go.Proofs.Try.prog 85 := enters_of Go.Proofs.Try.func85 (by kernel_rfl) rfl
theorem en86 : Enters Go.Proofs.Try.prog 86 := enters_of Go.Proofs.Try.func86 (by kernel_rfl) rfl
theorem en87 : Enters Go.Proofs.Try.prog 87 := enters_of Go.Proofs.Try.func87 (by kernel_rfl) rfl
theorem fl116_0 : fldI Go.Proofs.Try.prog 116 0 = some 0 := by kernel_rfl
theorem fl116_1 : fldI Go.Proofs.Try.prog 116 1 = some 1 := by kernel_rfl
theorem fl38_0 : fldI Go.Proofs.Try.prog 38 0 = some 0 := by kernel_rfl
theorem fl38_1 : fldI Go.Proofs.Try.prog 38 1 = some 3 := by kernel_rfl
theorem fl38_2 : fldI Go.Proofs.Try.prog 38 2 = some 4 := by kernel_rfl
theorem fl38_5 : fldI Go.Proofs.Try.prog 38 5 = some 7 := by kernel_rfl
theorem mixed : Go.Proofs.Try.prog.follows .mixedOrders = true := by kernel_rfl
theorem sl36 : sliI Go.Proofs.Try.prog 36 = some (116, 2, 24) := by kernel_rfl
theorem ty116 : tyI Go.Proofs.Try.prog 116 = some (2, true) := by kernel_rfl
theorem ty2 : tyI Go.Proofs.Try.prog 2 = some (1, false) := by kernel_rfl
theorem ty35 : tyI Go.Proofs.Try.prog 35 = some (3, true) := by kernel_rfl
theorem ty36 : tyI Go.Proofs.Try.prog 36 = some (1, false) := by kernel_rfl
theorem ty9 : tyI Go.Proofs.Try.prog 9 = some (1, false) := by kernel_rfl
theorem u36 : Go.Proofs.Try.prog.underlying 36 = some (.slice 116) := by kernel_rfl
theorem z116 : zI Go.Proofs.Try.prog 116 = some (.agg #[(.string ⟨#[]⟩), (.int .i64 0)]) := by kernel_rfl
end Go.Proofs.Ytncecheccihjoaa.TT4
namespace Go.Proofs.Ytncecheccihjoaa
open Go Go.Proofs.Fw Go.Proofs
set_option linter.unusedVariables false
set_option linter.unusedSimpArgs false
set_option maxRecDepth 20000
set_option maxHeartbeats 4000000
theorem object_right (o : Object) (H : AH) (hl : o.charge.length ≤ 1000000) : ACalls Try.prog [] 69 [encObj o] H (fun x H' => x = .bool (objRight o) ∧ H' = H) := by
  refine ACalls.enter (n := 66) Try.func69 rfl rfl (Nat.le_of_ble_eq_true rfl) ?_
  refine AS.seq ?_
  refine AS.region rfl ?_
  refine AS.box rfl rfl rfl rfl rfl ?_
  intro b1
  refine AS.assign rfl rfl rfl rfl ?_
  refine AS.opsEnd ?_
  refine AS.seq ?_
  refine AS.seq ?_
  refine AS.region rfl ?_
  refine AS.fieldAddr rfl rfl rfl rfl TT4.fl38_5 ?_
  refine AS.load rfl rfl rfl rfl TT4.ty36 rfl rfl rfl ?_
  refine AS.len rfl rfl rfl rfl (by first | exact lenT_sl TT4.u36 | exact lenT_ms TT4.u36 | (rw [TT4.u36]; rfl)) rfl (lenMap _ _) ?_
  refine AS.move rfl rfl rfl rfl ?_
  refine AS.opsEnd ?_
  refine AS.block ?_
  refine AS.loopI (α := Nat) (fun i => i ≤ o.charge.length ∧ ∀ j, j < i → j < o.charge.length → resAt o.charge j = true) (fun i => o.charge.length - i) (fun i => [(8, .int .i64 i)]) [(1, _), (7, _)] (fun i => _) 0 ⟨Nat.zero_le _, fun i h => by omega⟩ (.cons rfl (.cons rfl (.cons rfl (.nil)))) rfl (fun i hI l0_ih => ?_)
  refine AS.seq ?_
  refine AS.region rfl ?_
  refine AS.bin rfl rfl rfl rfl rfl (BinR.lss rfl) ?_
  refine AS.opsEnd ?_
  refine AS.seq ?_
  refine AS.cond rfl (fun hc0 => ?_) (fun hc0 => ?_)
  · have hi : i < o.charge.length := by simp only [decide_eq_true_eq] at hc0; omega
    obtain ⟨r, hr⟩ := getAt hi
    obtain ⟨q, hq⟩ := getAt (l := o.charge) (i := i - 1) (by omega)
    refine AS.skip ?_
    refine AS.seq ?_
    refine AS.block ?_
    refine AS.seq ?_
    refine AS.region rfl ?_
    refine AS.move rfl rfl rfl rfl ?_
    refine AS.assign rfl rfl rfl rfl ?_
    refine AS.opsEnd ?_
    refine AS.seq ?_
    refine AS.region rfl ?_
    refine AS.fieldAddr rfl rfl rfl rfl TT4.fl38_5 ?_
    refine AS.load rfl rfl rfl rfl TT4.ty36 rfl rfl rfl ?_
    refine AS.move rfl rfl rfl rfl ?_
    refine AS.indexAddr rfl rfl rfl rfl rfl TT4.sl36 (Int.natCast_nonneg _) (map_get _ _ hr) rfl ?_
    refine AS.iload rfl rfl rfl rfl TT4.ty116 rfl rfl rfl ?_
    refine AS.allocZ rfl rfl rfl TT4.z116 rfl ?_
    intro b4
    refine AS.store rfl rfl rfl rfl rfl rfl TT4.ty116 rfl rfl ?_
    refine AS.opsEnd ?_
    refine AS.seq ?_
    refine SA.start1 TT4.mixed rfl ?_
    refine SA.rd 0 [4] rfl (fun env rest next => AS.fieldAddr rfl rfl rfl rfl TT4.fl116_0 next) ?_
    refine SA.rd 1 [16] rfl (fun env rest next => AS.load rfl rfl rfl rfl TT4.ty9 rfl rfl rfl next) ?_
    refine SA.rd 2 [17] rfl (fun env rest next => AS.callP rfl rfl rfl rfl TT4.en85 (label_right _ _) next) ?_
    refine SA.rd 3 [18] rfl (fun env rest next => AS.not rfl rfl rfl rfl rfl next) ?_
    refine SA.rd 4 [19] rfl (fun env rest next => AS.move rfl rfl rfl rfl next) ?_
    refine SA.splitT (fun g20 => ?_) (fun g20 => ?_)
    · rw [Bool.not_eq_true'] at g20
      refine SA.rd 5 [4, 20] rfl (fun env rest next => AS.pass rfl rfl rfl next) ?_
      refine SA.rd 6 [20, 21] rfl (fun env rest next => AS.pass rfl rfl rfl next) ?_
      refine SA.rd 7 [20, 22] rfl (fun env rest next => AS.pass rfl rfl rfl next) ?_
      refine SA.rd 8 [20, 23] rfl (fun env rest next => AS.pick rfl rfl rfl rfl rfl next) ?_
      refine SA.rd 9 [24] rfl (fun env rest next => AS.move rfl rfl rfl rfl next) ?_
      refine SA.rd 10 [3, 25] rfl (fun env rest next => AS.pass rfl rfl rfl next) ?_
      refine SA.rd 11 [25, 26] rfl (fun env rest next => AS.pass rfl rfl rfl next) ?_
      refine SA.rd 12 [25, 27] rfl (fun env rest next => AS.pass rfl rfl rfl next) ?_
      refine SA.rd 13 [1, 28] rfl (fun env rest next => AS.pass rfl rfl rfl next) ?_
      refine SA.rd 14 [28, 29] rfl (fun env rest next => AS.pass rfl rfl rfl next) ?_
      refine SA.rd 15 [3, 28] rfl (fun env rest next => AS.pass rfl rfl rfl next) ?_
      refine SA.rd 16 [28, 31] rfl (fun env rest next => AS.pass rfl rfl rfl next) ?_
      refine SA.rd 17 [28, 30, 32] rfl (fun env rest next => AS.pass rfl rfl rfl next) ?_
      refine SA.rd 18 [28, 33] rfl (fun env rest next => AS.pass rfl rfl rfl next) ?_
      refine SA.rd 19 [28, 34] rfl (fun env rest next => AS.pass rfl rfl rfl next) ?_
      refine SA.rd 20 [4, 28] rfl (fun env rest next => AS.pass rfl rfl rfl next) ?_
      refine SA.rd 21 [28, 36] rfl (fun env rest next => AS.pass rfl rfl rfl next) ?_
      refine SA.rd 22 [28, 35, 37] rfl (fun env rest next => AS.pass rfl rfl rfl next) ?_
      refine SA.rd 23 [25, 28, 38] rfl (fun env rest next => AS.pass rfl rfl rfl next) ?_
      refine SA.rd 24 [25, 39] rfl (fun env rest next => AS.pick rfl rfl rfl rfl rfl next) ?_
      refine SA.done rfl rfl rfl ?_
      refine AS.condT rfl ?_
      refine AS.seq ?_
      have e3 : resAt o.charge i = false := by rw [resAt_eq hr hq]; (simp only [Bool.and_true, Bool.true_and, Bool.not_true, Bool.not_false, hc0, g20]) <;> rfl
      refine AS.region rfl ?_
      refine AS.assign rfl rfl rfl rfl ?_
      refine AS.opsEnd ?_
      refine AS.retW Try.func69 rfl (.tmp rfl (.nil)) ?_
      refine RWk.drop [_, _] rfl ⟨?_, rfl⟩
      rw [objRight_no (chargeOk_no hi e3)]; rfl
    · rw [Bool.not_eq_false'] at g20
      refine SA.rd 5 [4, 20] rfl (fun env rest next => AS.fieldAddr rfl rfl rfl rfl TT4.fl116_1 next) ?_
      refine SA.rd 6 [20, 21] rfl (fun env rest next => AS.load rfl rfl rfl rfl TT4.ty2 rfl rfl rfl next) ?_
      refine SA.rd 7 [20, 22] rfl (fun env rest next => AS.bin rfl rfl rfl rfl rfl (BinR.lss rfl) next) ?_
      refine SA.rd 8 [20, 23] rfl (fun env rest next => AS.pick rfl rfl rfl rfl rfl next) ?_
      refine SA.rd 9 [24] rfl (fun env rest next => AS.move rfl rfl rfl rfl next) ?_
      refine SA.splitT (fun g25 => ?_) (fun g25 => ?_)
      · refine SA.rd 10 [3, 25] rfl (fun env rest next => AS.pass rfl rfl rfl next) ?_
        refine SA.rd 11 [25, 26] rfl (fun env rest next => AS.pass rfl rfl rfl next) ?_
        refine SA.rd 12 [25, 27] rfl (fun env rest next => AS.pass rfl rfl rfl next) ?_
        refine SA.rd 13 [1, 28] rfl (fun env rest next => AS.pass rfl rfl rfl next) ?_
        refine SA.rd 14 [28, 29] rfl (fun env rest next => AS.pass rfl rfl rfl next) ?_
        refine SA.rd 15 [3, 28] rfl (fun env rest next => AS.pass rfl rfl rfl next) ?_
        refine SA.rd 16 [28, 31] rfl (fun env rest next => AS.pass rfl rfl rfl next) ?_
        refine SA.rd 17 [28, 30, 32] rfl (fun env rest next => AS.pass rfl rfl rfl next) ?_
        refine SA.rd 18 [28, 33] rfl (fun env rest next => AS.pass rfl rfl rfl next) ?_
        refine SA.rd 19 [28, 34] rfl (fun env rest next => AS.pass rfl rfl rfl next) ?_
        refine SA.rd 20 [4, 28] rfl (fun env rest next => AS.pass rfl rfl rfl next) ?_
        refine SA.rd 21 [28, 36] rfl (fun env rest next => AS.pass rfl rfl rfl next) ?_
        refine SA.rd 22 [28, 35, 37] rfl (fun env rest next => AS.pass rfl rfl rfl next) ?_
        refine SA.rd 23 [25, 28, 38] rfl (fun env rest next => AS.pass rfl rfl rfl next) ?_
        refine SA.rd 24 [25, 39] rfl (fun env rest next => AS.pick rfl rfl rfl rfl rfl next) ?_
        refine SA.done rfl rfl rfl ?_
        refine AS.condT rfl ?_
        refine AS.seq ?_
        have e3 : resAt o.charge i = false := by rw [resAt_eq hr hq]; (simp only [Bool.and_true, Bool.true_and, Bool.not_true, Bool.not_false, hc0, g20, g25]) <;> rfl
        refine AS.region rfl ?_
        refine AS.assign rfl rfl rfl rfl ?_
        refine AS.opsEnd ?_
        refine AS.retW Try.func69 rfl (.tmp rfl (.nil)) ?_
        refine RWk.drop [_, _] rfl ⟨?_, rfl⟩
        rw [objRight_no (chargeOk_no hi e3)]; rfl
      · refine SA.rd 10 [3, 25] rfl (fun env rest next => AS.move rfl rfl rfl rfl next) ?_
        refine SA.rd 11 [25, 26] rfl (fun env rest next => AS.bin rfl rfl rfl rfl rfl (BinR.gtr rfl) next) ?_
        refine SA.rd 12 [25, 27] rfl (fun env rest next => AS.move rfl rfl rfl rfl next) ?_
        refine SA.splitT (fun g28 => ?_) (fun g28 => ?_)
        · have hi0 : 0 < i := by simp only [decide_eq_true_eq] at g28; omega
          have hm1 : IntKind.i64.wrap ((i : Int) - 1) = ((i - 1 : Nat) : Int) := by rw [w64 (by omega) (by omega)]; omega
          refine SA.rd 13 [1, 28] rfl (fun env rest next => AS.fieldAddr rfl rfl rfl rfl TT4.fl38_5 next) ?_
          refine SA.rd 14 [28, 29] rfl (fun env rest next => AS.load rfl rfl rfl rfl TT4.ty36 rfl rfl rfl next) ?_
          refine SA.rd 15 [3, 28] rfl (fun env rest next => AS.move rfl rfl rfl rfl next) ?_
          refine SA.rd 16 [28, 31] rfl (fun env rest next => AS.bin rfl rfl rfl rfl rfl (BinR.sub (c := ((i - 1 : Nat) : Int)) hm1) next) ?_
          refine SA.rd 17 [28, 30, 32] rfl (fun env rest next => AS.indexAddr rfl rfl rfl rfl rfl TT4.sl36 (Int.natCast_nonneg _) (map_get _ _ hq) rfl next) ?_
          refine SA.rd 18 [28, 33] rfl (fun env rest next => AS.ifieldAddr rfl rfl rfl rfl TT4.fl116_0 next) ?_
          refine SA.rd 19 [28, 34] rfl (fun env rest next => AS.iload rfl rfl rfl rfl TT4.ty9 rfl rfl rfl next) ?_
          refine SA.rd 20 [4, 28] rfl (fun env rest next => AS.fieldAddr rfl rfl rfl rfl TT4.fl116_0 next) ?_
          refine SA.rd 21 [28, 36] rfl (fun env rest next => AS.load rfl rfl rfl rfl TT4.ty9 rfl rfl rfl next) ?_
          refine SA.rd 22 [28, 35, 37] rfl (fun env rest next => AS.bin rfl rfl rfl rfl rfl (BinR.sgeq rfl) next) ?_
          refine SA.rd 23 [25, 28, 38] rfl (fun env rest next => AS.pick rfl rfl rfl rfl rfl next) ?_
          refine SA.rd 24 [25, 39] rfl (fun env rest next => AS.pick rfl rfl rfl rfl rfl next) ?_
          refine SA.done rfl rfl rfl ?_
          refine AS.cond rfl (fun hc1 => ?_) (fun hc1 => ?_)
          · rw [Bool.not_eq_true'] at hc1
            refine AS.seq ?_
            have e3 : resAt o.charge i = false := by rw [resAt_eq hr hq]; (simp only [Bool.and_true, Bool.true_and, Bool.not_true, Bool.not_false, hc0, g20, g25, g28, hc1]) <;> rfl
            refine AS.region rfl ?_
            refine AS.assign rfl rfl rfl rfl ?_
            refine AS.opsEnd ?_
            refine AS.retW Try.func69 rfl (.tmp rfl (.nil)) ?_
            refine RWk.drop [_, _] rfl ⟨?_, rfl⟩
            rw [objRight_no (chargeOk_no hi e3)]; rfl
          · rw [Bool.not_eq_false'] at hc1
            refine AS.skip ?_
            refine AS.inBlock ?_
            have e3 : resAt o.charge i = true := by rw [resAt_eq hr hq]; (simp only [Bool.and_true, Bool.true_and, Bool.not_true, Bool.not_false, hc0, g20, g25, g28, hc1]) <;> rfl
            refine AS.region rfl ?_
            refine AS.bin rfl rfl rfl rfl rfl (BinR.add (w64 (by omega) (by omega))) ?_
            refine AS.move rfl rfl rfl rfl ?_
            refine AS.opsEnd ?_
            exact AS.nextI (l0_ih (i + 1) ⟨hi, upToL hI.2 e3⟩ (by omega)) [_] (.cons rfl (.cons rfl (.cons rfl (.nil)))) rfl
        · refine SA.rd 13 [1, 28] rfl (fun env rest next => AS.pass rfl rfl rfl next) ?_
          refine SA.rd 14 [28, 29] rfl (fun env rest next => AS.pass rfl rfl rfl next) ?_
          refine SA.rd 15 [3, 28] rfl (fun env rest next => AS.pass rfl rfl rfl next) ?_
          refine SA.rd 16 [28, 31] rfl (fun env rest next => AS.pass rfl rfl rfl next) ?_
          refine SA.rd 17 [28, 30, 32] rfl (fun env rest next => AS.pass rfl rfl rfl next) ?_
          refine SA.rd 18 [28, 33] rfl (fun env rest next => AS.pass rfl rfl rfl next) ?_
          refine SA.rd 19 [28, 34] rfl (fun env rest next => AS.pass rfl rfl rfl next) ?_
          refine SA.rd 20 [4, 28] rfl (fun env rest next => AS.pass rfl rfl rfl next) ?_
          refine SA.rd 21 [28, 36] rfl (fun env rest next => AS.pass rfl rfl rfl next) ?_
          refine SA.rd 22 [28, 35, 37] rfl (fun env rest next => AS.pass rfl rfl rfl next) ?_
          refine SA.rd 23 [25, 28, 38] rfl (fun env rest next => AS.pick rfl rfl rfl rfl rfl next) ?_
          refine SA.rd 24 [25, 39] rfl (fun env rest next => AS.pick rfl rfl rfl rfl rfl next) ?_
          refine SA.done rfl rfl rfl ?_
          refine AS.condF rfl ?_
          refine AS.skip ?_
          refine AS.inBlock ?_
          have e3 : resAt o.charge i = true := by rw [resAt_eq hr hq]; (simp only [Bool.and_true, Bool.true_and, Bool.not_true, Bool.not_false, hc0, g20, g25, g28]) <;> rfl
          refine AS.region rfl ?_
          refine AS.bin rfl rfl rfl rfl rfl (BinR.add (w64 (by omega) (by omega))) ?_
          refine AS.move rfl rfl rfl rfl ?_
          refine AS.opsEnd ?_
          exact AS.nextI (l0_ih (i + 1) ⟨hi, upToL hI.2 e3⟩ (by omega)) [_] (.cons rfl (.cons rfl (.cons rfl (.nil)))) rfl
  · have hall : chargeOk o.charge = true := allR_yes hI.2 (by simp only [decide_eq_false_iff_not] at hc0; omega)
    refine AS.exit rfl ?_
    refine AS.seq ?_
    refine AS.region rfl ?_
    refine AS.fieldAddr rfl rfl rfl rfl TT4.fl38_0 ?_
    refine AS.load rfl rfl rfl rfl TT4.ty35 rfl rfl rfl ?_
    refine AS.callP rfl rfl rfl rfl TT4.en71 (label_key _ _) ?_
    refine AS.move rfl rfl rfl rfl ?_
    refine AS.splitT 45 rfl (fun g45 => ?_) (fun g45 => ?_)
    · refine AS.fieldAddr rfl rfl rfl rfl TT4.fl38_1 ?_
      refine AS.load rfl rfl rfl rfl TT4.ty2 rfl rfl rfl ?_
      refine AS.bin rfl rfl rfl rfl rfl (BinR.geq rfl) ?_
      refine AS.pick rfl rfl rfl rfl rfl ?_
      refine AS.move rfl rfl rfl rfl ?_
      refine AS.splitT 50 rfl (fun g50 => ?_) (fun g50 => ?_)
      · refine AS.fieldAddr rfl rfl rfl rfl TT4.fl38_2 ?_
        refine AS.load rfl rfl rfl rfl TT4.ty9 rfl rfl rfl ?_
        refine AS.bin rfl rfl rfl rfl rfl (BinR.seql rfl) ?_
        refine AS.move rfl rfl rfl rfl ?_
        refine AS.splitT 54 rfl (fun g54 => ?_) (fun g54 => ?_)
        · refine AS.pass rfl rfl rfl ?_
          refine AS.pass rfl rfl rfl ?_
          refine AS.pass rfl rfl rfl ?_
          refine AS.pick rfl rfl rfl rfl rfl ?_
          refine AS.pick rfl rfl rfl rfl rfl ?_
          refine AS.move rfl rfl rfl rfl ?_
          refine AS.fieldAddr rfl rfl rfl rfl TT4.fl38_5 ?_
          refine AS.load rfl rfl rfl rfl TT4.ty36 rfl rfl rfl ?_
          refine AS.len rfl rfl rfl rfl (by first | exact lenT_sl TT4.u36 | exact lenT_ms TT4.u36 | (rw [TT4.u36]; rfl)) rfl (lenMap _ _) ?_
          refine AS.bin rfl rfl rfl rfl rfl (BinR.leq rfl) ?_
          refine AS.pick rfl rfl rfl rfl rfl ?_
          refine AS.assign rfl rfl rfl rfl ?_
          refine AS.opsEnd ?_
          refine AS.retW Try.func69 rfl (.tmp rfl (.nil)) ?_
          refine RWk.drop [_] rfl ⟨?_, rfl⟩
          show AV.bool _ = AV.bool _
          (simp only [objRight, clsOk, hall, Bool.and_true, Bool.true_and, Bool.true_or, Bool.false_or, hc0, g45, g50, g54]) <;> rfl
        · refine AS.fieldAddr rfl rfl rfl rfl TT4.fl38_2 ?_
          refine AS.load rfl rfl rfl rfl TT4.ty9 rfl rfl rfl ?_
          refine AS.callP rfl rfl rfl rfl TT4.en85 (label_right _ _) ?_
          refine AS.pick rfl rfl rfl rfl rfl ?_
          refine AS.pick rfl rfl rfl rfl rfl ?_
          refine AS.move rfl rfl rfl rfl ?_
          refine AS.splitT 60 rfl (fun g60 => ?_) (fun g60 => ?_)
          · refine AS.fieldAddr rfl rfl rfl rfl TT4.fl38_5 ?_
            refine AS.load rfl rfl rfl rfl TT4.ty36 rfl rfl rfl ?_
            refine AS.len rfl rfl rfl rfl (by first | exact lenT_sl TT4.u36 | exact lenT_ms TT4.u36 | (rw [TT4.u36]; rfl)) rfl (lenMap _ _) ?_
            refine AS.bin rfl rfl rfl rfl rfl (BinR.leq rfl) ?_
            refine AS.pick rfl rfl rfl rfl rfl ?_
            refine AS.assign rfl rfl rfl rfl ?_
            refine AS.opsEnd ?_
            refine AS.retW Try.func69 rfl (.tmp rfl (.nil)) ?_
            refine RWk.drop [_] rfl ⟨?_, rfl⟩
            show AV.bool _ = AV.bool _
            (simp only [objRight, clsOk, hall, Bool.and_true, Bool.true_and, Bool.true_or, Bool.false_or, hc0, g45, g50, g54, g60]) <;> rfl
          · refine AS.pass rfl rfl rfl ?_
            refine AS.pass rfl rfl rfl ?_
            refine AS.pass rfl rfl rfl ?_
            refine AS.pass rfl rfl rfl ?_
            refine AS.pick rfl rfl rfl rfl rfl ?_
            refine AS.assign rfl rfl rfl rfl ?_
            refine AS.opsEnd ?_
            refine AS.retW Try.func69 rfl (.tmp rfl (.nil)) ?_
            refine RWk.drop [_] rfl ⟨?_, rfl⟩
            show AV.bool _ = AV.bool _
            (simp only [objRight, clsOk, hall, Bool.and_true, Bool.true_and, Bool.true_or, Bool.false_or, hc0, g45, g50, g54, g60]) <;> rfl
      · refine AS.pass rfl rfl rfl ?_
        refine AS.pass rfl rfl rfl ?_
        refine AS.pass rfl rfl rfl ?_
        refine AS.pass rfl rfl rfl ?_
        refine AS.pass rfl rfl rfl ?_
        refine AS.pass rfl rfl rfl ?_
        refine AS.pass rfl rfl rfl ?_
        refine AS.pass rfl rfl rfl ?_
        refine AS.pick rfl rfl rfl rfl rfl ?_
        refine AS.move rfl rfl rfl rfl ?_
        refine AS.pass rfl rfl rfl ?_
        refine AS.pass rfl rfl rfl ?_
        refine AS.pass rfl rfl rfl ?_
        refine AS.pass rfl rfl rfl ?_
        refine AS.pick rfl rfl rfl rfl rfl ?_
        refine AS.assign rfl rfl rfl rfl ?_
        refine AS.opsEnd ?_
        refine AS.retW Try.func69 rfl (.tmp rfl (.nil)) ?_
        refine RWk.drop [_] rfl ⟨?_, rfl⟩
        show AV.bool _ = AV.bool _
        (simp only [objRight, clsOk, hall, Bool.and_true, Bool.true_and, Bool.true_or, Bool.false_or, hc0, g45, g50]) <;> rfl
    · refine AS.pass rfl rfl rfl ?_
      refine AS.pass rfl rfl rfl ?_
      refine AS.pass rfl rfl rfl ?_
      refine AS.pick rfl rfl rfl rfl rfl ?_
      refine AS.move rfl rfl rfl rfl ?_
      refine AS.pass rfl rfl rfl ?_
      refine AS.pass rfl rfl rfl ?_
      refine AS.pass rfl rfl rfl ?_
      refine AS.pass rfl rfl rfl ?_
      refine AS.pass rfl rfl rfl ?_
      refine AS.pass rfl rfl rfl ?_
      refine AS.pass rfl rfl rfl ?_
      refine AS.pass rfl rfl rfl ?_
      refine AS.pick rfl rfl rfl rfl rfl ?_
      refine AS.move rfl rfl rfl rfl ?_
      refine AS.pass rfl rfl rfl ?_
      refine AS.pass rfl rfl rfl ?_
      refine AS.pass rfl rfl rfl ?_
      refine AS.pass rfl rfl rfl ?_
      refine AS.pick rfl rfl rfl rfl rfl ?_
      refine AS.assign rfl rfl rfl rfl ?_
      refine AS.opsEnd ?_
      refine AS.retW Try.func69 rfl (.tmp rfl (.nil)) ?_
      refine RWk.drop [_] rfl ⟨?_, rfl⟩
      show AV.bool _ = AV.bool _
      (simp only [objRight, clsOk, hall, Bool.and_true, Bool.true_and, Bool.true_or, Bool.false_or, hc0, g45]) <;> rfl
theorem ref_object (o : Object) (H : AH) (hl : objFits o) : ACalls Try.prog [] 64 [encObj o] H (fun x H' => x = .bool (objRight o) ∧ H' = H) := by
  obtain ⟨hl1, hl2, hl3, hl4⟩ := hl
  have hl5 : ∀ (i : Nat) (r : Res), o.charge[i]? = some r → r.name.size ≤ 1000 := fun i r h => Nat.le_trans (hl4 i r h) (by decide)
  refine ACalls.enter (n := 79) Try.func64 rfl rfl (Nat.le_of_ble_eq_true rfl) ?_
  refine AS.seq ?_
  refine AS.region rfl ?_
  refine AS.box rfl rfl rfl rfl rfl ?_
  intro b1
  refine AS.assign rfl rfl rfl rfl ?_
  refine AS.opsEnd ?_
  refine AS.seq ?_
  refine AS.region rfl ?_
  refine AS.fieldAddr rfl rfl rfl rfl TT4.fl38_0 ?_
  refine AS.load rfl rfl rfl rfl TT4.ty35 rfl rfl rfl ?_
  refine AS.callP rfl rfl rfl rfl TT4.en63 (ref_key _ _) ?_
  refine AS.assign rfl rfl rfl rfl ?_
  refine AS.opsEnd ?_
  refine AS.seq ?_
  refine AS.region rfl ?_
  refine AS.fieldAddr rfl rfl rfl rfl TT4.fl38_2 ?_
  refine AS.load rfl rfl rfl rfl TT4.ty9 rfl rfl rfl ?_
  refine AS.callP rfl rfl rfl rfl TT4.en86 (ref_right _ _) ?_
  refine AS.assign rfl rfl rfl rfl ?_
  refine AS.opsEnd ?_
  refine AS.seq ?_
  refine AS.seq ?_
  refine AS.region rfl ?_
  refine AS.move rfl rfl rfl rfl ?_
  refine AS.not rfl rfl rfl rfl rfl ?_
  refine AS.move rfl rfl rfl rfl ?_
  refine AS.splitT 16 rfl (fun g16 => ?_) (fun g16 => ?_)
  · rw [Bool.not_eq_true'] at g16
    refine AS.pass rfl rfl rfl ?_
    refine AS.pass rfl rfl rfl ?_
    refine AS.pass rfl rfl rfl ?_
    refine AS.pass rfl rfl rfl ?_
    refine AS.pass rfl rfl rfl ?_
    refine AS.pass rfl rfl rfl ?_
    refine AS.pass rfl rfl rfl ?_
    refine AS.pick rfl rfl rfl rfl rfl ?_
    refine AS.move rfl rfl rfl rfl ?_
    refine AS.pass rfl rfl rfl ?_
    refine AS.pass rfl rfl rfl ?_
    refine AS.pass rfl rfl rfl ?_
    refine AS.pick rfl rfl rfl rfl rfl ?_
    refine AS.move rfl rfl rfl rfl ?_
    refine AS.pass rfl rfl rfl ?_
    refine AS.pass rfl rfl rfl ?_
    refine AS.pass rfl rfl rfl ?_
    refine AS.pass rfl rfl rfl ?_
    refine AS.pick rfl rfl rfl rfl rfl ?_
    refine AS.opsEnd ?_
    refine AS.condT rfl ?_
    refine AS.seq ?_
    refine AS.region rfl ?_
    refine AS.assign rfl rfl rfl rfl ?_
    refine AS.opsEnd ?_
    refine AS.retW Try.func64 rfl (.tmp rfl (.nil)) ?_
    refine RWk.drop [_] rfl ⟨?_, rfl⟩
    rw [objRight_alt]
    show AV.bool _ = AV.bool _
    (simp only [Bool.and_true, Bool.true_and, Bool.not_true, Bool.not_false, Bool.and_false, Bool.false_and, g16]) <;> rfl
  · rw [Bool.not_eq_false'] at g16
    refine AS.move rfl rfl rfl rfl ?_
    refine AS.not rfl rfl rfl rfl rfl ?_
    refine AS.move rfl rfl rfl rfl ?_
    refine AS.splitT 19 rfl (fun g19 => ?_) (fun g19 => ?_)
    · rw [Bool.not_eq_true'] at g19
      refine AS.fieldAddr rfl rfl rfl rfl TT4.fl38_2 ?_
      refine AS.load rfl rfl rfl rfl TT4.ty9 rfl rfl rfl ?_
      refine AS.bin rfl rfl rfl rfl rfl (BinR.sneq rfl) ?_
      refine AS.pick rfl rfl rfl rfl rfl ?_
      refine AS.pick rfl rfl rfl rfl rfl ?_
      refine AS.move rfl rfl rfl rfl ?_
      refine AS.splitT 25 rfl (fun g25 => ?_) (fun g25 => ?_)
      · refine AS.pass rfl rfl rfl ?_
        refine AS.pass rfl rfl rfl ?_
        refine AS.pass rfl rfl rfl ?_
        refine AS.pick rfl rfl rfl rfl rfl ?_
        refine AS.move rfl rfl rfl rfl ?_
        refine AS.pass rfl rfl rfl ?_
        refine AS.pass rfl rfl rfl ?_
        refine AS.pass rfl rfl rfl ?_
        refine AS.pass rfl rfl rfl ?_
        refine AS.pick rfl rfl rfl rfl rfl ?_
        refine AS.opsEnd ?_
        refine AS.condT rfl ?_
        refine AS.seq ?_
        refine AS.region rfl ?_
        refine AS.assign rfl rfl rfl rfl ?_
        refine AS.opsEnd ?_
        refine AS.retW Try.func64 rfl (.tmp rfl (.nil)) ?_
        refine RWk.drop [_] rfl ⟨?_, rfl⟩
        rw [objRight_alt]
        show AV.bool _ = AV.bool _
        (simp only [Bool.and_true, Bool.true_and, Bool.not_true, Bool.not_false, Bool.and_false, Bool.false_and, g16, g19, g25]) <;> rfl
      · refine AS.fieldAddr rfl rfl rfl rfl TT4.fl38_1 ?_
        refine AS.load rfl rfl rfl rfl TT4.ty2 rfl rfl rfl ?_
        refine AS.bin rfl rfl rfl rfl rfl (BinR.lss rfl) ?_
        refine AS.pick rfl rfl rfl rfl rfl ?_
        refine AS.move rfl rfl rfl rfl ?_
        refine AS.splitT 30 rfl (fun g30 => ?_) (fun g30 => ?_)
        · refine AS.pass rfl rfl rfl ?_
          refine AS.pass rfl rfl rfl ?_
          refine AS.pass rfl rfl rfl ?_
          refine AS.pass rfl rfl rfl ?_
          refine AS.pick rfl rfl rfl rfl rfl ?_
          refine AS.opsEnd ?_
          refine AS.condT rfl ?_
          refine AS.seq ?_
          refine AS.region rfl ?_
          refine AS.assign rfl rfl rfl rfl ?_
          refine AS.opsEnd ?_
          refine AS.retW Try.func64 rfl (.tmp rfl (.nil)) ?_
          refine RWk.drop [_] rfl ⟨?_, rfl⟩
          rw [objRight_alt]
          show AV.bool _ = AV.bool _
          (simp only [Bool.and_true, Bool.true_and, Bool.not_true, Bool.not_false, Bool.and_false, Bool.false_and, g16, g19, g25, g30]) <;> rfl
        · refine AS.fieldAddr rfl rfl rfl rfl TT4.fl38_5 ?_
          refine AS.load rfl rfl rfl rfl TT4.ty36 rfl rfl rfl ?_
          refine AS.len rfl rfl rfl rfl (by first | exact lenT_sl TT4.u36 | exact lenT_ms TT4.u36 | (rw [TT4.u36]; rfl)) rfl (lenMap _ _) ?_
          refine AS.bin rfl rfl rfl rfl rfl (BinR.gtr rfl) ?_
          refine AS.pick rfl rfl rfl rfl rfl ?_
          refine AS.opsEnd ?_
          refine AS.cond rfl (fun hc0 => ?_) (fun hc0 => ?_)
          · refine AS.seq ?_
            refine AS.region rfl ?_
            refine AS.assign rfl rfl rfl rfl ?_
            refine AS.opsEnd ?_
            refine AS.retW Try.func64 rfl (.tmp rfl (.nil)) ?_
            refine RWk.drop [_] rfl ⟨?_, rfl⟩
            rw [objRight_alt]
            show AV.bool _ = AV.bool _
            (simp only [Bool.and_true, Bool.true_and, Bool.not_true, Bool.not_false, Bool.and_false, Bool.false_and, g16, g19, g25, g30, hc0]) <;> rfl
          · refine AS.skip ?_
            refine AS.seq ?_
            refine AS.seq ?_
            refine AS.region rfl ?_
            refine AS.assign rfl rfl rfl rfl ?_
            refine AS.opsEnd ?_
            refine AS.block ?_
            refine AS.loopI (α := Nat) (fun i => i ≤ o.charge.length ∧ ∀ j, j < i → j < o.charge.length → resAt o.charge j = true) (fun i => o.charge.length - i) (fun i => [(5, .int .i64 i)]) [(1, _)] (fun i => _) 0 ⟨Nat.zero_le _, fun i h => by omega⟩ (.cons rfl (.cons rfl (.nil))) rfl (fun i hI l0_ih => ?_)
            refine AS.seq ?_
            refine AS.seq ?_
            refine AS.region rfl ?_
            refine AS.move rfl rfl rfl rfl ?_
            refine AS.fieldAddr rfl rfl rfl rfl TT4.fl38_5 ?_
            refine AS.load rfl rfl rfl rfl TT4.ty36 rfl rfl rfl ?_
            refine AS.len rfl rfl rfl rfl (by first | exact lenT_sl TT4.u36 | exact lenT_ms TT4.u36 | (rw [TT4.u36]; rfl)) rfl (lenMap _ _) ?_
            refine AS.bin rfl rfl rfl rfl rfl (BinR.lss rfl) ?_
            refine AS.opsEnd ?_
            refine AS.cond rfl (fun hc1 => ?_) (fun hc1 => ?_)
            · have hi : i < o.charge.length := by simp only [decide_eq_true_eq] at hc1; omega
              obtain ⟨r, hr⟩ := getAt hi
              obtain ⟨q, hq⟩ := getAt (l := o.charge) (i := i - 1) (by omega)
              refine AS.skip ?_
              refine AS.seq ?_
              refine AS.block ?_
              refine AS.seq ?_
              refine AS.region rfl ?_
              refine AS.fieldAddr rfl rfl rfl rfl TT4.fl38_5 ?_
              refine AS.load rfl rfl rfl rfl TT4.ty36 rfl rfl rfl ?_
              refine AS.move rfl rfl rfl rfl ?_
              refine AS.indexAddr rfl rfl rfl rfl rfl TT4.sl36 (Int.natCast_nonneg _) (map_get _ _ hr) rfl ?_
              refine AS.ifieldAddr rfl rfl rfl rfl TT4.fl116_0 ?_
              refine AS.iload rfl rfl rfl rfl TT4.ty9 rfl rfl rfl ?_
              refine AS.callP rfl rfl rfl rfl TT4.en86 (ref_right _ _) ?_
              refine AS.assign rfl rfl rfl rfl ?_
              refine AS.opsEnd ?_
              refine AS.seq ?_
              refine AS.seq ?_
              refine AS.region rfl ?_
              refine AS.move rfl rfl rfl rfl ?_
              refine AS.not rfl rfl rfl rfl rfl ?_
              refine AS.move rfl rfl rfl rfl ?_
              refine AS.splitT 52 rfl (fun g52 => ?_) (fun g52 => ?_)
              · rw [Bool.not_eq_true'] at g52
                refine AS.pass rfl rfl rfl ?_
                refine AS.pass rfl rfl rfl ?_
                refine AS.pass rfl rfl rfl ?_
                refine AS.pass rfl rfl rfl ?_
                refine AS.pass rfl rfl rfl ?_
                refine AS.pass rfl rfl rfl ?_
                refine AS.pass rfl rfl rfl ?_
                refine AS.pick rfl rfl rfl rfl rfl ?_
                refine AS.opsEnd ?_
                refine AS.condT rfl ?_
                refine AS.seq ?_
                refine AS.region rfl ?_
                refine AS.assign rfl rfl rfl rfl ?_
                refine AS.opsEnd ?_
                refine AS.retW Try.func64 rfl (.tmp rfl (.nil)) ?_
                have e3 : resAt o.charge i = false := by rw [resAt_eq hr hq]; (simp only [Bool.and_true, Bool.true_and, Bool.not_true, Bool.not_false, g16, g19, g25, g30, hc0, hc1, g52]) <;> rfl
                refine RWk.drop [_] rfl ⟨?_, rfl⟩
                rw [objRight_no (chargeOk_no hi e3)]; rfl
              · rw [Bool.not_eq_false'] at g52
                refine AS.fieldAddr rfl rfl rfl rfl TT4.fl38_5 ?_
                refine AS.load rfl rfl rfl rfl TT4.ty36 rfl rfl rfl ?_
                refine AS.move rfl rfl rfl rfl ?_
                refine AS.indexAddr rfl rfl rfl rfl rfl TT4.sl36 (Int.natCast_nonneg _) (map_get _ _ hr) rfl ?_
                refine AS.ifieldAddr rfl rfl rfl rfl TT4.fl116_1 ?_
                refine AS.iload rfl rfl rfl rfl TT4.ty2 rfl rfl rfl ?_
                refine AS.bin rfl rfl rfl rfl rfl (BinR.lss rfl) ?_
                refine AS.pick rfl rfl rfl rfl rfl ?_
                refine AS.opsEnd ?_
                refine AS.cond rfl (fun hc2 => ?_) (fun hc2 => ?_)
                · refine AS.seq ?_
                  refine AS.region rfl ?_
                  refine AS.assign rfl rfl rfl rfl ?_
                  refine AS.opsEnd ?_
                  refine AS.retW Try.func64 rfl (.tmp rfl (.nil)) ?_
                  have e3 : resAt o.charge i = false := by rw [resAt_eq hr hq]; (simp only [Bool.and_true, Bool.true_and, Bool.not_true, Bool.not_false, g16, g19, g25, g30, hc0, hc1, g52, hc2]) <;> rfl
                  refine RWk.drop [_] rfl ⟨?_, rfl⟩
                  rw [objRight_no (chargeOk_no hi e3)]; rfl
                · refine AS.skip ?_
                  refine AS.seq ?_
                  refine AS.region rfl ?_
                  refine AS.move rfl rfl rfl rfl ?_
                  refine AS.bin rfl rfl rfl rfl rfl (BinR.gtr rfl) ?_
                  refine AS.opsEnd ?_
                  refine AS.cond rfl (fun hc3 => ?_) (fun hc3 => ?_)
                  · have hi0 : 0 < i := by simp only [decide_eq_true_eq] at hc3; omega
                    have hm1 : IntKind.i64.wrap ((i : Int) - 1) = ((i - 1 : Nat) : Int) := by rw [w64 (by omega) (by omega)]; omega
                    refine AS.seq ?_
                    refine SA.start1 TT4.mixed rfl ?_
                    refine SA.rd 0 [1] rfl (fun env rest next => AS.fieldAddr rfl rfl rfl rfl TT4.fl38_5 next) ?_
                    refine SA.rd 1 [63] rfl (fun env rest next => AS.load rfl rfl rfl rfl TT4.ty36 rfl rfl rfl next) ?_
                    refine SA.rd 2 [5] rfl (fun env rest next => AS.move rfl rfl rfl rfl next) ?_
                    refine SA.rd 3 [65] rfl (fun env rest next => AS.bin rfl rfl rfl rfl rfl (BinR.sub (c := ((i - 1 : Nat) : Int)) hm1) next) ?_
                    refine SA.rd 4 [64, 66] rfl (fun env rest next => AS.indexAddr rfl rfl rfl rfl rfl TT4.sl36 (Int.natCast_nonneg _) (map_get _ _ hq) rfl next) ?_
                    refine SA.rd 5 [67] rfl (fun env rest next => AS.ifieldAddr rfl rfl rfl rfl TT4.fl116_0 next) ?_
                    refine SA.rd 6 [68] rfl (fun env rest next => AS.iload rfl rfl rfl rfl TT4.ty9 rfl rfl rfl next) ?_
                    refine SA.rd 7 [1] rfl (fun env rest next => AS.fieldAddr rfl rfl rfl rfl TT4.fl38_5 next) ?_
                    refine SA.rd 8 [70] rfl (fun env rest next => AS.load rfl rfl rfl rfl TT4.ty36 rfl rfl rfl next) ?_
                    refine SA.rd 9 [5] rfl (fun env rest next => AS.move rfl rfl rfl rfl next) ?_
                    refine SA.rd 10 [71, 72] rfl (fun env rest next => AS.indexAddr rfl rfl rfl rfl rfl TT4.sl36 (Int.natCast_nonneg _) (map_get _ _ hr) rfl next) ?_
                    refine SA.rd 11 [73] rfl (fun env rest next => AS.ifieldAddr rfl rfl rfl rfl TT4.fl116_0 next) ?_
                    refine SA.rd 12 [74] rfl (fun env rest next => AS.iload rfl rfl rfl rfl TT4.ty9 rfl rfl rfl next) ?_
                    refine SA.rd 13 [69, 75] rfl (fun env rest next => AS.callP rfl rfl rfl rfl TT4.en87 (before_spec _ _ _ (hl5 _ _ hq) (hl5 _ _ hr)) next) ?_
                    refine SA.rd 14 [76] rfl (fun env rest next => AS.assign rfl rfl rfl rfl next) ?_
                    refine SA.done rfl rfl rfl ?_
                    refine AS.seq ?_
                    refine AS.region rfl ?_
                    refine AS.move rfl rfl rfl rfl ?_
                    refine AS.not rfl rfl rfl rfl rfl ?_
                    refine AS.opsEnd ?_
                    refine AS.cond rfl (fun hc4 => ?_) (fun hc4 => ?_)
                    · rw [Bool.not_eq_true'] at hc4
                      refine AS.seq ?_
                      refine AS.region rfl ?_
                      refine AS.assign rfl rfl rfl rfl ?_
                      refine AS.opsEnd ?_
                      refine AS.retW Try.func64 rfl (.tmp rfl (.nil)) ?_
                      have e3 : resAt o.charge i = false := by rw [resAt_eq hr hq]; (simp only [Bool.and_true, Bool.true_and, Bool.not_true, Bool.not_false, g16, g19, g25, g30, hc0, hc1, g52, hc2, hc3, hc4]) <;> rfl
                      refine RWk.drop [_] rfl ⟨?_, rfl⟩
                      rw [objRight_no (chargeOk_no hi e3)]; rfl
                    · rw [Bool.not_eq_false'] at hc4
                      refine AS.skip ?_
                      refine AS.inBlock ?_
                      have e3 : resAt o.charge i = true := by rw [resAt_eq hr hq]; (simp only [Bool.and_true, Bool.true_and, Bool.not_true, Bool.not_false, g16, g19, g25, g30, hc0, hc1, g52, hc2, hc3, hc4]) <;> rfl
                      refine AS.region rfl ?_
                      refine AS.move rfl rfl rfl rfl ?_
                      refine AS.bin rfl rfl rfl rfl rfl (BinR.add (w64 (by omega) (by omega))) ?_
                      refine AS.assign rfl rfl rfl rfl ?_
                      refine AS.opsEnd ?_
                      exact AS.nextI (l0_ih (i + 1) ⟨hi, upToL hI.2 e3⟩ (by omega)) [] (.cons rfl (.cons rfl (.nil))) rfl
                  · refine AS.skip ?_
                    refine AS.inBlock ?_
                    have e3 : resAt o.charge i = true := by rw [resAt_eq hr hq]; (simp only [Bool.and_true, Bool.true_and, Bool.not_true, Bool.not_false, g16, g19, g25, g30, hc0, hc1, g52, hc2, hc3]) <;> rfl
                    refine AS.region rfl ?_
                    refine AS.move rfl rfl rfl rfl ?_
                    refine AS.bin rfl rfl rfl rfl rfl (BinR.add (w64 (by omega) (by omega))) ?_
                    refine AS.assign rfl rfl rfl rfl ?_
                    refine AS.opsEnd ?_
                    exact AS.nextI (l0_ih (i + 1) ⟨hi, upToL hI.2 e3⟩ (by omega)) [] (.cons rfl (.cons rfl (.nil))) rfl
            · have hall : chargeOk o.charge = true := allR_yes hI.2 (by simp only [decide_eq_false_iff_not] at hc1; omega)
              refine AS.exit rfl ?_
              refine AS.seq ?_
              refine AS.region rfl ?_
              refine AS.assign rfl rfl rfl rfl ?_
              refine AS.opsEnd ?_
              refine AS.retW Try.func64 rfl (.tmp rfl (.nil)) ?_
              refine RWk.drop [_] rfl ⟨?_, rfl⟩
              rw [objRight_alt]
              show AV.bool _ = AV.bool _
              (simp only [hall, Bool.and_true, Bool.true_and, Bool.not_true, Bool.not_false, Bool.and_false, Bool.false_and, g16, g19, g25, g30, hc0, hc1]) <;> rfl
    · rw [Bool.not_eq_false'] at g19
      refine AS.pass rfl rfl rfl ?_
      refine AS.pass rfl rfl rfl ?_
      refine AS.pass rfl rfl rfl ?_
      refine AS.pick rfl rfl rfl rfl rfl ?_
      refine AS.pick rfl rfl rfl rfl rfl ?_
      refine AS.move rfl rfl rfl rfl ?_
      refine AS.fieldAddr rfl rfl rfl rfl TT4.fl38_1 ?_
      refine AS.load rfl rfl rfl rfl TT4.ty2 rfl rfl rfl ?_
      refine AS.bin rfl rfl rfl rfl rfl (BinR.lss rfl) ?_
      refine AS.pick rfl rfl rfl rfl rfl ?_
      refine AS.move rfl rfl rfl rfl ?_
      refine AS.splitT 30 rfl (fun g30 => ?_) (fun g30 => ?_)
      · refine AS.pass rfl rfl rfl ?_
        refine AS.pass rfl rfl rfl ?_
        refine AS.pass rfl rfl rfl ?_
        refine AS.pass rfl rfl rfl ?_
        refine AS.pick rfl rfl rfl rfl rfl ?_
        refine AS.opsEnd ?_
        refine AS.condT rfl ?_
        refine AS.seq ?_
        refine AS.region rfl ?_
        refine AS.assign rfl rfl rfl rfl ?_
        refine AS.opsEnd ?_
        refine AS.retW Try.func64 rfl (.tmp rfl (.nil)) ?_
        refine RWk.drop [_] rfl ⟨?_, rfl⟩
        rw [objRight_alt]
        show AV.bool _ = AV.bool _
        (simp only [Bool.and_true, Bool.true_and, Bool.not_true, Bool.not_false, Bool.and_false, Bool.false_and, g16, g19, g30]) <;> rfl
      · refine AS.fieldAddr rfl rfl rfl rfl TT4.fl38_5 ?_
        refine AS.load rfl rfl rfl rfl TT4.ty36 rfl rfl rfl ?_
        refine AS.len rfl rfl rfl rfl (by first | exact lenT_sl TT4.u36 | exact lenT_ms TT4.u36 | (rw [TT4.u36]; rfl)) rfl (lenMap _ _) ?_
        refine AS.bin rfl rfl rfl rfl rfl (BinR.gtr rfl) ?_
        refine AS.pick rfl rfl rfl rfl rfl ?_
        refine AS.opsEnd ?_
        refine AS.cond rfl (fun hc0 => ?_) (fun hc0 => ?_)
        · refine AS.seq ?_
          refine AS.region rfl ?_
          refine AS.assign rfl rfl rfl rfl ?_
          refine AS.opsEnd ?_
          refine AS.retW Try.func64 rfl (.tmp rfl (.nil)) ?_
          refine RWk.drop [_] rfl ⟨?_, rfl⟩
          rw [objRight_alt]
          show AV.bool _ = AV.bool _
          (simp only [Bool.and_true, Bool.true_and, Bool.not_true, Bool.not_false, Bool.and_false, Bool.false_and, g16, g19, g30, hc0]) <;> rfl
        · refine AS.skip ?_
          refine AS.seq ?_
          refine AS.seq ?_
          refine AS.region rfl ?_
          refine AS.assign rfl rfl rfl rfl ?_
          refine AS.opsEnd ?_
          refine AS.block ?_
          refine AS.loopI (α := Nat) (fun i => i ≤ o.charge.length ∧ ∀ j, j < i → j < o.charge.length → resAt o.charge j = true) (fun i => o.charge.length - i) (fun i => [(5, .int .i64 i)]) [(1, _)] (fun i => _) 0 ⟨Nat.zero_le _, fun i h => by omega⟩ (.cons rfl (.cons rfl (.nil))) rfl (fun i hI l0_ih => ?_)
          refine AS.seq ?_
          refine AS.seq ?_
          refine AS.region rfl ?_
          refine AS.move rfl rfl rfl rfl ?_
          refine AS.fieldAddr rfl rfl rfl rfl TT4.fl38_5 ?_
          refine AS.load rfl rfl rfl rfl TT4.ty36 rfl rfl rfl ?_
          refine AS.len rfl rfl rfl rfl (by first | exact lenT_sl TT4.u36 | exact lenT_ms TT4.u36 | (rw [TT4.u36]; rfl)) rfl (lenMap _ _) ?_
          refine AS.bin rfl rfl rfl rfl rfl (BinR.lss rfl) ?_
          refine AS.opsEnd ?_
          refine AS.cond rfl (fun hc1 => ?_) (fun hc1 => ?_)
          · have hi : i < o.charge.length := by simp only [decide_eq_true_eq] at hc1; omega
            obtain ⟨r, hr⟩ := getAt hi
            obtain ⟨q, hq⟩ := getAt (l := o.charge) (i := i - 1) (by omega)
            refine AS.skip ?_
            refine AS.seq ?_
            refine AS.block ?_
            refine AS.seq ?_
            refine AS.region rfl ?_
            refine AS.fieldAddr rfl rfl rfl rfl TT4.fl38_5 ?_
            refine AS.load rfl rfl rfl rfl TT4.ty36 rfl rfl rfl ?_
            refine AS.move rfl rfl rfl rfl ?_
            refine AS.indexAddr rfl rfl rfl rfl rfl TT4.sl36 (Int.natCast_nonneg _) (map_get _ _ hr) rfl ?_
            refine AS.ifieldAddr rfl rfl rfl rfl TT4.fl116_0 ?_
            refine AS.iload rfl rfl rfl rfl TT4.ty9 rfl rfl rfl ?_
            refine AS.callP rfl rfl rfl rfl TT4.en86 (ref_right _ _) ?_
            refine AS.assign rfl rfl rfl rfl ?_
            refine AS.opsEnd ?_
            refine AS.seq ?_
            refine AS.seq ?_
            refine AS.region rfl ?_
            refine AS.move rfl rfl rfl rfl ?_
            refine AS.not rfl rfl rfl rfl rfl ?_
            refine AS.move rfl rfl rfl rfl ?_
            refine AS.splitT 52 rfl (fun g52 => ?_) (fun g52 => ?_)
            · rw [Bool.not_eq_true'] at g52
              refine AS.pass rfl rfl rfl ?_
              refine AS.pass rfl rfl rfl ?_
              refine AS.pass rfl rfl rfl ?_
              refine AS.pass rfl rfl rfl ?_
              refine AS.pass rfl rfl rfl ?_
              refine AS.pass rfl rfl rfl ?_
              refine AS.pass rfl rfl rfl ?_
              refine AS.pick rfl rfl rfl rfl rfl ?_
              refine AS.opsEnd ?_
              refine AS.condT rfl ?_
              refine AS.seq ?_
              refine AS.region rfl ?_
              refine AS.assign rfl rfl rfl rfl ?_
              refine AS.opsEnd ?_
              refine AS.retW Try.func64 rfl (.tmp rfl (.nil)) ?_
              have e3 : resAt o.charge i = false := by rw [resAt_eq hr hq]; (simp only [Bool.and_true, Bool.true_and, Bool.not_true, Bool.not_false, g16, g19, g30, hc0, hc1, g52]) <;> rfl
              refine RWk.drop [_] rfl ⟨?_, rfl⟩
              rw [objRight_no (chargeOk_no hi e3)]; rfl
            · rw [Bool.not_eq_false'] at g52
              refine AS.fieldAddr rfl rfl rfl rfl TT4.fl38_5 ?_
              refine AS.load rfl rfl rfl rfl TT4.ty36 rfl rfl rfl ?_
              refine AS.move rfl rfl rfl rfl ?_
              refine AS.indexAddr rfl rfl rfl rfl rfl TT4.sl36 (Int.natCast_nonneg _) (map_get _ _ hr) rfl ?_
              refine AS.ifieldAddr rfl rfl rfl rfl TT4.fl116_1 ?_
              refine AS.iload rfl rfl rfl rfl TT4.ty2 rfl rfl rfl ?_
              refine AS.bin rfl rfl rfl rfl rfl (BinR.lss rfl) ?_
              refine AS.pick rfl rfl rfl rfl rfl ?_
              refine AS.opsEnd ?_
              refine AS.cond rfl (fun hc2 => ?_) (fun hc2 => ?_)
              · refine AS.seq ?_
                refine AS.region rfl ?_
                refine AS.assign rfl rfl rfl rfl ?_
                refine AS.opsEnd ?_
                refine AS.retW Try.func64 rfl (.tmp rfl (.nil)) ?_
                have e3 : resAt o.charge i = false := by rw [resAt_eq hr hq]; (simp only [Bool.and_true, Bool.true_and, Bool.not_true, Bool.not_false, g16, g19, g30, hc0, hc1, g52, hc2]) <;> rfl
                refine RWk.drop [_] rfl ⟨?_, rfl⟩
                rw [objRight_no (chargeOk_no hi e3)]; rfl
              · refine AS.skip ?_
                refine AS.seq ?_
                refine AS.region rfl ?_
                refine AS.move rfl rfl rfl rfl ?_
                refine AS.bin rfl rfl rfl rfl rfl (BinR.gtr rfl) ?_
                refine AS.opsEnd ?_
                refine AS.cond rfl (fun hc3 => ?_) (fun hc3 => ?_)
                · have hi0 : 0 < i := by simp only [decide_eq_true_eq] at hc3; omega
                  have hm1 : IntKind.i64.wrap ((i : Int) - 1) = ((i - 1 : Nat) : Int) := by rw [w64 (by omega) (by omega)]; omega
                  refine AS.seq ?_
                  refine SA.start1 TT4.mixed rfl ?_
                  refine SA.rd 0 [1] rfl (fun env rest next => AS.fieldAddr rfl rfl rfl rfl TT4.fl38_5 next) ?_
                  refine SA.rd 1 [63] rfl (fun env rest next => AS.load rfl rfl rfl rfl TT4.ty36 rfl rfl rfl next) ?_
                  refine SA.rd 2 [5] rfl (fun env rest next => AS.move rfl rfl rfl rfl next) ?_
                  refine SA.rd 3 [65] rfl (fun env rest next => AS.bin rfl rfl rfl rfl rfl (BinR.sub (c := ((i - 1 : Nat) : Int)) hm1) next) ?_
                  refine SA.rd 4 [64, 66] rfl (fun env rest next => AS.indexAddr rfl rfl rfl rfl rfl TT4.sl36 (Int.natCast_nonneg _) (map_get _ _ hq) rfl next) ?_
                  refine SA.rd 5 [67] rfl (fun env rest next => AS.ifieldAddr rfl rfl rfl rfl TT4.fl116_0 next) ?_
                  refine SA.rd 6 [68] rfl (fun env rest next => AS.iload rfl rfl rfl rfl TT4.ty9 rfl rfl rfl next) ?_
                  refine SA.rd 7 [1] rfl (fun env rest next => AS.fieldAddr rfl rfl rfl rfl TT4.fl38_5 next) ?_
                  refine SA.rd 8 [70] rfl (fun env rest next => AS.load rfl rfl rfl rfl TT4.ty36 rfl rfl rfl next) ?_
                  refine SA.rd 9 [5] rfl (fun env rest next => AS.move rfl rfl rfl rfl next) ?_
                  refine SA.rd 10 [71, 72] rfl (fun env rest next => AS.indexAddr rfl rfl rfl rfl rfl TT4.sl36 (Int.natCast_nonneg _) (map_get _ _ hr) rfl next) ?_
                  refine SA.rd 11 [73] rfl (fun env rest next => AS.ifieldAddr rfl rfl rfl rfl TT4.fl116_0 next) ?_
                  refine SA.rd 12 [74] rfl (fun env rest next => AS.iload rfl rfl rfl rfl TT4.ty9 rfl rfl rfl next) ?_
                  refine SA.rd 13 [69, 75] rfl (fun env rest next => AS.callP rfl rfl rfl rfl TT4.en87 (before_spec _ _ _ (hl5 _ _ hq) (hl5 _ _ hr)) next) ?_
                  refine SA.rd 14 [76] rfl (fun env rest next => AS.assign rfl rfl rfl rfl next) ?_
                  refine SA.done rfl rfl rfl ?_
                  refine AS.seq ?_
                  refine AS.region rfl ?_
                  refine AS.move rfl rfl rfl rfl ?_
                  refine AS.not rfl rfl rfl rfl rfl ?_
                  refine AS.opsEnd ?_
                  refine AS.cond rfl (fun hc4 => ?_) (fun hc4 => ?_)
                  · rw [Bool.not_eq_true'] at hc4
                    refine AS.seq ?_
                    refine AS.region rfl ?_
                    refine AS.assign rfl rfl rfl rfl ?_
                    refine AS.opsEnd ?_
                    refine AS.retW Try.func64 rfl (.tmp rfl (.nil)) ?_
                    have e3 : resAt o.charge i = false := by rw [resAt_eq hr hq]; (simp only [Bool.and_true, Bool.true_and, Bool.not_true, Bool.not_false, g16, g19, g30, hc0, hc1, g52, hc2, hc3, hc4]) <;> rfl
                    refine RWk.drop [_] rfl ⟨?_, rfl⟩
                    rw [objRight_no (chargeOk_no hi e3)]; rfl
                  · rw [Bool.not_eq_false'] at hc4
                    refine AS.skip ?_
                    refine AS.inBlock ?_
                    have e3 : resAt o.charge i = true := by rw [resAt_eq hr hq]; (simp only [Bool.and_true, Bool.true_and, Bool.not_true, Bool.not_false, g16, g19, g30, hc0, hc1, g52, hc2, hc3, hc4]) <;> rfl
                    refine AS.region rfl ?_
                    refine AS.move rfl rfl rfl rfl ?_
                    refine AS.bin rfl rfl rfl rfl rfl (BinR.add (w64 (by omega) (by omega))) ?_
                    refine AS.assign rfl rfl rfl rfl ?_
                    refine AS.opsEnd ?_
                    exact AS.nextI (l0_ih (i + 1) ⟨hi, upToL hI.2 e3⟩ (by omega)) [] (.cons rfl (.cons rfl (.nil))) rfl
                · refine AS.skip ?_
                  refine AS.inBlock ?_
                  have e3 : resAt o.charge i = true := by rw [resAt_eq hr hq]; (simp only [Bool.and_true, Bool.true_and, Bool.not_true, Bool.not_false, g16, g19, g30, hc0, hc1, g52, hc2, hc3]) <;> rfl
                  refine AS.region rfl ?_
                  refine AS.move rfl rfl rfl rfl ?_
                  refine AS.bin rfl rfl rfl rfl rfl (BinR.add (w64 (by omega) (by omega))) ?_
                  refine AS.assign rfl rfl rfl rfl ?_
                  refine AS.opsEnd ?_
                  exact AS.nextI (l0_ih (i + 1) ⟨hi, upToL hI.2 e3⟩ (by omega)) [] (.cons rfl (.cons rfl (.nil))) rfl
          · have hall : chargeOk o.charge = true := allR_yes hI.2 (by simp only [decide_eq_false_iff_not] at hc1; omega)
            refine AS.exit rfl ?_
            refine AS.seq ?_
            refine AS.region rfl ?_
            refine AS.assign rfl rfl rfl rfl ?_
            refine AS.opsEnd ?_
            refine AS.retW Try.func64 rfl (.tmp rfl (.nil)) ?_
            refine RWk.drop [_] rfl ⟨?_, rfl⟩
            rw [objRight_alt]
            show AV.bool _ = AV.bool _
            (simp only [hall, Bool.and_true, Bool.true_and, Bool.not_true, Bool.not_false, Bool.and_false, Bool.false_and, g16, g19, g30, hc0, hc1]) <;> rfl
end Go.Proofs.Ytncecheccihjoaa
/- T5 -/
namespace Go.Proofs.Ytncecheccihjoaa.TT5
open Go Go.Proofs.Fw Go.Shelf
theorem en67 : Enters Go.Proofs.Try.prog 67 := enters_of Go.Proofs.Try.func67 (by kernel_rfl) rfl
theorem en77 : Enters Go.Proofs.Try.prog 77 := enters_of Go.Proofs.Try.func77 (by kernel_rfl) rfl
theorem fl38_0 : fldI Go.Proofs.Try.prog 38 0 = some 0 := by kernel_rfl
theorem fl38_1 : fldI Go.Proofs.Try.prog 38 1 = some 3 := by kernel_rfl
theorem fl38_2 : fldI Go.Proofs.Try.prog 38 2 = some 4 := by kernel_rfl
theorem fl38_3 : fldI Go.Proofs.Try.prog 38 3 = some 5 := by kernel_rfl
theorem fl38_4 : fldI Go.Proofs.Try.prog 38 4 = some 6 := by kernel_rfl
theorem fl38_5 : fldI Go.Proofs.Try.prog 38 5 = some 7 := by kernel_rfl
theorem mixed : Go.Proofs.Try.prog.follows .mixedOrders = true := by kernel_rfl
theorem ps116 : plainS Go.Proofs.Try.prog 116 = true := by kernel_rfl
theorem ps35 : plainS Go.Proofs.Try.prog 35 = true := by kernel_rfl
theorem sl36 : sliI Go.Proofs.Try.prog 36 = some (116, 2, 24) := by kernel_rfl
theorem ty116 : tyI Go.Proofs.Try.prog 116 = some (2, true) := by kernel_rfl
theorem ty2 : tyI Go.Proofs.Try.prog 2 = some (1, false) := by kernel_rfl
theorem ty35 : tyI Go.Proofs.Try.prog 35 = some (3, true) := by kernel_rfl
theorem ty36 : tyI Go.Proofs.Try.prog 36 = some (1, false) := by kernel_rfl
theorem ty38 : tyI Go.Proofs.Try.prog 38 = some (8, true) := by kernel_rfl
theorem ty4 : tyI Go.Proofs.Try.prog 4 = some (1, false) := by kernel_rfl
theorem ty9 : tyI Go.Proofs.Try.prog 9 = some (1, false) := by kernel_rfl
theorem u116 : Go.Proofs.Try.prog.underlying 116 = some (.struct #[⟨"Name", 9, 0, false, "", "", 0⟩, ⟨"N", 2, 1, false, "", "", 16⟩]) := by kernel_rfl
theorem u35 : Go.Proofs.Try.prog.underlying 35 = some (.struct #[⟨"Kind", 9, 0, false, "", "", 0⟩, ⟨"Space", 9, 1, false, "", "", 16⟩, ⟨"Name", 9, 2, false, "", "", 32⟩]) := by kernel_rfl
theorem u36 : Go.Proofs.Try.prog.underlying 36 = some (.slice 116) := by kernel_rfl
theorem u4 : Go.Proofs.Try.prog.underlying 4 = some (.bool) := by kernel_rfl
end Go.Proofs.Ytncecheccihjoaa.TT5
namespace Go.Proofs.Ytncecheccihjoaa
open Go Go.Proofs.Fw Go.Proofs
set_option linter.unusedVariables false
set_option linter.unusedSimpArgs false
set_option maxRecDepth 20000
set_option maxHeartbeats 4000000
theorem ref_resources (xs ys : List Res) (H : AH) (hl : xs.length ≤ 1000000) : ACalls Try.prog [] 77 [.slice (xs.map encRes) .any, .slice (ys.map encRes) .any] H (fun x H' => x = .bool (decide (xs = ys)) ∧ H' = H) := by
  refine ACalls.enter (n := 26) Try.func77 rfl rfl (Nat.le_of_ble_eq_true rfl) ?_
  refine AS.seq ?_
  refine AS.region rfl ?_
  refine AS.assign rfl rfl rfl rfl ?_
  refine AS.opsEnd ?_
  refine AS.seq ?_
  refine AS.seq ?_
  refine AS.region rfl ?_
  refine AS.move rfl rfl rfl rfl ?_
  refine AS.len rfl rfl rfl rfl (by first | exact lenT_sl TT5.u36 | exact lenT_ms TT5.u36 | (rw [TT5.u36]; rfl)) rfl (lenMap _ _) ?_
  refine AS.move rfl rfl rfl rfl ?_
  refine AS.len rfl rfl rfl rfl (by first | exact lenT_sl TT5.u36 | exact lenT_ms TT5.u36 | (rw [TT5.u36]; rfl)) rfl (lenMap _ _) ?_
  refine AS.bin rfl rfl rfl rfl rfl (BinR.neq rfl) ?_
  refine AS.opsEnd ?_
  refine AS.cond rfl (fun hc0 => ?_) (fun hc0 => ?_)
  · have hl0 : xs.length ≠ ys.length := fun e => by simp only [decide_eq_true_eq] at hc0; omega
    refine AS.seq ?_
    refine AS.region rfl ?_
    refine AS.assign rfl rfl rfl rfl ?_
    refine AS.opsEnd ?_
    refine AS.retW Try.func77 rfl (.tmp rfl (.nil)) ?_
    refine RWk.drop [] rfl ⟨?_, rfl⟩
    rw [decide_eq_false (fun e => hl0 (by rw [e]))]; rfl
  · have hl0 : xs.length = ys.length := by simp only [decide_eq_false_iff_not] at hc0; omega
    refine AS.skip ?_
    refine AS.seq ?_
    refine AS.seq ?_
    refine AS.region rfl ?_
    refine AS.assign rfl rfl rfl rfl ?_
    refine AS.opsEnd ?_
    refine AS.block ?_
    refine AS.loopI (α := Nat) (fun i => i ≤ xs.length ∧ ∀ j, j < i → xs[j]? = ys[j]?) (fun i => xs.length - i) (fun i => [(5, .int .i64 i)]) [(0, _), (1, _)] (fun i => _) 0 ⟨Nat.zero_le _, fun i h => by omega⟩ (.cons rfl (.cons rfl (.cons rfl (.nil)))) rfl (fun i hI l0_ih => ?_)
    refine AS.seq ?_
    refine AS.seq ?_
    refine AS.region rfl ?_
    refine AS.move rfl rfl rfl rfl ?_
    refine AS.move rfl rfl rfl rfl ?_
    refine AS.len rfl rfl rfl rfl (by first | exact lenT_sl TT5.u36 | exact lenT_ms TT5.u36 | (rw [TT5.u36]; rfl)) rfl (lenMap _ _) ?_
    refine AS.bin rfl rfl rfl rfl rfl (BinR.lss rfl) ?_
    refine AS.opsEnd ?_
    refine AS.cond rfl (fun hc1 => ?_) (fun hc1 => ?_)
    · have hi : i < xs.length := by simp only [decide_eq_true_eq] at hc1; omega
      obtain ⟨r, hr⟩ := getAt hi
      obtain ⟨q, hq⟩ := getAt (l := ys) (i := i) (by omega)
      refine AS.skip ?_
      refine AS.seq ?_
      refine AS.block ?_
      refine AS.seq ?_
      refine SA.start1 TT5.mixed rfl ?_
      refine SA.rd 0 [0] rfl (fun env rest next => AS.move rfl rfl rfl rfl next) ?_
      refine SA.rd 1 [5] rfl (fun env rest next => AS.move rfl rfl rfl rfl next) ?_
      refine SA.rd 2 [17, 18] rfl (fun env rest next => AS.indexAddr rfl rfl rfl rfl rfl TT5.sl36 (Int.natCast_nonneg _) (map_get _ _ hr) rfl next) ?_
      refine SA.rd 3 [19] rfl (fun env rest next => AS.iload (y := encRes r) rfl rfl rfl rfl TT5.ty116 rfl rfl rfl next) ?_
      refine SA.rd 4 [1] rfl (fun env rest next => AS.move rfl rfl rfl rfl next) ?_
      refine SA.rd 5 [5] rfl (fun env rest next => AS.move rfl rfl rfl rfl next) ?_
      refine SA.rd 6 [21, 22] rfl (fun env rest next => AS.indexAddr rfl rfl rfl rfl rfl TT5.sl36 (Int.natCast_nonneg _) (map_get _ _ hq) rfl next) ?_
      refine SA.rd 7 [23] rfl (fun env rest next => AS.iload (y := encRes q) rfl rfl rfl rfl TT5.ty116 rfl rfl rfl next) ?_
      refine SA.rd 8 [20, 24] rfl (fun env rest next => AS.bin rfl rfl rfl rfl rfl (BinR.stneq TT5.ps116 (by rw [TT5.u116]; rfl) (congrArg not (resEq _ _))) next) ?_
      refine SA.done rfl rfl rfl ?_
      refine AS.cond rfl (fun hc2 => ?_) (fun hc2 => ?_)
      · rw [Bool.not_eq_true'] at hc2
        have e3 : r ≠ q := of_decide_eq_false hc2
        refine AS.seq ?_
        refine AS.region rfl ?_
        refine AS.assign rfl rfl rfl rfl ?_
        refine AS.opsEnd ?_
        refine AS.retW Try.func77 rfl (.tmp rfl (.nil)) ?_
        refine RWk.drop [] rfl ⟨?_, rfl⟩
        rw [decide_eq_false (list_no hr hq e3)]; rfl
      · rw [Bool.not_eq_false'] at hc2
        have e3 : r = q := of_decide_eq_true hc2
        refine AS.skip ?_
        refine AS.inBlock ?_
        refine AS.region rfl ?_
        refine AS.move rfl rfl rfl rfl ?_
        refine AS.bin rfl rfl rfl rfl rfl (BinR.add (w64 (by omega) (by omega))) ?_
        refine AS.assign rfl rfl rfl rfl ?_
        refine AS.opsEnd ?_
        exact AS.nextI (l0_ih (i + 1) ⟨hi, upToE hI.2 (by rw [hr, hq, e3])⟩ (by omega)) [] (.cons rfl (.cons rfl (.cons rfl (.nil)))) rfl
    · have hall : xs = ys := list_done hl0 hI.2 (by simp only [decide_eq_false_iff_not] at hc1; omega)
      refine AS.exit rfl ?_
      refine AS.seq ?_
      refine AS.region rfl ?_
      refine AS.assign rfl rfl rfl rfl ?_
      refine AS.opsEnd ?_
      refine AS.retW Try.func77 rfl (.tmp rfl (.nil)) ?_
      refine RWk.drop [] rfl ⟨?_, rfl⟩
      rw [decide_eq_true hall]; rfl
theorem ref_alike (a b : Object) (H : AH) (hl : a.charge.length ≤ 1000000) : ACalls Try.prog [] 67 [encObj a, encObj b] H (fun x H' => x = .bool (alikeB a b) ∧ H' = H) := by
  refine ACalls.enter (n := 40) Try.func67 rfl rfl (Nat.le_of_ble_eq_true rfl) ?_
  refine AS.seq ?_
  refine AS.region rfl ?_
  refine AS.box rfl rfl rfl rfl rfl ?_
  intro b2
  refine AS.box rfl rfl rfl rfl rfl ?_
  intro b3
  refine AS.assign rfl rfl rfl rfl ?_
  refine AS.opsEnd ?_
  refine AS.seq ?_
  refine AS.region rfl ?_
  refine AS.fieldAddr rfl rfl rfl rfl TT5.fl38_5 ?_
  refine AS.load rfl rfl rfl rfl TT5.ty36 rfl rfl rfl ?_
  refine AS.fieldAddr rfl rfl rfl rfl TT5.fl38_5 ?_
  refine AS.load rfl rfl rfl rfl TT5.ty36 rfl rfl rfl ?_
  refine AS.callP rfl rfl rfl rfl TT5.en77 (ref_resources _ _ _ (by omega)) ?_
  refine AS.assign rfl rfl rfl rfl ?_
  refine AS.opsEnd ?_
  refine AS.seq ?_
  refine AS.region rfl ?_
  refine AS.move rfl rfl rfl rfl ?_
  refine AS.move rfl rfl rfl rfl ?_
  refine AS.splitT 12 rfl (fun g12 => ?_) (fun g12 => ?_)
  · refine AS.fieldAddr rfl rfl rfl rfl TT5.fl38_0 ?_
    refine AS.load rfl rfl rfl rfl TT5.ty35 rfl rfl rfl ?_
    refine AS.fieldAddr rfl rfl rfl rfl TT5.fl38_0 ?_
    refine AS.load rfl rfl rfl rfl TT5.ty35 rfl rfl rfl ?_
    refine AS.bin rfl rfl rfl rfl rfl (BinR.steql TT5.ps35 (by rw [TT5.u35]; rfl) (keyEq _ _)) ?_
    refine AS.pick rfl rfl rfl rfl rfl ?_
    refine AS.move rfl rfl rfl rfl ?_
    refine AS.splitT 19 rfl (fun g19 => ?_) (fun g19 => ?_)
    · refine AS.fieldAddr rfl rfl rfl rfl TT5.fl38_2 ?_
      refine AS.load rfl rfl rfl rfl TT5.ty9 rfl rfl rfl ?_
      refine AS.fieldAddr rfl rfl rfl rfl TT5.fl38_2 ?_
      refine AS.load rfl rfl rfl rfl TT5.ty9 rfl rfl rfl ?_
      refine AS.bin rfl rfl rfl rfl rfl (BinR.seql rfl) ?_
      refine AS.pick rfl rfl rfl rfl rfl ?_
      refine AS.move rfl rfl rfl rfl ?_
      refine AS.splitT 26 rfl (fun g26 => ?_) (fun g26 => ?_)
      · refine AS.fieldAddr rfl rfl rfl rfl TT5.fl38_3 ?_
        refine AS.load rfl rfl rfl rfl TT5.ty4 rfl rfl rfl ?_
        refine AS.fieldAddr rfl rfl rfl rfl TT5.fl38_3 ?_
        refine AS.load rfl rfl rfl rfl TT5.ty4 rfl rfl rfl ?_
        refine AS.bin rfl rfl rfl rfl rfl (BinR.beql TT5.u4 rfl) ?_
        refine AS.pick rfl rfl rfl rfl rfl ?_
        refine AS.move rfl rfl rfl rfl ?_
        refine AS.splitT 33 rfl (fun g33 => ?_) (fun g33 => ?_)
        · refine AS.fieldAddr rfl rfl rfl rfl TT5.fl38_4 ?_
          refine AS.load rfl rfl rfl rfl TT5.ty4 rfl rfl rfl ?_
          refine AS.fieldAddr rfl rfl rfl rfl TT5.fl38_4 ?_
          refine AS.load rfl rfl rfl rfl TT5.ty4 rfl rfl rfl ?_
          refine AS.bin rfl rfl rfl rfl rfl (BinR.beql TT5.u4 rfl) ?_
          refine AS.pick rfl rfl rfl rfl rfl ?_
          refine AS.assign rfl rfl rfl rfl ?_
          refine AS.opsEnd ?_
          refine AS.retW Try.func67 rfl (.tmp rfl (.nil)) ?_
          refine RWk.drop [_, _] rfl ⟨?_, rfl⟩
          show AV.bool _ = AV.bool _
          (simp only [alikeB, Bool.and_true, Bool.true_and, Bool.and_false, Bool.false_and, g12, g19, g26, g33]) <;> rfl
        · refine AS.pass rfl rfl rfl ?_
          refine AS.pass rfl rfl rfl ?_
          refine AS.pass rfl rfl rfl ?_
          refine AS.pass rfl rfl rfl ?_
          refine AS.pass rfl rfl rfl ?_
          refine AS.pick rfl rfl rfl rfl rfl ?_
          refine AS.assign rfl rfl rfl rfl ?_
          refine AS.opsEnd ?_
          refine AS.retW Try.func67 rfl (.tmp rfl (.nil)) ?_
          refine RWk.drop [_, _] rfl ⟨?_, rfl⟩
          show AV.bool _ = AV.bool _
          (simp only [alikeB, Bool.and_true, Bool.true_and, Bool.and_false, Bool.false_and, g12, g19, g26, g33]) <;> rfl
      · refine AS.pass rfl rfl rfl ?_
        refine AS.pass rfl rfl rfl ?_
        refine AS.pass rfl rfl rfl ?_
        refine AS.pass rfl rfl rfl ?_
        refine AS.pass rfl rfl rfl ?_
        refine AS.pick rfl rfl rfl rfl rfl ?_
        refine AS.move rfl rfl rfl rfl ?_
        refine AS.pass rfl rfl rfl ?_
        refine AS.pass rfl rfl rfl ?_
        refine AS.pass rfl rfl rfl ?_
        refine AS.pass rfl rfl rfl ?_
        refine AS.pass rfl rfl rfl ?_
        refine AS.pick rfl rfl rfl rfl rfl ?_
        refine AS.assign rfl rfl rfl rfl ?_
        refine AS.opsEnd ?_
        refine AS.retW Try.func67 rfl (.tmp rfl (.nil)) ?_
        refine RWk.drop [_, _] rfl ⟨?_, rfl⟩
        show AV.bool _ = AV.bool _
        (simp only [alikeB, Bool.and_true, Bool.true_and, Bool.and_false, Bool.false_and, g12, g19, g26]) <;> rfl
    · refine AS.pass rfl rfl rfl ?_
      refine AS.pass rfl rfl rfl ?_
      refine AS.pass rfl rfl rfl ?_
      refine AS.pass rfl rfl rfl ?_
      refine AS.pass rfl rfl rfl ?_
      refine AS.pick rfl rfl rfl rfl rfl ?_
      refine AS.move rfl rfl rfl rfl ?_
      refine AS.pass rfl rfl rfl ?_
      refine AS.pass rfl rfl rfl ?_
      refine AS.pass rfl rfl rfl ?_
      refine AS.pass rfl rfl rfl ?_
      refine AS.pass rfl rfl rfl ?_
      refine AS.pick rfl rfl rfl rfl rfl ?_
      refine AS.move rfl rfl rfl rfl ?_
      refine AS.pass rfl rfl rfl ?_
      refine AS.pass rfl rfl rfl ?_
      refine AS.pass rfl rfl rfl ?_
      refine AS.pass rfl rfl rfl ?_
      refine AS.pass rfl rfl rfl ?_
      refine AS.pick rfl rfl rfl rfl rfl ?_
      refine AS.assign rfl rfl rfl rfl ?_
      refine AS.opsEnd ?_
      refine AS.retW Try.func67 rfl (.tmp rfl (.nil)) ?_
      refine RWk.drop [_, _] rfl ⟨?_, rfl⟩
      show AV.bool _ = AV.bool _
      (simp only [alikeB, Bool.and_true, Bool.true_and, Bool.and_false, Bool.false_and, g12, g19]) <;> rfl
  · refine AS.pass rfl rfl rfl ?_
    refine AS.pass rfl rfl rfl ?_
    refine AS.pass rfl rfl rfl ?_
    refine AS.pass rfl rfl rfl ?_
    refine AS.pass rfl rfl rfl ?_
    refine AS.pick rfl rfl rfl rfl rfl ?_
    refine AS.move rfl rfl rfl rfl ?_
    refine AS.pass rfl rfl rfl ?_
    refine AS.pass rfl rfl rfl ?_
    refine AS.pass rfl rfl rfl ?_
    refine AS.pass rfl rfl rfl ?_
    refine AS.pass rfl rfl rfl ?_
    refine AS.pick rfl rfl rfl rfl rfl ?_
    refine AS.move rfl rfl rfl rfl ?_
    refine AS.pass rfl rfl rfl ?_
    refine AS.pass rfl rfl rfl ?_
    refine AS.pass rfl rfl rfl ?_
    refine AS.pass rfl rfl rfl ?_
    refine AS.pass rfl rfl rfl ?_
    refine AS.pick rfl rfl rfl rfl rfl ?_
    refine AS.move rfl rfl rfl rfl ?_
    refine AS.pass rfl rfl rfl ?_
    refine AS.pass rfl rfl rfl ?_
    refine AS.pass rfl rfl rfl ?_
    refine AS.pass rfl rfl rfl ?_
    refine AS.pass rfl rfl rfl ?_
    refine AS.pick rfl rfl rfl rfl rfl ?_
    refine AS.assign rfl rfl rfl rfl ?_
    refine AS.opsEnd ?_
    refine AS.retW Try.func67 rfl (.tmp rfl (.nil)) ?_
    refine RWk.drop [_, _] rfl ⟨?_, rfl⟩
    show AV.bool _ = AV.bool _
    (simp only [alikeB, Bool.and_true, Bool.true_and, Bool.and_false, Bool.false_and, g12]) <;> rfl
theorem ref_same (a b : Object) (H : AH) (hl : a.charge.length ≤ 1000000) : ACalls Try.prog [] 20 [encObj a, encObj b] H (fun x H' => x = .bool (decide (a = b)) ∧ H' = H) := by
  refine ACalls.enter (n := 15) Try.func20 rfl rfl (Nat.le_of_ble_eq_true rfl) ?_
  refine AS.seq ?_
  refine AS.region rfl ?_
  refine AS.box rfl rfl rfl rfl rfl ?_
  intro b2
  refine AS.box rfl rfl rfl rfl rfl ?_
  intro b3
  refine AS.assign rfl rfl rfl rfl ?_
  refine AS.opsEnd ?_
  refine AS.seq ?_
  refine AS.region rfl ?_
  refine AS.load rfl rfl rfl rfl TT5.ty38 rfl rfl rfl ?_
  refine AS.load rfl rfl rfl rfl TT5.ty38 rfl rfl rfl ?_
  refine AS.callP rfl rfl rfl rfl TT5.en67 (ref_alike _ _ _ (by omega)) ?_
  refine AS.move rfl rfl rfl rfl ?_
  refine AS.splitT 8 rfl (fun g8 => ?_) (fun g8 => ?_)
  · refine AS.fieldAddr rfl rfl rfl rfl TT5.fl38_1 ?_
    refine AS.load rfl rfl rfl rfl TT5.ty2 rfl rfl rfl ?_
    refine AS.fieldAddr rfl rfl rfl rfl TT5.fl38_1 ?_
    refine AS.load rfl rfl rfl rfl TT5.ty2 rfl rfl rfl ?_
    refine AS.bin rfl rfl rfl rfl rfl (BinR.eql rfl) ?_
    refine AS.pick rfl rfl rfl rfl rfl ?_
    refine AS.assign rfl rfl rfl rfl ?_
    refine AS.opsEnd ?_
    refine AS.retW Try.func20 rfl (.tmp rfl (.nil)) ?_
    refine RWk.drop [_, _] rfl ⟨?_, rfl⟩
    rw [← sameB_eq]
    show AV.bool _ = AV.bool _
    (simp only [Bool.and_true, Bool.true_and, Bool.and_false, Bool.false_and, g8]) <;> rfl
  · refine AS.pass rfl rfl rfl ?_
    refine AS.pass rfl rfl rfl ?_
    refine AS.pass rfl rfl rfl ?_
    refine AS.pass rfl rfl rfl ?_
    refine AS.pass rfl rfl rfl ?_
    refine AS.pick rfl rfl rfl rfl rfl ?_
    refine AS.assign rfl rfl rfl rfl ?_
    refine AS.opsEnd ?_
    refine AS.retW Try.func20 rfl (.tmp rfl (.nil)) ?_
    refine RWk.drop [_, _] rfl ⟨?_, rfl⟩
    rw [← sameB_eq]
    show AV.bool _ = AV.bool _
    (simp only [Bool.and_true, Bool.true_and, Bool.and_false, Bool.false_and, g8]) <;> rfl
end Go.Proofs.Ytncecheccihjoaa
