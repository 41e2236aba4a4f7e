/- A part of the proof: XFwA, XFwB, XFwC, XFwD, XFwE, XFwF, XFwG, XFwH, XFwI. -/
import Derived.WalkKit
import Derived.KernelRfl
import Derived.Shelf.Abstract
import Derived.Laws.StructEq
import Derived.Laws.AppendOwn
/- The abstract values, what they stand for in memory, and the judgement on a frame's items. -/
namespace Go.Proofs.Fw
open Go

inductive Tok where
  | any
  | full
  | own (b cap : Nat)

inductive AV where
  | bool (b : Bool)
  | int (k : IntKind) (n : Int)
  | str (s : ByteArray)
  | ptr (b off : Nat)
  | nilp
  | ipt (cs : List AV)
  | slice (xs : List AV) (t : Tok)
  | mslice (b off n cap : Nat)
  | map (m : Nat)
  | nilmap
  | func (fn : Fn) (first caps : List AV)
  | nilFunc
  | iface (t : TypeId) (x : AV)
  | nilIface
  | agg (cs : List AV)
  | tup (vs : List AV)
  | undef
  | raw (v : Value)
  deriving Inhabited

def AV.cells : AV → List AV
  | .agg cs => cs
  | x => [x]

/-- One cell holds it. -/
def AV.one : AV → Bool
  | .agg _ | .tup _ | .undef | .raw _ => false
  | _ => true

abbrev View := Nat → Nat → Option Value

def flat (xs : List AV) : List AV := xs.flatMap AV.cells

def TokR : Tok → Option Addr → Nat → Nat → Prop
  | .any, _, _, _ => True
  | .full, _, n, c => n = c
  | .own b cap, a, _, c => a = some ⟨b, 0, none⟩ ∧ c = cap

inductive VR (V : View) : AV → Value → Prop where
  | bool (b : Bool) : VR V (.bool b) (.bool b)
  | int (k : IntKind) (n : Int) : VR V (.int k n) (.int k n)
  | str (s : ByteArray) : VR V (.str s) (.string s)
  | ptr (b o : Nat) : VR V (.ptr b o) (.pointer (some ⟨b, o, none⟩))
  | nilp : VR V .nilp (.pointer none)
  | ipt (cs : List AV) (b o : Nat) (f : Nat → Value) (hV : ∀ i, i < cs.length → V b (o + i) = some (f i))
      (hc : ∀ (i : Nat) (x : AV), cs[i]? = some x → VR V x (f i)) : VR V (.ipt cs) (.pointer (some ⟨b, o, none⟩))
  | slice (xs : List AV) (t : Tok) (a : Option Addr) (n c sz b o : Nat) (f : Nat → Value) (hn : n = xs.length) (hnc : n ≤ c)
      (hsz : ∀ (x : AV), x ∈ xs → x.cells.length = sz) (ha : 0 < n → a = some ⟨b, o, none⟩)
      (hV : ∀ i, i < (flat xs).length → V b (o + i) = some (f i))
      (hc : ∀ (i : Nat) (x : AV), (flat xs)[i]? = some x → VR V x (f i)) (ht : TokR t a n c) : VR V (.slice xs t) (.slice a n c)
  | mslice (b o n c : Nat) : VR V (.mslice b o n c) (.slice (some ⟨b, o, none⟩) n c)
  | map (m : Nat) : VR V (.map m) (.map (some m))
  | nilmap : VR V .nilmap (.map none)
  | func (fn : Fn) (first caps : List AV) (first' caps' : Array Value) (h1 : first'.size = first.length) (h2 : caps'.size = caps.length)
      (hf : ∀ (i : Nat) (x : AV) (v : Value), first[i]? = some x → first'[i]? = some v → VR V x v)
      (hc : ∀ (i : Nat) (x : AV) (v : Value), caps[i]? = some x → caps'[i]? = some v → VR V x v) : VR V (.func fn first caps) (.func fn first' caps')
  | nilFunc : VR V .nilFunc .nilFunc
  | iface (t : TypeId) (x : AV) (v : Value) (h : VR V x v) : VR V (.iface t x) (.iface t v)
  | nilIface : VR V .nilIface .nilIface
  | agg (cs : List AV) (arr : Array Value) (h1 : arr.size = cs.length) (hc : ∀ (i : Nat) (x : AV) (v : Value), cs[i]? = some x → arr[i]? = some v → VR V x v) : VR V (.agg cs) (.agg arr)
  | tup (cs : List AV) (arr : Array Value) (h1 : arr.size = cs.length) (hc : ∀ (i : Nat) (x : AV) (v : Value), cs[i]? = some x → arr[i]? = some v → VR V x v) : VR V (.tup cs) (.tuple arr)
  | undef : VR V .undef Go.undef
  | raw (v : Value) : VR V (.raw v) v

def VLe (V V' : View) : Prop := ∀ b i v, V b i = some v → V' b i = some v

theorem VLe.refl (V : View) : VLe V V := fun _ _ _ h => h
theorem VLe.trans {V V' V'' : View} (h : VLe V V') (h' : VLe V' V'') : VLe V V'' := fun b i v e => h' b i v (h b i v e)

theorem VR.mono {V V' : View} (hl : VLe V V') {x : AV} {v : Value} (h : VR V x v) : VR V' x v := by
  induction h with
  | bool b => exact .bool b
  | int k n => exact .int k n
  | str s => exact .str s
  | ptr b o => exact .ptr b o
  | nilp => exact .nilp
  | ipt cs b o f hV hc ih => exact .ipt cs b o f (fun i hi => hl _ _ _ (hV i hi)) ih
  | slice xs t a n c sz b o f hn hnc hsz ha hV hc ht ih => exact .slice xs t a n c sz b o f hn hnc hsz ha (fun i hi => hl _ _ _ (hV i hi)) ih ht
  | mslice b o n c => exact .mslice b o n c
  | map m => exact .map m
  | nilmap => exact .nilmap
  | func fn first caps first' caps' h1 h2 hf hc ih1 ih2 => exact .func fn first caps first' caps' h1 h2 ih1 ih2
  | nilFunc => exact .nilFunc
  | iface t x v h ih => exact .iface t x v ih
  | nilIface => exact .nilIface
  | agg cs arr h1 hc ih => exact .agg cs arr h1 ih
  | tup cs arr h1 hc ih => exact .tup cs arr h1 ih
  | undef => exact .undef
  | raw v => exact .raw v

/-- Objects in memory that may yet turn. -/
inductive AO where
  | row (cs : List AV) (e : TypeId)
  | tail (n cap sz : Nat) (e : TypeId)
  | map (es : List (AV × AV))
  | mapB (es : List (Nat × AV × AV)) (clock : Nat)
  | miter (m clock : Nat) (seen : List Nat)
  | siter (s : ByteArray) (pos : Nat)
  | obj (o : Obj)

def Cells (V : View) (cs : List AV) (arr : Array Value) : Prop := arr.size = cs.length ∧ ∀ (i : Nat) (x : AV) (v : Value), cs[i]? = some x → arr[i]? = some v → VR V x v

def Entries (V : View) (es : List (AV × AV)) (ents : Array MapEntry) (clock : Nat) : Prop :=
  ents.size = es.length ∧ (∀ (i : Nat) (x : AV × AV) (e : MapEntry), es[i]? = some x → ents[i]? = some e → VR V x.1 e.key ∧ VR V x.2 e.val ∧ e.born < clock) ∧
  (ents.toList.map (·.born)).Nodup

def EntriesB (V : View) (es : List (Nat × AV × AV)) (ents : Array MapEntry) (clock : Nat) : Prop :=
  ents.size = es.length ∧ (∀ (i : Nat) (x : Nat × AV × AV) (e : MapEntry), es[i]? = some x → ents[i]? = some e → e.born = x.1 ∧ VR V x.2.1 e.key ∧ VR V x.2.2 e.val ∧ e.born < clock) ∧
  (es.map (·.1)).Nodup

def OR (w : World) (V : View) (b : Nat) : AO → Prop
  | .row cs e => ∃ arr, w.heap[b]? = some (.cells arr e (0, 0)) ∧ Cells V cs arr ∧ ∀ i, V b i = none
  | .tail n cap sz e => ∃ arr, w.heap[b]? = some (.cells arr e (0, 0)) ∧ arr.size = cap * sz ∧ n ≤ cap ∧ ∀ i, n * sz ≤ i → V b i = none
  | .map es => ∃ ents clock, w.heap[b]? = some (.map ents clock) ∧ Entries V es ents clock
  | .mapB es clock => ∃ ents, w.heap[b]? = some (.map ents clock) ∧ EntriesB V es ents clock
  | .miter m clock seen => w.heap[b]? = some (.mapIter (some m) clock seen.toArray clock)
  | .siter s pos => w.heap[b]? = some (.stringIter s pos)
  | .obj o => w.heap[b]? = some o ∧ ∀ c e f, o ≠ .cells c e f

abbrev AH := List (Nat × AO)
def keys (H : AH) : List Nat := H.map (·.1)

structure Rel (GV : AH) (w : World) (V : View) (H : AH) : Prop where
  nodup : (keys H).Nodup
  objs : ∀ b o, (b, o) ∈ H → OR w V b o
  claims : ∀ b i v, V b i = some v → w.cell? ⟨b, i, none⟩ = some v
  glob : ∀ b cs e, (b, AO.row cs e) ∈ GV → VR V (.ipt cs) (.pointer (some ⟨b, 0, none⟩))

structure Ext (w : World) (V : View) (H : AH) (w' : World) (V' : View) (H' : AH) : Prop where
  os : w'.os = w.os
  tape : w'.tape = w.tape
  output : w'.output = w.output
  size : w.heap.size ≤ w'.heap.size
  le : VLe V V'
  heap : ∀ b, b < w.heap.size → b ∉ keys H → w'.heap[b]? = w.heap[b]?
  view : ∀ b, b < w.heap.size → b ∉ keys H → ∀ i, V' b i = V b i
  keyed : ∀ b, b ∈ keys H' → b ∈ keys H ∨ w.heap.size ≤ b

theorem Ext.refl (w : World) (V : View) (H : AH) : Ext w V H w V H :=
  ⟨rfl, rfl, rfl, Nat.le_refl _, .refl _, fun _ _ _ => rfl, fun _ _ _ _ => rfl, fun _ h => .inl h⟩

theorem Ext.trans {w w' w'' : World} {V V' V'' : View} {H H' H'' : AH} (h : Ext w V H w' V' H') (k : Ext w' V' H' w'' V'' H'') : Ext w V H w'' V'' H'' where
  os := k.os.trans h.os
  tape := k.tape.trans h.tape
  output := k.output.trans h.output
  size := Nat.le_trans h.size k.size
  le := h.le.trans k.le
  heap b hb hn := by
    have hn' : b ∉ keys H' := fun hm => by rcases h.keyed b hm with h1 | h1; exact hn h1; omega
    rw [k.heap b (by have := h.size; omega) hn', h.heap b hb hn]
  view b hb hn i := by
    have hn' : b ∉ keys H' := fun hm => by rcases h.keyed b hm with h1 | h1; exact hn h1; omega
    rw [k.view b (by have := h.size; omega) hn' i, h.view b hb hn i]
  keyed b hb := by
    rcases k.keyed b hb with h1 | h1
    · exact h.keyed b h1
    · exact .inr (by have := h.size; omega)

theorem OR.lt {w : World} {V : View} {b : Nat} {o : AO} (h : OR w V b o) : b < w.heap.size := by
  have key : ∀ x, w.heap[b]? = some x → b < w.heap.size := fun x e => by
    rcases Nat.lt_or_ge b w.heap.size with hl | hl
    · exact hl
    · rw [Array.getElem?_eq_none hl] at e; cases e
  cases o with
  | row cs e => obtain ⟨arr, h, _⟩ := h; exact key _ h
  | tail n cap sz e => obtain ⟨arr, h, _⟩ := h; exact key _ h
  | map es => obtain ⟨ents, c, h, _⟩ := h; exact key _ h
  | mapB es c => obtain ⟨ents, h, _⟩ := h; exact key _ h
  | miter m c seen => exact key _ h
  | siter s pos => exact key _ h
  | obj o => exact key _ h.1

/-- An object lies where its block and its block's claims lie as they lay. -/
theorem OR.keep {w w' : World} {V V' : View} {b : Nat} {o : AO} (h : OR w V b o) (hl : VLe V V') (hb : w'.heap[b]? = w.heap[b]?) (hv : ∀ i, V' b i = V b i) : OR w' V' b o := by
  cases o with
  | row cs e =>
    obtain ⟨arr, h1, h2, h3⟩ := h
    exact ⟨arr, hb.trans h1, ⟨h2.1, fun i x v a b => (h2.2 i x v a b).mono hl⟩, fun i => (hv i).trans (h3 i)⟩
  | tail n cap sz e =>
    obtain ⟨arr, h1, h2, h3, h4⟩ := h
    exact ⟨arr, hb.trans h1, h2, h3, fun i hi => (hv i).trans (h4 i hi)⟩
  | map es =>
    obtain ⟨ents, c, h1, h2, h3, h4⟩ := h
    exact ⟨ents, c, hb.trans h1, h2, fun i x e a b => ⟨(h3 i x e a b).1.mono hl, (h3 i x e a b).2.1.mono hl, (h3 i x e a b).2.2⟩, h4⟩
  | mapB es c =>
    obtain ⟨ents, h1, h2, h3, h4⟩ := h
    exact ⟨ents, hb.trans h1, h2, fun i x e a b => ⟨(h3 i x e a b).1, (h3 i x e a b).2.1.mono hl, (h3 i x e a b).2.2.1.mono hl, (h3 i x e a b).2.2.2⟩, h4⟩
  | miter m c seen => exact hb.trans h
  | siter s pos => exact hb.trans h
  | obj o => exact ⟨hb.trans h.1, h.2⟩

theorem Rel.sub {GV : AH} {w : World} {V : View} {H H' : AH} (h : Rel GV w V H) (hs : ∀ x, x ∈ H' → x ∈ H) (hn : (keys H').Nodup) : Rel GV w V H' :=
  ⟨hn, fun b o hm => h.objs b o (hs _ hm), h.claims, h.glob⟩

theorem Ext.sub {w w' : World} {V V' : View} {H H' H'' : AH} (h : Ext w V H w' V' H') (hs : ∀ x, x ∈ H'' → x ∈ H') : Ext w V H w' V' H'' :=
  ⟨h.os, h.tape, h.output, h.size, h.le, h.heap, h.view, fun b hb => by
    obtain ⟨x, hx, rfl⟩ := List.mem_map.1 hb
    exact h.keyed _ (List.mem_map.2 ⟨x, hs x hx, rfl⟩)⟩

abbrev Env := List (Nat × AV)
def Env.get : Env → Nat → Option AV
  | [], _ => none
  | (s, x) :: r, t => match Nat.beq s t with
    | true => some x
    | false => Env.get r t

structure Sim (GV : AH) (n : Nat) (V : View) (env : Env) (H : AH) (a : Act) (w : World) : Prop where
  defers : a.defers = []
  size : a.tmps.size = n
  env : ∀ t x, env.get t = some x → ∃ v, a.tmps[t]? = some v ∧ VR V x v
  rel : Rel GV w V H

/-- From here on the frame returns. -/
def Runs (P : Program) (f : FuncId) (todo : List Item) (a : Act) (w : World) (R : Value → World → Prop) : Prop :=
  ∀ (b : Frame) (cs : List Frame), b.fn = f → b.kind = .normal →
    ∃ v w' fr, R v w' ∧ Steps P (lone (b.at a todo) cs w) (lone fr cs w') ∧ fr.fn = f ∧ fr.leaving P w' (.returned v)

theorem Runs.mono {P : Program} {f : FuncId} {todo : List Item} {a : Act} {w : World} {R R' : Value → World → Prop} (h : Runs P f todo a w R) (hr : ∀ v w, R v w → R' v w) : Runs P f todo a w R' :=
  fun b cs hb hk => let ⟨v, w', fr, r, s⟩ := h b cs hb hk; ⟨v, w', fr, hr _ _ r, s⟩

theorem Runs.step {P : Program} {f : FuncId} {todo todo' : List Item} {a a' : Act} {w w' : World} {R : Value → World → Prop}
    (hs : ∀ (b : Frame) (cs : List Frame), b.fn = f → b.kind = .normal → step P (lone (b.at a todo) cs w) = .next (lone (b.at a' todo') cs w')) (h : Runs P f todo' a' w' R) : Runs P f todo a w R :=
  fun b cs hb hk => let ⟨v, w'', fr, r, s, l⟩ := h b cs hb hk; ⟨v, w'', fr, r, Steps.head (hs b cs hb hk) s, l⟩

theorem Runs.ops {P : Program} {f : FuncId} {ops : Array Oper} {l : List Nat} {k : List Item} {a : Act} {w : World} {R : Value → World → Prop}
    (h : wpOps P ops (fun e a w => e = .normal ∧ Runs P f k a w R) l a w) : Runs P f (.inRegion ops l :: k) a w R := by
  intro b cs hb hk
  obtain ⟨e, a', w', ⟨rfl, hr⟩, harr⟩ := wp_ops l a w h b k cs
  obtain ⟨v, w'', fr, r, s, l⟩ := hr b cs hb hk
  exact ⟨v, w'', fr, r, Steps.trans harr s, l⟩

theorem Runs.region {P : Program} {f : FuncId} {id : Nat} {ops : Array Oper} {k : List Item} {a : Act} {w : World} {R : Value → World → Prop}
    (h : Runs P f (.inRegion ops (List.range ops.size) :: k) a w R) : Runs P f (.code (.region id ops false) :: k) a w R :=
  .step (fun _ _ _ _ => step_region) h

theorem Runs.region_draw {P : Program} {f : FuncId} {id : Nat} {ops : Array Oper} {k : List Item} {a : Act} {w : World} {R : Value → World → Prop}
    (h : ∀ t, Runs P f (.inRegion ops (Region.schedule (P.follows .mixedOrders) ops t) :: k) a { w with drawn := w.drawn + 1 } R) : Runs P f (.code (.region id ops true) :: k) a w R := by
  intro b cs hb hk
  subst hb
  obtain ⟨v, w'', fr, r, s, l⟩ := h (w.tape w.drawn (.order b.fn id)) b cs rfl hk
  exact ⟨v, w'', fr, r, Steps.head step_region_draw s, l⟩

theorem Runs.ret {P : Program} {f : FuncId} {fn : Func} {k : List Item} {a : Act} {w : World} {R : Value → World → Prop} {v : Value} (hf : P.funcs[f]? = some fn)
    (hd : a.defers = []) (hr : (results fn a.tmps).run P w = .ok v w) (h : R v w) : Runs P f (.code .ret :: k) a w R :=
  fun _ _ hb hk => ⟨v, w, _, h, .one step_ret, hb, rfl, hd, hk, fn, by rw [← hf, ← hb]; rfl, hr⟩

theorem Runs.end_ {P : Program} {f : FuncId} {fn : Func} {a : Act} {w : World} {R : Value → World → Prop} {v : Value} (hf : P.funcs[f]? = some fn)
    (hd : a.defers = []) (hr : (results fn a.tmps).run P w = .ok v w) (h : R v w) : Runs P f [] a w R :=
  fun _ _ hb hk => ⟨v, w, _, h, .one step_end, hb, rfl, hd, hk, fn, by rw [← hf, ← hb]; rfl, hr⟩

theorem calls_of_runs {P : Program} {f : FuncId} {fn : Func} {c : Code} {args : Array Value} {w : World} {R : Value → World → Prop}
    (hf : P.funcs[f]? = some fn) (hb : fn.body = some c)
    (h : Runs P f [.code c] { tmps := args ++ Array.replicate (fn.ntmps - args.size) Go.undef, defers := [] } w R) :
    Calls P f args w fun e w' => ∃ v, e = .returned v ∧ R v w' := by
  intro cs
  let b : Frame := { (default : Frame) with fn := f, kind := .normal }
  have henter : Frame.enter P f args .normal =
      b.at { tmps := args ++ Array.replicate (fn.ntmps - args.size) Go.undef, defers := [] } [.code c] := by
    simp [Frame.enter, Frame.at, hf, hb, b]
  obtain ⟨v, w', fr, r, s, hfr, hl⟩ := h b cs rfl rfl
  rw [← henter] at s
  exact ⟨.returned v, w', fr, ⟨v, rfl, r⟩, s, hfr, hl⟩

end Go.Proofs.Fw
/- The judgement on abstract states, and its rules: control, operations in general, calls. -/
namespace Go.Proofs.Fw
open Go Go.Shelf

def constCell : Value → AV
  | .bool b => .bool b
  | .int k n => .int k n
  | .string s => .str s
  | .pointer none => .nilp
  | .slice none 0 0 => .slice [] .full
  | .map none => .nilmap
  | .nilFunc => .nilFunc
  | .nilIface => .nilIface
  | v => .raw v

def constAV : Value → AV
  | .agg ⟨cs⟩ => .agg (cs.map constCell)
  | .tuple ⟨[]⟩ => .undef
  | v => constCell v

theorem VR.constCell (V : View) (v : Value) : VR V (constCell v) v := by
  unfold Fw.constCell
  split
  · exact .bool _
  · exact .int _ _
  · exact .str _
  · exact .nilp
  · exact .slice [] .full none 0 0 0 0 0 (fun _ => .bool true) rfl (Nat.le_refl _) (by simp) (by simp) (by simp [flat]) (by simp [flat]) rfl
  · exact .nilmap
  · exact .nilFunc
  · exact .nilIface
  · exact .raw _

theorem VR.constAV (V : View) (v : Value) : VR V (constAV v) v := by
  unfold Fw.constAV
  split
  · rename_i cs
    refine .agg _ _ (by simp) fun i x v hx hv => ?_
    simp only [List.getElem?_map, Option.map_eq_some_iff] at hx
    obtain ⟨y, hy, rfl⟩ := hx
    have : y = v := by simpa [hy] using hv
    subst this
    exact VR.constCell V y
  · exact .undef
  · exact VR.constCell V v

def gcells : AH → Nat → Option (List AV)
  | [], _ => none
  | (b, .row cs _) :: r, g => match Nat.beq b g with
    | true => some cs
    | false => gcells r g
  | _ :: r, g => gcells r g

theorem gcells_mem {GV : AH} {g : Nat} {cs : List AV} (h : gcells GV g = some cs) : ∃ e, (g, AO.row cs e) ∈ GV := by
  induction GV with
  | nil => cases h
  | cons p r ih =>
    obtain ⟨b, o⟩ := p
    cases o with
    | row cs' e =>
      simp only [gcells] at h
      split at h
      · rename_i hb
        have := Nat.eq_of_beq_eq_true hb
        subst this
        cases h
        exact ⟨e, List.mem_cons_self⟩
      · obtain ⟨e, he⟩ := ih h; exact ⟨e, List.mem_cons_of_mem _ he⟩
    | _ => obtain ⟨e, he⟩ := ih h; exact ⟨e, List.mem_cons_of_mem _ he⟩

def Env.ev (GV : AH) (env : Env) : Operand → Option AV
  | .tmp t => env.get t
  | .const v => some (constAV v)
  | .global g => (gcells GV g).map AV.ipt
  | .func f => some (.func (.func f) [] [])

theorem Sim.ev {GV : AH} {n : Nat} {V : View} {env : Env} {H : AH} {a : Act} {w : World} (h : Sim GV n V env H a w) {o : Operand} {x : AV} (he : env.ev GV o = some x) : VR V x (a.eval o) := by
  cases o with
  | tmp t =>
    obtain ⟨v, hv, hr⟩ := h.env t x he
    have : a.eval (.tmp t) = v := by simp [Act.eval, Array.getD_eq_getD_getElem?, hv]
    rw [this]; exact hr
  | const v =>
    simp only [Env.ev, Option.some.injEq] at he
    subst he
    exact VR.constAV V v
  | global g =>
    simp only [Env.ev, Option.map_eq_some_iff] at he
    obtain ⟨cs, hc, rfl⟩ := he
    obtain ⟨e, hm⟩ := gcells_mem hc
    exact h.rel.glob g cs e hm
  | func f =>
    simp only [Env.ev, Option.some.injEq] at he
    subst he
    exact .func _ _ _ _ _ rfl rfl (by simp) (by simp)

def Env.evs (GV : AH) (env : Env) : List Operand → Option (List AV)
  | [] => some []
  | o :: r => match env.ev GV o, Env.evs GV env r with
    | some x, some xs => some (x :: xs)
    | _, _ => none

theorem Sim.evs {GV : AH} {n : Nat} {V : View} {env : Env} {H : AH} {a : Act} {w : World} (h : Sim GV n V env H a w) : ∀ {os : List Operand} {xs : List AV}, env.evs GV os = some xs →
    os.length = xs.length ∧ ∀ (i : Nat) (o : Operand) (x : AV), os[i]? = some o → xs[i]? = some x → VR V x (a.eval o)
  | [], xs, he => by
    simp only [Env.evs, Option.some.injEq] at he
    subst he
    exact ⟨rfl, by simp⟩
  | o :: r, xs, he => by
    simp only [Env.evs] at he
    split at he
    · rename_i x xs' h1 h2
      simp only [Option.some.injEq] at he
      subst he
      obtain ⟨hl, hi⟩ := Sim.evs h h2
      refine ⟨by simp [hl], fun i o' x' ho hx => ?_⟩
      cases i with
      | zero => simp only [List.getElem?_cons_zero, Option.some.injEq] at ho hx; subst ho hx; exact h.ev h1
      | succ i => exact hi i o' x' (by simpa using ho) (by simpa using hx)
    · cases he

def AS (P : Program) (GV : AH) (f : FuncId) (n : Nat) (todo : List Item) (env : Env) (H : AH) (R : AV → AH → Prop) : Prop :=
  ∀ V a w, Sim GV n V env H a w → Runs P f todo a w fun v w' => ∃ V' x H', VR V' x v ∧ Rel GV w' V' H' ∧ Ext w V H w' V' H' ∧ R x H'

def ACalls (P : Program) (GV : AH) (f : FuncId) (args : List AV) (H : AH) (R : AV → AH → Prop) : Prop :=
  ∀ V w vs, Cells V args vs → Rel GV w V H → Calls P f vs w fun e w' => ∃ v, e = .returned v ∧ ∃ V' x H', VR V' x v ∧ Rel GV w' V' H' ∧ Ext w V H w' V' H' ∧ R x H'

section
variable {P : Program} {GV : AH} {f : FuncId} {n : Nat} {k : List Item} {env : Env} {H : AH} {R : AV → AH → Prop}

theorem ACalls.mono {args : List AV} {R' : AV → AH → Prop} (h : ACalls P GV f args H R) (hr : ∀ x H', R x H' → R' x H') : ACalls P GV f args H R' :=
  fun V w vs hc hrel => (h V w vs hc hrel).mono fun _ _ ⟨v, he, V', x, H', a, b, c, d⟩ => ⟨v, he, V', x, H', a, b, c, hr _ _ d⟩

theorem AS.mono {todo : List Item} {R' : AV → AH → Prop} (h : AS P GV f n todo env H R) (hr : ∀ x H', R x H' → R' x H') : AS P GV f n todo env H R' :=
  fun V a w hs => (h V a w hs).mono fun _ _ ⟨V', x, H', a, b, c, d⟩ => ⟨V', x, H', a, b, c, hr _ _ d⟩

/-- What is handed back may be told by less: fewer objects. -/
def RSub (R : AV → AH → Prop) (x : AV) (H : AH) : Prop := ∃ H', (∀ p, p ∈ H' → p ∈ H) ∧ (keys H').Nodup ∧ R x H'

theorem AS.rsub {todo : List Item} (h : AS P GV f n todo env H (RSub R)) : AS P GV f n todo env H R :=
  fun V a w hs => (h V a w hs).mono fun _ _ ⟨V', x, _, a, b, c, H', h1, h2, d⟩ => ⟨V', x, H', a, b.sub h1 h2, c.sub h1, d⟩
theorem ACalls.rsub {args : List AV} (h : ACalls P GV f args H (RSub R)) : ACalls P GV f args H R :=
  fun V w vs hc hrel => (h V w vs hc hrel).mono fun _ _ ⟨v, he, V', x, _, a, b, c, H', h1, h2, d⟩ => ⟨v, he, V', x, H', a, b.sub h1 h2, c.sub h1, d⟩

/-! ### Knowing less -/
def EnvLe (env env' : Env) : Prop := ∀ t x, env'.get t = some x → env.get t = some x
theorem EnvLe.nil : EnvLe env [] := fun _ _ h => by cases h
theorem EnvLe.cons {t : Nat} {x : AV} {r : Env} (h : env.get t = some x) (h' : EnvLe env r) : EnvLe env ((t, x) :: r) := by
  intro s y hy
  simp only [Env.get] at hy
  split at hy
  · rename_i hb
    have := Nat.eq_of_beq_eq_true hb
    subst this
    cases hy
    exact h
  · exact h' s y hy
theorem EnvLe.refl : EnvLe env env := fun _ _ h => h

theorem Sim.le {env' : Env} {V : View} {a : Act} {w : World} (h : Sim GV n V env H a w) (he : EnvLe env env') : Sim GV n V env' H a w :=
  ⟨h.defers, h.size, fun t x hx => h.env t x (he t x hx), h.rel⟩

theorem AS.know {todo : List Item} (env' : Env) (he : EnvLe env env') (h : AS P GV f n todo env' H R) : AS P GV f n todo env H R :=
  fun V a w hs => h V a w (hs.le he)

/-- Fewer objects, in any order. -/
theorem AS.hold {todo : List Item} (H' : AH) (hs : ∀ p, p ∈ H' → p ∈ H) (hn : (keys H).Nodup → (keys H').Nodup) (h : AS P GV f n todo env H' R) : AS P GV f n todo env H R := by
  intro V a w hsim
  have hr' := hsim.rel.sub hs (hn hsim.rel.nodup)
  refine (h V a w ⟨hsim.defers, hsim.size, hsim.env, hr'⟩).mono ?_
  rintro v w' ⟨V', x, H2, h1, h2, h3, h4⟩
  have hk : ∀ b, b ∈ keys H' → b ∈ keys H := fun b hb => by
    obtain ⟨x, hx, rfl⟩ := List.mem_map.1 hb
    exact List.mem_map.2 ⟨x, hs x hx, rfl⟩
  exact ⟨V', x, H2, h1, h2, ⟨h3.os, h3.tape, h3.output, h3.size, h3.le, fun b hb hn => h3.heap b hb (fun hm => hn (hk b hm)), fun b hb hn => h3.view b hb (fun hm => hn (hk b hm)),
    fun b hb => (h3.keyed b hb).imp (hk b) id⟩, h4⟩

/-! ### Control -/
theorem AS.step {todo todo' : List Item} (hs : ∀ (a : Act) (w : World) (b : Frame) (cs : List Frame), Go.step P (lone (b.at a todo) cs w) = .next (lone (b.at a todo') cs w)) (h : AS P GV f n todo' env H R) :
    AS P GV f n todo env H R :=
  fun V a w hsim => Runs.step (fun b cs _ _ => hs a w b cs) (h V a w hsim)

theorem AS.skip (h : AS P GV f n k env H R) : AS P GV f n (.code .skip :: k) env H R := .step (fun _ _ _ _ => step_skip) h
theorem AS.label {l : Nat} (h : AS P GV f n k env H R) : AS P GV f n (.code (.label l) :: k) env H R := .step (fun _ _ _ _ => step_label) h
theorem AS.inBlock {id : Nat} (h : AS P GV f n k env H R) : AS P GV f n (.inBlock id :: k) env H R := .step (fun _ _ _ _ => step_inBlock) h
theorem AS.seq {c d : Code} (h : AS P GV f n (.code c :: .code d :: k) env H R) : AS P GV f n (.code (.seq c d) :: k) env H R := .step (fun _ _ _ _ => step_seq) h
theorem AS.block {id : Nat} {c : Code} (h : AS P GV f n (.code c :: .inBlock id :: k) env H R) : AS P GV f n (.code (.block id c) :: k) env H R := .step (fun _ _ _ _ => step_block) h
theorem AS.loop {c : Code} (h : AS P GV f n (.code c :: .inLoop c :: k) env H R) : AS P GV f n (.code (.loop c) :: k) env H R := .step (fun _ _ _ _ => step_loop) h
theorem AS.inLoop {c : Code} (h : AS P GV f n (.code c :: .inLoop c :: k) env H R) : AS P GV f n (.inLoop c :: k) env H R := .step (fun _ _ _ _ => step_inLoop) h
theorem AS.exit {id : Nat} {k' : List Item} (he : exitTo id k = some k') (h : AS P GV f n k' env H R) : AS P GV f n (.code (.exit id) :: k) env H R := .step (fun _ _ _ _ => step_exit he) h
theorem AS.goto {l : Nat} {k' : List Item} (he : gotoIn l k = some k') (h : AS P GV f n k' env H R) : AS P GV f n (.code (.goto l) :: k) env H R := .step (fun _ _ _ _ => step_goto he) h
theorem AS.opsEnd {ops : Array Oper} (h : AS P GV f n k env H R) : AS P GV f n (.inRegion ops [] :: k) env H R := .step (fun _ _ _ _ => step_region_end) h
theorem AS.region {id : Nat} {ops : Array Oper} {l : List Nat} (hl : List.range ops.size = l) (h : AS P GV f n (.inRegion ops l :: k) env H R) : AS P GV f n (.code (.region id ops false) :: k) env H R := by
  subst hl; exact .step (fun _ _ _ _ => step_region) h

theorem AS.cond {o : Operand} {c d : Code} {t : Bool} (hc : env.ev GV o = some (.bool t)) (h1 : t = true → AS P GV f n (.code c :: k) env H R) (h2 : t = false → AS P GV f n (.code d :: k) env H R) :
    AS P GV f n (.code (.cond o c d) :: k) env H R := by
  intro V a w hs
  have hv : a.eval o = .bool t := by
    have := hs.ev hc
    generalize a.eval o = z at this
    cases this; rfl
  refine Runs.step (a' := a) (w' := w) (todo' := .code (if t then c else d) :: k) (fun b cs _ _ => step_cond hv) ?_
  cases t
  · exact h2 rfl V a w hs
  · exact h1 rfl V a w hs

/-- By induction: a loop's rounds. -/
theorem AS.rounds {α : Type} (I : α → Prop) (μ : α → Nat) (E : α → Env) (Hh : α → AH) {body : Code} (x : α) (hI : I x)
    (round : ∀ x, I x → (∀ y, I y → μ y < μ x → AS P GV f n (.inLoop body :: k) (E y) (Hh y) R) → AS P GV f n (.code body :: .inLoop body :: k) (E x) (Hh x) R) :
    AS P GV f n (.code (.loop body) :: k) (E x) (Hh x) R := by
  have key : ∀ m x, μ x = m → I x → AS P GV f n (.code body :: .inLoop body :: k) (E x) (Hh x) R := by
    intro m
    induction m using Nat.strongRecOn with
    | _ m ih =>
      intro x hm hx
      exact round x hx fun y hy hlt => .inLoop (ih (μ y) (hm ▸ hlt) y rfl hy)
  exact .loop (key _ x rfl hI)

/-! ### Entering, returning -/
def argEnv : List AV → Nat → Env
  | [], _ => []
  | x :: r, i => (i, x) :: argEnv r (i + 1)

theorem argEnv_get : ∀ (xs : List AV) (j t : Nat) (x : AV), (argEnv xs j).get t = some x → ∃ i, t = j + i ∧ xs[i]? = some x
  | [], _, _, _, h => by cases h
  | y :: r, j, t, x, h => by
    simp only [argEnv, Env.get] at h
    split at h
    · rename_i hb
      have := Nat.eq_of_beq_eq_true hb
      subst this
      exact ⟨0, by simp, by simpa using h⟩
    · obtain ⟨i, rfl, hi⟩ := argEnv_get r (j + 1) t x h
      exact ⟨i + 1, by omega, by simpa using hi⟩

theorem ACalls.enter {fn : Func} {c : Code} {args : List AV} (hf : P.funcs[f]? = some fn) (hb : fn.body = some c) (hn : fn.ntmps = n) (hl : args.length ≤ n)
    (h : AS P GV f n [.code c] (argEnv args 0) H R) : ACalls P GV f args H R := by
  intro V w vs hc hr
  refine calls_of_runs hf hb (h V _ w ⟨rfl, ?_, ?_, hr⟩)
  · simp only [Array.size_append, Array.size_replicate, hn]
    have := hc.1
    omega
  · intro t x hx
    obtain ⟨i, rfl, hi⟩ := argEnv_get args 0 t x hx
    have hil : i < args.length := (List.getElem?_eq_some_iff.1 hi).1
    have hiv : i < vs.size := by rw [hc.1]; exact hil
    refine ⟨vs[i], ?_, hc.2 i x _ hi (Array.getElem?_eq_getElem hiv)⟩
    simp [Array.getElem?_append, hiv]

/-! ### One operation -/
def wantedB (ops : Array Oper) (env : Env) : Option (Nat × Bool) → Bool
  | none => true
  | some (j, want) => match (ops[j]?).bind (·.dst) with
    | some d => match env.get d with
      | some (.bool b) => match b, want with
        | true, true => true
        | false, false => true
        | _, _ => false
      | _ => false
    | none => false

/-- It is surely passed over. -/
def skippedB (ops : Array Oper) (env : Env) : Option (Nat × Bool) → Bool
  | none => false
  | some (j, want) => match (ops[j]?).bind (·.dst) with
    | some d => match env.get d with
      | some (.bool b) => match b, want with
        | true, false => true
        | false, true => true
        | _, _ => false
      | some .undef => true
      | _ => false
    | none => false

theorem wanted_of {ops : Array Oper} {o : Oper} {V : View} {a : Act} {w : World} (hs : Sim GV n V env H a w) (h : wantedB ops env o.guard = true) : Region.wanted o (yielded ops a.tmps) = true := by
  unfold wantedB at h
  unfold Region.wanted
  split at h
  · rename_i hg; rw [hg]
  · rename_i j want hg
    rw [hg]
    split at h
    · rename_i d hd
      split at h
      · rename_i b hb
        obtain ⟨v, hv, hr⟩ := hs.env d _ hb
        cases hr
        simp only [yielded, hd, Option.bind_some, hv]
        split at h <;> simp_all
      · cases h
    · cases h

theorem skipped_of {ops : Array Oper} {o : Oper} {V : View} {a : Act} {w : World} (hs : Sim GV n V env H a w) (h : skippedB ops env o.guard = true) : Region.wanted o (yielded ops a.tmps) = false := by
  unfold skippedB at h
  unfold Region.wanted
  split at h
  · cases h
  · rename_i j want hg
    rw [hg]
    split at h
    · rename_i d hd
      split at h
      · rename_i b hb
        obtain ⟨v, hv, hr⟩ := hs.env d _ hb
        cases hr
        simp only [yielded, hd, Option.bind_some, hv]
        split at h <;> simp_all
      · rename_i hb
        obtain ⟨v, hv, hr⟩ := hs.env d _ hb
        cases hr
        simp [yielded, hd, hv, Go.undef]
      · cases h
    · cases h

def putEnv (d : Option Tmp) (x : AV) (env : Env) : Env := match d with
  | some d => (d, x) :: env
  | none => env

def fitsB (n : Nat) : Option Tmp → Bool
  | none => true
  | some d => Nat.ble (d + 1) n

theorem Sim.put {V V' : View} {a : Act} {w w' : World} {H' : AH} (h : Sim GV n V env H a w) (hl : VLe V V') {d : Option Tmp} (hd : fitsB n d = true) {x : AV} {v : Value} (hx : VR V' x v) (hr : Rel GV w' V' H') :
    Sim GV n V' (putEnv d x env) H' (a.put d v) w' := by
  cases d with
  | none => exact ⟨h.defers, h.size, fun t y hy => let ⟨v, a, b⟩ := h.env t y hy; ⟨v, a, b.mono hl⟩, hr⟩
  | some d =>
    have hdn : d < n := Nat.le_of_ble_eq_true hd
    refine ⟨h.defers, by simpa [Act.put] using h.size, fun t y hy => ?_, hr⟩
    simp only [putEnv, Env.get] at hy
    simp only [Act.put]
    split at hy
    · rename_i hb
      have := Nat.eq_of_beq_eq_true hb
      subst this
      cases hy
      exact ⟨v, by simp [h.size, hdn], hx⟩
    · rename_i hb
      obtain ⟨u, hu, hr⟩ := h.env t y hy
      have hne : d ≠ t := fun e => by subst e; simp at hb
      exact ⟨u, by rw [Array.getElem?_setIfInBounds_ne hne]; exact hu, hr.mono hl⟩

theorem step_op_value {b : Frame} {a : Act} {cs : List Frame} {w w' : World} {ops : Array Oper} {i : Nat} {rest : List Nat} {o : Oper} {v : Value} (ho : ops[i]? = some o)
    (hw : Region.wanted o (yielded ops a.tmps) = true) (hr : (execOp a.eval o).run P w = .ok (.value v) w') :
    Go.step P (lone (b.at a (.inRegion ops (i :: rest) :: k)) cs w) = .next (lone (b.at (a.put o.dst v) (.inRegion ops rest :: k)) cs w') := by
  have hg := stepG_op (P := P) (b := b) (k := k) (cs := cs) (w := w) (rest := rest) ho hw
  have hfin : (b.at a (.inRegion ops (i :: rest) :: k)).finish v = b.at (a.put o.dst v) (.inRegion ops rest :: k) := by rw [Frame.finish_at, ho]; rfl
  refine step_lone_go ?_
  rw [hg, ← hfin]; simp [stepG.apply, hr]

theorem step_op_skipR {b : Frame} {a : Act} {cs : List Frame} {w w' : World} {ops : Array Oper} {i : Nat} {rest : List Nat} {o : Oper} (ho : ops[i]? = some o)
    (hw : Region.wanted o (yielded ops a.tmps) = true) (hr : (execOp a.eval o).run P w = .ok .skip w') :
    Go.step P (lone (b.at a (.inRegion ops (i :: rest) :: k)) cs w) = .next (lone (b.at (a.put o.dst Go.undef) (.inRegion ops rest :: k)) cs w') := by
  have hg := stepG_op (P := P) (b := b) (k := k) (cs := cs) (w := w) (rest := rest) ho hw
  have hfin : (b.at a (.inRegion ops (i :: rest) :: k)).finish Go.undef = b.at (a.put o.dst Go.undef) (.inRegion ops rest :: k) := by rw [Frame.finish_at, ho]; rfl
  refine step_lone_go ?_
  rw [hg, ← hfin]; simp [stepG.apply, hr]

variable {ops : Array Oper} {i : Nat} {rest : List Nat} {o : Oper}

/-- An operation that is passed over. -/
theorem AS.pass (ho : ops[i]? = some o) (hw : skippedB ops env o.guard = true) (hd : fitsB n o.dst = true) (h : AS P GV f n (.inRegion ops rest :: k) (putEnv o.dst .undef env) H R) :
    AS P GV f n (.inRegion ops (i :: rest) :: k) env H R := by
  intro V a w hs
  have hsk := skipped_of (o := o) hs hw
  refine Runs.step (a' := a.put o.dst Go.undef) (w' := w) (todo' := .inRegion ops rest :: k) (fun b cs _ _ => ?_) (h V _ w (hs.put (.refl V) hd .undef hs.rel))
  have := step_op_skip (P := P) (b := b) (a := a) (k := k) (cs := cs) (w := w) (ops := ops) (i := i) (rest := rest) (by simp [ho]; simpa using hsk)
  simp only [ho, Option.bind_some] at this
  exact this

/-- An operation that yields a value; what it yields, and what memory is behind it, as Φ tells. -/
theorem AS.opG {Φ : AV → AH → Prop} (ho : ops[i]? = some o) (hw : wantedB ops env o.guard = true) (hd : fitsB n o.dst = true)
    (h : ∀ V a w, Sim GV n V env H a w → ∃ v w' V' x H', ((execOp a.eval o).run P w = .ok (.value v) w' ∨ (execOp a.eval o).run P w = .ok .skip w' ∧ v = Go.undef) ∧ VR V' x v ∧ Rel GV w' V' H' ∧ Ext w V H w' V' H' ∧ Φ x H')
    (next : ∀ x H', Φ x H' → AS P GV f n (.inRegion ops rest :: k) (putEnv o.dst x env) H' R) : AS P GV f n (.inRegion ops (i :: rest) :: k) env H R := by
  intro V a w hs
  obtain ⟨v, w', V', x, H', hrun, hx, hrel, hext, hΦ⟩ := h V a w hs
  have hn := next x H' hΦ V' _ w' (hs.put hext.le hd hx hrel)
  have hwn := wanted_of (o := o) hs hw
  refine Runs.step (a' := a.put o.dst v) (w' := w') (todo' := .inRegion ops rest :: k) (fun b cs _ _ => ?_) ?_
  · rcases hrun with hrun | ⟨hrun, rfl⟩
    · exact step_op_value ho hwn hrun
    · exact step_op_skipR ho hwn hrun
  · exact hn.mono fun v2 w2 ⟨V2, y, H2, h1, h2, h3, h4⟩ => ⟨V2, y, H2, h1, h2, hext.trans h3, h4⟩

/-- An operation that turns nothing. -/
theorem AS.opV (x : AV) (ho : ops[i]? = some o) (hw : wantedB ops env o.guard = true) (hd : fitsB n o.dst = true)
    (h : ∀ V a w, Sim GV n V env H a w → ∃ v, (execOp a.eval o).run P w = .ok (.value v) w ∧ VR V x v)
    (next : AS P GV f n (.inRegion ops rest :: k) (putEnv o.dst x env) H R) : AS P GV f n (.inRegion ops (i :: rest) :: k) env H R :=
  AS.opG (Φ := fun y H' => y = x ∧ H' = H) ho hw hd (fun V a w hs => let ⟨v, hr, hv⟩ := h V a w hs; ⟨v, w, V, x, H, .inl hr, hv, hs.rel, .refl _ _ _, rfl, rfl⟩)
    (fun y H' ⟨e1, e2⟩ => by subst e1 e2; exact next)

/-- A call of a function of the program's. -/
theorem AS.callG {g : FuncId} {args : List AV} {Φ : AV → AH → Prop} (ho : ops[i]? = some o) (hw : wantedB ops env o.guard = true) (hd : fitsB n o.dst = true)
    (hent : ∀ V a w, Sim GV n V env H a w → ∃ vs, (execOp a.eval o).run P w = .ok (.enter g vs) w ∧ Cells V args vs)
    (hc : ACalls P GV g args H Φ) (next : ∀ x H', Φ x H' → AS P GV f n (.inRegion ops rest :: k) (putEnv o.dst x env) H' R) : AS P GV f n (.inRegion ops (i :: rest) :: k) env H R := by
  intro V a w hs
  obtain ⟨vs, hrun, hcells⟩ := hent V a w hs
  have hwn := wanted_of (o := o) hs hw
  intro b cs hb hk
  have hg := stepG_op (P := P) (b := b) (k := k) (cs := cs) (w := w) (rest := rest) ho hwn
  obtain ⟨e, w1, fr, ⟨v, rfl, V', x, H', hx, hrel, hext, hΦ⟩, hsteps, _, hleave⟩ := hc V w vs hcells hs.rel (b.at a (.inRegion ops (i :: rest) :: k) :: cs)
  have henter : Go.step P (lone (b.at a (.inRegion ops (i :: rest) :: k)) cs w) = .next (lone (Frame.enter P g vs .normal) (b.at a (.inRegion ops (i :: rest) :: k) :: cs) w) :=
    step_lone_go (by rw [hg]; simp [stepG.apply, hrun, Frame.at])
  have hfin : (b.at a (.inRegion ops (i :: rest) :: k)).finish v = b.at (a.put o.dst v) (.inRegion ops rest :: k) := by rw [Frame.finish_at, ho]; rfl
  obtain ⟨v2, w2, fr2, ⟨V2, y, H2, h1, h2, h3, h4⟩, hs2, hfn2, hl2⟩ := next x H' hΦ V' _ w1 (hs.put hext.le hd hx hrel) b cs hb hk
  refine ⟨v2, w2, fr2, ⟨V2, y, H2, h1, h2, hext.trans h3, h4⟩, .head henter (hsteps.trans (.head ?_ hs2)), hfn2, hl2⟩
  rw [← hfin]; exact step_leave_returned hleave

theorem Cells.mk {V : View} {env : Env} {a : Act} {w : World} (hs : Sim GV n V env H a w) {os : Array Operand} {xs : List AV} (he : env.evs GV os.toList = some xs) : Cells V xs (os.map a.eval) := by
  obtain ⟨hl, hi⟩ := hs.evs he
  refine ⟨by simpa using hl, fun i x v hx hv => ?_⟩
  simp only [Array.getElem?_map, Option.map_eq_some_iff] at hv
  obtain ⟨o, ho, rfl⟩ := hv
  exact hi i o x (by simpa using ho) hx

theorem Cells.append {V : View} {xs ys : List AV} {vs us : Array Value} (h : Cells V xs vs) (h' : Cells V ys us) : Cells V (xs ++ ys) (vs ++ us) := by
  refine ⟨by simp [h.1, h'.1], fun i x v hx hv => ?_⟩
  have e1 := h.1
  by_cases hi : i < xs.length
  · rw [List.getElem?_append_left hi] at hx
    rw [Array.getElem?_append_left (by omega)] at hv
    exact h.2 i x v hx hv
  · rw [List.getElem?_append_right (by omega)] at hx
    rw [Array.getElem?_append_right (by omega)] at hv
    exact h'.2 _ x v hx (by rw [← e1]; exact hv)

/-- f(x, y): a function that is named. -/
theorem AS.call {g : FuncId} {os : Array Operand} {ats : Array TypeId} {d : Option Tmp} {ty : TypeId} {pos : String} {aft : Array Edge} {gd : Option (Nat × Bool)} {args : List AV} {Φ : AV → AH → Prop}
    (ho : ops[i]? = some ⟨d, .call ⟨.value (.func g), os, ats⟩, ty, pos, aft, gd⟩) (hw : wantedB ops env gd = true) (hd : fitsB n d = true) (he : env.evs GV os.toList = some args)
    (hg : Enters P g) (hc : ACalls P GV g args H Φ) (next : ∀ x H', Φ x H' → AS P GV f n (.inRegion ops rest :: k) (putEnv d x env) H' R) : AS P GV f n (.inRegion ops (i :: rest) :: k) env H R :=
  AS.callG (o := ⟨d, .call ⟨.value (.func g), os, ats⟩, ty, pos, aft, gd⟩) ho hw hd (fun V a w hs => ⟨os.map a.eval, by rw [execOp_call_go]; simpa using hg (os.map a.eval) w, .mk hs he⟩) hc next

/-- A call of a function value. -/
theorem AS.callValue {g : FuncId} {fo : Operand} {first caps : List AV} {os : Array Operand} {ats : Array TypeId} {d : Option Tmp} {ty : TypeId} {pos : String} {aft : Array Edge} {gd : Option (Nat × Bool)} {args : List AV}
    {Φ : AV → AH → Prop}
    (ho : ops[i]? = some ⟨d, .call ⟨.value fo, os, ats⟩, ty, pos, aft, gd⟩) (hw : wantedB ops env gd = true) (hd : fitsB n d = true) (hfo : env.ev GV fo = some (.func (.func g) first caps)) (he : env.evs GV os.toList = some args)
    (hg : Enters P g) (hc : ACalls P GV g (first ++ args ++ caps) H Φ) (next : ∀ x H', Φ x H' → AS P GV f n (.inRegion ops rest :: k) (putEnv d x env) H' R) : AS P GV f n (.inRegion ops (i :: rest) :: k) env H R :=
  AS.callG (o := ⟨d, .call ⟨.value fo, os, ats⟩, ty, pos, aft, gd⟩) ho hw hd (fun V a w hs => by
    have hv := hs.ev hfo
    generalize hz : a.eval fo = z at hv
    cases hv with
    | func _ _ _ first' caps' h1 h2 hf hcp =>
      refine ⟨first' ++ os.map a.eval ++ caps', ?_, (Cells.append ⟨h1, hf⟩ (.mk hs he)).append ⟨h2, hcp⟩⟩
      simp only [execOp, resolve, hz, Deferred.ofValue]
      simpa [invoke] using hg (first' ++ os.map a.eval ++ caps') w) hc next

end
end Go.Proofs.Fw
/- Memory: new blocks, rows that are written; rules for the operations on memory. -/
namespace Go.Proofs.Fw
open Go Go.Shelf Go.RowKit
set_option linter.unusedVariables false

/-! ### Objects by their block -/
class At (H : AH) (b : Nat) (o : outParam AO) : Prop where
  mem : (b, o) ∈ H
instance At_here (H : AH) (b : Nat) (o : AO) : At ((b, o) :: H) b o := ⟨List.mem_cons_self⟩
instance (priority := low) At_there (H : AH) (b : Nat) (o : AO) (p : Nat × AO) [h : At H b o] : At (p :: H) b o := ⟨List.mem_cons_of_mem _ h.mem⟩

/-- H' is H but for what lies at b. -/
class Upd (H : AH) (b : Nat) (o' : AO) (H' : outParam AH) : Prop where
  keys : Fw.keys H' = Fw.keys H
  here : b ∈ Fw.keys H
  old : ∀ c o, (c, o) ∈ H' → (c, o) ∈ H ∨ (c = b ∧ o = o')
  fst : (Fw.keys H).Nodup → ∀ o, (b, o) ∈ H' → o = o'
instance Upd_here (H : AH) (b : Nat) (o o' : AO) : Upd ((b, o) :: H) b o' ((b, o') :: H) where
  keys := rfl
  here := by simp [Fw.keys]
  old c x h := by
    rcases List.mem_cons.1 h with h | h
    · cases h; exact .inr ⟨rfl, rfl⟩
    · exact .inl (List.mem_cons_of_mem _ h)
  fst hn x h := by
    rcases List.mem_cons.1 h with h | h
    · cases h; rfl
    · simp only [Fw.keys, List.map_cons, List.nodup_cons] at hn
      exact absurd (List.mem_map.2 ⟨_, h, rfl⟩) hn.1
instance (priority := low) Upd_there (H H' : AH) (b : Nat) (o' : AO) (p : Nat × AO) [h : Upd H b o' H'] : Upd (p :: H) b o' (p :: H') where
  keys := by simp only [Fw.keys, List.map_cons]; exact congrArg _ h.keys
  here := List.mem_cons_of_mem _ h.here
  old c x hm := by
    rcases List.mem_cons.1 hm with e | hm
    · subst e; exact .inl List.mem_cons_self
    · exact (h.old c x hm).imp (List.mem_cons_of_mem _) id
  fst hn x hm := by
    simp only [Fw.keys, List.map_cons, List.nodup_cons] at hn
    rcases List.mem_cons.1 hm with e | hm
    · exfalso; apply hn.1; rw [← e]; exact h.here
    · exact h.fst hn.2 x hm

/-- H' is H without what lies at b. -/
class Del (H : AH) (b : Nat) (o : outParam AO) (H' : outParam AH) : Prop where
  mem : (b, o) ∈ H
  old : ∀ p, p ∈ H' → p ∈ H
  nodup : (Fw.keys H).Nodup → (Fw.keys H').Nodup ∧ b ∉ Fw.keys H'
  keys : ∀ c, c ∈ Fw.keys H → c = b ∨ c ∈ Fw.keys H'
instance Del_here (H : AH) (b : Nat) (o : AO) : Del ((b, o) :: H) b o H where
  mem := List.mem_cons_self
  old _ h := List.mem_cons_of_mem _ h
  nodup h := by simp only [Fw.keys, List.map_cons, List.nodup_cons] at h; exact ⟨h.2, h.1⟩
  keys c h := by simpa [Fw.keys] using h
instance (priority := low) Del_there (H H' : AH) (b : Nat) (o : AO) (p : Nat × AO) [h : Del H b o H'] : Del (p :: H) b o (p :: H') where
  mem := List.mem_cons_of_mem _ h.mem
  old q hq := by
    rcases List.mem_cons.1 hq with e | hq
    · subst e; exact List.mem_cons_self
    · exact List.mem_cons_of_mem _ (h.old q hq)
  nodup hn := by
    simp only [Fw.keys, List.map_cons, List.nodup_cons] at hn ⊢
    obtain ⟨h1, h2⟩ := h.nodup hn.2
    refine ⟨⟨fun hm => hn.1 ?_, h1⟩, ?_⟩
    · obtain ⟨q, hq, e⟩ := List.mem_map.1 hm
      rw [← e]; exact List.mem_map.2 ⟨q, h.old q hq, rfl⟩
    · intro hm
      rcases List.mem_cons.1 hm with e | hm
      · apply hn.1; rw [← e]; exact List.mem_map.2 ⟨_, h.mem, rfl⟩
      · exact h2 hm
  keys c hc := by
    simp only [Fw.keys, List.map_cons, List.mem_cons] at hc ⊢
    rcases hc with e | hc
    · exact .inr (.inl e)
    · exact (h.keys c hc).imp id .inr

/-! ### New blocks -/
section
variable {GV : AH} {w : World} {V : View} {H : AH}

theorem Rel.claim_lt (h : Rel GV w V H) {b i : Nat} {v : Value} (e : V b i = some v) : b < w.heap.size := World.block_lt_of_cell? w ⟨b, i, none⟩ (h.claims b i v e)
theorem Rel.fresh_claim (h : Rel GV w V H) {b i : Nat} (hb : w.heap.size ≤ b) : V b i = none := by
  cases e : V b i with
  | none => rfl
  | some v => have := h.claim_lt e; omega
theorem Rel.key_lt (h : Rel GV w V H) {b : Nat} (hb : b ∈ keys H) : b < w.heap.size := by
  obtain ⟨⟨c, o⟩, hm, rfl⟩ := List.mem_map.1 hb
  exact (h.objs c o hm).lt

theorem heap_alloc_old (o : Obj) {b : Nat} (h : b < w.heap.size) : (w.alloc o).heap[b]? = w.heap[b]? := Below.heap_alloc w o b h

/-- A new mutable object. -/
theorem Rel.alloc (h : Rel GV w V H) (obj : Obj) (o : AO) (ho : OR (w.alloc obj) V w.heap.size o) : Rel GV (w.alloc obj) V ((w.heap.size, o) :: H) ∧ Ext w V H (w.alloc obj) V ((w.heap.size, o) :: H) := by
  refine ⟨⟨?_, ?_, ?_, h.glob⟩, ⟨rfl, rfl, rfl, by simp, .refl _, fun b hb _ => heap_alloc_old obj hb, fun _ _ _ _ => rfl, ?_⟩⟩
  · simp only [keys, List.map_cons, List.nodup_cons]
    exact ⟨fun hm => by have := h.key_lt hm; omega, h.nodup⟩
  · intro b o' hm
    rcases List.mem_cons.1 hm with e | hm
    · cases e; exact ho
    · have hlt := (h.objs b o' hm).lt
      exact (h.objs b o' hm).keep (.refl _) (heap_alloc_old obj hlt) (fun _ => rfl)
  · intro b i v e
    rw [World.cell?_alloc_lt w obj ⟨b, i, none⟩ (h.claim_lt e)]
    exact h.claims b i v e
  · intro b hb
    simp only [keys, List.map_cons, List.mem_cons] at hb
    rcases hb with e | hb
    · exact .inr (by omega)
    · exact .inl hb

theorem Rel.alloc_row (h : Rel GV w V H) {cs : List AV} {arr : Array Value} (hc : Cells V cs arr) (e : TypeId) :
    Rel GV (w.alloc (.cells arr e)) V ((w.heap.size, .row cs e) :: H) ∧ Ext w V H (w.alloc (.cells arr e)) V ((w.heap.size, .row cs e) :: H) :=
  h.alloc _ _ ⟨arr, heap_alloc_new w _, hc, fun i => h.fresh_claim (Nat.le_refl _)⟩

/-- More is claimed: cells of a block that is new, or that is given up. -/
def View.claim (V : View) (b : Nat) (g : Nat → Option Value) : View := fun c i => if c = b then (match V c i with | some v => some v | none => g i) else V c i
theorem View.le_claim (V : View) (b : Nat) (g : Nat → Option Value) : VLe V (V.claim b g) := by
  intro c i v e
  simp only [View.claim]
  split
  · rw [e]
  · exact e
theorem View.claim_other (V : View) {b c : Nat} (g : Nat → Option Value) (h : c ≠ b) (i : Nat) : V.claim b g c i = V c i := by simp [View.claim, h]
theorem View.claim_here (V : View) {b : Nat} (g : Nat → Option Value) (i : Nat) (h : V b i = none) : V.claim b g b i = g i := by simp [View.claim, h]

/-- A new block that will not turn. -/
theorem Rel.alloc_ro (h : Rel GV w V H) (arr : Array Value) (e : TypeId) :
    Rel GV (w.alloc (.cells arr e)) (V.claim w.heap.size (fun i => arr[i]?)) H ∧ Ext w V H (w.alloc (.cells arr e)) (V.claim w.heap.size (fun i => arr[i]?)) H ∧
      ∀ i, V.claim w.heap.size (fun i => arr[i]?) w.heap.size i = arr[i]? := by
  have hcl : ∀ i, V.claim w.heap.size (fun i => arr[i]?) w.heap.size i = arr[i]? := fun i => View.claim_here V _ i (h.fresh_claim (Nat.le_refl _))
  refine ⟨⟨h.nodup, ?_, ?_, ?_⟩, ⟨rfl, rfl, rfl, by simp, View.le_claim V _ _, fun b hb _ => heap_alloc_old _ hb, fun b hb _ i => View.claim_other V _ (by omega) i, fun b hb => .inl hb⟩, hcl⟩
  · intro b o hm
    have hlt := (h.objs b o hm).lt
    exact (h.objs b o hm).keep (View.le_claim V _ _) (heap_alloc_old _ hlt) (fun i => View.claim_other V _ (by omega) i)
  · intro b i v hv
    by_cases hb : b = w.heap.size
    · subst hb
      rw [hcl] at hv
      rw [World.cell?_alloc_new]; exact hv
    · rw [View.claim_other V _ hb] at hv
      rw [World.cell?_alloc_lt w _ ⟨b, i, none⟩ (h.claim_lt hv)]
      exact h.claims b i v hv
  · exact fun b cs e' hm => (h.glob b cs e' hm).mono (View.le_claim V _ _)

/-- An object turns in its place, the view staying. -/
theorem Rel.update (h : Rel GV w V H) {w' : World} {b : Nat} {o' : AO} {H' : AH} [u : Upd H b o' H'] (hos : w'.os = w.os) (htape : w'.tape = w.tape) (hout : w'.output = w.output) (hsize : w'.heap.size = w.heap.size)
    (hheap : ∀ c, c ≠ b → w'.heap[c]? = w.heap[c]?) (hcl : ∀ i v, V b i = some v → w'.cell? ⟨b, i, none⟩ = some v) (ho : OR w' V b o') : Rel GV w' V H' ∧ Ext w V H w' V H' := by
  refine ⟨⟨by rw [u.keys]; exact h.nodup, ?_, ?_, h.glob⟩, ⟨hos, htape, hout, by omega, .refl _, ?_, fun _ _ _ _ => rfl, fun c hc => .inl (by rw [← u.keys]; exact hc)⟩⟩
  · intro c o hm
    by_cases hcb : c = b
    · subst hcb
      rw [u.fst h.nodup o hm]; exact ho
    · rcases u.old c o hm with hm' | ⟨e, _⟩
      · exact (h.objs c o hm').keep (.refl _) (hheap c hcb) (fun _ => rfl)
      · exact absurd e hcb
  · intro c i v hv
    by_cases hcb : c = b
    · subst hcb; exact hcl i v hv
    · rw [World.cell?_of_block (hheap c hcb)]
      exact h.claims c i v hv
  · intro c _ hn
    exact hheap c (fun e => hn (by subst e; exact u.here))
end

/-! ### Values and their cells -/
def AV.plain : AV → Bool
  | .raw _ | .undef | .tup _ => false
  | _ => true

theorem VR.cells {V : View} {x : AV} {v : Value} (h : VR V x v) (hp : x.plain = true) : Cells V x.cells v.cells := by
  have one : ∀ {x : AV} {v : Value}, VR V x v → Cells V [x] #[v] := fun {x v} h => ⟨rfl, fun i y u hy hu => by
    cases i with
    | zero => simp at hy hu; subst hy hu; exact h
    | succ i => simp at hy⟩
  cases h with
  | agg cs arr h1 hc => exact ⟨h1, hc⟩
  | tup => cases hp
  | undef => cases hp
  | raw => cases hp
  | bool b => exact one (.bool b)
  | int k n => exact one (.int k n)
  | str s => exact one (.str s)
  | ptr b o => exact one (.ptr b o)
  | nilp => exact one .nilp
  | ipt cs b o f hV hc => exact one (.ipt cs b o f hV hc)
  | slice xs t a n c sz b o f hn hnc hsz ha hV hc ht => exact one (.slice xs t a n c sz b o f hn hnc hsz ha hV hc ht)
  | mslice b o n c => exact one (.mslice b o n c)
  | map m => exact one (.map m)
  | nilmap => exact one .nilmap
  | func fn first caps first' caps' h1 h2 hf hc => exact one (.func fn first caps first' caps' h1 h2 hf hc)
  | nilFunc => exact one .nilFunc
  | iface t x v h => exact one (.iface t x v h)
  | nilIface => exact one .nilIface

theorem VR.oneCell {V : View} {x : AV} {v : Value} (h : VR V x v) (hp : x.one = true) : v.oneCell' = true := by
  cases h <;> first | rfl | cases hp

/-- Every cell of a value is one cell. -/
def AV.flatB : AV → Bool
  | .agg cs => cs.all AV.one
  | x => x.one

theorem AV.plain_of_flatB {x : AV} (h : x.flatB = true) : x.plain = true := by cases x <;> simp_all [AV.flatB, AV.plain, AV.one]

theorem AV.cells_one {x : AV} (h : x.flatB = true) : ∀ y ∈ x.cells, y.one = true := by
  cases x <;> simp_all [AV.flatB, AV.cells, AV.one]

/-! ### What a type is -/
theorem rTI {P : Program} {w : World} {t : TypeId} {i : TypeInfo} (h : P.info? t = some i) : (typeInfo t).run P w = .ok i w := by simp [typeInfo, h]

def aggDesc : TypeDesc → Bool
  | .struct _ | .array _ _ => true
  | _ => false

/-- (cells, is it a struct or an array) -/
def tyI (P : Program) (t : TypeId) : Option (Nat × Bool) := match P.underlying t, P.info? t with
  | some d, some i => some (i.size, aggDesc d)
  | _, _ => none

section
variable {P : Program} {w : World}
theorem run_isAgg_of {t : TypeId} {sz : Nat} {g : Bool} (h : tyI P t = some (sz, g)) : (isAgg t).run P w = .ok g w := by
  unfold tyI at h
  split at h
  · rename_i d i hd hi
    simp only [Option.some.injEq, Prod.mk.injEq] at h
    cases d <;> simp_all [isAgg, run_underlying hd, aggDesc]
  · cases h
theorem run_sizeOf_of {t : TypeId} {sz : Nat} {g : Bool} (h : tyI P t = some (sz, g)) : (sizeOf t).run P w = .ok sz w := by
  unfold tyI at h
  split at h
  · rename_i d i hd hi
    simp only [Option.some.injEq, Prod.mk.injEq] at h
    simp [sizeOf, rTI hi, h.1]
  · cases h
end

theorem Addr.add_eq (b o n : Nat) : (⟨b, o, none⟩ : Addr).add n = ⟨b, o + n, none⟩ := by unfold Addr.add; split <;> simp_all

/-- A variable that is read: all its cells known. -/
theorem run_loadVar {P : Program} {w : World} {V : View} {t : TypeId} {sz : Nat} {g : Bool} (ht : tyI P t = some (sz, g)) {b off : Nat} {cs : List AV} (fv : Nat → Value)
    (hcell : ∀ i, i < sz → w.cell? ⟨b, off + i, none⟩ = some (fv i)) (hl : cs.length = sz) (hone : g = false → sz = 1) (hc : ∀ i x, cs[i]? = some x → VR V x (fv i)) :
    ∃ v, (loadVar t ⟨b, off, none⟩).run P w = .ok v w ∧ VR V (match g with | true => .agg cs | false => cs.getD 0 .undef) v := by
  cases g with
  | true =>
    refine ⟨.agg ((List.range sz).map fv).toArray, ?_, .agg _ _ (by simp [hl]) fun i x v hx hv => ?_⟩
    · have hlc := run_loadCells (P := P) w ⟨b, off, none⟩ sz fv (fun j hj => by rw [Addr.add_eq]; exact hcell j hj)
      simp [loadVar, run_isAgg_of ht, run_sizeOf_of ht, hlc]
    · have hi : i < sz := by rw [← hl]; exact (List.getElem?_eq_some_iff.1 hx).1
      have : fv i = v := by simpa [hi] using hv
      rw [← this]; exact hc i x hx
  | false =>
    have h1 := hone rfl
    subst h1
    match cs, hl with
    | [x], _ =>
      refine ⟨fv 0, ?_, hc 0 x rfl⟩
      have := hcell 0 (by omega)
      simp only [Nat.add_zero] at this
      simp [loadVar, run_isAgg_of ht, this]

section rules
variable {P : Program} {GV : AH} {f : FuncId} {n : Nat} {k : List Item} {env : Env} {H : AH} {R : AV → AH → Prop} {ops : Array Oper} {i : Nat} {rest : List Nat}
variable {d : Option Tmp} {ty : TypeId} {pos : String} {aft : Array Edge} {gd : Option (Nat × Bool)}

theorem AS.move {x : Operand} {y : AV} (ho : ops[i]? = some ⟨d, .move x, ty, pos, aft, gd⟩) (hw : wantedB ops env gd = true) (hd : fitsB n d = true) (hx : env.ev GV x = some y)
    (next : AS P GV f n (.inRegion ops rest :: k) (putEnv d y env) H R) : AS P GV f n (.inRegion ops (i :: rest) :: k) env H R :=
  .opV y ho hw hd (fun V a w hs => ⟨_, rfl, hs.ev hx⟩) next
theorem AS.assign {x : Operand} {y : AV} (ho : ops[i]? = some ⟨d, .assign x, ty, pos, aft, gd⟩) (hw : wantedB ops env gd = true) (hd : fitsB n d = true) (hx : env.ev GV x = some y)
    (next : AS P GV f n (.inRegion ops rest :: k) (putEnv d y env) H R) : AS P GV f n (.inRegion ops (i :: rest) :: k) env H R :=
  .opV y ho hw hd (fun V a w hs => ⟨_, rfl, hs.ev hx⟩) next

theorem AS.pick {c x y : Operand} {t : Bool} {z : AV} (ho : ops[i]? = some ⟨d, .pick c x y, ty, pos, aft, gd⟩) (hw : wantedB ops env gd = true) (hd : fitsB n d = true) (hc : env.ev GV c = some (.bool t))
    (hz : (match t with | true => env.ev GV x | false => env.ev GV y) = some z)
    (next : AS P GV f n (.inRegion ops rest :: k) (putEnv d z env) H R) : AS P GV f n (.inRegion ops (i :: rest) :: k) env H R :=
  .opV z ho hw hd (fun V a w hs => by
    have hv := hs.ev hc
    generalize hq : a.eval c = q at hv
    cases hv
    cases t with
    | true => exact ⟨_, by simp [execOp, hq, asBool], hs.ev hz⟩
    | false => exact ⟨_, by simp [execOp, hq, asBool], hs.ev hz⟩) next

/-- A pointer, or a function, that isn't nil. -/
def AV.notNil : AV → Bool
  | .ptr _ _ | .ipt _ | .func (.func _) _ _ | .iface _ _ | .slice _ _ | .mslice _ _ _ _ | .map _ | .nilmap => true
  | _ => false
theorem AS.nilCheck {x : Operand} {y : AV} (ho : ops[i]? = some ⟨d, .nilCheck x, ty, pos, aft, gd⟩) (hw : wantedB ops env gd = true) (hd : fitsB n d = true) (hx : env.ev GV x = some y) (hy : y.notNil = true)
    (next : AS P GV f n (.inRegion ops rest :: k) (putEnv d y env) H R) : AS P GV f n (.inRegion ops (i :: rest) :: k) env H R :=
  .opV y ho hw hd (fun V a w hs => by
    have hv := hs.ev hx
    refine ⟨a.eval x, ?_, hv⟩
    generalize hq : a.eval x = q at hv
    cases hv with
    | func fn first caps first' caps' h1 h2 hf hc => cases fn <;> first | (cases hy; done) | (unfold execOp; simp only [hq]; rfl)
    | _ => first | (cases hy; done) | (unfold execOp; simp only [hq]; rfl)) next

/-- A new variable that holds x. -/
theorem AS.box {e : TypeId} {x : Operand} {y : AV} (ho : ops[i]? = some ⟨d, .box e x, ty, pos, aft, gd⟩) (hw : wantedB ops env gd = true) (hd : fitsB n d = true) (hx : env.ev GV x = some y) (hy : y.plain = true)
    (next : ∀ b, AS P GV f n (.inRegion ops rest :: k) (putEnv d (.ptr b 0) env) ((b, .row y.cells e) :: H) R) : AS P GV f n (.inRegion ops (i :: rest) :: k) env H R :=
  .opG (Φ := fun z H' => ∃ b, z = .ptr b 0 ∧ H' = (b, .row y.cells e) :: H) ho hw hd (fun V a w hs => by
    have hr := hs.rel.alloc_row ((hs.ev hx).cells hy) e
    exact ⟨.pointer (some ⟨w.heap.size, 0, none⟩), w.alloc (.cells (a.eval x).cells e), V, _, _, .inl (by simp [execOp, Instr.box, newVar, newRow]), .ptr _ _, hr.1, hr.2, _, rfl, rfl⟩)
    (fun _ _ ⟨b, e1, e2⟩ => by subst e1 e2; exact next b)

/-- A new variable of the type's zero value. -/
theorem AS.alloc {e : TypeId} {info : TypeInfo} {z : Value} (ho : ops[i]? = some ⟨d, .alloc e, ty, pos, aft, gd⟩) (hw : wantedB ops env gd = true) (hd : fitsB n d = true) (hi : P.info? e = some info) (hz : info.zero = some z) (hy : (constAV z).plain = true)
    (next : ∀ b, AS P GV f n (.inRegion ops rest :: k) (putEnv d (.ptr b 0) env) ((b, .row (constAV z).cells e) :: H) R) : AS P GV f n (.inRegion ops (i :: rest) :: k) env H R :=
  .opG (Φ := fun x H' => ∃ b, x = .ptr b 0 ∧ H' = (b, .row (constAV z).cells e) :: H) ho hw hd (fun V a w hs => by
    have hr := hs.rel.alloc_row ((VR.constAV V z).cells hy) e
    exact ⟨.pointer (some ⟨w.heap.size, 0, none⟩), w.alloc (.cells z.cells e), V, _, _, .inl (by simp [execOp, Instr.alloc, zeroValue, rTI hi, hz, newVar, newRow]), .ptr _ _, hr.1, hr.2, _, rfl, rfl⟩)
    (fun _ _ ⟨b, e1, e2⟩ => by subst e1 e2; exact next b)

def pickCells (g : Bool) (cs : List AV) (off sz : Nat) : Option AV := match g with
  | true => some (.agg ((cs.drop off).take sz))
  | false => cs[off]?

/-- *p, p into an object. -/
theorem AS.load {t : TypeId} {x : Operand} {b off : Nat} {cs : List AV} {e : TypeId} [hat : At H b (.row cs e)] {sz : Nat} {g : Bool} {y : AV} (ho : ops[i]? = some ⟨d, .load t x, ty, pos, aft, gd⟩) (hw : wantedB ops env gd = true)
    (hd : fitsB n d = true) (hx : env.ev GV x = some (.ptr b off)) (ht : tyI P t = some (sz, g)) (hl : Nat.ble (off + sz) cs.length = true) (hone : (match g with | true => true | false => Nat.beq sz 1) = true) (hy : pickCells g cs off sz = some y)
    (next : AS P GV f n (.inRegion ops rest :: k) (putEnv d y env) H R) : AS P GV f n (.inRegion ops (i :: rest) :: k) env H R :=
  .opV y ho hw hd (fun V a w hs => by
    have hv := hs.ev hx
    obtain ⟨arr, hb, hcs, _⟩ := hs.rel.objs _ _ hat.mem
    have hl' : off + sz ≤ cs.length := Nat.le_of_ble_eq_true hl
    have hsz := hcs.1
    obtain ⟨v, hr, hvr⟩ := run_loadVar (w := w) (V := V) ht (b := b) (off := off) (cs := (cs.drop off).take sz) (fun i => arr.getD (off + i) Go.undef)
      (fun i hi => by simp [World.cell?, hb, Array.getElem?_eq_getElem (show off + i < arr.size by omega), Array.getD_eq_getD_getElem?])
      (by simp; omega) (fun e => by subst e; exact Nat.eq_of_beq_eq_true hone)
      (fun i x hx => by
        rw [List.getElem?_take] at hx
        split at hx
        · rw [List.getElem?_drop] at hx
          have hi : off + i < cs.length := (List.getElem?_eq_some_iff.1 hx).1
          exact hcs.2 _ x _ hx (by simp [Array.getElem?_eq_getElem (show off + i < arr.size by omega), Array.getD_eq_getD_getElem?])
        · cases hx)
    refine ⟨v, ?_, ?_⟩
    · generalize hq : a.eval x = q at hv
      cases hv
      simp [execOp, hq, Instr.loadAt, Instr.sureAddr, hr]
    · unfold pickCells at hy
      cases g with
      | true => simp only [Option.some.injEq] at hy; subst hy; exact hvr
      | false =>
        have h1 : sz = 1 := Nat.eq_of_beq_eq_true hone
        subst h1
        simp only at hy hvr
        have : ((cs.drop off).take 1).getD 0 .undef = y := by
          simp [List.getD_eq_getElem?_getD, hy]
        rw [this] at hvr; exact hvr) next

/-- *p, p into what does not turn. -/
theorem AS.iload {t : TypeId} {x : Operand} {cs : List AV} {sz : Nat} {g : Bool} {y : AV} (ho : ops[i]? = some ⟨d, .load t x, ty, pos, aft, gd⟩) (hw : wantedB ops env gd = true)
    (hd : fitsB n d = true) (hx : env.ev GV x = some (.ipt cs)) (ht : tyI P t = some (sz, g)) (hl : Nat.ble sz cs.length = true) (hone : (match g with | true => true | false => Nat.beq sz 1) = true) (hy : pickCells g cs 0 sz = some y)
    (next : AS P GV f n (.inRegion ops rest :: k) (putEnv d y env) H R) : AS P GV f n (.inRegion ops (i :: rest) :: k) env H R :=
  .opV y ho hw hd (fun V a w hs => by
    have hv := hs.ev hx
    generalize hq : a.eval x = q at hv
    cases hv with
    | ipt _ b o fv hV hc =>
      have hl' : sz ≤ cs.length := Nat.le_of_ble_eq_true hl
      obtain ⟨v, hr, hvr⟩ := run_loadVar (w := w) (V := V) ht (b := b) (off := o) (cs := cs.take sz) fv (fun i hi => hs.rel.claims _ _ _ (hV i (by omega)))
        (by simp; omega) (fun e => by subst e; exact Nat.eq_of_beq_eq_true hone)
        (fun i x hx => by
          rw [List.getElem?_take] at hx
          split at hx
          · exact hc i x hx
          · cases hx)
      refine ⟨v, by simp [execOp, hq, Instr.loadAt, Instr.sureAddr, hr], ?_⟩
      unfold pickCells at hy
      cases g with
      | true => simp only [Option.some.injEq, List.drop_zero] at hy; subst hy; exact hvr
      | false =>
        have h1 : sz = 1 := Nat.eq_of_beq_eq_true hone
        subst h1
        simp only at hy hvr
        have : (cs.take 1).getD 0 .undef = y := by simp [List.getD_eq_getElem?_getD, hy]
        rw [this] at hvr; exact hvr) next

/-- The offset of a field, in cells. -/
def fldI (P : Program) (s : TypeId) (fi : Nat) : Option Nat := match P.underlying s with
  | some (.struct fs) => match fs[fi]? with
    | some fd => match P.info? fd.type with
      | some ii => match ii.size with
        | 0 => none
        | _ + 1 => some fd.offset
      | none => none
    | none => none
  | _ => none

theorem run_fieldAt {w : World} {s : TypeId} {fi o : Nat} (h : fldI P s fi = some o) (b off : Nat) : (Instr.fieldAt s (.pointer (some ⟨b, off, none⟩)) fi).run P w = .ok (.pointer (some ⟨b, off + o, none⟩)) w := by
  unfold fldI at h
  split at h <;> try cases h
  rename_i fs hs
  split at h <;> try cases h
  rename_i fd hfd
  split at h <;> try cases h
  rename_i ii hii
  split at h <;> try cases h
  rename_i m hm
  simp [Instr.fieldAt, run_underlying hs, hfd, Instr.sureAddr, fieldPlace, sizeOf, rTI hii, hm, Addr.add_eq]

theorem AS.fieldAddr {s : TypeId} {x : Operand} {fi o b off : Nat} (ho : ops[i]? = some ⟨d, .fieldAddr s x fi, ty, pos, aft, gd⟩) (hw : wantedB ops env gd = true)
    (hd : fitsB n d = true) (hx : env.ev GV x = some (.ptr b off)) (ht : fldI P s fi = some o)
    (next : AS P GV f n (.inRegion ops rest :: k) (putEnv d (.ptr b (off + o)) env) H R) : AS P GV f n (.inRegion ops (i :: rest) :: k) env H R :=
  .opV _ ho hw hd (fun V a w hs => by
    have hv := hs.ev hx
    generalize hq : a.eval x = q at hv
    cases hv
    exact ⟨_, by simp [execOp, hq, run_fieldAt ht], .ptr _ _⟩) next

theorem AS.ifieldAddr {s : TypeId} {x : Operand} {fi o : Nat} {cs : List AV} (ho : ops[i]? = some ⟨d, .fieldAddr s x fi, ty, pos, aft, gd⟩) (hw : wantedB ops env gd = true)
    (hd : fitsB n d = true) (hx : env.ev GV x = some (.ipt cs)) (ht : fldI P s fi = some o)
    (next : AS P GV f n (.inRegion ops rest :: k) (putEnv d (.ipt (cs.drop o)) env) H R) : AS P GV f n (.inRegion ops (i :: rest) :: k) env H R :=
  .opV _ ho hw hd (fun V a w hs => by
    have hv := hs.ev hx
    generalize hq : a.eval x = q at hv
    cases hv with
    | ipt _ b off fv hV hc =>
      refine ⟨_, by simp [execOp, hq, run_fieldAt ht], .ipt _ b (off + o) (fun i => fv (o + i)) (fun i hi => ?_) (fun i x hx => ?_)⟩
      · rw [Nat.add_assoc]; exact hV _ (by simp at hi; omega)
      · rw [List.getElem?_drop] at hx; exact hc _ x hx) next

/-- A result. -/
inductive ResA (GVt : Program) (env : Env) (H : AH) : List ResultVar → List AV → Prop where
  | nil : ResA GVt env H [] []
  | tmp {t : Tmp} {x : AV} {rs : List ResultVar} {xs : List AV} (h : env.get t = some x) (r : ResA GVt env H rs xs) : ResA GVt env H (.tmp t :: rs) (x :: xs)
  | cell {t b sz : Nat} {ct e : TypeId} {g : Bool} {cs : List AV} {y : AV} {rs : List ResultVar} {xs : List AV} (h : env.get t = some (.ptr b 0)) [hat : At H b (.row cs e)] (ht : tyI GVt ct = some (sz, g)) (hl : Nat.ble sz cs.length = true)
      (hone : (match g with | true => true | false => Nat.beq sz 1) = true) (hy : pickCells g cs 0 sz = some y) (r : ResA GVt env H rs xs) : ResA GVt env H (.cell t ct :: rs) (y :: xs)

def packA : List AV → AV
  | [x] => x
  | xs => .tup xs
end rules
end Go.Proofs.Fw
/- Rules: results, comparisons and arithmetic, conversions, lengths, tuples. -/
namespace Go.Proofs.Fw
open Go Go.Shelf Go.RowKit
set_option linter.unusedVariables false
set_option linter.unusedSimpArgs false

theorem bytes_eq (a b : ByteArray) : (a == b) = decide (a = b) := by
  obtain ⟨⟨x⟩⟩ := a
  obtain ⟨⟨y⟩⟩ := b
  show ((⟨x⟩ : Array UInt8) == ⟨y⟩) = _
  rw [Bool.eq_iff_iff]
  simp
theorem toList_eq (a b : ByteArray) : (a.toList == b.toList) = decide (a = b) := by rw [← beq_toListBytes, bytes_eq]

/-! ### Operators -/
def BinR (P : Program) (op : BinOp) (t : TypeId) (xo yo : Operand) (x y z : AV) : Prop :=
  ∀ V w v u, VR V x v → VR V y u → ∃ r, (do eqGuard op t xo yo v u; binOp op t v u : Sem Value).run P w = .ok r w ∧ VR V z r

section bin
variable {P : Program} {t : TypeId} {xo yo : Operand}

theorem guard_int {op : BinOp} {k k' : IntKind} {a b : Int} {w : World} : (eqGuard op t xo yo (.int k a) (.int k' b)).run P w = .ok () w := by
  cases op <;> simp [eqGuard]
theorem guard_str {op : BinOp} {a b : ByteArray} {w : World} : (eqGuard op t xo yo (.string a) (.string b)).run P w = .ok () w := by
  cases op <;> simp [eqGuard]
theorem guard_bool {op : BinOp} {a b : Bool} {w : World} : (eqGuard op t xo yo (.bool a) (.bool b)).run P w = .ok () w := by
  cases op <;> simp [eqGuard]

theorem BinR.add {k : IntKind} {a b c : Int} (h : k.wrap (a + b) = c) : BinR P .add t xo yo (.int k a) (.int k b) (.int k c) := by
  intro V w v u hv hu
  cases hv; cases hu
  exact ⟨_, by simp [guard_int, binOp, Op.intArith, h], .int _ _⟩
theorem BinR.sub {k : IntKind} {a b c : Int} (h : k.wrap (a - b) = c) : BinR P .sub t xo yo (.int k a) (.int k b) (.int k c) := by
  intro V w v u hv hu
  cases hv; cases hu
  exact ⟨_, by simp [guard_int, binOp, Op.intArith, h], .int _ _⟩
theorem BinR.mul {k : IntKind} {a b c : Int} (h : k.wrap (a * b) = c) : BinR P .mul t xo yo (.int k a) (.int k b) (.int k c) := by
  intro V w v u hv hu
  cases hv; cases hu
  exact ⟨_, by simp [guard_int, binOp, Op.intArith, h], .int _ _⟩
theorem BinR.quo {k : IntKind} {a b c : Int} (hb : b ≠ 0) (h : k.wrap (a.tdiv b) = c) : BinR P .quo t xo yo (.int k a) (.int k b) (.int k c) := by
  intro V w v u hv hu
  cases hv; cases hu
  exact ⟨_, by simp [guard_int, binOp, Op.intDiv, hb, h], .int _ _⟩
theorem BinR.rem {k : IntKind} {a b c : Int} (hb : b ≠ 0) (h : a.tmod b = c) : BinR P .rem t xo yo (.int k a) (.int k b) (.int k c) := by
  intro V w v u hv hu
  cases hv; cases hu
  exact ⟨_, by simp [guard_int, binOp, Op.intDiv, hb, h], .int _ _⟩
theorem BinR.lss {k : IntKind} {a b : Int} {c : Bool} (h : decide (a < b) = c) : BinR P .lss t xo yo (.int k a) (.int k b) (.bool c) := by
  intro V w v u hv hu
  cases hv; cases hu; subst h
  exact ⟨_, by simp [guard_int, binOp, Op.intCmp], .bool _⟩
theorem BinR.leq {k : IntKind} {a b : Int} {c : Bool} (h : decide (a ≤ b) = c) : BinR P .leq t xo yo (.int k a) (.int k b) (.bool c) := by
  intro V w v u hv hu
  cases hv; cases hu; subst h
  exact ⟨_, by simp [guard_int, binOp, Op.intCmp], .bool _⟩
theorem BinR.gtr {k : IntKind} {a b : Int} {c : Bool} (h : decide (b < a) = c) : BinR P .gtr t xo yo (.int k a) (.int k b) (.bool c) := by
  intro V w v u hv hu
  cases hv; cases hu; subst h
  exact ⟨_, by simp [guard_int, binOp, Op.intCmp], .bool _⟩
theorem BinR.geq {k : IntKind} {a b : Int} {c : Bool} (h : decide (b ≤ a) = c) : BinR P .geq t xo yo (.int k a) (.int k b) (.bool c) := by
  intro V w v u hv hu
  cases hv; cases hu; subst h
  exact ⟨_, by simp [guard_int, binOp, Op.intCmp], .bool _⟩
theorem BinR.eql {k : IntKind} {a b : Int} {c : Bool} (h : decide (a = b) = c) : BinR P .eql t xo yo (.int k a) (.int k b) (.bool c) := by
  intro V w v u hv hu
  cases hv; cases hu; subst h
  refine ⟨.bool (decide (a = b)), ?_, .bool _⟩
  rw [← show (a == b) = decide (a = b) by rw [Bool.eq_iff_iff]; simp]
  simp [guard_int, binOp, Op.intCmp]
theorem BinR.neq {k : IntKind} {a b : Int} {c : Bool} (h : decide (a ≠ b) = c) : BinR P .neq t xo yo (.int k a) (.int k b) (.bool c) := by
  intro V w v u hv hu
  cases hv; cases hu; subst h
  refine ⟨.bool (decide (a ≠ b)), ?_, .bool _⟩
  rw [← show (a != b) = decide (a ≠ b) by rw [Bool.eq_iff_iff]; simp]
  simp [guard_int, binOp, Op.intCmp]

theorem BinR.concat {a b c : ByteArray} (hs : a.size + b.size ≤ 9223372036854775807) (h : a ++ b = c) : BinR P .add t xo yo (.str a) (.str b) (.str c) := by
  intro V w v u hv hu
  cases hv; cases hu; subst h
  refine ⟨.string (a ++ b), ?_, .str _⟩
  have h1 : ¬ (((a.size + b.size : Nat) : Int) > IntKind.i64.max) := by
    have : IntKind.i64.max = 9223372036854775807 := by decide
    rw [this]; omega
  simp only [Sem.run_bind, guard_str, Result.andThen_ok, binOp, Op.stringOp]
  rw [if_neg h1]; rfl
theorem BinR.seql {a b : ByteArray} {c : Bool} (h : decide (a = b) = c) : BinR P .eql t xo yo (.str a) (.str b) (.bool c) := by
  intro V w v u hv hu
  cases hv; cases hu; subst h
  exact ⟨_, by simp only [Sem.run_bind, guard_str, Result.andThen_ok, binOp, Op.stringOp, Sem.run_pure, toList_eq], .bool _⟩
theorem BinR.sneq {a b : ByteArray} {c : Bool} (h : decide (a ≠ b) = c) : BinR P .neq t xo yo (.str a) (.str b) (.bool c) := by
  intro V w v u hv hu
  cases hv; cases hu; subst h
  refine ⟨.bool (decide (a ≠ b)), ?_, .bool _⟩
  rw [← show (!decide (a = b)) = decide (a ≠ b) by simp]
  simp only [Sem.run_bind, guard_str, Result.andThen_ok, binOp, Op.stringOp, Sem.run_pure, toList_eq]

/-- Strings in their order. -/
def sless (a b : ByteArray) : Bool := Op.bytesLess a.toList b.toList
theorem BinR.slss {a b : ByteArray} {c : Bool} (h : sless a b = c) : BinR P .lss t xo yo (.str a) (.str b) (.bool c) := by
  intro V w v u hv hu
  cases hv; cases hu; subst h
  exact ⟨_, by simp only [Sem.run_bind, guard_str, Result.andThen_ok, binOp, Op.stringOp, Sem.run_pure]; rfl, .bool _⟩
theorem BinR.sgeq {a b : ByteArray} {c : Bool} (h : (!sless a b) = c) : BinR P .geq t xo yo (.str a) (.str b) (.bool c) := by
  intro V w v u hv hu
  cases hv; cases hu; subst h
  exact ⟨_, by simp only [Sem.run_bind, guard_str, Result.andThen_ok, binOp, Op.stringOp, Sem.run_pure]; rfl, .bool _⟩
theorem BinR.sgtr {a b : ByteArray} {c : Bool} (h : (!(sless a b || decide (a = b))) = c) : BinR P .gtr t xo yo (.str a) (.str b) (.bool c) := by
  intro V w v u hv hu
  cases hv; cases hu; subst h
  refine ⟨_, by simp only [Sem.run_bind, guard_str, Result.andThen_ok, binOp, Op.stringOp, Sem.run_pure, toList_eq]; rfl, .bool _⟩
theorem BinR.sleq {a b : ByteArray} {c : Bool} (h : (sless a b || decide (a = b)) = c) : BinR P .leq t xo yo (.str a) (.str b) (.bool c) := by
  intro V w v u hv hu
  cases hv; cases hu; subst h
  refine ⟨_, by simp only [Sem.run_bind, guard_str, Result.andThen_ok, binOp, Op.stringOp, Sem.run_pure, toList_eq]; rfl, .bool _⟩

theorem BinR.beql {a b c : Bool} (ht : P.underlying t = some .bool) (h : (a == b) = c) : BinR P .eql t xo yo (.bool a) (.bool b) (.bool c) := by
  intro V w v u hv hu
  cases hv; cases hu; subst h
  exact ⟨_, by simp [guard_bool, binOp, Op.equal, Op.maxDepth, run_equalIn_bool' w _ t a b ht], .bool _⟩
theorem BinR.bneq {a b c : Bool} (ht : P.underlying t = some .bool) (h : (!(a == b)) = c) : BinR P .neq t xo yo (.bool a) (.bool b) (.bool c) := by
  intro V w v u hv hu
  cases hv; cases hu; subst h
  exact ⟨_, by simp [guard_bool, binOp, Op.equal, Op.maxDepth, run_equalIn_bool' w _ t a b ht], .bool _⟩

/-! Structs of plain fields. -/
def AV.beq : AV → AV → Bool
  | .str a, .str b => decide (a = b)
  | .int _ a, .int _ b => decide (a = b)
  | .bool a, .bool b => a == b
  | _, _ => false
def likeD : Option TypeDesc → AV → AV → Bool
  | some .string, .str _, .str _ => true
  | some (.int _), .int k _, .int k' _ => decide (k = k')
  | some .bool, .bool _, .bool _ => true
  | _, _, _ => false
def plainD : Option TypeDesc → Bool
  | some .string | some (.int _) | some .bool => true
  | _ => false
def allEq : List AV → List AV → Bool
  | x :: xs, y :: ys => AV.beq x y && allEq xs ys
  | _, _ => true
def fieldsOk (P : Program) : List Field → Nat → Bool
  | [], _ => true
  | f :: fs, j => decide (f.name ≠ "_") && (f.offset == j) && plainD (P.underlying f.type) && fieldsOk P fs (j + 1)
def likeAll (P : Program) : List Field → List AV → List AV → Bool
  | [], [], [] => true
  | f :: fs, x :: xs, y :: ys => likeD (P.underlying f.type) x y && likeAll P fs xs ys
  | _, _, _ => false
/-- A struct all of whose fields are of one plain cell. -/
def plainS (P : Program) (t : TypeId) : Bool := (match P.underlying t with | some (.struct fs) => fieldsOk P fs.toList 0 | _ => false) && !P.stoodInHeld t && !P.eqGuardType P.depth t

theorem equalIn_plain {d : Nat} {t : TypeId} {x y : AV} {V : View} {v u : Value} {w : World} (hl : likeD (P.underlying t) x y = true) (hv : VR V x v) (hu : VR V y u) :
    (Op.equalIn (d + 1) t v u).run P w = .ok (AV.beq x y) w := by
  unfold likeD at hl
  split at hl
  · rename_i h
    cases hv; cases hu
    rw [run_equalIn_string w d t _ _ h, toList_eq]; rfl
  · rename_i h
    cases hv; cases hu
    simp only [decide_eq_true_eq] at hl
    subst hl
    rw [run_equalIn_int w d t _ _ _ _ h]
    exact congrArg (fun c => Result.ok c w) (by simp only [AV.beq]; rw [Bool.eq_iff_iff]; simp)
  · rename_i h
    cases hv; cases hu
    rw [run_equalIn_bool' w d t _ _ h]; rfl
  · cases hl

theorem run_part_plain {t : TypeId} {arr : Array Value} {j : Nat} {w : World} {v : Value} (hp : plainD (P.underlying t) = true) (hv : arr[j]? = some v) : (part t arr j).run P w = .ok v w := by
  unfold plainD at hp
  have h1 : (isAgg t).run P w = .ok false w := by
    split at hp <;> first | (rename_i h; exact run_isAgg_plain h rfl w) | cases hp
  simp [part, h1, hv]

theorem eqFields_plain {d : Nat} {V : View} {w : World} {arr brr : Array Value} : ∀ (fs : List Field) (j : Nat) (xs ys : List AV), fieldsOk P fs j = true → likeAll P fs xs ys = true →
    (∀ i x v, xs[i]? = some x → arr[j + i]? = some v → VR V x v) → (∀ i y v, ys[i]? = some y → brr[j + i]? = some v → VR V y v) → arr.size = j + xs.length → brr.size = j + ys.length →
    (Op.eqFields (d + 1) arr brr fs).run P w = .ok (allEq xs ys) w
  | [], j, xs, ys, _, hl, _, _, _, _ => by
    cases xs <;> cases ys <;> simp_all [likeAll, Op.eqFields, allEq]
  | f :: fs, j, xs, ys, hf, hl, hx, hy, h1, h2 => by
    cases xs with
    | nil => simp [likeAll] at hl
    | cons x xs =>
      cases ys with
      | nil => simp [likeAll] at hl
      | cons y ys =>
        simp only [fieldsOk, Bool.and_eq_true, decide_eq_true_eq, beq_iff_eq] at hf
        simp only [likeAll, Bool.and_eq_true] at hl
        obtain ⟨⟨⟨hname, hoff⟩, hpl⟩, hrest⟩ := hf
        have hja : j < arr.size := by simp at h1; omega
        have hjb : j < brr.size := by simp at h2; omega
        have ha : arr[j]? = some (arr[j]'hja) := Array.getElem?_eq_getElem hja
        have hb : brr[j]? = some (brr[j]'hjb) := Array.getElem?_eq_getElem hjb
        have he := equalIn_plain (P := P) (d := d) (w := w) hl.1 (hx 0 x _ rfl ha) (hy 0 y _ rfl hb)
        have ih := eqFields_plain (d := d) (w := w) fs (j + 1) xs ys hrest hl.2 (fun i x v h h' => hx (i + 1) x v (by simpa using h) (by rw [show j + (i + 1) = j + 1 + i by omega]; exact h'))
          (fun i x v h h' => hy (i + 1) x v (by simpa using h) (by rw [show j + (i + 1) = j + 1 + i by omega]; exact h')) (by simp at h1; omega) (by simp at h2; omega)
        simp only [Op.eqFields, hname, ne_eq, not_false_eq_true, if_true, Sem.run_bind, hoff, run_part_plain hpl ha, run_part_plain hpl hb, Result.andThen_ok, he]
        cases hq : AV.beq x y
        · simp [allEq, hq, Sem.run_ite]
        · simp only [allEq, hq, Bool.not_true, Bool.false_eq_true, if_false, Bool.true_and]; exact ih

theorem equal_struct {t : TypeId} {xs ys : List AV} {V : View} {v u : Value} {w : World} (ht : plainS P t = true) (hl : (match P.underlying t with | some (.struct fs) => likeAll P fs.toList xs ys | _ => false) = true)
    (hv : VR V (.agg xs) v) (hu : VR V (.agg ys) u) : (Op.equal t v u).run P w = .ok (allEq xs ys) w ∧ ∀ op xo yo, (eqGuard op t xo yo v u).run P w = .ok () w := by
  cases hv with
  | agg _ arr h1 hc =>
    cases hu with
    | agg _ brr h2 hc2 =>
      simp only [plainS, Bool.and_eq_true, Bool.not_eq_true'] at ht
      obtain ⟨⟨hf, hp⟩, hm⟩ := ht
      refine ⟨?_, fun op xo yo => run_eqGuard_agg w op t xo yo _ _ hm⟩
      split at hf
      · rename_i fs hfs
        rw [hfs] at hl
        have hfo : P.fieldsOf t = fs := by simp [Program.fieldsOf, hfs]
        unfold Op.equal Op.maxDepth
        rw [run_equalIn_struct w 9999 t _ _ (by rw [hfo]; exact hfs) hp, hfo]
        exact eqFields_plain (d := 9998) fs.toList 0 xs ys hf hl (fun i x v a b => hc i x v a (by simpa using b)) (fun i x v a b => hc2 i x v a (by simpa using b)) (by simpa using h1) (by simpa using h2)
      · cases hf

theorem BinR.steql {xs ys : List AV} {c : Bool} (ht : plainS P t = true) (hl : (match P.underlying t with | some (.struct fs) => likeAll P fs.toList xs ys | _ => false) = true) (h : allEq xs ys = c) :
    BinR P .eql t xo yo (.agg xs) (.agg ys) (.bool c) := by
  intro V w v u hv hu
  obtain ⟨h1, h2⟩ := equal_struct (w := w) ht hl hv hu
  subst h
  refine ⟨.bool (allEq xs ys), ?_, .bool _⟩
  cases hv; cases hu
  simp [h2, binOp, h1]
theorem BinR.stneq {xs ys : List AV} {c : Bool} (ht : plainS P t = true) (hl : (match P.underlying t with | some (.struct fs) => likeAll P fs.toList xs ys | _ => false) = true) (h : (!allEq xs ys) = c) :
    BinR P .neq t xo yo (.agg xs) (.agg ys) (.bool c) := by
  intro V w v u hv hu
  obtain ⟨h1, h2⟩ := equal_struct (w := w) ht hl hv hu
  subst h
  refine ⟨.bool (!allEq xs ys), ?_, .bool _⟩
  cases hv; cases hu
  simp [h2, binOp, h1]

/-- A pointer held against nil. -/
theorem run_eql_nilable (v u : Value) (w : World) (hg : ∀ op, (eqGuard op t xo yo v u).run P w = .ok () w) (h1 : binOp .eql t v u = (do pure (.bool (← Op.equal t v u)))) :
    (do eqGuard .eql t xo yo v u; binOp .eql t v u : Sem Value).run P w = ((Op.equalIn 10000 t v u).run P w).andThen fun b w' => .ok (.bool b) w' := by
  simp only [Sem.run_bind, hg, Result.andThen_ok, h1, Op.equal, Op.maxDepth, Sem.run_pure]
theorem run_neq_nilable (v u : Value) (w : World) (hg : ∀ op, (eqGuard op t xo yo v u).run P w = .ok () w) (h1 : binOp .neq t v u = (do pure (.bool !(← Op.equal t v u)))) :
    (do eqGuard .neq t xo yo v u; binOp .neq t v u : Sem Value).run P w = ((Op.equalIn 10000 t v u).run P w).andThen fun b w' => .ok (.bool !b) w' := by
  simp only [Sem.run_bind, hg, Result.andThen_ok, h1, Op.equal, Op.maxDepth, Sem.run_pure]
theorem eqin_pn {d : Nat} {e : TypeId} {w : World} (ht : P.underlying t = some (.pointer e)) (a : Addr) : (Op.equalIn (d + 1) t (.pointer (some a)) (.pointer none)).run P w = .ok false w := by
  simp only [Op.equalIn, Sem.run_bind, run_underlying ht, Result.andThen_ok]; rfl
theorem eqin_nn {d : Nat} {e : TypeId} {w : World} (ht : P.underlying t = some (.pointer e)) : (Op.equalIn (d + 1) t (.pointer none) (.pointer none)).run P w = .ok true w := by
  simp only [Op.equalIn, Sem.run_bind, run_underlying ht, Result.andThen_ok]; rfl
theorem guard_ptr {op : BinOp} {a b : Option Addr} {w : World} : (eqGuard op t xo yo (.pointer a) (.pointer b)).run P w = .ok () w := by
  cases op <;> simp [eqGuard]
theorem BinR.pnil {b o : Nat} {e : TypeId} (ht : P.underlying t = some (.pointer e)) : BinR P .eql t xo yo (.ptr b o) .nilp (.bool false) := by
  intro V w v u hv hu
  cases hv; cases hu
  exact ⟨_, by rw [run_eql_nilable _ _ _ (fun _ => guard_ptr) rfl, eqin_pn ht]; rfl, .bool _⟩
theorem BinR.pnn {b o : Nat} {e : TypeId} (ht : P.underlying t = some (.pointer e)) : BinR P .neq t xo yo (.ptr b o) .nilp (.bool true) := by
  intro V w v u hv hu
  cases hv; cases hu
  exact ⟨_, by rw [run_neq_nilable _ _ _ (fun _ => guard_ptr) rfl, eqin_pn ht]; rfl, .bool _⟩
theorem BinR.nilnil {e : TypeId} (ht : P.underlying t = some (.pointer e)) : BinR P .eql t xo yo .nilp .nilp (.bool true) := by
  intro V w v u hv hu
  cases hv; cases hu
  exact ⟨_, by rw [run_eql_nilable _ _ _ (fun _ => guard_ptr) rfl, eqin_nn ht]; rfl, .bool _⟩
theorem BinR.nilnn {e : TypeId} (ht : P.underlying t = some (.pointer e)) : BinR P .neq t xo yo .nilp .nilp (.bool false) := by
  intro V w v u hv hu
  cases hv; cases hu
  exact ⟨_, by rw [run_neq_nilable _ _ _ (fun _ => guard_ptr) rfl, eqin_nn ht]; rfl, .bool _⟩
end bin

section rules
variable {P : Program} {GV : AH} {f : FuncId} {n : Nat} {k : List Item} {env : Env} {H : AH} {R : AV → AH → Prop} {ops : Array Oper} {i : Nat} {rest : List Nat}
variable {d : Option Tmp} {ty : TypeId} {pos : String} {aft : Array Edge} {gd : Option (Nat × Bool)}

theorem AS.bin {op : BinOp} {xt yt : TypeId} {xo yo : Operand} {x y z : AV} (ho : ops[i]? = some ⟨d, .binOp op xt xo yo yt, ty, pos, aft, gd⟩) (hw : wantedB ops env gd = true) (hd : fitsB n d = true)
    (hx : env.ev GV xo = some x) (hy : env.ev GV yo = some y) (hb : BinR P op xt xo yo x y z)
    (next : AS P GV f n (.inRegion ops rest :: k) (putEnv d z env) H R) : AS P GV f n (.inRegion ops (i :: rest) :: k) env H R :=
  .opV z ho hw hd (fun V a w hs => by
    obtain ⟨r, hr, hv⟩ := hb V w _ _ (hs.ev hx) (hs.ev hy)
    refine ⟨r, ?_, hv⟩
    simp only [Sem.run_bind] at hr
    simp only [execOp, Sem.run_bind, hr]
    simp) next

theorem AS.not {x : Operand} {b c : Bool} {xt : TypeId} (ho : ops[i]? = some ⟨d, .unOp .not xt x, ty, pos, aft, gd⟩) (hw : wantedB ops env gd = true) (hd : fitsB n d = true) (hx : env.ev GV x = some (.bool b)) (hc : (!b) = c)
    (next : AS P GV f n (.inRegion ops rest :: k) (putEnv d (.bool c) env) H R) : AS P GV f n (.inRegion ops (i :: rest) :: k) env H R :=
  .opV _ ho hw hd (fun V a w hs => by
    have hv := hs.ev hx
    generalize hq : a.eval x = q at hv
    cases hv; subst hc
    exact ⟨_, by simp [execOp, hq, Op.unary], .bool _⟩) next

theorem AS.neg {x : Operand} {kd : IntKind} {b c : Int} {xt : TypeId} (ho : ops[i]? = some ⟨d, .unOp .neg xt x, ty, pos, aft, gd⟩) (hw : wantedB ops env gd = true) (hd : fitsB n d = true) (hx : env.ev GV x = some (.int kd b)) (hc : kd.wrap (0 - b) = c)
    (next : AS P GV f n (.inRegion ops rest :: k) (putEnv d (.int kd c) env) H R) : AS P GV f n (.inRegion ops (i :: rest) :: k) env H R :=
  .opV _ ho hw hd (fun V a w hs => by
    have hv := hs.ev hx
    generalize hq : a.eval x = q at hv
    cases hv; subst hc
    exact ⟨_, by simp only [execOp, hq, Op.unary, Op.intArith]; rfl, .int _ _⟩) next

/-- int64(x), and its like. -/
theorem AS.convInt {x : Operand} {src dst : TypeId} {sk dk kd : IntKind} {b c : Int} (ho : ops[i]? = some ⟨d, .convert src dst x, ty, pos, aft, gd⟩) (hw : wantedB ops env gd = true) (hd : fitsB n d = true) (hx : env.ev GV x = some (.int kd b))
    (h1 : P.underlying src = some (.int sk)) (h2 : P.underlying dst = some (.int dk)) (hc : dk.wrap b = c)
    (next : AS P GV f n (.inRegion ops rest :: k) (putEnv d (.int dk c) env) H R) : AS P GV f n (.inRegion ops (i :: rest) :: k) env H R :=
  .opV _ ho hw hd (fun V a w hs => by
    have hv := hs.ev hx
    generalize hq : a.eval x = q at hv
    cases hv; subst hc
    exact ⟨_, by simp [execOp, hq, convert, run_underlying h1, run_underlying h2, Conv.intToInt], .int _ _⟩) next

theorem AS.extract {x : Operand} {ix : Nat} {xs : List AV} {y : AV} (ho : ops[i]? = some ⟨d, .extract x ix, ty, pos, aft, gd⟩) (hw : wantedB ops env gd = true) (hd : fitsB n d = true) (hx : env.ev GV x = some (.tup xs)) (hy : xs[ix]? = some y)
    (next : AS P GV f n (.inRegion ops rest :: k) (putEnv d y env) H R) : AS P GV f n (.inRegion ops (i :: rest) :: k) env H R :=
  .opV y ho hw hd (fun V a w hs => by
    have hv := hs.ev hx
    generalize hq : a.eval x = q at hv
    cases hv with
    | tup _ arr h1 hc =>
      have hl : ix < xs.length := (List.getElem?_eq_some_iff.1 hy).1
      have ha : arr[ix]? = some (arr[ix]'(by omega)) := Array.getElem?_eq_getElem (by omega)
      exact ⟨_, by simp [execOp, hq, Instr.extract, ha], hc ix y _ hy ha⟩) next

theorem wpo_builtin {a : Act} {b : Builtin} {os : Array Operand} {ats : Array TypeId} {w w' : World} {v : Value}
    (h : (builtin b ats ty (os.map fun | .const _ => true | _ => false) (os.map a.eval)).run P w = .ok (.value v) w') :
    (execOp a.eval ⟨d, .call ⟨.builtin b, os, ats⟩, ty, pos, aft, gd⟩).run P w = .ok (.value v) w' := by
  simp only [execOp, resolve, invoke]
  exact h

/-- len(s): a string, a slice. -/
def lenA : AV → Option Nat
  | .str s => some s.size
  | .slice xs _ => some xs.length
  | .mslice _ _ n _ => some n
  | .nilmap => some 0
  | _ => none
def lenT : Option TypeDesc → AV → Bool
  | some .string, .str _ => true
  | some (.slice _), .slice _ _ => true
  | some (.slice _), .mslice _ _ _ _ => true
  | some (.map _ _), .nilmap => true
  | _, _ => false
theorem AS.len {o : Operand} {t : TypeId} {x : AV} {m : Nat} {c : Int} (ho : ops[i]? = some ⟨d, .call ⟨.builtin .len, #[o], #[t]⟩, ty, pos, aft, gd⟩) (hw : wantedB ops env gd = true) (hd : fitsB n d = true) (hx : env.ev GV o = some x) (ht : lenT (P.underlying t) x = true)
    (hm : lenA x = some m) (hc : (m : Int) = c)
    (next : AS P GV f n (.inRegion ops rest :: k) (putEnv d (.int .i64 c) env) H R) : AS P GV f n (.inRegion ops (i :: rest) :: k) env H R :=
  .opV _ ho hw hd (fun V a w hs => by
    have hv := hs.ev hx
    subst hc
    refine ⟨.int .i64 m, wpo_builtin ?_, .int _ _⟩
    simp only [List.map_toArray, List.map_cons, List.map_nil]
    generalize hq : a.eval o = q at hv
    unfold lenT at ht
    split at ht
    · rename_i s hh
      cases hv
      simp only [lenA, Option.some.injEq] at hm
      simp [builtin, Builtin.len_, run_underlying hh, goInt, ← hm]
    · rename_i hh
      cases hv
      simp only [lenA, Option.some.injEq] at hm
      simp [builtin, Builtin.len_, run_underlying hh, goInt, ← hm]
      omega
    · rename_i hh
      cases hv
      simp only [lenA, Option.some.injEq] at hm
      simp [builtin, Builtin.len_, run_underlying hh, goInt, ← hm]
    · rename_i hh
      cases hv
      simp only [lenA, Option.some.injEq] at hm
      simp [builtin, Builtin.len_, run_underlying hh, goInt, ← hm]
    · cases ht) next

/-! ### Going back -/
def resG (tmps : Array Value) : ResultVar → Sem Value
  | .tmp t => pure (tmps.getD t Go.undef)
  | .cell a t => do loadVar t (← asAddr (tmps.getD a Go.undef))
def packV : List Value → Value
  | [v] => v
  | vs => .tuple vs.toArray
theorem results_eq (fn : Func) (tmps : Array Value) : results fn tmps = (fn.results.mapM (resG tmps) >>= fun vs => pure (if h : vs.size = 1 then vs[0] else .tuple vs)) := by
  unfold results
  congr 1
theorem results_list {fn : Func} {tmps : Array Value} {w : World} {vs : List Value} {rs : List ResultVar} (hr : fn.results.toList = rs) (h : (rs.mapM (resG tmps)).run P w = .ok vs w) :
    (results fn tmps).run P w = .ok (packV vs) w := by
  have hfr : fn.results = rs.toArray := by rw [← hr]
  have hm : (fn.results.mapM (resG tmps)).run P w = .ok vs.toArray w := by
    rw [hfr, List.mapM_toArray, Sem.run_map, h]; rfl
  rw [results_eq, Sem.run_bind, hm]
  simp only [Result.andThen_ok, Sem.run_pure]
  match vs with
  | [] => rfl
  | [v] => rfl
  | v :: u :: r => rfl

theorem ResA.run {a : Act} {V : View} {w : World} (hs : Sim GV n V env H a w) {rs : List ResultVar} {xs : List AV} (h : ResA P env H rs xs) :
    ∃ vs : List Value, (rs.mapM (resG a.tmps)).run P w = .ok vs w ∧ vs.length = xs.length ∧ ∀ (i : Nat) x v, xs[i]? = some x → vs[i]? = some v → VR V x v := by
  induction h with
  | nil => exact ⟨[], by simp, rfl, by simp⟩
  | @tmp t x rs xs ht r ih =>
    obtain ⟨vs, h1, h2, h3⟩ := ih
    obtain ⟨v, hv, hx⟩ := hs.env t x ht
    have hg : a.tmps.getD t Go.undef = v := by simp [Array.getD_eq_getD_getElem?, hv]
    refine ⟨v :: vs, ?_, by simp [h2], fun i y u hy hu => ?_⟩
    · simp only [List.mapM_cons, resG, Sem.run_bind, hg, Sem.run_pure, Result.andThen_ok, h1]
    · cases i with
      | zero => simp at hy hu; subst hy hu; exact hx
      | succ i => exact h3 i y u (by simpa using hy) (by simpa using hu)
  | @cell t b sz ct e g cs y rs xs ht hat hty hl hone hy r ih =>
    obtain ⟨vs, h1, h2, h3⟩ := ih
    obtain ⟨v, hv, hx⟩ := hs.env t _ ht
    have hg : a.tmps.getD t Go.undef = v := by simp [Array.getD_eq_getD_getElem?, hv]
    obtain ⟨arr, hb, hcs, _⟩ := hs.rel.objs _ _ hat.mem
    have hl' : sz ≤ cs.length := Nat.le_of_ble_eq_true hl
    have hsz := hcs.1
    obtain ⟨u, hr, hvr⟩ := run_loadVar (w := w) (V := V) hty (b := b) (off := 0) (cs := cs.take sz) (fun i => arr.getD i Go.undef)
      (fun i hi => by simp [World.cell?, hb, Array.getElem?_eq_getElem (show i < arr.size by omega), Array.getD_eq_getD_getElem?])
      (by simp; omega) (fun e => by subst e; exact Nat.eq_of_beq_eq_true hone)
      (fun i x hx => by
        rw [List.getElem?_take] at hx
        split at hx
        · have hi : i < cs.length := (List.getElem?_eq_some_iff.1 hx).1
          exact hcs.2 _ x _ hx (by simp [Array.getElem?_eq_getElem (show i < arr.size by omega), Array.getD_eq_getD_getElem?])
        · cases hx)
    have hyr : VR V y u := by
      unfold pickCells at hy
      cases g with
      | true => simp only [Option.some.injEq, List.drop_zero] at hy; subst hy; exact hvr
      | false =>
        have h1 : sz = 1 := Nat.eq_of_beq_eq_true hone
        subst h1
        simp only at hy hvr
        have : (cs.take 1).getD 0 .undef = y := by simp [List.getD_eq_getElem?_getD, hy]
        rw [this] at hvr; exact hvr
    refine ⟨u :: vs, ?_, by simp [h2], fun i z q hz hq => ?_⟩
    · cases hx
      simp only [List.mapM_cons, resG, Sem.run_bind, hg, asAddr, Sem.run_pure, Result.andThen_ok, hr, h1]
    · cases i with
      | zero => simp at hz hq; subst hz hq; exact hyr
      | succ i => exact h3 i z q (by simpa using hz) (by simpa using hq)

theorem VR.pack {V : View} {xs : List AV} {vs : List Value} (hl : vs.length = xs.length) (h : ∀ (i : Nat) x v, xs[i]? = some x → vs[i]? = some v → VR V x v) : VR V (packA xs) (packV vs) := by
  match xs, vs, hl with
  | [], [], _ => exact .tup [] _ rfl (by simp)
  | [x], [v], _ => exact h 0 x v rfl rfl
  | x :: y :: r, v :: u :: q, hl => exact .tup _ _ (by simpa using hl) (fun i z p hz hp => h i z p hz (by simpa using hp))

/-- return -/
theorem AS.ret {fn : Func} {rs : List ResultVar} {xs : List AV} (hf : P.funcs[f]? = some fn) (hr : fn.results.toList = rs) (hres : ResA P env H rs xs) (h : R (packA xs) H) : AS P GV f n (.code .ret :: k) env H R := by
  intro V a w hs
  obtain ⟨vs, h1, h2, h3⟩ := hres.run hs
  exact Runs.ret hf hs.defers (results_list hr h1) ⟨V, _, H, .pack h2 h3, hs.rel, .refl _ _ _, h⟩

theorem AS.end_ {fn : Func} {rs : List ResultVar} {xs : List AV} (hf : P.funcs[f]? = some fn) (hr : fn.results.toList = rs) (hres : ResA P env H rs xs) (h : R (packA xs) H) : AS P GV f n [] env H R := by
  intro V a w hs
  obtain ⟨vs, h1, h2, h3⟩ := hres.run hs
  exact Runs.end_ hf hs.defers (results_list hr h1) ⟨V, _, H, .pack h2 h3, hs.rel, .refl _ _ _, h⟩
end rules
end Go.Proofs.Fw
/- Rules: stores, composite literals, indexing, slicing, append, make, copy. -/
namespace Go.Proofs.Fw
open Go Go.Shelf Go.RowKit
set_option linter.unusedVariables false
set_option linter.unusedSimpArgs false

/-! ### Cells written one behind the other -/
def putCells (cs : List AV) (off : Nat) : List AV → List AV
  | [] => cs
  | x :: xs => putCells (cs.set off x) (off + 1) xs
def putVals (arr : Array Value) (off : Nat) : List Value → Array Value
  | [] => arr
  | v :: vs => putVals (arr.setIfInBounds off v) (off + 1) vs

theorem putVals_size (arr : Array Value) (off : Nat) (vs : List Value) : (putVals arr off vs).size = arr.size := by
  induction vs generalizing arr off with
  | nil => rfl
  | cons v vs ih => simp [putVals, ih]
theorem putCells_length (cs : List AV) (off : Nat) (xs : List AV) : (putCells cs off xs).length = cs.length := by
  induction xs generalizing cs off with
  | nil => rfl
  | cons v vs ih => simp [putCells, ih]

theorem Cells.set {V : View} {cs : List AV} {arr : Array Value} (h : Cells V cs arr) {x : AV} {v : Value} (hx : VR V x v) (j : Nat) : Cells V (cs.set j x) (arr.setIfInBounds j v) := by
  refine ⟨by simp [h.1], fun i y u hy hu => ?_⟩
  by_cases hij : j = i
  · subst hij
    have hj : j < cs.length := by have := (List.getElem?_eq_some_iff.1 hy).1; simpa using this
    rw [List.getElem?_set_self hj] at hy
    rw [Array.getElem?_setIfInBounds_self] at hu
    rw [if_pos (by rw [h.1]; exact hj)] at hu
    cases hy; cases hu; exact hx
  · rw [List.getElem?_set_ne hij] at hy
    rw [Array.getElem?_setIfInBounds_ne hij] at hu
    exact h.2 i y u hy hu

theorem Cells.put {V : View} : ∀ {xs : List AV} {vs : List Value} {cs : List AV} {arr : Array Value} {off : Nat}, Cells V cs arr → vs.length = xs.length →
    (∀ (i : Nat) x v, xs[i]? = some x → vs[i]? = some v → VR V x v) → Cells V (putCells cs off xs) (putVals arr off vs)
  | [], [], _, _, _, h, _, _ => h
  | x :: xs, v :: vs, cs, arr, off, h, hl, hx => by
    have h1 : Cells V (cs.set off x) (arr.setIfInBounds off v) := h.set (hx 0 x v rfl rfl) off
    exact Cells.put (xs := xs) (vs := vs) h1 (by simpa using hl) (fun i y u a b => hx (i + 1) y u (by simpa using a) (by simpa using b))

theorem setCell_block {w : World} {b off : Nat} {arr : Array Value} {e : TypeId} {fr : Nat × Nat} (h : w.heap[b]? = some (.cells arr e fr)) (v : Value) :
    (w.setCell ⟨b, off, none⟩ v).heap[b]? = some (.cells (arr.setIfInBounds off v) e fr) := by
  simp [World.setCell, Array.getElem?_modify, h]
theorem setCell_else {w : World} {b c off : Nat} (v : Value) (h : c ≠ b) : (w.setCell ⟨b, off, none⟩ v).heap[c]? = w.heap[c]? := by
  simp only [World.setCell, Array.getElem?_modify]
  rw [if_neg (fun e => h e.symm)]

theorem run_storeCells {P : Program} : ∀ (vs : List Value) {w : World} {b off i : Nat} {arr : Array Value} {e : TypeId}, w.heap[b]? = some (.cells arr e (0, 0)) → off + i + vs.length ≤ arr.size →
    (∀ v ∈ vs, v.oneCell' = true) → ∃ w', (storeCells ⟨b, off, none⟩ vs i).run P w = .ok () w' ∧ w'.heap[b]? = some (.cells (putVals arr (off + i) vs) e (0, 0)) ∧ (∀ c, c ≠ b → w'.heap[c]? = w.heap[c]?) ∧
      w'.heap.size = w.heap.size ∧ w'.os = w.os ∧ w'.tape = w.tape ∧ w'.output = w.output
  | [], w, b, off, i, arr, e, hb, _, _ => ⟨w, by simp [storeCells], hb, fun _ _ => rfl, rfl, rfl, rfl, rfl⟩
  | v :: vs, w, b, off, i, arr, e, hb, hl, h1 => by
    have hlt : off + i < arr.size := by simp at hl; omega
    have hc : w.cell? ⟨b, off + i, none⟩ = some arr[off + i] := by simp [World.cell?, hb, hlt]
    have hf : w.frozen? ⟨b, off + i, none⟩ = false := by simp [World.frozen?, hb]
    obtain ⟨w', hr, h2, h3, h4, h5, h6, h7⟩ := run_storeCells vs (w := w.setCell ⟨b, off + i, none⟩ v) (b := b) (off := off) (i := i + 1) (setCell_block hb v) (by simp at hl ⊢; omega) (fun u hu => h1 u (List.mem_cons_of_mem _ hu))
    refine ⟨w', ?_, h2, fun c hcb => (h3 c hcb).trans (setCell_else v hcb), by rw [h4]; simp, by rw [h5]; rfl, by rw [h6]; rfl, by rw [h7]; rfl⟩
    simp only [storeCells, Sem.run_bind, Addr.add_eq]
    rw [run_store P w _ v .plain (h1 v List.mem_cons_self), hc]
    simp only [hf, Bool.false_eq_true, if_false, Result.andThen_ok]
    exact hr

section rules
variable {P : Program} {GV : AH} {f : FuncId} {n : Nat} {k : List Item} {env : Env} {H : AH} {R : AV → AH → Prop} {ops : Array Oper} {i : Nat} {rest : List Nat}
variable {d : Option Tmp} {ty : TypeId} {pos : String} {aft : Array Edge} {gd : Option (Nat × Bool)}

/-- *p = x -/
theorem AS.store {t : TypeId} {xa xv : Operand} {b off : Nat} {cs : List AV} {e : TypeId} [hat : At H b (.row cs e)] {sz : Nat} {g : Bool} {y : AV} {H' : AH} [hu : Upd H b (.row (putCells cs off y.cells) e) H']
    (ho : ops[i]? = some ⟨d, .store t xa xv, ty, pos, aft, gd⟩) (hw : wantedB ops env gd = true) (hd : fitsB n d = true) (hx : env.ev GV xa = some (.ptr b off)) (hy : env.ev GV xv = some y) (hp : y.flatB = true)
    (ht : tyI P t = some (sz, g)) (hsz : Nat.beq y.cells.length sz = true) (hl : Nat.ble (off + sz) cs.length = true)
    (next : AS P GV f n (.inRegion ops rest :: k) (putEnv d .undef env) H' R) : AS P GV f n (.inRegion ops (i :: rest) :: k) env H R := by
  refine AS.opG (Φ := fun x H2 => x = .undef ∧ H2 = H') ho hw hd (fun V a w hs => ?_) (fun x H2 ⟨e1, e2⟩ => by subst e1 e2; exact next)
  have hv := hs.ev hx
  have hyv := hs.ev hy
  obtain ⟨arr, hb, hcs, hcl⟩ := hs.rel.objs _ _ hat.mem
  have hcy := hyv.cells (AV.plain_of_flatB hp)
  have hszn : y.cells.length = sz := Nat.eq_of_beq_eq_true hsz
  have hln : off + sz ≤ cs.length := Nat.le_of_ble_eq_true hl
  have hsz2 : (a.eval xv).cells.size = sz := by rw [hcy.1]; exact hszn
  have hone : ∀ u ∈ (a.eval xv).cells.toList, u.oneCell' = true := by
    intro u hu
    obtain ⟨j, hj⟩ := List.getElem?_of_mem hu
    have hj' : (a.eval xv).cells[j]? = some u := by simpa using hj
    have hjl : j < y.cells.length := by have := (Array.getElem?_eq_some_iff.1 hj').1; rw [← hcy.1]; exact this
    exact (hcy.2 j _ u (List.getElem?_eq_getElem hjl) hj').oneCell (AV.cells_one hp _ (List.getElem_mem hjl))
  obtain ⟨w', hr, h2, h3, h4, h5, h6, h7⟩ := run_storeCells (P := P) (a.eval xv).cells.toList (off := off) (i := 0) hb (by have := hcs.1; simp [hsz2]; omega) hone
  have hcput : Cells V (putCells cs off y.cells) (putVals arr (off + 0) (a.eval xv).cells.toList) := hcs.put (by simpa using hcy.1) (fun i x v a b => hcy.2 i x v a (by simpa using b))
  have hrel := hs.rel.update (w' := w') (b := b) (o' := .row (putCells cs off y.cells) e) (H' := H') h5 h6 h7 h4 h3 (fun i v hv => by rw [hcl i] at hv; cases hv) ⟨_, h2, hcput, hcl⟩
  refine ⟨Go.undef, w', V, _, _, .inr ⟨?_, rfl⟩, .undef, hrel.1, hrel.2, rfl, rfl⟩
  generalize hq : a.eval xa = q at hv
  cases hv
  simp only [execOp, hq, Instr.storeAt, Instr.sureAddr, storeVar, Sem.run_bind, Sem.run_pure, Result.andThen_ok, run_sizeOf_of ht, hsz2, ne_eq, not_true_eq_false, if_false, Sem.run_ite]
  simp [hr]

/-! ### Composite literals -/
def evParts (GV : AH) (env : Env) : List (Nat × Operand) → Option (List (Nat × AV))
  | [] => some []
  | (j, o) :: r => match env.ev GV o, evParts GV env r with
    | some x, some xs => some ((j, x) :: xs)
    | _, _ => none

def fillA (place : Nat → Option (Nat × Nat)) (cells : List AV) : List (Nat × AV) → Option (List AV)
  | [] => some cells
  | (j, x) :: r => match place j with
    | none => none
    | some (off, sz) => match Nat.beq x.cells.length sz && Nat.ble (off + sz) cells.length && x.plain with
      | true => fillA place (putCells cells off x.cells) r
      | false => none

theorem fold_put (vs : Array Value) (off : Nat) (arr : Array Value) : vs.zipIdx.foldl (fun cs (c, j) => cs.setIfInBounds (off + j) c) arr = putVals arr off vs.toList := by
  rw [← Array.foldl_toList, Array.toList_zipIdx]
  have key : ∀ (l : List Value) (s : Nat) (arr : Array Value), List.foldl (fun cs (x : Value × Nat) => cs.setIfInBounds (off + x.2) x.1) arr (l.zipIdx s) = putVals arr (off + s) l := by
    intro l
    induction l with
    | nil => intro s arr; rfl
    | cons v l ih => intro s arr; simp only [List.zipIdx_cons, List.foldl_cons, putVals]; rw [ih]; rfl
  exact key vs.toList 0 arr

theorem fill_of {V : View} {a : Act} {place : Nat → Option (Nat × Nat)} : ∀ {ps : List (Nat × AV)} {vs : List (Nat × Value)} {cells out : List AV} {arr : Array Value}, Cells V cells arr → fillA place cells ps = some out →
    vs.length = ps.length → (∀ (i : Nat) p q, ps[i]? = some p → vs[i]? = some q → p.1 = q.1 ∧ VR V p.2 q.2) → ∃ brr, Instr.fill place arr vs = some brr ∧ Cells V out brr
  | [], [], cells, out, arr, hc, hf, _, _ => by
    simp only [fillA, Option.some.injEq] at hf; subst hf
    exact ⟨arr, rfl, hc⟩
  | (j, x) :: ps, (j', v) :: vs, cells, out, arr, hc, hf, hl, hp => by
    obtain ⟨e, hx⟩ := hp 0 _ _ rfl rfl
    simp only at e hx
    subst e
    simp only [fillA] at hf
    split at hf
    · cases hf
    · rename_i off sz hpl
      split at hf
      · rename_i hb
        simp only [Bool.and_eq_true] at hb
        have h1 : x.cells.length = sz := Nat.eq_of_beq_eq_true hb.1.1
        have h2 : off + sz ≤ cells.length := Nat.le_of_ble_eq_true hb.1.2
        have hcx := hx.cells hb.2
        obtain ⟨brr, h3, h4⟩ := fill_of (a := a) (hc.put (off := off) (xs := x.cells) (vs := v.cells.toList) (by simpa using hcx.1) (fun i x v a b => hcx.2 i x v a (by simpa using b))) hf (by simpa using hl)
          (fun i p q hp' hq' => hp (i + 1) p q (by simpa using hp') (by simpa using hq'))
        refine ⟨brr, ?_, h4⟩
        simp only [Instr.fill, hpl]
        have hcs := hc.1
        rw [if_neg (by rw [hcx.1, h1]; simp; omega), fold_put]
        exact h3
      · cases hf

theorem Sim.evParts {V : View} {a : Act} {w : World} (h : Sim GV n V env H a w) : ∀ {ps : List (Nat × Operand)} {xs : List (Nat × AV)}, Fw.evParts GV env ps = some xs →
    (ps.map fun (i, x) => (i, a.eval x)).length = xs.length ∧ ∀ (i : Nat) p q, xs[i]? = some p → (ps.map fun (i, x) => (i, a.eval x))[i]? = some q → p.1 = q.1 ∧ VR V p.2 q.2
  | [], xs, he => by
    simp only [Fw.evParts, Option.some.injEq] at he
    subst he
    exact ⟨rfl, by simp⟩
  | (j, o) :: r, xs, he => by
    simp only [Fw.evParts] at he
    split at he
    · rename_i x xs' h1 h2
      simp only [Option.some.injEq] at he
      subst he
      obtain ⟨hl, hi⟩ := Sim.evParts h h2
      refine ⟨by simpa using hl, fun i p q hp hq => ?_⟩
      cases i with
      | zero => simp at hp hq; subst hp hq; exact ⟨rfl, h.ev h1⟩
      | succ i => exact hi i p q (by simpa using hp) (by simpa using hq)
    · cases he

/-- A struct type's zero cells, and its fields' places. -/
def bldI (P : Program) (t : TypeId) : Option (List AV × List (Nat × Nat)) := match P.underlying t, P.info? t with
  | some (.struct fs), some i => match i.zero, fs.toList.mapM (fun fd => (P.info? fd.type).map fun j => (fd.offset, j.size)) with
    | some z, some pl => match (constAV z).plain with
      | true => some ((constAV z).cells, pl)
      | false => none
    | _, _ => none
  | _, _ => none

theorem run_places {w : World} : ∀ {fs : List Field} {pl : List (Nat × Nat)}, fs.mapM (fun fd => (P.info? fd.type).map fun j => (fd.offset, j.size)) = some pl →
    (fs.mapM (fun fd => do pure (fd.offset, ← sizeOf fd.type)) : Sem (List (Nat × Nat))).run P w = .ok pl w
  | [], pl, h => by simp at h; subst h; simp
  | fd :: fs, pl, h => by
    simp only [List.mapM_cons, Option.bind_eq_bind, Option.bind_eq_some_iff, Option.map_eq_some_iff] at h
    obtain ⟨p, ⟨j, hj, rfl⟩, pl', h2, h3⟩ := h
    simp at h3; subst h3
    have ih := run_places (w := w) h2
    simp only [List.mapM_cons, Sem.run_bind, sizeOf, rTI hj, Result.andThen_ok, Sem.run_pure]
    simp only [sizeOf] at ih
    rw [ih]; rfl

/-- T{..} -/
theorem AS.build {t : TypeId} {parts : Array (Nat × Operand)} {zs : List AV} {pl : List (Nat × Nat)} {ps : List (Nat × AV)} {cs : List AV} (ho : ops[i]? = some ⟨d, .build t parts, ty, pos, aft, gd⟩) (hw : wantedB ops env gd = true) (hd : fitsB n d = true)
    (hb : bldI P t = some (zs, pl)) (hps : evParts GV env parts.toList = some ps) (hf : fillA (fun j => pl[j]?) zs ps = some cs)
    (next : AS P GV f n (.inRegion ops rest :: k) (putEnv d (.agg cs) env) H R) : AS P GV f n (.inRegion ops (i :: rest) :: k) env H R :=
  .opV _ ho hw hd (fun V a w hs => by
    unfold bldI at hb
    split at hb <;> try cases hb
    rename_i fs info hu hi
    split at hb <;> try cases hb
    rename_i z pl' hz hpl
    split at hb <;> try cases hb
    rename_i hzp
    obtain ⟨hl, hp⟩ := hs.evParts hps
    obtain ⟨brr, h1, h2⟩ := fill_of (a := a) ((VR.constAV V z).cells hzp) hf hl hp
    refine ⟨.agg brr, ?_, .agg _ _ h2.1 h2.2⟩
    have hpr := run_places (w := w) hpl
    have hpr2 : (fs.mapM (fun fd => do pure (fd.offset, ← sizeOf fd.type)) : Sem (Array (Nat × Nat))).run P w = .ok pl.toArray w := by
      have : fs = fs.toList.toArray := by simp
      rw [this, List.mapM_toArray, Sem.run_map, hpr]; rfl
    simp only [execOp, Instr.build, zeroValue, Sem.run_bind, rTI hi, hz, Result.andThen_ok, Sem.run_pure, run_underlying hu, hpr2]
    have h1' : Instr.fill (fun x => pl.toArray[x]?) z.cells (parts.map fun (i, x) => (i, a.eval x)).toList = some brr := by
      rw [Array.toList_map]
      simpa using h1
    rw [h1']
    rfl) next

def partsOf : List Operand → Nat → List (Nat × Operand)
  | [], _ => []
  | o :: r, j => (j, o) :: partsOf r (j + 1)

/-- The elements of a slice's type: (element type, cells, bytes, zero value). -/
def sliI (P : Program) (t : TypeId) : Option (TypeId × Nat × Nat) := match P.underlying t with
  | some (.slice e) => match P.info? e with
    | some i => match i.zero with
      | some z => match Nat.beq z.cells.size i.size && Nat.ble 1 i.size && Nat.ble 1 i.bytes with
        | true => some (e, i.size, i.bytes)
        | false => none
      | none => none
    | none => none
  | _ => none

theorem sliI_parts {t e : TypeId} {sz by_ : Nat} (h : sliI P t = some (e, sz, by_)) : ∃ i z, P.underlying t = some (.slice e) ∧ P.info? e = some i ∧ i.zero = some z ∧ i.size = sz ∧ i.bytes = by_ ∧ z.cells.size = sz ∧ 0 < sz ∧ 0 < by_ := by
  unfold sliI at h
  split at h <;> try cases h
  rename_i e' hu
  split at h <;> try cases h
  rename_i ii hii
  split at h <;> try cases h
  rename_i z hz
  split at h <;> try cases h
  rename_i hb
  simp only [Bool.and_eq_true] at hb
  exact ⟨ii, z, hu, hii, hz, rfl, rfl, Nat.eq_of_beq_eq_true hb.1.1, Nat.le_of_ble_eq_true hb.1.2, Nat.le_of_ble_eq_true hb.2⟩

theorem sizeOf_run {e : TypeId} {info : TypeInfo} {w : World} (h : P.info? e = some info) : (sizeOf e).run P w = .ok info.size w := by simp [sizeOf, rTI h]

/-- all elements are of so many cells -/
def allSz (sz : Nat) : List AV → Bool
  | [] => true
  | x :: r => Nat.beq x.cells.length sz && x.plain && allSz sz r

theorem allSz_mem {sz : Nat} : ∀ {xs : List AV}, allSz sz xs = true → ∀ x ∈ xs, x.cells.length = sz ∧ x.plain = true
  | [], _, x, h => by cases h
  | y :: r, h, x, hx => by
    simp only [allSz, Bool.and_eq_true] at h
    rcases List.mem_cons.1 hx with e | hx
    · subst e; exact ⟨Nat.eq_of_beq_eq_true h.1.1, h.1.2⟩
    · exact allSz_mem h.2 x hx

theorem flat_length {sz : Nat} {xs : List AV} (h : ∀ x ∈ xs, x.cells.length = sz) : (flat xs).length = xs.length * sz := by
  induction xs with
  | nil => simp [flat]
  | cons x r ih =>
    have := ih (fun y hy => h y (List.mem_cons_of_mem _ hy))
    simp only [flat, List.flatMap_cons, List.length_append, List.length_cons] at this ⊢
    rw [h x List.mem_cons_self, this, Nat.add_mul, Nat.one_mul, Nat.add_comm]

theorem putCells_mid (A X B : List AV) : ∀ (xs : List AV), xs.length = X.length → putCells (A ++ X ++ B) A.length xs = A ++ xs ++ B := by
  intro xs
  induction X generalizing A xs with
  | nil => intro h; cases xs with
    | nil => rfl
    | cons => simp at h
  | cons y Y ih =>
    intro h
    cases xs with
    | nil => simp at h
    | cons x xs =>
      simp only [putCells]
      have e1 : (A ++ y :: Y ++ B).set A.length x = (A ++ [x]) ++ Y ++ B := by simp [List.set_append]
      rw [e1, show A.length + 1 = (A ++ [x]).length by simp, ih (A ++ [x]) xs (by simpa using h)]
      simp

/-- The parts in their order fill the row. -/
theorem fillA_row {sz : Nat} : ∀ (xs : List AV) (A B : List AV), (∀ x ∈ xs, x.cells.length = sz ∧ x.plain = true) → B.length = xs.length * sz → ∀ j, A.length = j * sz →
    fillA (fun i => some (i * sz, sz)) (A ++ B) (xs.zipIdx j |>.map fun p => (p.2, p.1)) = some (A ++ flat xs)
  | [], A, B, _, hB, j, _ => by
    have : B = [] := List.eq_nil_of_length_eq_zero (by simpa using hB)
    subst this
    simp [fillA, flat]
  | x :: xs, A, B, hx, hB, j, hA => by
    obtain ⟨h1, h2⟩ := hx x List.mem_cons_self
    have hBl : sz ≤ B.length := by rw [hB]; simp only [List.length_cons, Nat.add_mul, Nat.one_mul]; omega
    simp only [List.zipIdx_cons, List.map_cons, fillA]
    have c1 : (Nat.beq x.cells.length sz && Nat.ble (j * sz + sz) (A ++ B).length && x.plain) = true := by
      have e1 : Nat.beq x.cells.length sz = true := by rw [h1]; exact Nat.beq_refl sz
      have e2 : Nat.ble (j * sz + sz) (A ++ B).length = true := by rw [Nat.ble_eq]; simp; omega
      rw [e1, e2, h2]; rfl
    rw [c1]
    simp only
    have hsplit : A ++ B = A ++ B.take sz ++ B.drop sz := by rw [List.append_assoc, List.take_append_drop]
    rw [hsplit, ← hA, putCells_mid A (B.take sz) (B.drop sz) x.cells (by rw [h1, List.length_take]; omega)]
    rw [fillA_row xs (A ++ x.cells) (B.drop sz) (fun y hy => hx y (List.mem_cons_of_mem _ hy)) (by rw [List.length_drop, hB]; simp only [List.length_cons, Nat.add_mul, Nat.one_mul]; omega) (j + 1) (by simp [h1, hA, Nat.add_mul])]
    simp [flat]

/-- []T{x, y, ..}: all elements named, in their order. -/
theorem AS.buildSlice {t e : TypeId} {len sz by_ : Nat} {parts : Array (Nat × Operand)} {xs : List AV} (ho : ops[i]? = some ⟨d, .buildSlice t len parts, ty, pos, aft, gd⟩) (hw : wantedB ops env gd = true) (hd : fitsB n d = true)
    (ht : sliI P t = some (e, sz, by_)) (hps : evParts GV env parts.toList = some (xs.zipIdx.map fun p => (p.2, p.1))) (hlen : Nat.beq xs.length len = true) (hsm : Nat.ble (len * sz) 16777216 = true) (hsz : allSz sz xs = true)
    (next : AS P GV f n (.inRegion ops rest :: k) (putEnv d (.slice xs .full) env) H R) : AS P GV f n (.inRegion ops (i :: rest) :: k) env H R := by
  refine AS.opG (Φ := fun x H2 => x = .slice xs .full ∧ H2 = H) ho hw hd (fun V a w hs => ?_) (fun x H2 ⟨e1, e2⟩ => by subst e1 e2; exact next)
  obtain ⟨info, z, hu, hi, hz, h1, h2, h3, h4, h5⟩ := sliI_parts ht
  have hln : xs.length = len := Nat.eq_of_beq_eq_true hlen
  have hmem := allSz_mem hsz
  have hfl := flat_length (fun x hx => (hmem x hx).1)
  obtain ⟨hl, hp⟩ := hs.evParts hps
  -- the row that is there at first
  obtain ⟨zero, hzero⟩ : ∃ zero : Array Value, zero = if len * info.size = 0 then #[] else z.cells := ⟨_, rfl⟩
  obtain ⟨arr0, harr0⟩ : ∃ arr0, (Array.range (len * info.size)).map (fun x => zero[x % zero.size]!) = arr0 := ⟨_, rfl⟩
  have hsz0 : arr0.size = len * sz := by rw [← harr0, ← h1]; simp
  have hc0 : Cells V (arr0.toList.map AV.raw) arr0 := ⟨by simp, fun i x v hx hv => by
    simp only [List.getElem?_map, Array.getElem?_toList, hv, Option.map_some, Option.some.injEq] at hx
    subst hx; exact .raw v⟩
  have hfa := fillA_row xs [] (arr0.toList.map AV.raw) hmem (by simp [hsz0, hln]) 0 (by simp)
  obtain ⟨brr, hf1, hf2⟩ := fill_of (a := a) hc0 hfa (by simpa using hl) hp
  simp only [List.nil_append] at hf2
  obtain ⟨hrel, hext, hcl⟩ := hs.rel.alloc_ro brr e
  refine ⟨.slice (some ⟨w.heap.size, 0, none⟩) len len, w.alloc (.cells brr e), _, _, _, .inl ?_, ?_, hrel, hext, rfl, rfl⟩
  · have hf1' : Instr.fill (fun i => some (i * sz, sz)) arr0 (parts.map fun (i, x) => (i, a.eval x)).toList = some brr := by
      rw [Array.toList_map]; exact hf1
    simp only [execOp, Instr.buildSlice, Sem.run_bind, run_underlying hu, Result.andThen_ok, sizeOf_run hi, Sem.run_ite, Sem.run_pure]
    rw [if_neg (by have := Nat.le_of_ble_eq_true hsm; rw [h1]; omega)]
    by_cases h0 : len * info.size = 0
    · rw [if_pos h0] at hzero
      subst hzero
      rw [if_pos h0, harr0, h1, hf1']
      simp [newRow]
    · rw [if_neg h0] at hzero
      subst hzero
      rw [if_neg h0]
      simp only [zeroValue, Sem.run_bind, rTI hi, hz, Sem.run_pure, Result.andThen_ok]
      rw [harr0, h1, hf1']
      simp [newRow]
  · refine .slice xs .full _ _ _ sz w.heap.size 0 (fun i => brr.getD i Go.undef) hln.symm (Nat.le_refl _) (fun x hx => (hmem x hx).1) (fun _ => rfl) (fun i hi => ?_) (fun i x hx => ?_) rfl
    · have hib : i < brr.size := by rw [hf2.1]; exact hi
      rw [Nat.zero_add, hcl]
      simp [Array.getElem?_eq_getElem hib, Array.getD_eq_getD_getElem?]
    · have hib : i < brr.size := by rw [hf2.1]; exact (List.getElem?_eq_some_iff.1 hx).1
      exact (hf2.2 i x (brr.getD i Go.undef) hx (by simp [Array.getElem?_eq_getElem hib, Array.getD_eq_getD_getElem?])).mono hext.le
end rules
end Go.Proofs.Fw
/- Rules: indexing, slicing; knowing less of values; rows that turn no more. -/
namespace Go.Proofs.Fw
open Go Go.Shelf Go.RowKit
set_option linter.unusedVariables false
set_option linter.unusedSimpArgs false

theorem flat_get {sz : Nat} : ∀ {xs : List AV}, (∀ x ∈ xs, x.cells.length = sz) → ∀ {m : Nat} {y : AV}, xs[m]? = some y → ∀ j, j < sz → (flat xs)[m * sz + j]? = y.cells[j]?
  | [], _, m, y, h, _, _ => by simp at h
  | x :: xs, hx, m, y, h, j, hj => by
    have h0 := hx x List.mem_cons_self
    simp only [flat, List.flatMap_cons]
    cases m with
    | zero =>
      simp at h; subst h
      rw [Nat.zero_mul, Nat.zero_add, List.getElem?_append_left (by omega)]
    | succ m =>
      have ih := flat_get (fun y hy => hx y (List.mem_cons_of_mem _ hy)) (m := m) (y := y) (by simpa using h) j hj
      rw [List.getElem?_append_right (by rw [h0, Nat.add_mul]; omega), h0, show (m + 1) * sz + j - sz = m * sz + j by rw [Nat.add_mul]; omega]
      exact ih

/-! ### Knowing less of a value -/
def AVLe (x y : AV) : Prop := ∀ V v, VR V x v → VR V y v
theorem AVLe.refl (x : AV) : AVLe x x := fun _ _ h => h
theorem AVLe.tok (xs : List AV) (t : Tok) : AVLe (.slice xs t) (.slice xs .any) := fun V v h => by
  cases h with
  | slice _ _ a n c sz b o f hn hnc hsz ha hV hc ht => exact .slice xs .any a n c sz b o f hn hnc hsz ha hV hc trivial

inductive AVLes : List AV → List AV → Prop where
  | nil : AVLes [] []
  | cons {x y : AV} {xs ys : List AV} (h : AVLe x y) (r : AVLes xs ys) : AVLes (x :: xs) (y :: ys)
theorem AVLes.refl : ∀ xs : List AV, AVLes xs xs
  | [] => .nil
  | x :: xs => .cons (.refl x) (AVLes.refl xs)
theorem AVLes.length {xs ys : List AV} (h : AVLes xs ys) : xs.length = ys.length := by induction h <;> simp_all
theorem AVLes.get {xs ys : List AV} (h : AVLes xs ys) : ∀ (i : Nat) y, ys[i]? = some y → ∃ x, xs[i]? = some x ∧ AVLe x y := by
  induction h with
  | nil => intro i y h; simp at h
  | cons h r ih =>
    intro i y hy
    cases i with
    | zero => simp at hy; subst hy; exact ⟨_, rfl, h⟩
    | succ i => exact ih i y (by simpa using hy)
theorem AVLe.agg {xs ys : List AV} (h : AVLes xs ys) : AVLe (.agg xs) (.agg ys) := fun V v hv => by
  cases hv with
  | agg _ arr h1 hc => exact .agg _ _ (by rw [h1, h.length]) (fun i y u hy hu => let ⟨x, hx, hl⟩ := h.get i y hy; hl _ _ (hc i x u hx hu))
theorem AVLe.tup {xs ys : List AV} (h : AVLes xs ys) : AVLe (.tup xs) (.tup ys) := fun V v hv => by
  cases hv with
  | tup _ arr h1 hc => exact .tup _ _ (by rw [h1, h.length]) (fun i y u hy hu => let ⟨x, hx, hl⟩ := h.get i y hy; hl _ _ (hc i x u hx hu))

/-! ### Of the whole state, more loosely -/
def Wk (GV : AH) (x : AV) (H : AH) (y : AV) (H' : AH) : Prop := ∀ V w v, VR V x v → Rel GV w V H → ∃ V', VR V' y v ∧ Rel GV w V' H' ∧ Ext w V H w V' H'

theorem Wk.refl {GV : AH} (x : AV) (H : AH) : Wk GV x H x H := fun V w v hv hr => ⟨V, hv, hr, .refl _ _ _⟩
theorem Wk.trans {GV : AH} {x y z : AV} {H H' H'' : AH} (h : Wk GV x H y H') (h' : Wk GV y H' z H'') : Wk GV x H z H'' := fun V w v hv hr =>
  let ⟨V1, a, b, c⟩ := h V w v hv hr
  let ⟨V2, a', b', c'⟩ := h' V1 w v a b
  ⟨V2, a', b', c.trans c'⟩
theorem Wk.le {GV : AH} {x y : AV} {H : AH} (h : AVLe x y) : Wk GV x H y H := fun V w v hv hr => ⟨V, h _ _ hv, hr, .refl _ _ _⟩
theorem Wk.sub {GV : AH} {x : AV} {H H' : AH} (hs : ∀ p, p ∈ H' → p ∈ H) (hn : (keys H).Nodup → (keys H').Nodup) : Wk GV x H x H' := fun V w v hv hr =>
  ⟨V, hv, hr.sub hs (hn hr.nodup), (Ext.refl w V H).sub hs⟩
theorem Wk.drop {GV : AH} {x : AV} {H : AH} (p : Nat × AO) : Wk GV x (p :: H) x H :=
  Wk.sub (fun _ h => List.mem_cons_of_mem _ h) (fun h => by simp only [keys, List.map_cons, List.nodup_cons] at h; exact h.2)
theorem Wk.dropL {GV : AH} {x : AV} {H : AH} (G : AH) : Wk GV x (G ++ H) x H :=
  Wk.sub (fun _ h => List.mem_append_right _ h) (fun h => by simp only [keys, List.map_append, List.nodup_append] at h; exact h.2.1)

/-- A row that turns no more. -/
theorem Rel.freeze {GV H H0 : AH} {w : World} {V : View} {b : Nat} {cs : List AV} {e : TypeId} (h : Rel GV w V H) [hd : Del H b (.row cs e) H0] :
    ∃ V', Rel GV w V' H0 ∧ Ext w V H w V' H0 ∧ ∃ fv : Nat → Value, ∀ i x, cs[i]? = some x → V' b i = some (fv i) ∧ VR V' x (fv i) := by
  obtain ⟨arr, hb, hc, hcl⟩ := h.objs _ _ hd.mem
  obtain ⟨hnd, hnb⟩ := hd.nodup h.nodup
  have hle := View.le_claim V b (fun i => arr[i]?)
  have hcb : ∀ i, V.claim b (fun i => arr[i]?) b i = arr[i]? := fun i => View.claim_here V _ i (hcl i)
  refine ⟨V.claim b (fun i => arr[i]?), ⟨hnd, ?_, ?_, ?_⟩, ⟨rfl, rfl, rfl, Nat.le_refl _, hle, fun _ _ _ => rfl, ?_, ?_⟩, fun i => arr.getD i Go.undef, ?_⟩
  · intro c o hm
    have hcb : c ≠ b := fun e => hnb (by subst e; exact List.mem_map.2 ⟨_, hm, rfl⟩)
    exact (h.objs c o (hd.old _ hm)).keep hle rfl (fun i => View.claim_other V _ hcb i)
  · intro c i v hv
    by_cases hcb' : c = b
    · subst hcb'
      rw [hcb] at hv
      simp [World.cell?, hb, hv]
    · rw [View.claim_other V _ hcb'] at hv
      exact h.claims c i v hv
  · exact fun c cs e hm => (h.glob c cs e hm).mono hle
  · intro c _ hn i
    exact View.claim_other V _ (fun e => hn (by subst e; exact List.mem_map.2 ⟨_, hd.mem, rfl⟩)) i
  · intro c hc'
    obtain ⟨p, hp, rfl⟩ := List.mem_map.1 hc'
    exact .inl (List.mem_map.2 ⟨p, hd.old _ hp, rfl⟩)
  · intro i x hx
    have hi : i < arr.size := by rw [hc.1]; exact (List.getElem?_eq_some_iff.1 hx).1
    exact ⟨by rw [hcb]; simp [Array.getElem?_eq_getElem hi, Array.getD_eq_getD_getElem?], (hc.2 i x _ hx (by simp [Array.getElem?_eq_getElem hi, Array.getD_eq_getD_getElem?])).mono hle⟩

/-- What a value has become, the row at b having been frozen. -/
inductive Froze (b : Nat) (cs : List AV) : AV → AV → Prop where
  | refl (x : AV) : Froze b cs x x
  | slice (o n c sz : Nat) (xs : List AV) (t : Tok) (hl : xs.length = n) (hc : n ≤ c) (hsz : allSz sz xs = true) (hf : flat xs = (cs.drop o).take (n * sz)) (ht : t = .any ∨ t = .full ∧ n = c) : Froze b cs (.mslice b o n c) (.slice xs t)
  | ptr (o : Nat) : Froze b cs (.ptr b o) (.ipt (cs.drop o))
  | agg {xs ys : List AV} (h : xs.length = ys.length) (hi : ∀ (i : Nat) x y, xs[i]? = some x → ys[i]? = some y → Froze b cs x y) : Froze b cs (.agg xs) (.agg ys)
  | tup {xs ys : List AV} (h : xs.length = ys.length) (hi : ∀ (i : Nat) x y, xs[i]? = some x → ys[i]? = some y → Froze b cs x y) : Froze b cs (.tup xs) (.tup ys)

theorem Froze.vr {b : Nat} {cs : List AV} {x y : AV} (h : Froze b cs x y) {V V' : View} (hle : VLe V V') {fv : Nat → Value} (hV : ∀ i x, cs[i]? = some x → V' b i = some (fv i) ∧ VR V' x (fv i)) :
    ∀ {v : Value}, VR V x v → VR V' y v := by
  induction h with
  | refl x => exact fun h => h.mono hle
  | slice o n c sz xs t hl hc hsz hf ht =>
    intro v hv
    cases hv
    have hm := allSz_mem hsz
    have hfl := flat_length (fun x hx => (hm x hx).1)
    have key : ∀ i x, (flat xs)[i]? = some x → cs[o + i]? = some x := fun i x hx => by
      rw [hf, List.getElem?_take] at hx
      split at hx
      · rw [List.getElem?_drop] at hx; exact hx
      · cases hx
    refine .slice xs t _ _ _ sz b o (fun i => fv (o + i)) hl.symm hc (fun x hx => (hm x hx).1) (fun _ => rfl) (fun i hi => ?_) (fun i x hx => ?_) ?_
    · exact (hV (o + i) _ (key i _ (List.getElem?_eq_getElem hi))).1
    · exact (hV (o + i) x (key i x hx)).2
    · rcases ht with rfl | ⟨rfl, h⟩
      · trivial
      · exact h
  | ptr o =>
    intro v hv
    cases hv
    refine .ipt _ b o (fun i => fv (o + i)) (fun i hi => ?_) (fun i x hx => ?_)
    · have hi' : o + i < cs.length := by simp at hi; omega
      exact (hV (o + i) _ (List.getElem?_eq_getElem hi')).1
    · rw [List.getElem?_drop] at hx
      exact (hV (o + i) x hx).2
  | @agg xs ys h hi ih =>
    intro v hv
    cases hv with
    | agg _ arr h1 hc =>
      refine .agg _ _ (by rw [h1, h]) fun i y u hy hu => ?_
      have hl : i < xs.length := by rw [h]; exact (List.getElem?_eq_some_iff.1 hy).1
      exact ih i _ y (List.getElem?_eq_getElem hl) hy (hc i _ u (List.getElem?_eq_getElem hl) hu)
  | @tup xs ys h hi ih =>
    intro v hv
    cases hv with
    | tup _ arr h1 hc =>
      refine .tup _ _ (by rw [h1, h]) fun i y u hy hu => ?_
      have hl : i < xs.length := by rw [h]; exact (List.getElem?_eq_some_iff.1 hy).1
      exact ih i _ y (List.getElem?_eq_getElem hl) hy (hc i _ u (List.getElem?_eq_getElem hl) hu)

theorem Wk.freeze {GV H H0 : AH} {b : Nat} {cs : List AV} {e : TypeId} {x y : AV} [hd : Del H b (.row cs e) H0] (h : Froze b cs x y) : Wk GV x H y H0 := fun V w v hv hr =>
  let ⟨V', h1, h2, fv, h3⟩ := hr.freeze (b := b) (cs := cs) (e := e) (H0 := H0)
  ⟨V', h.vr h2.le h3 hv, h1, h2⟩

/-- What is handed back may be told by less. -/
def RWk (GV : AH) (R : AV → AH → Prop) (x : AV) (H : AH) : Prop := ∃ y H', Wk GV x H y H' ∧ R y H'

section
variable {P : Program} {GV : AH} {f : FuncId} {n : Nat} {k : List Item} {env : Env} {H : AH} {R : AV → AH → Prop}

theorem AS.rwk {todo : List Item} (h : AS P GV f n todo env H (RWk GV R)) : AS P GV f n todo env H R :=
  fun V a w hs => (h V a w hs).mono fun v w' ⟨V', x, H', a, b, c, y, H2, hwk, d⟩ =>
    let ⟨V2, a', b', c'⟩ := hwk V' w' v a b
    ⟨V2, y, H2, a', b', c.trans c', d⟩
theorem ACalls.rwk {args : List AV} (h : ACalls P GV f args H (RWk GV R)) : ACalls P GV f args H R :=
  fun V w vs hc hrel => (h V w vs hc hrel).mono fun _ w' ⟨v, he, V', x, H', a, b, c, y, H2, hwk, d⟩ =>
    let ⟨V2, a', b', c'⟩ := hwk V' w' v a b
    ⟨v, he, V2, y, H2, a', b', c.trans c', d⟩

/-- return, told by less -/
theorem AS.retW {fn : Func} {rs : List ResultVar} {xs : List AV} (hf : P.funcs[f]? = some fn) (hr : fn.results.toList = rs) (hres : ResA P env H rs xs) (h : RWk GV R (packA xs) H) : AS P GV f n (.code .ret :: k) env H R :=
  .rwk (.ret hf hr hres h)

/-- A slot that is known by less. -/
inductive EnvTo (Q : AV → AV → Prop) (env : Env) : Env → Prop where
  | nil : EnvTo Q env []
  | cons {t : Nat} {x y : AV} {r : Env} (h : env.get t = some x) (hq : Q x y) (h' : EnvTo Q env r) : EnvTo Q env ((t, y) :: r)

theorem EnvTo.get {Q : AV → AV → Prop} {env env' : Env} (h : EnvTo Q env env') : ∀ t y, env'.get t = some y → ∃ x, env.get t = some x ∧ Q x y := by
  induction h with
  | nil => intro t y h; cases h
  | cons h hq h' ih =>
    intro t y hy
    simp only [Env.get] at hy
    split at hy
    · rename_i hb
      have := Nat.eq_of_beq_eq_true hb
      subst this
      cases hy
      exact ⟨_, h, hq⟩
    · exact ih t y hy

theorem AS.less {todo : List Item} (env' : Env) (he : EnvTo AVLe env env') (h : AS P GV f n todo env' H R) : AS P GV f n todo env H R :=
  fun V a w hs => h V a w ⟨hs.defers, hs.size, fun t y hy => let ⟨x, hx, hl⟩ := he.get t y hy; let ⟨v, hv, hr⟩ := hs.env t x hx; ⟨v, hv, hl _ _ hr⟩, hs.rel⟩

theorem AS.freeze {todo : List Item} (b : Nat) {cs : List AV} {e : TypeId} {H0 : AH} [hd : Del H b (.row cs e) H0] (env' : Env) (he : EnvTo (Froze b cs) env env') (h : AS P GV f n todo env' H0 R) : AS P GV f n todo env H R := by
  intro V a w hs
  obtain ⟨V', h1, h2, fv, h3⟩ := hs.rel.freeze (b := b) (cs := cs) (e := e) (H0 := H0)
  refine (h V' a w ⟨hs.defers, hs.size, fun t y hy => ?_, h1⟩).mono fun v w' ⟨V2, x, H2, a, b, c, d⟩ => ⟨V2, x, H2, a, b, h2.trans c, d⟩
  obtain ⟨x, hx, hl⟩ := he.get t y hy
  obtain ⟨v, hv, hr⟩ := hs.env t x hx
  exact ⟨v, hv, hl.vr h2.le h3 hr⟩
end

section rules
variable {P : Program} {GV : AH} {f : FuncId} {n : Nat} {k : List Item} {env : Env} {H : AH} {R : AV → AH → Prop} {ops : Array Oper} {i : Nat} {rest : List Nat}
variable {d : Option Tmp} {ty : TypeId} {pos : String} {aft : Array Edge} {gd : Option (Nat × Bool)}

/-- &s[i], s a list -/
theorem AS.indexAddr {t e : TypeId} {xo io : Operand} {xs : List AV} {tk : Tok} {kd : IntKind} {m : Int} {y : AV} {sz by_ : Nat} (ho : ops[i]? = some ⟨d, .indexAddr t xo io, ty, pos, aft, gd⟩) (hw : wantedB ops env gd = true) (hd : fitsB n d = true)
    (hx : env.ev GV xo = some (.slice xs tk)) (hi : env.ev GV io = some (.int kd m)) (ht : sliI P t = some (e, sz, by_)) (h0 : 0 ≤ m) (hy : xs[m.toNat]? = some y) (hsz : Nat.beq y.cells.length sz = true)
    (next : AS P GV f n (.inRegion ops rest :: k) (putEnv d (.ipt y.cells) env) H R) : AS P GV f n (.inRegion ops (i :: rest) :: k) env H R :=
  .opV _ ho hw hd (fun V a w hs => by
    obtain ⟨info, z, hu, hinfo, hz, h1, h2, h3, h4, h5⟩ := sliI_parts ht
    have hv := hs.ev hx
    have hiv := hs.ev hi
    generalize hq : a.eval xo = q at hv
    generalize hqi : a.eval io = qi at hiv
    cases hiv
    cases hv with
    | slice _ _ ad l c sz' b o fv hn hnc hsz' ha hV hc htk =>
      have hml : m.toNat < xs.length := (List.getElem?_eq_some_iff.1 hy).1
      have hys : y.cells.length = sz := Nat.eq_of_beq_eq_true hsz
      have hsz2 : sz' = sz := by rw [← hys]; exact (hsz' y (List.mem_of_getElem? hy)).symm
      subst hsz2
      have hab := ha (by omega)
      subst hab
      have hfg := flat_get hsz' hy
      have hmi : 0 ≤ m ∧ m < (l : Int) := by omega
      refine ⟨.pointer (some ⟨b, o + m.toNat * info.size, none⟩), ?_, ?_⟩
      · simp only [execOp, hq, hqi, Instr.indexAt, asIntOf, Sem.run_bind, Sem.run_pure, Result.andThen_ok, run_underlying hu]
        simp [hmi, sizeOf_run hinfo, Addr.add_eq]
      · rw [h1]
        refine .ipt _ b _ (fun j => fv (m.toNat * sz' + j)) (fun j hj => ?_) (fun j x hx => ?_)
        · have hjf := hfg j (by omega)
          rw [List.getElem?_eq_getElem hj] at hjf
          rw [Nat.add_assoc]
          exact hV _ (List.getElem?_eq_some_iff.1 hjf).1
        · have hj : j < y.cells.length := (List.getElem?_eq_some_iff.1 hx).1
          exact hc _ x (by rw [hfg j (by omega)]; exact hx)) next

/-- &s[i], s over a row -/
theorem AS.mindexAddr {t e : TypeId} {xo io : Operand} {b o l c : Nat} {kd : IntKind} {m : Int} {sz by_ : Nat} (ho : ops[i]? = some ⟨d, .indexAddr t xo io, ty, pos, aft, gd⟩) (hw : wantedB ops env gd = true) (hd : fitsB n d = true)
    (hx : env.ev GV xo = some (.mslice b o l c)) (hi : env.ev GV io = some (.int kd m)) (ht : sliI P t = some (e, sz, by_)) (h0 : 0 ≤ m ∧ m < (l : Int))
    (next : AS P GV f n (.inRegion ops rest :: k) (putEnv d (.ptr b (o + m.toNat * sz)) env) H R) : AS P GV f n (.inRegion ops (i :: rest) :: k) env H R :=
  .opV _ ho hw hd (fun V a w hs => by
    obtain ⟨info, z, hu, hinfo, hz, h1, h2, h3, h4, h5⟩ := sliI_parts ht
    have hv := hs.ev hx
    have hiv := hs.ev hi
    generalize hq : a.eval xo = q at hv
    generalize hqi : a.eval io = qi at hiv
    cases hiv
    cases hv
    refine ⟨.pointer (some ⟨b, o + m.toNat * info.size, none⟩), ?_, by rw [h1]; exact .ptr _ _⟩
    simp only [execOp, hq, hqi, Instr.indexAt, asIntOf, Sem.run_bind, Sem.run_pure, Result.andThen_ok, run_underlying hu]
    simp [h0, sizeOf_run hinfo, Addr.add_eq]) next

def arrI (P : Program) (t : TypeId) : Option (Nat × Nat) := match P.underlying t with
  | some (.array len e) => match P.info? e with
    | some i => some (len, i.size)
    | none => none
  | _ => none

/-- &a[i], a an array behind an address -/
theorem AS.aindexAddr {t : TypeId} {xo io : Operand} {b off : Nat} {kd : IntKind} {m : Int} {len sz : Nat} (ho : ops[i]? = some ⟨d, .indexAddr t xo io, ty, pos, aft, gd⟩) (hw : wantedB ops env gd = true) (hd : fitsB n d = true)
    (hx : env.ev GV xo = some (.ptr b off)) (hi : env.ev GV io = some (.int kd m)) (ht : arrI P t = some (len, sz)) (h0 : 0 ≤ m ∧ m < (len : Int))
    (next : AS P GV f n (.inRegion ops rest :: k) (putEnv d (.ptr b (off + m.toNat * sz)) env) H R) : AS P GV f n (.inRegion ops (i :: rest) :: k) env H R :=
  .opV _ ho hw hd (fun V a w hs => by
    unfold arrI at ht
    split at ht <;> try cases ht
    rename_i ln e hu
    split at ht <;> try cases ht
    rename_i info hinfo
    have hv := hs.ev hx
    have hiv := hs.ev hi
    generalize hq : a.eval xo = q at hv
    generalize hqi : a.eval io = qi at hiv
    cases hiv
    cases hv
    refine ⟨.pointer (some ⟨b, off + m.toNat * info.size, none⟩), ?_, .ptr _ _⟩
    simp only [execOp, hq, hqi, Instr.indexAt, asIntOf, Sem.run_bind, Sem.run_pure, Result.andThen_ok, run_underlying hu, Instr.sureAddr]
    simp [h0, sizeOf_run hinfo, Addr.add_eq]) next
theorem AS.iaindexAddr {t : TypeId} {xo io : Operand} {cs : List AV} {kd : IntKind} {m : Int} {len sz : Nat} (ho : ops[i]? = some ⟨d, .indexAddr t xo io, ty, pos, aft, gd⟩) (hw : wantedB ops env gd = true) (hd : fitsB n d = true)
    (hx : env.ev GV xo = some (.ipt cs)) (hi : env.ev GV io = some (.int kd m)) (ht : arrI P t = some (len, sz)) (h0 : 0 ≤ m ∧ m < (len : Int))
    (next : AS P GV f n (.inRegion ops rest :: k) (putEnv d (.ipt (cs.drop (m.toNat * sz))) env) H R) : AS P GV f n (.inRegion ops (i :: rest) :: k) env H R :=
  .opV _ ho hw hd (fun V a w hs => by
    unfold arrI at ht
    split at ht <;> try cases ht
    rename_i ln e hu
    split at ht <;> try cases ht
    rename_i info hinfo
    have hv := hs.ev hx
    have hiv := hs.ev hi
    generalize hq : a.eval xo = q at hv
    generalize hqi : a.eval io = qi at hiv
    cases hiv
    cases hv with
    | ipt _ b off fv hV hc =>
      refine ⟨.pointer (some ⟨b, off + m.toNat * info.size, none⟩), ?_, .ipt _ b _ (fun j => fv (m.toNat * info.size + j)) (fun j hj => ?_) (fun j x hx => ?_)⟩
      · simp only [execOp, hq, hqi, Instr.indexAt, asIntOf, Sem.run_bind, Sem.run_pure, Result.andThen_ok, run_underlying hu, Instr.sureAddr]
        simp [h0, sizeOf_run hinfo, Addr.add_eq]
      · rw [Nat.add_assoc]; exact hV _ (by simp at hj; omega)
      · rw [List.getElem?_drop] at hx; exact hc _ x hx) next

/-- s[i], s a string -/
theorem AS.strIndex {t : TypeId} {xo io : Operand} {s : ByteArray} {kd : IntKind} {m c : Int} (ho : ops[i]? = some ⟨d, .index t xo io, ty, pos, aft, gd⟩) (hw : wantedB ops env gd = true) (hd : fitsB n d = true)
    (hx : env.ev GV xo = some (.str s)) (hi : env.ev GV io = some (.int kd m)) (ht : P.underlying t = some .string) (h0 : 0 ≤ m) (h1 : m.toNat < s.size) (hc : ((s[m.toNat]'h1).toNat : Int) = c)
    (next : AS P GV f n (.inRegion ops rest :: k) (putEnv d (.int .u8 c) env) H R) : AS P GV f n (.inRegion ops (i :: rest) :: k) env H R :=
  .opV _ ho hw hd (fun V a w hs => by
    have hv := hs.ev hx
    have hiv := hs.ev hi
    generalize hq : a.eval xo = q at hv
    generalize hqi : a.eval io = qi at hiv
    cases hiv
    cases hv
    subst hc
    refine ⟨.int .u8 (s[m.toNat]'h1).toNat, ?_, .int _ _⟩
    have hg : s[m.toNat]? = some (s[m.toNat]'h1) := by simp [h1]
    simp only [execOp, hq, hqi, Instr.index, asIntOf, Sem.run_bind, Sem.run_pure, Result.andThen_ok, run_underlying ht]
    simp [h0, hg]) next

/-- a[i], a an array by value -/
theorem AS.arrIndex {t e : TypeId} {xo io : Operand} {cs : List AV} {kd : IntKind} {m : Int} {len sz : Nat} {g : Bool} {y : AV} (ho : ops[i]? = some ⟨d, .index t xo io, ty, pos, aft, gd⟩) (hw : wantedB ops env gd = true) (hd : fitsB n d = true)
    (hx : env.ev GV xo = some (.agg cs)) (hi : env.ev GV io = some (.int kd m)) (ht : P.underlying t = some (.array len e)) (hte : tyI P e = some (sz, g)) (h0 : 0 ≤ m ∧ m < (len : Int)) (hl : m.toNat * sz + sz ≤ cs.length) (hy : pickCells g cs (m.toNat * sz) sz = some y)
    (next : AS P GV f n (.inRegion ops rest :: k) (putEnv d y env) H R) : AS P GV f n (.inRegion ops (i :: rest) :: k) env H R :=
  .opV _ ho hw hd (fun V a w hs => by
    have hv := hs.ev hx
    have hiv := hs.ev hi
    generalize hq : a.eval xo = q at hv
    generalize hqi : a.eval io = qi at hiv
    cases hiv
    cases hv with
    | agg _ arr h1 hc =>
      have key : ∃ v, (part e arr (m.toNat * sz)).run P w = .ok v w ∧ VR V y v := by
        unfold pickCells at hy
        cases g with
        | true =>
          simp only [Option.some.injEq] at hy; subst hy
          refine ⟨.agg (arr.extract (m.toNat * sz) (m.toNat * sz + sz)), by simp [part, run_isAgg_of hte, run_sizeOf_of hte], .agg _ _ (by simp; omega) (fun j x v hx hv => ?_)⟩
          rw [List.getElem?_take] at hx
          split at hx
          · rw [List.getElem?_drop] at hx
            rw [Array.getElem?_extract] at hv
            split at hv
            · exact hc _ x v hx hv
            · cases hv
          · cases hx
        | false =>
          simp only at hy
          have hj : m.toNat * sz < arr.size := by rw [h1]; exact (List.getElem?_eq_some_iff.1 hy).1
          have ha : arr[m.toNat * sz]? = some (arr[m.toNat * sz]'hj) := Array.getElem?_eq_getElem hj
          exact ⟨_, by simp [part, run_isAgg_of hte, ha], hc _ y _ hy ha⟩
      obtain ⟨v, hr, hvr⟩ := key
      refine ⟨v, ?_, hvr⟩
      simp only [execOp, hq, hqi, Instr.index, asIntOf, Sem.run_bind, Sem.run_pure, Result.andThen_ok, run_underlying ht, h0, and_self, if_true, run_sizeOf_of hte, Sem.run_ite]
      simp [h0, run_sizeOf_of hte, hr]) next

/-- x.f, x a struct by value -/
theorem AS.field {t : TypeId} {xo : Operand} {fi : Nat} {cs : List AV} {fs : Array Field} {fd : Field} {sz : Nat} {g : Bool} {y : AV} (ho : ops[i]? = some ⟨d, .field t xo fi, ty, pos, aft, gd⟩) (hw : wantedB ops env gd = true) (hd : fitsB n d = true)
    (hx : env.ev GV xo = some (.agg cs)) (ht : P.underlying t = some (.struct fs)) (hfd : fs[fi]? = some fd) (hte : tyI P fd.type = some (sz, g)) (hl : Nat.ble (fd.offset + sz) cs.length = true) (hy : pickCells g cs fd.offset sz = some y)
    (next : AS P GV f n (.inRegion ops rest :: k) (putEnv d y env) H R) : AS P GV f n (.inRegion ops (i :: rest) :: k) env H R :=
  .opV _ ho hw hd (fun V a w hs => by
    have hv := hs.ev hx
    generalize hq : a.eval xo = q at hv
    have hl' := Nat.le_of_ble_eq_true hl
    cases hv with
    | agg _ arr h1 hc =>
      have key : ∃ v, (part fd.type arr fd.offset).run P w = .ok v w ∧ VR V y v := by
        unfold pickCells at hy
        cases g with
        | true =>
          simp only [Option.some.injEq] at hy; subst hy
          refine ⟨.agg (arr.extract fd.offset (fd.offset + sz)), by simp [part, run_isAgg_of hte, run_sizeOf_of hte], .agg _ _ (by simp; omega) (fun j x v hx hv => ?_)⟩
          rw [List.getElem?_take] at hx
          split at hx
          · rw [List.getElem?_drop] at hx
            rw [Array.getElem?_extract] at hv
            split at hv
            · exact hc _ x v hx hv
            · cases hv
          · cases hx
        | false =>
          simp only at hy
          have hj : fd.offset < arr.size := by rw [h1]; exact (List.getElem?_eq_some_iff.1 hy).1
          have ha : arr[fd.offset]? = some (arr[fd.offset]'hj) := Array.getElem?_eq_getElem hj
          exact ⟨_, by simp [part, run_isAgg_of hte, ha], hc _ y _ hy ha⟩
      obtain ⟨v, hr, hvr⟩ := key
      refine ⟨v, ?_, hvr⟩
      simp only [execOp, hq, Instr.field, asAgg, Sem.run_bind, Sem.run_pure, Result.andThen_ok, run_underlying ht, hfd]
      simp [hr]) next
end rules
end Go.Proofs.Fw
/- Rules: append, slicing, make, copy. -/
namespace Go.Proofs.Fw
open Go Go.Shelf Go.RowKit
set_option linter.unusedVariables false
set_option linter.unusedSimpArgs false

/-- What a slice that may grow owns. -/
def G (t : Tok) (n sz : Nat) (e : TypeId) : AH := match t with
  | .own b cap => [(b, .tail n cap sz e)]
  | _ => []

class Pull (H : AH) (t : Tok) (n : outParam Nat) (sz : Nat) (e : TypeId) (H0 : outParam AH) : Prop where
  perm : H.Perm (G t n sz e ++ H0)
instance Pull_front (t : Tok) (n sz : Nat) (e : TypeId) (H0 : AH) : Pull (G t n sz e ++ H0) t n sz e H0 := ⟨.refl _⟩
instance Pull_own (b cap n sz : Nat) (e : TypeId) (H0 : AH) : Pull ((b, .tail n cap sz e) :: H0) (.own b cap) n sz e H0 := ⟨.refl _⟩
instance (priority := low) Pull_cons (H H0 : AH) (t : Tok) (n sz : Nat) (e : TypeId) (p : Nat × AO) [h : Pull H t n sz e H0] : Pull (p :: H) t n sz e (p :: H0) :=
  ⟨((List.Perm.cons p h.perm).trans (List.perm_middle.symm))⟩
instance Pull_full (H : AH) (sz : Nat) (e : TypeId) : Pull H .full 0 sz e H := ⟨.refl _⟩

theorem Rel.perm {GV : AH} {w : World} {V : View} {H H' : AH} (h : Rel GV w V H) (hp : H.Perm H') : Rel GV w V H' :=
  h.sub (fun x hx => hp.mem_iff.2 hx) ((hp.map (fun p : Nat × AO => p.1)).nodup_iff.1 h.nodup)
theorem Ext.permL {w w' : World} {V V' : View} {H H1 H' : AH} (hp : H.Perm H1) (h : Ext w V H1 w' V' H') : Ext w V H w' V' H' := by
  have hk : ∀ b, b ∈ keys H1 ↔ b ∈ keys H := fun b => ((hp.map (·.1)).mem_iff).symm
  exact ⟨h.os, h.tape, h.output, h.size, h.le, fun b hb hn => h.heap b hb (fun hm => hn ((hk b).1 hm)), fun b hb hn => h.view b hb (fun hm => hn ((hk b).1 hm)), fun b hb => (h.keyed b hb).imp (hk b).1 id⟩

/-- A list that does not turn, laid into a fresh block with room behind it. -/
theorem Rel.alloc_tail {GV H0 : AH} {w : World} {V : View} (h : Rel GV w V H0) (arr : Array Value) (e : TypeId) (n cap sz : Nat) (hs : arr.size = cap * sz) (hn : n ≤ cap) :
    Rel GV (w.drew.alloc (.cells arr e)) (V.claim w.heap.size (fun i => if i < n * sz then arr[i]? else none)) ((w.heap.size, .tail n cap sz e) :: H0) ∧
    Ext w V H0 (w.drew.alloc (.cells arr e)) (V.claim w.heap.size (fun i => if i < n * sz then arr[i]? else none)) ((w.heap.size, .tail n cap sz e) :: H0) ∧
      ∀ i, V.claim w.heap.size (fun i => if i < n * sz then arr[i]? else none) w.heap.size i = if i < n * sz then arr[i]? else none := by
  have hcl : ∀ i, V.claim w.heap.size (fun i => if i < n * sz then arr[i]? else none) w.heap.size i = if i < n * sz then arr[i]? else none := fun i => View.claim_here V _ i (h.fresh_claim (Nat.le_refl _))
  have hsz : w.drew.heap.size = w.heap.size := rfl
  have hold : ∀ b, b < w.heap.size → (w.drew.alloc (.cells arr e)).heap[b]? = w.heap[b]? := fun b hb => Below.heap_alloc w.drew _ b hb
  refine ⟨⟨?_, ?_, ?_, fun b cs e' hm => (h.glob b cs e' hm).mono (View.le_claim V _ _)⟩, ⟨rfl, rfl, rfl, by simp, View.le_claim V _ _, fun b hb _ => hold b hb, fun b hb _ i => View.claim_other V _ (by omega) i, ?_⟩, hcl⟩
  · simp only [keys, List.map_cons, List.nodup_cons]
    exact ⟨fun hm => by have := h.key_lt hm; omega, h.nodup⟩
  · intro b o hm
    rcases List.mem_cons.1 hm with e1 | hm
    · cases e1
      exact ⟨arr, heap_alloc_new w.drew _, hs, hn, fun i hi => by rw [hcl, if_neg (by omega)]⟩
    · have hlt := (h.objs b o hm).lt
      exact (h.objs b o hm).keep (View.le_claim V _ _) (hold b hlt) (fun i => View.claim_other V _ (by omega) i)
  · intro b i v hv
    by_cases hb : b = w.heap.size
    · subst hb
      rw [hcl] at hv
      split at hv
      · rw [show (w.drew.alloc (.cells arr e)).cell? ⟨w.heap.size, i, none⟩ = arr[i]? from World.cell?_alloc_new w.drew arr e i]; exact hv
      · cases hv
    · rw [View.claim_other V _ hb] at hv
      rw [show (w.drew.alloc (.cells arr e)).cell? ⟨b, i, none⟩ = w.drew.cell? ⟨b, i, none⟩ from World.cell?_alloc_lt w.drew _ ⟨b, i, none⟩ (h.claim_lt hv)]
      exact h.claims b i v hv
  · intro b hb
    simp only [keys, List.map_cons, List.mem_cons] at hb
    rcases hb with e | hb
    · exact .inr (by omega)
    · exact .inl hb

/-- Room behind a list is taken. -/
theorem Rel.take_tail {GV H0 : AH} {w : World} {V : View} {b n m cap sz : Nat} {e : TypeId} (h : Rel GV w V ((b, .tail n cap sz e) :: H0)) {cur : Array Value} (hb : w.heap[b]? = some (.cells cur e (0, 0))) (news : List Value)
    (hl : news.length = m * sz) (hroom : n + m ≤ cap) :
    let arr := (cur.toList.take (n * sz) ++ news ++ cur.toList.drop (n * sz + news.length)).toArray
    let V' := V.claim b (fun i => if n * sz ≤ i ∧ i < (n + m) * sz then arr[i]? else none)
    Rel GV (w.setRow b arr) V' ((b, .tail (n + m) cap sz e) :: H0) ∧ Ext w V ((b, .tail n cap sz e) :: H0) (w.setRow b arr) V' ((b, .tail (n + m) cap sz e) :: H0) ∧
      (∀ i, n * sz ≤ i → i < (n + m) * sz → V' b i = arr[i]?) ∧ cur.size = cap * sz := by
  intro arr V'
  obtain ⟨cur', hb', hcs, hnc, hcl⟩ := h.objs b _ List.mem_cons_self
  have hcc : cur' = cur := by
    rw [hb] at hb'
    simp only [Option.some.injEq, Obj.cells.injEq] at hb'
    exact hb'.1.symm
  subst hcc
  have hle := View.le_claim V b (fun i => if n * sz ≤ i ∧ i < (n + m) * sz then arr[i]? else none)
  have hfit : n * sz + news.length ≤ cap * sz := by rw [hl, ← Nat.add_mul]; exact Nat.mul_le_mul_right _ hroom
  have harrsz : arr.size = cap * sz := by
    simp only [arr, List.size_toArray, List.length_append, List.length_take, List.length_drop, Array.length_toList, hcs]
    omega
  have hnew := setRow_heap w b cur' arr e (0, 0) hb
  have hoth : ∀ c, c ≠ b → (w.setRow b arr).heap[c]? = w.heap[c]? := fun c hc => setRow_other w b c arr hc
  have hrow : ∀ i v, V b i = some v → i < n * sz := fun i v hv => by
    rcases Nat.lt_or_ge i (n * sz) with h1 | h1
    · exact h1
    · rw [hcl i h1] at hv; cases hv
  have hV' : ∀ i, n * sz ≤ i → i < (n + m) * sz → V' b i = arr[i]? := fun i h1 h2 => by
    show V.claim b _ b i = _
    rw [View.claim_here V _ i (hcl i h1), if_pos ⟨h1, h2⟩]
  have hkn : b ∉ keys H0 := by have := h.nodup; simp only [keys, List.map_cons, List.nodup_cons] at this; exact this.1
  refine ⟨⟨h.nodup, ?_, ?_, fun c cs e' hm => (h.glob c cs e' hm).mono hle⟩, ⟨rfl, rfl, rfl, ?_, hle, ?_, ?_, fun c hc => .inl hc⟩, hV', hcs⟩
  · intro c o hm
    rcases List.mem_cons.1 hm with e1 | hm
    · cases e1
      refine ⟨arr, hnew, harrsz, hroom, fun i hi => ?_⟩
      have h1 : n * sz ≤ i := by rw [Nat.add_mul] at hi; omega
      show V.claim b _ b i = none
      rw [View.claim_here V _ i (hcl i h1), if_neg (by omega)]
    · have hcb : c ≠ b := fun e => hkn (by rw [← e]; exact List.mem_map.2 ⟨(c, o), hm, rfl⟩)
      exact (h.objs c o (List.mem_cons_of_mem _ hm)).keep hle (hoth c hcb) (fun i => View.claim_other V _ hcb i)
  · intro c i v hv
    by_cases hcb : c = b
    · subst hcb
      rw [cell_setRow_same w c i cur' arr e (0, 0) hb]
      cases hi : V c i with
      | none =>
        have : V' c i = if n * sz ≤ i ∧ i < (n + m) * sz then arr[i]? else none := View.claim_here V _ i hi
        rw [this] at hv
        split at hv
        · exact hv
        · cases hv
      | some u =>
        have hvu : V' c i = some u := hle c i u hi
        rw [hvu] at hv; cases hv
        have hlt := hrow i v hi
        have := h.claims c i v hi
        simp only [World.cell?, hb] at this
        have this' : cur'[i]? = some v := by simpa using this
        simp only [arr, List.getElem?_toArray]
        rw [List.append_assoc, List.getElem?_append_left (by simp only [List.length_take, Array.length_toList, hcs]; omega), List.getElem?_take, if_pos hlt]
        simpa using this'
    · have hvo : V' c i = V c i := View.claim_other V _ hcb i
      rw [hvo] at hv
      rw [cell_setRow_other w b arr ⟨c, i, none⟩ hcb]
      exact h.claims c i v hv
  · show w.heap.size ≤ (w.setRow b arr).heap.size
    simp [World.setRow]
  · intro c _ hn
    exact hoth c (fun e => hn (by subst e; simp [keys]))
  · intro c _ hn i
    exact View.claim_other V _ (fun e => hn (by subst e; simp [keys])) i

theorem run_append_zero {P : Program} {w : World} {t ty e : TypeId} {i : TypeInfo} (ht : P.underlying t = some (.slice e)) (hi : P.info? e = some i) (base : Option Addr) (n c : Nat) (hn : n ≤ c) (a : Option Addr) (c' : Nat) :
    (Builtin.append_ #[t, t] ty #[.slice base n c, .slice a 0 c']).run P w = .ok (.slice base n c) w := by
  have hf : (Builtin.firstCells i.size 0 (.slice a 0 c')).run P w = .ok #[] w := by
    cases a <;> simp [Builtin.firstCells, loadCells, loadCellsFrom]
  cases base <;> simp [Builtin.append_, run_underlying ht, sizeOf, typeInfo, hi, Builtin.lenOf, hn, hf, storeCells]

section rules
variable {P : Program} {GV : AH} {f : FuncId} {n : Nat} {k : List Item} {env : Env} {H : AH} {R : AV → AH → Prop} {ops : Array Oper} {i : Nat} {rest : List Nat}
variable {d : Option Tmp} {ty : TypeId} {pos : String} {aft : Array Edge} {gd : Option (Nat × Bool)}

def Tok.grows : Tok → Bool
  | .any => false
  | _ => true

/-- All cells of a list's elements are one cell. -/
def allOne : List AV → Bool
  | [] => true
  | x :: r => x.flatB && allOne r
theorem allOne_flat : ∀ {xs : List AV}, allOne xs = true → ∀ y ∈ flat xs, y.one = true
  | [], _, y, h => by simp [flat] at h
  | x :: r, h, y, hy => by
    simp only [allOne, Bool.and_eq_true] at h
    simp only [flat, List.flatMap_cons, List.mem_append] at hy
    rcases hy with hy | hy
    · exact AV.cells_one h.1 y hy
    · exact allOne_flat h.2 y hy

/-- append(s, ys...) -/
theorem AS.append {so yo : Operand} {t e : TypeId} {xs ys : List AV} {tk tk2 : Tok} {n0 sz by_ : Nat} {H0 : AH} [hpull : Pull H tk n0 sz e H0] (ho : ops[i]? = some ⟨d, .call ⟨.builtin .append, #[so, yo], #[t, t]⟩, ty, pos, aft, gd⟩)
    (hw : wantedB ops env gd = true) (hd : fitsB n d = true) (hx : env.ev GV so = some (.slice xs tk)) (hy : env.ev GV yo = some (.slice ys tk2)) (ht : sliI P t = some (e, sz, by_)) (hg : tk.grows = true) (hn0 : n0 = xs.length)
    (hxs : ∀ x ∈ xs, x.cells.length = sz) (hys : ∀ y ∈ ys, y.cells.length = sz) (h1 : ∀ y ∈ flat ys, y.one = true) (hb : (xs.length + ys.length) * by_ ≤ 140737488355328)
    (next : ∀ tk', tk'.grows = true → AS P GV f n (.inRegion ops rest :: k) (putEnv d (.slice (xs ++ ys) tk') env) (G tk' (xs ++ ys).length sz e ++ H0) R) : AS P GV f n (.inRegion ops (i :: rest) :: k) env H R := by
  refine AS.opG (Φ := fun x H2 => ∃ tk', tk'.grows = true ∧ x = .slice (xs ++ ys) tk' ∧ H2 = G tk' (xs ++ ys).length sz e ++ H0) ho hw hd (fun V a w hs => ?_) (fun x H2 ⟨tk', e0, e1, e2⟩ => by subst e1 e2; exact next tk' e0)
  obtain ⟨info, z, hu, hi, hz, hs1, hs2, hs3, hs4, hs5⟩ := sliI_parts ht
  have hv := hs.ev hx
  have hyv := hs.ev hy
  have hrel := hs.rel.perm hpull.perm
  have hfx := flat_length hxs
  have hfy := flat_length hys
  have hfxy : (flat (xs ++ ys)).length = (xs.length + ys.length) * sz := by
    have : flat (xs ++ ys) = flat xs ++ flat ys := by simp [flat]
    rw [this, List.length_append, hfx, hfy, Nat.add_mul]
  have hflat : flat (xs ++ ys) = flat xs ++ flat ys := by simp [flat]
  have hszall : ∀ x ∈ xs ++ ys, x.cells.length = sz := fun x hx => by
    rcases List.mem_append.1 hx with h | h
    · exact hxs x h
    · exact hys x h
  have hn63 : xs.length + ys.length ≤ 140737488355328 := Nat.le_trans (Nat.le_mul_of_pos_right _ hs5) hb
  generalize hq : a.eval so = q at hv
  generalize hqy : a.eval yo = qy at hyv
  cases hv with
  | slice _ _ ad l c sz1 bx ox fx hn hnc hsz1 ha hVx hcx htk =>
    cases hyv with
    | slice _ _ ay ly cy sz2 by2 oy fy hny hncy hsz2 hay hVy hcy htky =>
      have hrunof : ∀ v w', (Builtin.append_ #[t, t] ty #[.slice ad l c, .slice ay ly cy]).run P w = .ok v w' → (execOp a.eval ⟨d, .call ⟨.builtin .append, #[so, yo], #[t, t]⟩, ty, pos, aft, gd⟩).run P w = .ok (.value v) w' := by
        intro v w' hr
        refine wpo_builtin ?_
        simp only [builtin, List.map_toArray, List.map_cons, List.map_nil, hq, hqy, Sem.run_bind, hr]
        rfl
      by_cases hm : ys.length = 0
      · have hys0 : ys = [] := List.eq_nil_of_length_eq_zero hm
        subst hys0
        subst hny
        refine ⟨_, w, V, _, _, .inl (hrunof _ _ (run_append_zero hu hi ad l c hnc ay cy)), ?_, hrel, Ext.permL hpull.perm (.refl _ _ _), tk, hg, rfl, ?_⟩
        · simp only [List.append_nil]
          exact .slice xs tk ad l c sz1 bx ox fx hn hnc hsz1 ha hVx hcx htk
        · simp only [List.append_nil]; rw [hn0]
      · have hayb := hay (by omega)
        subst hayb
        have hnews : ∀ j u, ((List.range (ly * info.size)).map fy)[j]? = some u → w.cell? ((⟨by2, oy, none⟩ : Addr).add j) = some u := by
          intro j u hj
          have hjl : j < ly * info.size := by have := (List.getElem?_eq_some_iff.1 hj).1; simpa using this
          have : fy j = u := by simpa [hjl] using hj
          rw [Addr.add_eq, ← this]
          exact hs.rel.claims _ _ _ (hVy j (by rw [hfy, ← hny, ← hs1]; exact hjl))
        have hnl : ((List.range (ly * info.size)).map fy).length = ly * info.size := by simp
        have hnewsrep : ∀ V', VLe V V' → ∀ (j : Nat) (x : AV), (flat ys)[j]? = some x → ∃ u, ((List.range (ly * info.size)).map fy)[j]? = some u ∧ VR V' x u := fun V' hle j x hx => by
          have hj : j < ly * info.size := by rw [hny, hs1, ← hfy]; exact (List.getElem?_eq_some_iff.1 hx).1
          exact ⟨fy j, by rw [List.getElem?_map, List.getElem?_range hj]; rfl, (hcy j x hx).mono hle⟩
        -- in new memory
        have grow : ∀ (olds : List Value), olds.length = l * info.size → (∀ V', VLe V V' → ∀ (j : Nat) (x : AV), (flat xs)[j]? = some x → ∃ u, olds[j]? = some u ∧ VR V' x u) → ∀ old, old < l + ly →
            ((Builtin.append_ #[t, t] ty #[.slice ad l c, .slice (some ⟨by2, oy, none⟩) ly cy]).run P w =
              .ok (.slice (some ⟨w.heap.size, 0, none⟩) (l + ly) (grownCap w (l + ly) old e)) (w.drew.alloc (.cells (olds.toArray ++ ((List.range (ly * info.size)).map fy).toArray ++ Builtin.zeroCells z.cells (grownCap w (l + ly) old e - (l + ly))) e))) →
            ∃ v w' V' x H', ((execOp a.eval ⟨d, .call ⟨.builtin .append, #[so, yo], #[t, t]⟩, ty, pos, aft, gd⟩).run P w = .ok (.value v) w' ∨ (execOp a.eval ⟨d, .call ⟨.builtin .append, #[so, yo], #[t, t]⟩, ty, pos, aft, gd⟩).run P w = .ok .skip w' ∧ v = Go.undef) ∧
              VR V' x v ∧ Rel GV w' V' H' ∧ Ext w V H w' V' H' ∧ ∃ tk', tk'.grows = true ∧ x = .slice (xs ++ ys) tk' ∧ H' = G tk' (xs ++ ys).length sz e ++ H0 := by
          intro olds hol holds old hold hrun
          have hcapge := grownCap_ge w (l + ly) old e
          have hrel0 : Rel GV w V H0 := hrel.sub (fun p hp => List.mem_append_right _ hp) (by have := hrel.nodup; simp only [keys, List.map_append, List.nodup_append] at this; exact this.2.1)
          have hkk : ∀ b, b ∈ keys H0 → b ∈ keys (G tk n0 sz e ++ H0) := fun b hm => by simp only [keys, List.map_append, List.mem_append]; exact .inr hm
          have hext0 : ∀ {w' V' H'}, Ext w V H0 w' V' H' → Ext w V H w' V' H' := fun hE => Ext.permL hpull.perm ⟨hE.os, hE.tape, hE.output, hE.size, hE.le,
            fun b hb hn => hE.heap b hb (fun hm => hn (hkk b hm)), fun b hb hn => hE.view b hb (fun hm => hn (hkk b hm)), fun b hb => (hE.keyed b hb).imp (hkk b) id⟩
          obtain ⟨hA, hB, hC⟩ := hrel0.alloc_tail (olds.toArray ++ ((List.range (ly * info.size)).map fy).toArray ++ Builtin.zeroCells z.cells (grownCap w (l + ly) old e - (l + ly))) e (l + ly) (grownCap w (l + ly) old e) sz
            (by simp only [Array.size_append, List.size_toArray, hol, hnl, size_zeroCells, hs3]; rw [hs1, ← Nat.add_mul, ← Nat.add_mul]; congr 1; omega) hcapge
          have hget : ∀ (j : Nat) (x : AV), (flat (xs ++ ys))[j]? = some x → ∃ u, (olds.toArray ++ ((List.range (ly * info.size)).map fy).toArray ++ Builtin.zeroCells z.cells (grownCap w (l + ly) old e - (l + ly)))[j]? = some u ∧
              VR (V.claim w.heap.size (fun i => if i < (l + ly) * sz then (olds.toArray ++ ((List.range (ly * info.size)).map fy).toArray ++ Builtin.zeroCells z.cells (grownCap w (l + ly) old e - (l + ly)))[i]? else none)) x u := by
            intro j x hx
            rw [hflat] at hx
            have hol' : olds.length = (flat xs).length := by rw [hol, hfx, hn, hs1]
            by_cases hj : j < (flat xs).length
            · rw [List.getElem?_append_left hj] at hx
              obtain ⟨u, hu1, hu2⟩ := holds _ hB.le j x hx
              refine ⟨u, ?_, hu2⟩
              rw [Array.append_assoc, Array.getElem?_append_left (by simp; omega)]
              simpa using hu1
            · rw [List.getElem?_append_right (by omega)] at hx
              obtain ⟨u, hu1, hu2⟩ := hnewsrep _ hB.le _ x hx
              refine ⟨u, ?_, hu2⟩
              have hjl := (List.getElem?_eq_some_iff.1 hx).1
              have hll : ly * info.size = (flat ys).length := by rw [hfy, hny, hs1]
              rw [Array.append_assoc, Array.getElem?_append_right (by simp; omega), Array.getElem?_append_left (by simp; omega)]
              simp only [List.size_toArray, List.getElem?_toArray, hol']
              exact hu1
          refine ⟨_, _, _, _, _, .inl (hrunof _ _ hrun), ?_, hA, hext0 hB, .own w.heap.size (grownCap w (l + ly) old e), rfl, rfl, ?_⟩
          · refine .slice (xs ++ ys) _ _ _ _ sz w.heap.size 0 (fun j => (olds.toArray ++ ((List.range (ly * info.size)).map fy).toArray ++ Builtin.zeroCells z.cells (grownCap w (l + ly) old e - (l + ly))).getD j Go.undef) (by simp [hn, hny]) hcapge hszall (fun _ => rfl)
              (fun j hj => ?_) (fun j x hx => ?_) ⟨rfl, rfl⟩
            · obtain ⟨u, hu1, hu2⟩ := hget j _ (List.getElem?_eq_getElem hj)
              rw [Nat.zero_add, hC, if_pos (by rw [hn, hny, ← hfxy]; exact hj)]
              rw [Array.getD_eq_getD_getElem?, hu1]; rfl
            · obtain ⟨u, hu1, hu2⟩ := hget j x hx
              rw [Array.getD_eq_getD_getElem?, hu1]; exact hu2
          · simp [G, hn, hny]
        have oldsrep : ∀ V', VLe V V' → ∀ (j : Nat) (x : AV), (flat xs)[j]? = some x → ∃ u, ((List.range (l * info.size)).map fx)[j]? = some u ∧ VR V' x u := fun V' hle j x hx => by
          have hj : j < l * info.size := by rw [hn, hs1, ← hfx]; exact (List.getElem?_eq_some_iff.1 hx).1
          exact ⟨fx j, by rw [List.getElem?_map, List.getElem?_range hj]; rfl, (hcx j x hx).mono hle⟩
        have hgrowrun : ∀ (adr : Addr), ad = some adr → (0 < l → adr = ⟨bx, ox, none⟩) → c < l + ly → _ := fun adr hadr hadr2 hc => by
          subst hadr
          exact grow ((List.range (l * info.size)).map fx) (by simp) oldsrep c hc
            (run_append_grow (P := P) w t ty e info z hu hi hz adr l c _ (by simp) (fun j u hj => by
              have hjl : j < l * info.size := by have := (List.getElem?_eq_some_iff.1 hj).1; simpa using this
              have hl0 : 0 < l := Nat.pos_of_ne_zero (fun e => by subst e; omega)
              have : fx j = u := by simpa [hjl] using hj
              rw [hadr2 hl0, Addr.add_eq, ← this]
              exact hs.rel.claims _ _ _ (hVx j (by rw [hfx, ← hn, ← hs1]; exact hjl)))
              ⟨by2, oy, none⟩ ly cy _ hnl hnews hc (by omega) (growslice_fits hc (by rw [hn, hny, hs2]; exact hb)))
        cases tk with
        | any => cases hg
        | full =>
          have hlc : l = c := htk
          subst hlc
          cases ad with
          | none =>
            have hl0 : l = 0 := by
              rcases Nat.eq_zero_or_pos l with h | h
              · exact h
              · have := ha h; cases this
            subst hl0
            have hr := run_append_nil (P := P) w t ty e info z hu hi hz ⟨by2, oy, none⟩ ly cy _ hnl hnews (by omega) (by omega) (by have h := hb; rw [← hn, ← hny, Nat.zero_add] at h; rw [hs2]; omega)
            refine grow [] (by simp) (fun V' _ j x hx => ?_) 0 (by omega) ?_
            · have : xs = [] := List.eq_nil_of_length_eq_zero hn.symm
              subst this; simp [flat] at hx
            · simpa using hr
          | some adr => exact hgrowrun adr rfl (fun h => by have := ha h; cases this; rfl) (by omega)
        | own b cap =>
          obtain ⟨hab, hcc⟩ := htk
          subst hab hcc
          by_cases hroom : l + ly ≤ c
          · simp only [G, List.singleton_append] at hrel
            obtain ⟨cur, hcb, hcs, _, hcl⟩ := hrel.objs b _ List.mem_cons_self
            subst hn0
            have hl' : ((List.range (ly * info.size)).map fy).length = ys.length * sz := by rw [hnl, hny, hs1]
            have hone : ∀ u ∈ (List.range (ly * info.size)).map fy, u.oneCell' = true := by
              intro u hu
              obtain ⟨j, hj⟩ := List.getElem?_of_mem hu
              have hjl : j < (flat ys).length := by rw [hfy, ← hny, ← hs1]; have := (List.getElem?_eq_some_iff.1 hj).1; simpa using this
              have hx := List.getElem?_eq_getElem hjl
              obtain ⟨u', h1', h2'⟩ := hnewsrep V (.refl V) j _ hx
              rw [hj] at h1'; cases h1'
              exact h2'.oneCell (h1 _ (List.getElem_mem hjl))
            have hr := run_append_room (P := P) w t ty e info hu hi b l c cur hcb ⟨by2, oy, none⟩ ly cy _ hnl hnews hone hroom (by rw [hnl, hcs, ← hs1, ← Nat.add_mul]; exact Nat.mul_le_mul_right _ hroom)
            obtain ⟨hA, hB, hC, _⟩ := hrel.take_tail hcb _ hl' (by rw [← hn, ← hny]; exact hroom)
            have hbx : 0 < l → bx = b ∧ ox = 0 := fun h => by have := ha h; simp only [Option.some.injEq, Addr.mk.injEq] at this; exact ⟨this.1.symm, this.2.1.symm⟩
            have e1 : l * info.size = xs.length * sz := by rw [hn, hs1]
            rw [e1] at hr
            refine ⟨.slice (some ⟨b, 0, none⟩) (l + ly) c, _, _, _, _, .inl (hrunof _ _ hr), ?_, hA, Ext.permL hpull.perm hB, .own b c, rfl, rfl, ?_⟩
            · refine .slice (xs ++ ys) _ _ _ _ sz b 0 (fun j => if j < (flat xs).length then fx j else fy (j - (flat xs).length)) (by simp [hn, hny]) (by omega) hszall (fun _ => rfl) (fun j hj => ?_) (fun j x hx => ?_) ⟨rfl, rfl⟩
              · rw [Nat.zero_add]
                by_cases hjx : j < (flat xs).length
                · rw [if_pos hjx]
                  have hl0 : 0 < l := by
                    rcases Nat.eq_zero_or_pos l with h | h
                    · rw [hfx, ← hn, h] at hjx; omega
                    · exact h
                  obtain ⟨e1, e2⟩ := hbx hl0
                  subst e1 e2
                  have := hVx j hjx
                  rw [Nat.zero_add] at this
                  exact hB.le _ _ _ this
                · rw [if_neg hjx]
                  have hjt : j < (xs.length + ys.length) * sz := by rw [← hfxy]; exact hj
                  rw [hC j (by rw [← hfx]; omega) hjt]
                  have hfyj : j - (flat xs).length < ly * info.size := by rw [hny, hs1, ← hfy]; rw [hflat, List.length_append] at hj; omega
                  simp only [List.getElem?_toArray]
                  have htl : (cur.toList.take (xs.length * sz)).length = xs.length * sz := by
                    rw [List.length_take, show cur.toList.length = c * sz by rw [← hcs]; simp]
                    exact Nat.min_eq_left (Nat.mul_le_mul_right _ (by omega))
                  rw [List.append_assoc, List.getElem?_append_right (by rw [htl, ← hfx]; omega), htl, ← hfx, List.getElem?_append_left (by rw [hnl]; exact hfyj)]
                  simp [hfyj]
              · rw [hflat] at hx
                by_cases hjx : j < (flat xs).length
                · rw [if_pos hjx]
                  rw [List.getElem?_append_left hjx] at hx
                  exact (hcx j x hx).mono hB.le
                · rw [if_neg hjx]
                  rw [List.getElem?_append_right (by omega)] at hx
                  exact (hcy _ x hx).mono hB.le
            · simp [G]
          · exact hgrowrun ⟨b, 0, none⟩ rfl (fun h => by have := ha h; cases this; rfl) (by omega)
end rules
end Go.Proofs.Fw
/- Rules: slicing, make, copy, max, min. -/
namespace Go.Proofs.Fw
open Go Go.Shelf Go.RowKit
set_option linter.unusedVariables false
set_option linter.unusedSimpArgs false

theorem flat_append (xs ys : List AV) : flat (xs ++ ys) = flat xs ++ flat ys := by simp [flat]
theorem run_bound {P : Program} {w : World} (k : IntKind) (m y : Nat) (code : BoundsCode) (h : m ≤ y) : (Instr.sliceBound (.int k m) y code).run P w = .ok m w := by
  have := run_sliceBound (P := P) w k m y code (by omega) (by omega)
  simpa using this

section rules
variable {P : Program} {GV : AH} {f : FuncId} {n : Nat} {k : List Item} {env : Env} {H : AH} {R : AV → AH → Prop} {ops : Array Oper} {i : Nat} {rest : List Nat}
variable {d : Option Tmp} {ty : TypeId} {pos : String} {aft : Array Edge} {gd : Option (Nat × Bool)}

/-- A bound of a slice expression. -/
inductive Bnd (GV : AH) (env : Env) (dflt : Nat) : Option Operand → Nat → Prop where
  | no : Bnd GV env dflt none dflt
  | at_ {o : Operand} {kd : IntKind} {m : Int} {b : Nat} (h : env.ev GV o = some (.int kd m)) (hm : m = (b : Int)) : Bnd GV env dflt (some o) b

theorem Bnd.ev {dflt b : Nat} {o : Option Operand} (h : Bnd GV env dflt o b) {V : View} {a : Act} {w : World} (hs : Sim GV n V env H a w) :
    (o.map a.eval = none ∧ b = dflt) ∨ ∃ kd, o.map a.eval = some (.int kd b) := by
  cases h with
  | no => exact .inl ⟨rfl, rfl⟩
  | @at_ o kd m b h hm =>
    have hv := hs.ev h
    subst hm
    refine .inr ⟨kd, ?_⟩
    simp only [Option.map_some]
    generalize a.eval o = q at hv
    cases hv; rfl

theorem run_bounds {isS : Bool} {len cap l h : Nat} {lo hi : Option Value} {w : World} (hlo : (lo = none ∧ l = 0) ∨ ∃ kd, lo = some (.int kd l)) (hhi : (hi = none ∧ h = len) ∨ ∃ kd, hi = some (.int kd h)) (h1 : l ≤ h) (h2 : h ≤ cap) :
    (Instr.sliceBounds isS len cap lo hi none).run P w = .ok (l, h, cap) w := by
  rcases hlo with ⟨rfl, rfl⟩ | ⟨k1, rfl⟩ <;> rcases hhi with ⟨rfl, rfl⟩ | ⟨k2, rfl⟩
  · simp [Instr.sliceBounds]
  · simp [Instr.sliceBounds, run_bound k2 h cap _ h2]
  · simp [Instr.sliceBounds, run_bound k1 l h _ h1]
  · simp [Instr.sliceBounds, run_bound k1 l h _ h1, run_bound k2 h cap _ h2]

/-- s[l:h], s a string -/
theorem AS.strSlice {t : TypeId} {xo : Operand} {lo hi : Option Operand} {s : ByteArray} {l h : Nat} (ho : ops[i]? = some ⟨d, .slice t xo lo hi none, ty, pos, aft, gd⟩) (hw : wantedB ops env gd = true) (hd : fitsB n d = true)
    (hx : env.ev GV xo = some (.str s)) (ht : P.underlying t = some .string) (hl : Bnd GV env 0 lo l) (hh : Bnd GV env s.size hi h) (h1 : l ≤ h) (h2 : h ≤ s.size)
    (next : AS P GV f n (.inRegion ops rest :: k) (putEnv d (.str (s.extract l h)) env) H R) : AS P GV f n (.inRegion ops (i :: rest) :: k) env H R :=
  .opV _ ho hw hd (fun V a w hs => by
    have hv := hs.ev hx
    generalize hq : a.eval xo = q at hv
    cases hv
    refine ⟨_, ?_, .str _⟩
    simp only [execOp, Instr.sliceAt, hq, Option.map_none, Sem.run_bind, run_underlying ht, Result.andThen_ok, Instr.slice, Option.isSome_none, Bool.false_eq_true, if_false, Sem.run_pure, run_bounds (hl.ev hs) (hh.ev hs) h1 h2, Sem.run_ite]) next

/-- s[l:h], s a list -/
theorem AS.slice {t e : TypeId} {xo : Operand} {lo hi : Option Operand} {xs : List AV} {tk : Tok} {l h sz by_ : Nat} (ho : ops[i]? = some ⟨d, .slice t xo lo hi none, ty, pos, aft, gd⟩) (hw : wantedB ops env gd = true) (hd : fitsB n d = true)
    (hx : env.ev GV xo = some (.slice xs tk)) (ht : sliI P t = some (e, sz, by_)) (hl : Bnd GV env 0 lo l) (hh : Bnd GV env xs.length hi h) (h1 : l ≤ h) (h2 : h ≤ xs.length) (hsz : ∀ x ∈ xs, x.cells.length = sz)
    (next : AS P GV f n (.inRegion ops rest :: k) (putEnv d (.slice ((xs.take h).drop l) .any) env) H R) : AS P GV f n (.inRegion ops (i :: rest) :: k) env H R :=
  .opV _ ho hw hd (fun V a w hs => by
    obtain ⟨info, z, hu, hinfo, hz, e1, e2, e3, e4, e5⟩ := sliI_parts ht
    have hv := hs.ev hx
    generalize hq : a.eval xo = q at hv
    cases hv with
    | slice _ _ ad len c sz1 b o fv hn hnc hsz1 ha hV hc htk =>
      have hb := run_bounds (P := P) (isS := true) (len := len) (cap := c) (w := w) (hl.ev hs) (by rw [← hn] at hh; exact hh.ev hs) h1 (by omega)
      refine ⟨.slice (if c = l then ad else ad.map (·.add (l * info.size))) (h - l) (c - l), ?_, ?_⟩
      · simp only [execOp, Instr.sliceAt, hq, Option.map_none, Sem.run_bind, run_underlying hu, Result.andThen_ok, Instr.slice, hb, sizeOf_run hinfo, Sem.run_pure]
      · have hlen : ((xs.take h).drop l).length = h - l := by simp; omega
        have hfl : flat ((xs.take h).drop l) = ((flat xs).drop (l * sz)).take ((h - l) * sz) := by
          have e : xs = xs.take l ++ (xs.take h).drop l ++ xs.drop h := by
            have h3 : xs.take l = (xs.take h).take l := by rw [List.take_take, Nat.min_eq_left h1]
            rw [h3, List.take_append_drop, List.take_append_drop]
          have e1 : (flat (xs.take l)).length = l * sz := by rw [flat_length (fun x hx => hsz x (List.mem_of_mem_take hx)), List.length_take]; congr 1; omega
          have e2 : (flat ((xs.take h).drop l)).length = (h - l) * sz := by rw [flat_length (fun x hx => hsz x (List.mem_of_mem_take (List.mem_of_mem_drop hx))), hlen]
          have e3 : flat xs = flat (xs.take l) ++ flat ((xs.take h).drop l) ++ flat (xs.drop h) := by
            rw [← flat_append, ← flat_append, ← e]
          rw [e3, List.append_assoc, ← e1, List.drop_left, ← e2, List.take_left]
        have hget : ∀ j x, (flat ((xs.take h).drop l))[j]? = some x → (flat xs)[l * sz + j]? = some x := fun j x hx => by
          rw [hfl, List.getElem?_take] at hx
          split at hx
          · rw [List.getElem?_drop] at hx; exact hx
          · cases hx
        refine .slice _ .any _ _ _ sz b (o + l * sz) (fun j => fv (l * sz + j)) hlen.symm (by omega) (fun x hx => hsz x (List.mem_of_mem_take (List.mem_of_mem_drop hx))) (fun h0 => ?_) (fun j hj => ?_) (fun j x hx => ?_) trivial
        · rw [if_neg (by omega), ha (by omega)]
          simp [Addr.add_eq, e1]
        · have := hget j _ (List.getElem?_eq_getElem hj)
          rw [Nat.add_assoc]
          exact hV _ (List.getElem?_eq_some_iff.1 this).1
        · exact hc _ x (hget j x hx)) next

/-- s[l:h], s over a row -/
theorem AS.mslice {t e : TypeId} {xo : Operand} {lo hi : Option Operand} {b o len c l h sz by_ : Nat} (ho : ops[i]? = some ⟨d, .slice t xo lo hi none, ty, pos, aft, gd⟩) (hw : wantedB ops env gd = true) (hd : fitsB n d = true)
    (hx : env.ev GV xo = some (.mslice b o len c)) (ht : sliI P t = some (e, sz, by_)) (hl : Bnd GV env 0 lo l) (hh : Bnd GV env len hi h) (h1 : l ≤ h) (h2 : h ≤ c)
    (next : ∀ o', (o' = o + l * sz ∨ c = l ∧ o' = o) → AS P GV f n (.inRegion ops rest :: k) (putEnv d (.mslice b o' (h - l) (c - l)) env) H R) : AS P GV f n (.inRegion ops (i :: rest) :: k) env H R :=
  .opG (Φ := fun x H' => ∃ o', (o' = o + l * sz ∨ c = l ∧ o' = o) ∧ x = .mslice b o' (h - l) (c - l) ∧ H' = H) ho hw hd (fun V a w hs => by
    obtain ⟨info, z, hu, hinfo, hz, e1, e2, e3, e4, e5⟩ := sliI_parts ht
    have hv := hs.ev hx
    generalize hq : a.eval xo = q at hv
    cases hv
    have hb := run_bounds (P := P) (isS := true) (len := len) (cap := c) (w := w) (hl.ev hs) (hh.ev hs) h1 h2
    by_cases hcl : c = l
    · refine ⟨.slice (some ⟨b, o, none⟩) (h - l) (c - l), w, V, _, _, .inl ?_, .mslice _ _ _ _, hs.rel, .refl _ _ _, o, .inr ⟨hcl, rfl⟩, rfl, rfl⟩
      simp only [execOp, Instr.sliceAt, hq, Option.map_none, Sem.run_bind, run_underlying hu, Result.andThen_ok, Instr.slice, hb, sizeOf_run hinfo, Sem.run_pure]
      rw [if_pos hcl]
    · refine ⟨.slice (some ⟨b, o + l * sz, none⟩) (h - l) (c - l), w, V, _, _, .inl ?_, .mslice _ _ _ _, hs.rel, .refl _ _ _, _, .inl rfl, rfl, rfl⟩
      simp only [execOp, Instr.sliceAt, hq, Option.map_none, Sem.run_bind, run_underlying hu, Result.andThen_ok, Instr.slice, hb, sizeOf_run hinfo, Sem.run_pure, hcl, if_false, Option.map_some, Addr.add_eq, e1])
    (fun x H' ⟨o', h0, e1, e2⟩ => by subst e1 e2; exact next o' h0)

/-- s[l:h:h], s a list: no room behind it -/
theorem AS.sliceFull {t e : TypeId} {xo ho2 mo : Operand} {lo : Option Operand} {xs : List AV} {tk : Tok} {l h sz by_ : Nat} (ho : ops[i]? = some ⟨d, .slice t xo lo (some ho2) (some mo), ty, pos, aft, gd⟩) (hw : wantedB ops env gd = true) (hd : fitsB n d = true)
    (hx : env.ev GV xo = some (.slice xs tk)) (ht : sliI P t = some (e, sz, by_)) (hl : Bnd GV env 0 lo l) (hh : Bnd GV env xs.length (some ho2) h) (hm : Bnd GV env xs.length (some mo) h) (h1 : l ≤ h) (h2 : h ≤ xs.length) (hsz : ∀ x ∈ xs, x.cells.length = sz)
    (next : AS P GV f n (.inRegion ops rest :: k) (putEnv d (.slice ((xs.take h).drop l) .full) env) H R) : AS P GV f n (.inRegion ops (i :: rest) :: k) env H R :=
  .opV _ ho hw hd (fun V a w hs => by
    obtain ⟨info, z, hu, hinfo, hz, e1, e2, e3, e4, e5⟩ := sliI_parts ht
    have hv := hs.ev hx
    generalize hq : a.eval xo = q at hv
    cases hv with
    | slice _ _ ad len c sz1 b o fv hn hnc hsz1 ha hV hc htk =>
      have hb : (Instr.sliceBounds true len c (lo.map a.eval) ((some ho2).map a.eval) ((some mo).map a.eval)).run P w = .ok (l, h, h) w := by
        rcases hh.ev hs with ⟨hc1, _⟩ | ⟨k2, hk2⟩
        · cases hc1
        rcases hm.ev hs with ⟨hc1, _⟩ | ⟨k3, hk3⟩
        · cases hc1
        rw [hk2, hk3]
        rcases hl.ev hs with ⟨hl1, hl2⟩ | ⟨k1, hk1⟩
        · rw [hl1]; subst hl2
          simp [Instr.sliceBounds, run_bound k3 h c _ (by omega), run_bound k2 h h _ (Nat.le_refl _)]
        · rw [hk1]
          simp [Instr.sliceBounds, run_bound k3 h c _ (by omega), run_bound k2 h h _ (Nat.le_refl _), run_bound k1 l h _ h1]
      refine ⟨.slice (if h = l then ad else ad.map (·.add (l * info.size))) (h - l) (h - l), ?_, ?_⟩
      · simp only [execOp, Instr.sliceAt, hq, Sem.run_bind, run_underlying hu, Result.andThen_ok, Instr.slice, hb, sizeOf_run hinfo, Sem.run_pure]
      · have hlen : ((xs.take h).drop l).length = h - l := by simp; omega
        have hfl : flat ((xs.take h).drop l) = ((flat xs).drop (l * sz)).take ((h - l) * sz) := by
          have e : xs = xs.take l ++ (xs.take h).drop l ++ xs.drop h := by
            have h3 : xs.take l = (xs.take h).take l := by rw [List.take_take, Nat.min_eq_left h1]
            rw [h3, List.take_append_drop, List.take_append_drop]
          have e1 : (flat (xs.take l)).length = l * sz := by rw [flat_length (fun x hx => hsz x (List.mem_of_mem_take hx)), List.length_take]; congr 1; omega
          have e2 : (flat ((xs.take h).drop l)).length = (h - l) * sz := by rw [flat_length (fun x hx => hsz x (List.mem_of_mem_take (List.mem_of_mem_drop hx))), hlen]
          have e3 : flat xs = flat (xs.take l) ++ flat ((xs.take h).drop l) ++ flat (xs.drop h) := by
            rw [← flat_append, ← flat_append, ← e]
          rw [e3, List.append_assoc, ← e1, List.drop_left, ← e2, List.take_left]
        have hget : ∀ j x, (flat ((xs.take h).drop l))[j]? = some x → (flat xs)[l * sz + j]? = some x := fun j x hx => by
          rw [hfl, List.getElem?_take] at hx
          split at hx
          · rw [List.getElem?_drop] at hx; exact hx
          · cases hx
        refine .slice _ .full _ _ _ sz b (o + l * sz) (fun j => fv (l * sz + j)) hlen.symm (Nat.le_refl _) (fun x hx => hsz x (List.mem_of_mem_take (List.mem_of_mem_drop hx))) (fun h0 => ?_) (fun j hj => ?_) (fun j x hx => ?_) rfl
        · rw [if_neg (by omega), ha (by omega)]
          simp [Addr.add_eq, e1]
        · have := hget j _ (List.getElem?_eq_getElem hj)
          rw [Nat.add_assoc]
          exact hV _ (List.getElem?_eq_some_iff.1 this).1
        · exact hc _ x (hget j x hx)) next

/-! ### make -/
/-- So many zero elements. -/
def zrow (zs : List AV) (m : Nat) : List AV := (List.replicate m zs).flatten

theorem zrow_length (zs : List AV) (m : Nat) : (zrow zs m).length = m * zs.length := by simp [zrow]
theorem zrow_get {zs : List AV} : ∀ {m j : Nat} {x : AV}, (zrow zs m)[j]? = some x → zs[j % zs.length]? = some x
  | 0, j, x, h => by simp [zrow] at h
  | m + 1, j, x, h => by
    simp only [zrow, List.replicate_succ, List.flatten_cons] at h
    by_cases hj : j < zs.length
    · rw [List.getElem?_append_left hj] at h
      rw [Nat.mod_eq_of_lt hj]; exact h
    · rw [List.getElem?_append_right (by omega)] at h
      have := zrow_get (m := m) h
      rw [Nat.mod_eq_sub_mod (by omega)]
      exact this

theorem AS.makeSlice {t e : TypeId} {lo co : Operand} {k1 k2 : IntKind} {m : Nat} {sz by_ : Nat} {info : TypeInfo} {z : Value} {i1 i2 : Int} (ho : ops[i]? = some ⟨d, .makeSlice t lo co, ty, pos, aft, gd⟩) (hw : wantedB ops env gd = true) (hd : fitsB n d = true)
    (hl : env.ev GV lo = some (.int k1 i1)) (hc : env.ev GV co = some (.int k2 i2)) (h1 : i1 = (m : Int)) (h2 : i2 = (m : Int)) (ht : sliI P t = some (e, sz, by_)) (hi : P.info? e = some info) (hz : info.zero = some z) (hzp : (constAV z).plain = true)
    (hb : m * by_ ≤ 140737488355328)
    (next : ∀ b, AS P GV f n (.inRegion ops rest :: k) (putEnv d (.mslice b 0 m m) env) ((b, .row (zrow (constAV z).cells m) e) :: H) R) : AS P GV f n (.inRegion ops (i :: rest) :: k) env H R :=
  .opG (Φ := fun x H' => ∃ b, x = .mslice b 0 m m ∧ H' = (b, .row (zrow (constAV z).cells m) e) :: H) ho hw hd (fun V a w hs => by
    obtain ⟨info', z', hu, hinfo, hz', e1, e2, e3, e4, e5⟩ := sliI_parts ht
    rw [hi] at hinfo; cases hinfo
    rw [hz] at hz'; cases hz'
    have hlv := hs.ev hl
    have hcv := hs.ev hc
    generalize hq : a.eval lo = q at hlv
    generalize hq2 : a.eval co = q2 at hcv
    cases hlv; cases hcv
    subst h1 h2
    have hm : m ≤ 140737488355328 := Nat.le_trans (Nat.le_mul_of_pos_right _ e5) hb
    have hcz := (VR.constAV V z).cells hzp
    obtain ⟨arr, harr⟩ : ∃ arr, (Array.range (m * sz)).map (fun x => (if m * sz = 0 then #[] else z.cells)[x % (if m * sz = 0 then #[] else z.cells).size]!) = arr := ⟨_, rfl⟩
    have hcells : Cells V (zrow (constAV z).cells m) arr := by
      have hzl : (constAV z).cells.length = sz := by rw [← hcz.1, e3]
      refine ⟨by rw [← harr, zrow_length, hzl]; simp, fun j x v hx hv => ?_⟩
      have hj : j < m * sz := by have := (List.getElem?_eq_some_iff.1 hx).1; rw [zrow_length, hzl] at this; exact this
      have h0 : m * sz ≠ 0 := by omega
      have hzg := zrow_get hx
      rw [hzl] at hzg
      have hjs : j % sz < z.cells.size := by rw [e3]; exact Nat.mod_lt _ e4
      rw [← harr] at hv
      simp only [if_neg h0] at hv
      rw [Array.getElem?_map, Array.getElem?_range, if_pos hj, Option.map_some, e3, getElem!_pos z.cells (j % sz) hjs] at hv
      cases hv
      exact hcz.2 _ x _ hzg (Array.getElem?_eq_getElem hjs)
    have hr := hs.rel.alloc_row hcells e
    refine ⟨.slice (some ⟨w.heap.size, 0, none⟩) m m, w.alloc (.cells arr e), V, _, _, .inl ?_, .mslice _ _ _ _, hr.1, hr.2, _, rfl, rfl⟩
    have w1 : IntKind.i64.wrap (m : Int) = m := IntWalk.i64_in _ (by omega)
    have hbi : ¬ ((by_ : Int) * (m : Int) > 2 ^ 48) := by
      have : (by_ : Int) * (m : Int) = ((m * by_ : Nat) : Int) := by rw [Nat.mul_comm]; simp
      rw [this]; omega
    simp only [execOp, Instr.makeSlice, hq, hq2, Sem.run_bind, run_underlying hu, Result.andThen_ok, asInt, asIntOf, Sem.run_pure, rTI hi, w1, e2]
    have c1 : (decide ((m : Int) < 0) || decide ((by_ : Int) * (m : Int) > 2 ^ 48)) = false := by
      rw [Bool.or_eq_false_iff]; exact ⟨by simp, decide_eq_false hbi⟩
    have c2 : ¬ (((decide ((m : Int) < 0) || decide ((by_ : Int) * (m : Int) > 2 ^ 48)) = true ∨ (m : Int) < 0) ∨ (m : Int) > m) := by
      rw [c1]; rintro ((h | h) | h)
      · cases h
      · omega
      · omega
    simp only [Bool.or_eq_true, decide_eq_true_eq] at c2 ⊢
    rw [if_neg (by rintro ((h | h) | h) <;> first | omega | (rcases h with h | h <;> omega))]
    simp only [run_askRoom, Result.andThen_ok, sizeOf_run hi, e1, Int.toNat_natCast, Sem.run_bind]
    by_cases h0 : m * sz = 0
    · simp only [h0, if_true, Sem.run_bind, Sem.run_pure, Result.andThen_ok] at harr ⊢
      rw [harr]; simp [newRow]
    · simp only [h0, if_false, Sem.run_bind, zeroValue, rTI hi, hz, Sem.run_pure, Result.andThen_ok] at harr ⊢
      rw [harr]; simp [newRow])
    (fun x H' ⟨b, e1, e2⟩ => by subst e1 e2; exact next b)

/-! ### copy -/
theorem flat_take {sz : Nat} {xs : List AV} (h : ∀ x ∈ xs, x.cells.length = sz) (m : Nat) : flat (xs.take m) = (flat xs).take (m * sz) := by
  by_cases hm : m ≤ xs.length
  · have e1 : (flat (xs.take m)).length = m * sz := by rw [flat_length (fun x hx => h x (List.mem_of_mem_take hx)), List.length_take]; congr 1; omega
    have e3 : flat xs = flat (xs.take m) ++ flat (xs.drop m) := by
      rw [← flat_append, List.take_append_drop]
    rw [e3, ← e1, List.take_left]
  · rw [List.take_of_length_le (by omega), List.take_of_length_le (by rw [flat_length h]; exact Nat.mul_le_mul_right _ (by omega))]

/-- copy(dst, src): dst over a row, src a list -/
theorem AS.copy {t e : TypeId} {dO sO : Operand} {b o c : Nat} {l m sz by_ : Nat} {xs : List AV} {tk : Tok} {cs : List AV} {e' : TypeId} [hat : At H b (.row cs e')] {H' : AH} [hu : Upd H b (.row (putCells cs o (flat (xs.take l))) e') H']
    {t2 : TypeId} (ho : ops[i]? = some ⟨d, .call ⟨.builtin .copy, #[dO, sO], #[t, t2]⟩, ty, pos, aft, gd⟩) (hw : wantedB ops env gd = true) (hd : fitsB n d = true) (hdv : env.ev GV dO = some (.mslice b o l c)) (hsv : env.ev GV sO = some (.slice xs tk)) (ht : sliI P t = some (e, sz, by_))
    (hsz : ∀ x ∈ xs, x.cells.length = sz) (h1 : ∀ y ∈ flat xs, y.one = true) (hl : o + l * sz ≤ cs.length) (hm : m = Nat.min xs.length l)
    (next : AS P GV f n (.inRegion ops rest :: k) (putEnv d (.int .i64 m) env) H' R) : AS P GV f n (.inRegion ops (i :: rest) :: k) env H R := by
  refine AS.opG (Φ := fun x H2 => x = .int .i64 m ∧ H2 = H') ho hw hd (fun V a w hs => ?_) (fun x H2 ⟨e1, e2⟩ => by subst e1 e2; exact next)
  obtain ⟨info, z, hun, hinfo, hz, e1, e2, e3, e4, e5⟩ := sliI_parts ht
  have hdd := hs.ev hdv
  have hss := hs.ev hsv
  generalize hq : a.eval dO = q at hdd
  generalize hq2 : a.eval sO = q2 at hss
  cases hdd
  cases hss with
  | slice _ _ ad len cc sz1 bx ox fx hn hnc hsz1 ha hVx hcx htk =>
    obtain ⟨arr, hb, hcs, hcl⟩ := hs.rel.objs _ _ hat.mem
    have hft := flat_take hsz
    have hfl := flat_length hsz
    obtain ⟨news, hnews⟩ : ∃ news, news = (List.range (m * sz)).map fx := ⟨_, rfl⟩
    have hml : m ≤ len := by rw [hm, hn]; exact Nat.min_le_left _ _
    have hmlt : m ≤ l := by rw [hm]; exact Nat.min_le_right _ _
    have hload : (Builtin.firstCells info.size m (.slice ad len cc)).run P w = .ok news.toArray w := by
      rcases Nat.eq_zero_or_pos m with h0 | h0
      · subst h0
        have : news = [] := by rw [hnews]; simp
        subst this
        cases ad <;> simp [Builtin.firstCells, loadCells, loadCellsFrom]
      · have hab := ha (by omega)
        subst hab
        simp only [Builtin.firstCells]
        rw [run_loadCells (P := P) w ⟨bx, ox, none⟩ (m * info.size) fx (fun j hj => by
          rw [Addr.add_eq]
          exact hs.rel.claims _ _ _ (hVx j (by rw [hfl, ← hn]; rw [e1] at hj; exact Nat.lt_of_lt_of_le hj (Nat.mul_le_mul_right _ hml)))), hnews, e1]
    have htl : xs.take l = xs.take m := by
      rw [hm]
      by_cases h : xs.length ≤ l
      · rw [show Nat.min xs.length l = xs.length from Nat.min_eq_left h, List.take_of_length_le h, List.take_of_length_le (Nat.le_refl _)]
      · rw [show Nat.min xs.length l = l from Nat.min_eq_right (by omega)]
    have hrep : news.length = (flat (xs.take l)).length ∧ ∀ (j : Nat) x v, (flat (xs.take l))[j]? = some x → news[j]? = some v → VR V x v := by
      rw [htl, hft m]
      refine ⟨by rw [hnews, List.length_take, hfl]; simp only [List.length_map, List.length_range]; have : m * sz ≤ xs.length * sz := Nat.mul_le_mul_right _ (by omega); omega, fun j x v hx hv => ?_⟩
      rw [List.getElem?_take] at hx
      split at hx
      · rename_i hj
        have : fx j = v := by rw [hnews, List.getElem?_map, List.getElem?_range hj] at hv; simpa using hv
        rw [← this]; exact hcx j x hx
      · cases hx
    have hone : ∀ u ∈ news, u.oneCell' = true := by
      intro u hu
      obtain ⟨j, hj⟩ := List.getElem?_of_mem hu
      have hjl : j < (flat (xs.take l)).length := by rw [← hrep.1]; exact (List.getElem?_eq_some_iff.1 hj).1
      have hx := List.getElem?_eq_getElem hjl
      refine (hrep.2 j _ u hx hj).oneCell (h1 _ ?_)
      have hmem := List.getElem_mem hjl
      generalize (flat (xs.take l))[j] = y at hmem
      rw [hft] at hmem
      exact List.mem_of_mem_take hmem
    have hnl : news.length = m * sz := by rw [hnews]; simp
    obtain ⟨w', hr, h2, h3, h4, h5, h6, h7⟩ := run_storeCells (P := P) news (off := o) (i := 0) hb (by rw [hcs.1, hnl]; have : m * sz ≤ l * sz := Nat.mul_le_mul_right _ hmlt; omega) hone
    have hcput : Cells V (putCells cs o (flat (xs.take l))) (putVals arr (o + 0) news) := hcs.put hrep.1 hrep.2
    have hrel := hs.rel.update (w' := w') (b := b) (o' := .row (putCells cs o (flat (xs.take l))) e') (H' := H') h5 h6 h7 h4 h3 (fun i v hv => by rw [hcl i] at hv; cases hv) ⟨_, h2, hcput, hcl⟩
    refine ⟨.int .i64 m, w', V, _, _, .inl (wpo_builtin ?_), .int _ _, hrel.1, hrel.2, rfl, rfl⟩
    have hmm : Nat.min len l = m := by rw [hm, hn]
    have hr' : (storeCells ⟨b, o, none⟩ news).run P w = .ok () w' := hr
    have hcp : (Builtin.copy_ #[t, t2] ty #[Value.slice (some ⟨b, o, none⟩) l c, Value.slice ad len cc]).run P w = .ok (.int .i64 m) w' := by
      simp [Builtin.copy_, run_underlying hun, Builtin.lenOf, sizeOf_run hinfo, hmm, hload, hr', goInt]
    simp only [builtin, List.map_toArray, List.map_cons, List.map_nil, hq, hq2, Sem.run_bind, hcp]
    rfl

/-! ### max of whole numbers -/
theorem AS.max2 {x y : Operand} {kd : IntKind} {a1 b1 c : Int} {ts : Array TypeId} (ho : ops[i]? = some ⟨d, .call ⟨.builtin .max, #[x, y], ts⟩, ty, pos, aft, gd⟩) (hw : wantedB ops env gd = true) (hd : fitsB n d = true) (hx : env.ev GV x = some (.int kd a1)) (hy : env.ev GV y = some (.int kd b1))
    (hc : (if b1 > a1 then b1 else a1) = c) (next : AS P GV f n (.inRegion ops rest :: k) (putEnv d (.int kd c) env) H R) : AS P GV f n (.inRegion ops (i :: rest) :: k) env H R :=
  .opV _ ho hw hd (fun V a w hs => by
    have hv := hs.ev hx
    have hv2 := hs.ev hy
    generalize hq : a.eval x = q at hv
    generalize hq2 : a.eval y = q2 at hv2
    cases hv; cases hv2; subst hc
    exact ⟨.int kd (if b1 > a1 then b1 else a1), wpo_builtin (by simp [builtin, hq, hq2, Builtin.max_, Builtin.max2]), .int _ _⟩) next
theorem AS.max3 {x y z : Operand} {kd : IntKind} {a1 b1 c1 c : Int} {ts : Array TypeId} (ho : ops[i]? = some ⟨d, .call ⟨.builtin .max, #[x, y, z], ts⟩, ty, pos, aft, gd⟩) (hw : wantedB ops env gd = true) (hd : fitsB n d = true) (hx : env.ev GV x = some (.int kd a1)) (hy : env.ev GV y = some (.int kd b1))
    (hz : env.ev GV z = some (.int kd c1)) (hc : (let m := if b1 > a1 then b1 else a1; if c1 > m then c1 else m) = c) (next : AS P GV f n (.inRegion ops rest :: k) (putEnv d (.int kd c) env) H R) : AS P GV f n (.inRegion ops (i :: rest) :: k) env H R :=
  .opV _ ho hw hd (fun V a w hs => by
    have hv := hs.ev hx
    have hv2 := hs.ev hy
    have hv3 := hs.ev hz
    generalize hq : a.eval x = q at hv
    generalize hq2 : a.eval y = q2 at hv2
    generalize hq3 : a.eval z = q3 at hv3
    cases hv; cases hv2; cases hv3; subst hc
    exact ⟨.int kd (let m := if b1 > a1 then b1 else a1; if c1 > m then c1 else m), wpo_builtin (by simp [builtin, hq, hq2, hq3, Builtin.max_, Builtin.max2]), .int _ _⟩) next
end rules
end Go.Proofs.Fw
/- Rules: maps. -/
namespace Go.Proofs.Fw
open Go Go.Shelf Go.RowKit
set_option linter.unusedVariables false
set_option linter.unusedSimpArgs false

/-- Keys that are told apart by what they stand for. -/
structure KeyR (P : Program) (kt : TypeId) {κ : Type} [DecidableEq κ] (enc : κ → AV) : Prop where
  check : ∀ V w v x e, VR V (enc x) v → (Instr.checkKey e 10000 kt v).run P w = .ok () w
  eq : ∀ V w v u x y, VR V (enc x) v → VR V (enc y) u → (Op.equal kt v u).run P w = .ok (decide (x = y)) w
  now : ∃ d, P.underlying kt = some d ∧ ((∀ V v u x y, VR V (enc x) v → VR V (enc y) u → Instr.sameNow d v u = some (decide (x = y))) ∨ (∀ V v u x y, VR V (enc x) v → VR V (enc y) u → Instr.sameNow d v u = none))
  same : ∀ V v u x, VR V (enc x) v → VR V (enc x) u → Instr.sameBits 10000 v u = true

section plain
variable {κ α : Type} [DecidableEq κ]
def mapAV (encK : κ → AV) (encV : α → AV) (m : List (κ × α)) : List (AV × AV) := m.map fun p => (encK p.1, encV p.2)
def midx (m : List (κ × α)) (x : κ) : Option Nat := m.findIdx? fun p => decide (x = p.1)
def mget (m : List (κ × α)) (x : κ) : Option α := (m.find? fun p => decide (x = p.1)).map (·.2)
def mset (m : List (κ × α)) (x : κ) (y : α) : List (κ × α) := match midx m x with
  | some i => m.set i (x, y)
  | none => m ++ [(x, y)]
def mdel (m : List (κ × α)) (x : κ) : List (κ × α) := m.eraseP fun p => decide (x = p.1)

theorem mget_idx (m : List (κ × α)) (x : κ) : mget m x = (midx m x).bind fun i => (m[i]?).map (·.2) := by
  induction m with
  | nil => rfl
  | cons p m ih =>
    simp only [mget, midx, List.find?_cons, List.findIdx?_cons] at ih ⊢
    by_cases h : x = p.1
    · simp [h]
    · simp only [h, decide_false]
      rw [ih]
      cases hm : m.findIdx? (fun p => decide (x = p.1)) <;> simp
theorem mdel_idx (m : List (κ × α)) (x : κ) : mdel m x = match midx m x with | some i => m.eraseIdx i | none => m := by
  induction m with
  | nil => rfl
  | cons p m ih =>
    simp only [mdel, midx, List.findIdx?_cons] at ih ⊢
    by_cases h : x = p.1
    · rw [List.eraseP_cons_of_pos (by simp [h])]; simp [h]
    · rw [List.eraseP_cons_of_neg (by simp [h]), ih]
      simp only [h, decide_false]
      cases hm : m.findIdx? (fun p => decide (x = p.1)) <;> simp
theorem midx_lt {m : List (κ × α)} {x : κ} {i : Nat} (h : midx m x = some i) : i < m.length := by
  have := List.findIdx?_eq_some_iff_getElem.1 h
  exact this.1
end plain

section run
variable {P : Program} {κ α : Type} [DecidableEq κ] {encK : κ → AV} {encV : α → AV} {kt : TypeId}

theorem findNow_some {V : View} {d : TypeDesc} {v : Value} {x : κ} (hv : VR V (encK x) v) (hn : ∀ V v u x y, VR V (encK x) v → VR V (encK y) u → Instr.sameNow d v u = some (decide (x = y))) :
    ∀ (m : List (κ × α)) (ents : List MapEntry) (j : Nat), ents.length = m.length → (∀ (i : Nat) (p : κ × α) (e : MapEntry), m[i]? = some p → ents[i]? = some e → VR V (encK p.1) e.key) →
      Instr.findNow d v ents j = some ((midx m x).bind fun i => (ents[i]?).map fun e => (j + i, e.val))
  | [], [], j, _, _ => rfl
  | p :: m, e :: ents, j, hl, hk => by
    have h0 := hn V v e.key x p.1 hv (hk 0 p e rfl rfl)
    have ih := findNow_some hv hn m ents (j + 1) (by simpa using hl) (fun i p e hp he => hk (i + 1) p e (by simpa using hp) (by simpa using he))
    simp only [Instr.findNow, h0, midx, List.findIdx?_cons]
    by_cases h : x = p.1
    · simp [h]
    · simp only [h, decide_false, ih, midx]
      cases hm : m.findIdx? (fun p => decide (x = p.1)) <;> simp [Nat.add_assoc, Nat.add_comm 1]

theorem findAsking_of {V : View} {w : World} {v : Value} {x : κ} (hk : KeyR P kt encK) (hv : VR V (encK x) v) :
    ∀ (m : List (κ × α)) (ents : List MapEntry) (j : Nat), ents.length = m.length → (∀ (i : Nat) (p : κ × α) (e : MapEntry), m[i]? = some p → ents[i]? = some e → VR V (encK p.1) e.key) →
      (Instr.findAsking kt v ents j).run P w = .ok ((midx m x).bind fun i => (ents[i]?).map fun e => (j + i, e.val)) w
  | [], [], j, _, _ => rfl
  | p :: m, e :: ents, j, hl, hkk => by
    have h0 := hk.eq V w v e.key x p.1 hv (hkk 0 p e rfl rfl)
    have ih := findAsking_of hk hv m ents (j + 1) (w := w) (by simpa using hl) (fun i p e hp he => hkk (i + 1) p e (by simpa using hp) (by simpa using he))
    simp only [Instr.findAsking, Sem.run_bind, h0, Result.andThen_ok, midx, List.findIdx?_cons]
    by_cases h : x = p.1
    · simp [h]
    · simp only [h, decide_false, Bool.false_eq_true, if_false, ih, midx]
      cases hm : m.findIdx? (fun p => decide (x = p.1)) <;> simp [Nat.add_assoc, Nat.add_comm 1]

theorem findKey_of {V : View} {w : World} {v : Value} {x : κ} (hk : KeyR P kt encK) (hv : VR V (encK x) v) (m : List (κ × α)) (ents : List MapEntry) (hl : ents.length = m.length)
    (hkk : ∀ (i : Nat) (p : κ × α) (e : MapEntry), m[i]? = some p → ents[i]? = some e → VR V (encK p.1) e.key) :
    (Instr.findKey kt v ents).run P w = .ok ((midx m x).bind fun i => (ents[i]?).map fun e => (i, e.val)) w := by
  obtain ⟨d, hd, hn | hn⟩ := hk.now
  · simp only [Instr.findKey, Sem.run_bind, run_underlying hd, Result.andThen_ok, findNow_some hv hn m ents 0 hl hkk]
    simp
  · simp only [Instr.findKey, Sem.run_bind, run_underlying hd, Result.andThen_ok]
    cases hents : ents with
    | nil =>
      rw [hents] at hl
      have : m = [] := List.eq_nil_of_length_eq_zero (by simpa using hl.symm)
      subst this
      simp [Instr.findNow, midx]
    | cons e es =>
      have hm0 : 0 < m.length := by rw [← hl, hents]; simp
      have h0 := hn V v e.key x _ hv (hkk 0 m[0] e (List.getElem?_eq_getElem hm0) (by rw [hents]; rfl))
      simp only [Instr.findNow, h0]
      have := findAsking_of (w := w) hk hv m ents 0 hl hkk
      rw [hents] at this
      simpa using this
end run

def mapI (P : Program) (t : TypeId) : Option (TypeId × TypeId) := match P.underlying t with
  | some (.map kt et) => some (kt, et)
  | _ => none
theorem mapI_und {P : Program} {t kt et : TypeId} (h : mapI P t = some (kt, et)) : P.underlying t = some (.map kt et) := by
  unfold mapI at h
  split at h
  · rename_i a b hu; cases h; exact hu
  · cases h

section rules
variable {P : Program} {GV : AH} {f : FuncId} {n : Nat} {k : List Item} {env : Env} {H : AH} {R : AV → AH → Prop} {ops : Array Oper} {i : Nat} {rest : List Nat}
variable {d : Option Tmp} {ty : TypeId} {pos : String} {aft : Array Edge} {gd : Option (Nat × Bool)}
variable {κ α : Type} {encK : κ → AV} {encV : α → AV}

theorem Entries.keys {V : View} {m : List (κ × α)} {ents : Array MapEntry} {c : Nat} (h : Entries V (mapAV encK encV m) ents c) :
    ents.toList.length = m.length ∧ ∀ (i : Nat) (p : κ × α) (e : MapEntry), m[i]? = some p → ents.toList[i]? = some e → VR V (encK p.1) e.key ∧ VR V (encV p.2) e.val ∧ e.born < c := by
  refine ⟨by have := h.1; simpa [mapAV] using this, fun i p e hp he => ?_⟩
  exact h.2.1 i (encK p.1, encV p.2) e (by simp [mapAV, hp]) (by simpa using he)

section
variable [DecidableEq κ]
/-- m[k], and whether it is there. -/
theorem AS.lookup {t kt et : TypeId} {mo ko : Operand} {b : Nat} {m : List (κ × α)} {x : κ} {ok : Bool} {info : TypeInfo} {zv : Value} [hat : At H b (.map (mapAV encK encV m))] (ho : ops[i]? = some ⟨d, .lookup t mo ko ok, ty, pos, aft, gd⟩)
    (hw : wantedB ops env gd = true) (hd : fitsB n d = true) (hm : env.ev GV mo = some (.map b)) (hx : env.ev GV ko = some (encK x)) (ht : mapI P t = some (kt, et)) (hk : KeyR P kt encK) (hi : P.info? et = some info) (hz : info.zero = some zv)
    {r : Option α} (hr : mget m x = r) {y : AV} (hy : (match ok, r with | true, some v => AV.tup [encV v, .bool true] | true, none => .tup [constAV zv, .bool false] | false, some v => encV v | false, none => constAV zv) = y)
    (next : AS P GV f n (.inRegion ops rest :: k) (putEnv d y env) H R) : AS P GV f n (.inRegion ops (i :: rest) :: k) env H R :=
  .opV y ho hw hd (fun V a w hs => by
    have hu := mapI_und ht
    have hmv := hs.ev hm
    have hxv := hs.ev hx
    obtain ⟨ents, c, hb, hent⟩ := hs.rel.objs _ _ hat.mem
    obtain ⟨hl, hkk⟩ := hent.keys
    generalize hq : a.eval mo = q at hmv
    cases hmv
    have hf := findKey_of (w := w) hk hxv m ents.toList hl (fun i p e hp he => (hkk i p e hp he).1)
    have hc := hk.check V w _ x ents.isEmpty hxv
    have two : ∀ (p q : AV) (v u : Value), VR V p v → VR V q u → VR V (.tup [p, q]) (.tuple #[v, u]) := fun p q v u h1 h2 => .tup _ _ rfl fun i x z hx hz => by
      match i with
      | 0 => simp at hx hz; subst hx hz; exact h1
      | 1 => simp at hx hz; subst hx hz; exact h2
      | i + 2 => simp at hx
    have hgo : (Sem.getObj b Sem.pure : Sem Obj).run P w = .ok (.map ents c) w := by simp [Sem.run, hb]
    have hgo' : (getObj b).run P w = .ok (.map ents c) w := hgo
    rw [mget_idx] at hr
    cases hmi : midx m x with
    | none =>
      rw [hmi] at hf hr
      simp only [Option.bind_none] at hf hr
      subst hr
      cases ok with
      | true =>
        refine ⟨.tuple #[zv, .bool false], ?_, by rw [← hy]; exact two _ _ _ _ (VR.constAV V zv) (.bool _)⟩
        simp [execOp, Instr.lookup, hq, run_underlying hu, hgo', hc, hf, zeroValue, rTI hi, hz]
      | false =>
        refine ⟨zv, ?_, by rw [← hy]; exact VR.constAV V zv⟩
        simp [execOp, Instr.lookup, hq, run_underlying hu, hgo', hc, hf, zeroValue, rTI hi, hz]
    | some j =>
      have hj := midx_lt hmi
      have hej : ents.toList[j]? = some (ents.toList[j]'(by omega)) := List.getElem?_eq_getElem (by omega)
      have hmj : m[j]? = some m[j] := List.getElem?_eq_getElem hj
      rw [hmi] at hf hr
      simp only [Option.bind_some, hej, hmj, Option.map_some] at hf hr
      have hv := (hkk j _ _ hmj hej).2.1
      generalize (ents.toList[j]'(by omega)).val = u at hf hv
      generalize m[j].2 = g at hr hv
      subst hr
      cases ok with
      | true =>
        refine ⟨.tuple #[u, .bool true], ?_, by rw [← hy]; exact two _ _ _ _ hv (.bool _)⟩
        simp [execOp, Instr.lookup, hq, run_underlying hu, hgo', hc, hf]
      | false =>
        refine ⟨u, ?_, by rw [← hy]; exact hv⟩
        simp [execOp, Instr.lookup, hq, run_underlying hu, hgo', hc, hf]) next

theorem heap_set_same {w : World} {b : Nat} {o : Obj} (h : b < w.heap.size) : ({ w with heap := w.heap.setIfInBounds b o } : World).heap[b]? = some o := by simp [h]
theorem heap_set_else {w : World} {b c : Nat} {o : Obj} (h : c ≠ b) : ({ w with heap := w.heap.setIfInBounds b o } : World).heap[c]? = w.heap[c]? := by
  simp only
  rw [Array.getElem?_setIfInBounds_ne (fun e => h e.symm)]

/-- A map turns in its place. -/
theorem Rel.setMap {w : World} {V : View} {b : Nat} {o o' : AO} {H' : AH} [hat : At H b o] [hu : Upd H b o' H'] (h : Rel GV w V H) {ents ents' : Array MapEntry} {c c' : Nat} (hb : w.heap[b]? = some (.map ents c)) (ho : OR { w with heap := w.heap.setIfInBounds b (.map ents' c') } V b o') :
    Rel GV { w with heap := w.heap.setIfInBounds b (.map ents' c') } V H' ∧ Ext w V H { w with heap := w.heap.setIfInBounds b (.map ents' c') } V H' :=
  h.update (b := b) (o' := o') rfl rfl rfl (by simp) (fun c hc => heap_set_else hc) (fun i v hv => by have := h.claims b i v hv; simp [World.cell?, hb] at this) ho

theorem Entries.upd {V : View} {m : List (κ × α)} {x : κ} {y : α} {ents : Array MapEntry} {c : Nat} (h : Entries V (mapAV encK encV m) ents c) {kv yv : Value} (hk : VR V (encK x) kv) (hy : VR V (encV y) yv) :
    Entries V (mapAV encK encV (mset m x y)) (match midx m x with | some j => ents.modify j (fun e => { e with key := kv, val := yv }) | none => ents.push { key := kv, val := yv, born := c }) (match midx m x with | some _ => c | none => c + 1) := by
  obtain ⟨h1, h2, h3⟩ := h
  have hl : ents.size = m.length := by simpa [mapAV] using h1
  cases hmi : midx m x with
  | none =>
    simp only [mset, hmi]
    refine ⟨by simp [mapAV, hl], fun i p e hp he => ?_, ?_⟩
    · simp only [mapAV, List.map_append, List.map_cons, List.map_nil] at hp
      by_cases hi : i < ents.size
      · rw [List.getElem?_append_left (by simpa [hl] using hi)] at hp
        rw [Array.getElem?_push_lt hi] at he
        have := h2 i p e hp (by rw [Array.getElem?_eq_getElem hi]; exact he)
        exact ⟨this.1, this.2.1, by omega⟩
      · by_cases hie : i = ents.size
        · subst hie
          rw [List.getElem?_append_right (by simp [hl])] at hp
          simp only [List.length_map, hl, Nat.sub_self, List.getElem?_cons_zero, Option.some.injEq] at hp
          rw [Array.getElem?_push_size] at he
          cases he; subst hp
          exact ⟨hk, hy, by simp⟩
        · rw [Array.getElem?_eq_none (by simp; omega)] at he; cases he
    · simp only [Array.toList_push, List.map_append, List.map_cons, List.map_nil]
      rw [List.nodup_append]
      refine ⟨h3, by simp, fun a ha b hb => ?_⟩
      simp only [List.mem_singleton] at hb
      subst hb
      obtain ⟨e, he, rfl⟩ := List.mem_map.1 ha
      obtain ⟨j, hj⟩ := List.getElem?_of_mem he
      have hjl : j < (mapAV encK encV m).length := by rw [← h1]; have := (List.getElem?_eq_some_iff.1 hj).1; simpa using this
      have := (h2 j _ e (List.getElem?_eq_getElem hjl) (by simpa using hj)).2.2
      omega
  | some j =>
    have hj := midx_lt hmi
    simp only [mset, hmi]
    refine ⟨by simp [mapAV, hl], fun i p e hp he => ?_, ?_⟩
    · simp only [mapAV, List.map_set] at hp
      rw [Array.getElem?_modify] at he
      by_cases hij : j = i
      · subst hij
        rw [List.getElem?_set_self (by simpa using hj)] at hp
        cases hp
        rw [if_pos rfl] at he
        obtain ⟨e0, he0, rfl⟩ := Option.map_eq_some_iff.1 he
        exact ⟨hk, hy, (h2 j (encK m[j].1, encV m[j].2) e0 (by simp [mapAV, List.getElem?_eq_getElem hj]) he0).2.2⟩
      · rw [List.getElem?_set_ne hij] at hp
        rw [if_neg hij] at he
        exact h2 i p e hp he
    · have : (ents.modify j (fun e => { e with key := kv, val := yv })).toList.map (·.born) = ents.toList.map (·.born) := by
        apply List.ext_getElem?
        intro i
        simp only [List.getElem?_map, Array.getElem?_toList, Array.getElem?_modify]
        by_cases hij : j = i
        · subst hij; cases ents[j]? <;> simp
        · simp [hij]
      rw [this]; exact h3

theorem run_mapUpdate {t kt et : TypeId} {w : World} {V : View} {b : Nat} {m : List (κ × α)} {x : κ} {y : α} {ents : Array MapEntry} {c : Nat} {kv yv : Value} (hu : P.underlying t = some (.map kt et)) (hk : KeyR P kt encK)
    (hb : w.heap[b]? = some (.map ents c)) (hent : Entries V (mapAV encK encV m) ents c) (hkv : VR V (encK x) kv) :
    (Instr.mapUpdate t (.map (some b)) kv yv).run P w = .ok () { w with heap := w.heap.setIfInBounds b (.map (match midx m x with | some j => ents.modify j (fun e => { e with key := kv, val := yv }) | none => ents.push { key := kv, val := yv, born := c }) (match midx m x with | some _ => c | none => c + 1)) } := by
  obtain ⟨hl, hkk⟩ := hent.keys
  have hf := findKey_of (w := w) hk hkv m ents.toList hl (fun i p e hp he => (hkk i p e hp he).1)
  have hc := hk.check V w _ x false hkv
  have hgo' : (getObj b).run P w = .ok (.map ents c) w := by simp [getObj, Sem.run, hb]
  have hso : ∀ o, (setObj b o).run P w = .ok () { w with heap := w.heap.setIfInBounds b o } := fun o => by simp [setObj, Sem.run, hb]
  cases hmi : midx m x with
  | none =>
    rw [hmi] at hf
    simp only [Option.bind_none] at hf
    simp [Instr.mapUpdate, run_underlying hu, hgo', hc, hf, hso]
  | some j =>
    have hj := midx_lt hmi
    have hje : j < ents.size := by have : ents.size = m.length := by simpa using hl
                                   omega
    have hej : ents.toList[j]? = some (ents[j]'hje) := by simp [hje]
    have hmj : m[j]? = some m[j] := List.getElem?_eq_getElem hj
    rw [hmi] at hf
    simp only [Option.bind_some, hej, Option.map_some] at hf
    have hkj := (hkk j _ _ hmj hej).1
    have hxe : x = m[j].1 := by
      have := List.findIdx?_eq_some_iff_getElem.1 hmi
      simpa using this.2.1
    rw [← hxe] at hkj
    have hsb := hk.same V _ _ x hkj hkv
    have hkt : (Instr.keyThatStays (ents[j]'hje).key kv).run P w = .ok kv w := by simp [Instr.keyThatStays, hsb]
    simp [Instr.mapUpdate, run_underlying hu, hgo', hc, hf, hje, hkt, hso]

/-- m[k] = v -/
theorem AS.mapUpdate {t kt et : TypeId} {mo ko vo : Operand} {b : Nat} {m : List (κ × α)} {x : κ} {y : α} {H' : AH} [hat : At H b (.map (mapAV encK encV m))] [hup : Upd H b (.map (mapAV encK encV (mset m x y))) H'] (ho : ops[i]? = some ⟨d, .mapUpdate t mo ko vo, ty, pos, aft, gd⟩)
    (hw : wantedB ops env gd = true) (hd : fitsB n d = true) (hm : env.ev GV mo = some (.map b)) (hx : env.ev GV ko = some (encK x)) (hy : env.ev GV vo = some (encV y)) (ht : mapI P t = some (kt, et)) (hk : KeyR P kt encK)
    (next : AS P GV f n (.inRegion ops rest :: k) (putEnv d .undef env) H' R) : AS P GV f n (.inRegion ops (i :: rest) :: k) env H R := by
  refine AS.opG (Φ := fun z H2 => z = .undef ∧ H2 = H') ho hw hd (fun V a w hs => ?_) (fun z H2 ⟨e1, e2⟩ => by subst e1 e2; exact next)
  obtain ⟨ents, c, hb, hent⟩ := hs.rel.objs _ _ hat.mem
  have hmv := hs.ev hm
  have hxv := hs.ev hx
  have hyv := hs.ev hy
  generalize hq : a.eval mo = q at hmv
  cases hmv
  have hr := run_mapUpdate (w := w) (y := y) (yv := a.eval vo) (mapI_und ht) hk hb hent hxv
  have hlt := (hs.rel.objs _ _ hat.mem).lt
  have hrel := hs.rel.setMap (hat := hat) (hu := hup) (c' := match midx m x with | some _ => c | none => c + 1) hb ⟨_, _, heap_set_same hlt, hent.upd hxv hyv⟩
  exact ⟨Go.undef, _, V, _, _, .inr ⟨by simp only [execOp, hq, Sem.run_bind, hr]; rfl, rfl⟩, .undef, hrel.1, hrel.2, rfl, rfl⟩

/-- an entry of a map's literal -/
theorem AS.insert {t kt et : TypeId} {mo ko vo : Operand} {b : Nat} {m : List (κ × α)} {x : κ} {y : α} {H' : AH} [hat : At H b (.map (mapAV encK encV m))] [hup : Upd H b (.map (mapAV encK encV (mset m x y))) H'] (ho : ops[i]? = some ⟨d, .insert t mo ko vo, ty, pos, aft, gd⟩)
    (hw : wantedB ops env gd = true) (hd : fitsB n d = true) (hm : env.ev GV mo = some (.map b)) (hx : env.ev GV ko = some (encK x)) (hy : env.ev GV vo = some (encV y)) (ht : mapI P t = some (kt, et)) (hk : KeyR P kt encK)
    (next : AS P GV f n (.inRegion ops rest :: k) (putEnv d .undef env) H' R) : AS P GV f n (.inRegion ops (i :: rest) :: k) env H R := by
  refine AS.opG (Φ := fun z H2 => z = .undef ∧ H2 = H') ho hw hd (fun V a w hs => ?_) (fun z H2 ⟨e1, e2⟩ => by subst e1 e2; exact next)
  obtain ⟨ents, c, hb, hent⟩ := hs.rel.objs _ _ hat.mem
  have hmv := hs.ev hm
  have hxv := hs.ev hx
  have hyv := hs.ev hy
  generalize hq : a.eval mo = q at hmv
  cases hmv
  have hr := run_mapUpdate (w := w) (y := y) (yv := a.eval vo) (mapI_und ht) hk hb hent hxv
  have hlt := (hs.rel.objs _ _ hat.mem).lt
  have hrel := hs.rel.setMap (hat := hat) (hu := hup) (c' := match midx m x with | some _ => c | none => c + 1) hb ⟨_, _, heap_set_same hlt, hent.upd hxv hyv⟩
  exact ⟨Go.undef, _, V, _, _, .inr ⟨by simp only [execOp, hq, Sem.run_bind, hr]; rfl, rfl⟩, .undef, hrel.1, hrel.2, rfl, rfl⟩

theorem erase_map {α β : Type} (g : α → β) : ∀ (l : List α) (j : Nat), (l.map g).eraseIdx j = (l.eraseIdx j).map g
  | [], _ => by simp
  | x :: l, 0 => rfl
  | x :: l, j + 1 => by simp [erase_map g l j]

theorem Entries.del {V : View} {es : List (AV × AV)} {ents : Array MapEntry} {c : Nat} (h : Entries V es ents c) (j : Nat) : Entries V (es.eraseIdx j) (ents.eraseIdxIfInBounds j) c := by
  obtain ⟨h1, h2, h3⟩ := h
  have hlist : (ents.eraseIdxIfInBounds j).toList = ents.toList.eraseIdx j := by
    unfold Array.eraseIdxIfInBounds
    split
    · simp
    · rename_i hj; rw [List.eraseIdx_of_length_le (by simpa using hj)]
  refine ⟨?_, fun i p e hp he => ?_, ?_⟩
  · rw [← Array.length_toList, hlist, List.length_eraseIdx, List.length_eraseIdx]; simp [h1]
  · rw [← Array.getElem?_toList, hlist, List.getElem?_eraseIdx] at he
    rw [List.getElem?_eraseIdx] at hp
    split at hp
    · rename_i hij; rw [if_pos hij] at he; exact h2 i p e hp (by simpa using he)
    · rename_i hij; rw [if_neg hij] at he; exact h2 (i + 1) p e hp (by simpa using he)
  · rw [hlist]
    exact h3.sublist ((List.eraseIdx_sublist _ _).map _)

/-- delete(m, k) -/
theorem AS.delete {t kt et t2 : TypeId} {mo ko : Operand} {b : Nat} {m : List (κ × α)} {x : κ} {H' : AH} [hat : At H b (.map (mapAV encK encV m))] [hup : Upd H b (.map (mapAV encK encV (mdel m x))) H']
    (ho : ops[i]? = some ⟨d, .call ⟨.builtin .delete, #[mo, ko], #[t, t2]⟩, ty, pos, aft, gd⟩) (hw : wantedB ops env gd = true) (hd : fitsB n d = true) (hm : env.ev GV mo = some (.map b)) (hx : env.ev GV ko = some (encK x)) (ht : mapI P t = some (kt, et)) (hk : KeyR P kt encK)
    (next : AS P GV f n (.inRegion ops rest :: k) (putEnv d .undef env) H' R) : AS P GV f n (.inRegion ops (i :: rest) :: k) env H R := by
  refine AS.opG (Φ := fun z H2 => z = .undef ∧ H2 = H') ho hw hd (fun V a w hs => ?_) (fun z H2 ⟨e1, e2⟩ => by subst e1 e2; exact next)
  obtain ⟨ents, c, hb, hent⟩ := hs.rel.objs _ _ hat.mem
  have hmv := hs.ev hm
  have hxv := hs.ev hx
  generalize hq : a.eval mo = q at hmv
  generalize hq2 : a.eval ko = q2 at hxv
  cases hmv
  have hu := mapI_und ht
  have hlt := (hs.rel.objs _ _ hat.mem).lt
  obtain ⟨hl, hkk⟩ := hent.keys
  have hf := findKey_of (w := w) hk hxv m ents.toList hl (fun i p e hp he => (hkk i p e hp he).1)
  have hc := hk.check V w _ x ents.isEmpty hxv
  have hgo' : (getObj b).run P w = .ok (.map ents c) w := by simp [getObj, Sem.run, hb]
  have hso : ∀ o, (setObj b o).run P w = .ok () { w with heap := w.heap.setIfInBounds b o } := fun o => by simp [setObj, Sem.run, hb]
  have hmd := mdel_idx m x
  cases hmi : midx m x with
  | none =>
    rw [hmi] at hf hmd
    simp only [Option.bind_none] at hf
    simp only at hmd
    have hrel := hs.rel.setMap (hat := hat) (hu := hup) (c' := c) hb ⟨ents, _, heap_set_same hlt, by rw [hmd]; exact hent⟩
    refine ⟨Go.undef, _, V, _, _, .inl (wpo_builtin ?_), .undef, hrel.1, hrel.2, rfl, rfl⟩
    simp [builtin, hq, hq2, Builtin.delete_, run_underlying hu, hgo', hc, hf, hso, Go.undef]
  | some j =>
    have hj := midx_lt hmi
    have hje : j < ents.size := by have : ents.size = m.length := by simpa using hl
                                   omega
    rw [hmi] at hf hmd
    simp only [Option.bind_some, show ents.toList[j]? = some (ents[j]'hje) by simp [hje], Option.map_some] at hf
    simp only at hmd
    have hrel := hs.rel.setMap (hat := hat) (hu := hup) (c' := c) hb ⟨ents.eraseIdxIfInBounds j, _, heap_set_same hlt, by
      rw [hmd]
      have := hent.del j
      simpa [mapAV, erase_map] using this⟩
    refine ⟨Go.undef, _, V, _, _, .inl (wpo_builtin ?_), .undef, hrel.1, hrel.2, rfl, rfl⟩
    simp [builtin, hq, hq2, Builtin.delete_, run_underlying hu, hgo', hc, hf, hso, Go.undef]

/-- len(m) -/
theorem AS.lenMap {t kt et : TypeId} {mo : Operand} {b : Nat} {es : List (AV × AV)} {c : Int} [hat : At H b (.map es)] (ho : ops[i]? = some ⟨d, .call ⟨.builtin .len, #[mo], #[t]⟩, ty, pos, aft, gd⟩) (hw : wantedB ops env gd = true) (hd : fitsB n d = true)
    (hm : env.ev GV mo = some (.map b)) (ht : mapI P t = some (kt, et)) (hc : (es.length : Int) = c)
    (next : AS P GV f n (.inRegion ops rest :: k) (putEnv d (.int .i64 c) env) H R) : AS P GV f n (.inRegion ops (i :: rest) :: k) env H R :=
  .opV _ ho hw hd (fun V a w hs => by
    obtain ⟨ents, cl, hb, hent⟩ := hs.rel.objs _ _ hat.mem
    have hmv := hs.ev hm
    generalize hq : a.eval mo = q at hmv
    cases hmv
    subst hc
    have hgo' : (getObj b).run P w = .ok (.map ents cl) w := by simp [getObj, Sem.run, hb]
    refine ⟨.int .i64 es.length, wpo_builtin ?_, .int _ _⟩
    simp [builtin, hq, Builtin.len_, run_underlying (mapI_und ht), hgo', goInt, hent.1]) next

/-- make(map[K]V) -/
theorem AS.makeMap {t : TypeId} (ho : ops[i]? = some ⟨d, .makeMap t none, ty, pos, aft, gd⟩) (hw : wantedB ops env gd = true) (hd : fitsB n d = true)
    (next : ∀ b, AS P GV f n (.inRegion ops rest :: k) (putEnv d (.map b) env) ((b, .map []) :: H) R) : AS P GV f n (.inRegion ops (i :: rest) :: k) env H R :=
  .opG (Φ := fun z H2 => ∃ b, z = .map b ∧ H2 = (b, .map []) :: H) ho hw hd (fun V a w hs => by
    have hr := hs.rel.alloc (.map #[] 0) (.map []) ⟨#[], 0, heap_alloc_new w _, by simp, by simp, by simp⟩
    exact ⟨.map (some w.heap.size), w.alloc (.map #[] 0), V, _, _, .inl (by simp [execOp, Instr.makeMap]), .map _, hr.1, hr.2, _, rfl, rfl⟩)
    (fun z H2 ⟨b, e1, e2⟩ => by subst e1 e2; exact next b)

end
/-! ### Going through a map -/
/-- Entries with their stamps. -/
def mapSt (encK : κ → AV) (encV : α → AV) (sm : List (Nat × κ × α)) : List (Nat × AV × AV) := sm.map fun e => (e.1, encK e.2.1, encV e.2.2)
/-- What is still to come. -/
def left (sm : List (Nat × κ × α)) (seen : List Nat) : List (Nat × κ × α) := sm.filter fun e => !seen.contains e.1

/-- for k, v := range m: the beginning -/
theorem AS.rangeMap {t kt et : TypeId} {mo : Operand} {b : Nat} {m : List (κ × α)} [hat : At H b (.map (mapAV encK encV m))] (ho : ops[i]? = some ⟨d, .range t mo, ty, pos, aft, gd⟩) (hw : wantedB ops env gd = true) (hd : fitsB n d = true)
    (hm : env.ev GV mo = some (.map b)) (ht : mapI P t = some (kt, et)) (H' : List (Nat × κ × α) → Nat → AH) [hup : ∀ sm c, Upd H b (.mapB (mapSt encK encV sm) c) (H' sm c)]
    (next : ∀ it sm c, sm.map (·.2) = m → (sm.map (·.1)).Nodup → AS P GV f n (.inRegion ops rest :: k) (putEnv d (.ptr it 0) env) ((it, .miter b c []) :: H' sm c) R) : AS P GV f n (.inRegion ops (i :: rest) :: k) env H R := by
  refine AS.opG (Φ := fun z H2 => ∃ it sm c, sm.map (·.2) = m ∧ (sm.map (·.1)).Nodup ∧ z = .ptr it 0 ∧ H2 = (it, .miter b c []) :: H' sm c) ho hw hd (fun V a w hs => ?_) (fun z H2 ⟨it, sm, c, h1, h2, e1, e2⟩ => by subst e1 e2; exact next it sm c h1 h2)
  obtain ⟨ents, c, hb, hent⟩ := hs.rel.objs _ _ hat.mem
  have hmv := hs.ev hm
  generalize hq : a.eval mo = q at hmv
  cases hmv
  obtain ⟨hl, hkk⟩ := hent.keys
  have hgo' : (getObj b).run P w = .ok (.map ents c) w := by simp [getObj, Sem.run, hb]
  obtain ⟨sm, hsm⟩ : ∃ sm, sm = (ents.toList.map (·.born)).zip m := ⟨_, rfl⟩
  have hsm1 : sm.map (·.1) = ents.toList.map (·.born) := by rw [hsm]; exact List.map_fst_zip (by simp [← hl])
  have hsm2 : sm.map (·.2) = m := by rw [hsm]; exact List.map_snd_zip (by simp [← hl])
  have hB : EntriesB V (mapSt encK encV sm) ents c := by
    refine ⟨by have := congrArg List.length hsm2; simp at this; simp [mapSt, this, ← hl], fun j x e hx he => ?_, ?_⟩
    · simp only [mapSt, List.getElem?_map, Option.map_eq_some_iff] at hx
      obtain ⟨s, hs', rfl⟩ := hx
      rw [hsm, List.getElem?_zip_eq_some] at hs'
      have hej : ents.toList[j]? = some e := by simpa using he
      have h3 := hkk j _ e hs'.2 hej
      have h4 : e.born = s.1 := by have := hs'.1; rw [List.getElem?_map, hej] at this; simpa using this
      exact ⟨h4, h3.1, h3.2.1, h3.2.2⟩
    · have : (mapSt encK encV sm).map (·.1) = sm.map (·.1) := by simp [mapSt, Function.comp_def]
      rw [this, hsm1]; exact hent.2.2
  have hrel1 := hs.rel.update (w' := w) (b := b) (o' := .mapB (mapSt encK encV sm) c) (H' := H' sm c) rfl rfl rfl rfl (fun _ _ => rfl) (fun i v hv => hs.rel.claims b i v hv) ⟨ents, hb, hB⟩
  have hrel2 := hrel1.1.alloc (.mapIter (some b) c #[] c) (.miter b c []) (heap_alloc_new w _)
  refine ⟨.pointer (some ⟨w.heap.size, 0, none⟩), w.alloc (.mapIter (some b) c #[] c), V, _, _, .inl ?_, .ptr _ _, hrel2.1, hrel1.2.trans hrel2.2, _, sm, c, hsm2, by rw [hsm1]; exact hent.2.2, rfl, rfl⟩
  simp [execOp, Instr.range, hq, run_underlying (mapI_und ht), hgo']

theorem Rel.setIter {w : World} {V : View} {b m c : Nat} {seen seen' : List Nat} {H' : AH} (h : Rel GV w V H) [hat : At H b (.miter m c seen)] [hu : Upd H b (.miter m c seen') H'] :
    Rel GV { w with heap := w.heap.setIfInBounds b (.mapIter (some m) c seen'.toArray c) } V H' ∧ Ext w V H { w with heap := w.heap.setIfInBounds b (.mapIter (some m) c seen'.toArray c) } V H' := by
  have hb : w.heap[b]? = some (.mapIter (some m) c seen.toArray c) := h.objs _ _ hat.mem
  exact h.update (b := b) (o' := .miter m c seen') rfl rfl rfl (by simp) (fun c hc => heap_set_else hc) (fun i v hv => by have := h.claims b i v hv; simp [World.cell?, hb] at this) (heap_set_same (h.objs _ _ hat.mem).lt)

/-- for k, v := range m: the next one, whichever it is; or there is none. -/
theorem AS.nextMap {io : Operand} {it b c : Nat} {sm : List (Nat × κ × α)} {seen : List Nat} [hat1 : At H it (.miter b c seen)] [hat2 : At H b (.mapB (mapSt encK encV sm) c)] (ho : ops[i]? = some ⟨d, .next io false, ty, pos, aft, gd⟩)
    (hw : wantedB ops env gd = true) (hd : fitsB n d = true) (hx : env.ev GV io = some (.ptr it 0)) (H' : List Nat → AH) [hup : ∀ s, Upd H it (.miter b c s) (H' s)]
    (over : left sm seen = [] → AS P GV f n (.inRegion ops rest :: k) (putEnv d (.tup [.bool false]) env) H R)
    (next : ∀ e, e ∈ left sm seen → AS P GV f n (.inRegion ops rest :: k) (putEnv d (.tup [.bool true, encK e.2.1, encV e.2.2]) env) (H' (seen ++ [e.1])) R) : AS P GV f n (.inRegion ops (i :: rest) :: k) env H R := by
  refine AS.opG (Φ := fun z H2 => (left sm seen = [] ∧ z = .tup [.bool false] ∧ H2 = H) ∨ ∃ e, e ∈ left sm seen ∧ z = .tup [.bool true, encK e.2.1, encV e.2.2] ∧ H2 = H' (seen ++ [e.1])) ho hw hd (fun V a w hs => ?_)
    (fun z H2 h => by
      rcases h with ⟨h1, e1, e2⟩ | ⟨e, h1, e1, e2⟩
      · subst e1 e2; exact over h1
      · subst e1 e2; exact next e h1)
  have hxv := hs.ev hx
  generalize hq : a.eval io = q at hxv
  cases hxv
  have hit : w.heap[it]? = some (.mapIter (some b) c seen.toArray c) := hs.rel.objs _ _ hat1.mem
  obtain ⟨ents, hb, h1, h2, h3⟩ := hs.rel.objs _ _ hat2.mem
  have hg1 : (getObj it).run P w = .ok (.mapIter (some b) c seen.toArray c) w := by simp [getObj, Sem.run, hit]
  have hg2 : (getObj b).run P w = .ok (.map ents c) w := by simp [getObj, Sem.run, hb]
  have hlt : ∀ e ∈ ents, e.born < c := by
    intro e he
    obtain ⟨j, hj, rfl⟩ := Array.mem_iff_getElem.1 he
    have hjl : j < (mapSt encK encV sm).length := by rw [← h1]; exact hj
    exact (h2 j _ _ (List.getElem?_eq_getElem hjl) (Array.getElem?_eq_getElem hj)).2.2.2
  have hq1 : (!seen.toArray.isEmpty && !ents.isEmpty && ents.all (·.born ≥ c)) = false := by
    by_cases he : ents.isEmpty = true
    · simp [he]
    · have hpos : 0 < ents.size := by
        rcases Nat.eq_zero_or_pos ents.size with h | h
        · exact absurd (by simpa [Array.isEmpty] using h) he
        · exact h
      have : ents.all (·.born ≥ c) = false := by
        rw [Bool.eq_false_iff]
        intro hall
        have := (Array.all_eq_true.1 hall) 0 hpos
        have h0 := hlt ents[0] (Array.getElem_mem hpos)
        simp at this
        omega
      simp [this]
  -- what is left
  have hleft : (ents.filter fun e => !seen.toArray.contains e.born).toList.map (fun e => e.born) = (left sm seen).map (·.1) := by
    have hborn : ents.toList.map (·.born) = sm.map (·.1) := by
      apply List.ext_getElem?
      intro j
      simp only [List.getElem?_map, Array.getElem?_toList]
      by_cases hj : j < ents.size
      · have hjl : j < sm.length := by have := h1; simp [mapSt] at this; omega
        have := (h2 j (sm[j].1, encK sm[j].2.1, encV sm[j].2.2) ents[j] (by simp [mapSt, hjl]) (Array.getElem?_eq_getElem hj)).1
        simp [hj, hjl, this]
      · have hjl : ¬ j < sm.length := by have := h1; simp [mapSt] at this; omega
        simp [hj, hjl]
    have e1 : (ents.filter fun e => !seen.toArray.contains e.born).toList.map (fun e => e.born) = (ents.toList.map (·.born)).filter (fun s => !seen.contains s) := by
      rw [Array.toList_filter, List.filter_map]
      congr 1
      apply List.filter_congr
      intro e _
      simp
    rw [e1, hborn, left, List.filter_map]
    rfl
  have hold : (ents.filter fun e => !seen.toArray.contains e.born).filter (·.born < c) = ents.filter fun e => !seen.toArray.contains e.born := by
    apply Array.filter_eq_self.2
    intro e he
    simp [hlt e (Array.mem_filter.1 he).1]
  have hnew : (ents.filter fun e => !seen.toArray.contains e.born).filter (·.born ≥ c) = #[] := by
    apply Array.filter_eq_empty_iff.2
    intro e he
    have := hlt e (Array.mem_filter.1 he).1
    simp; omega
  generalize hL : (ents.filter fun e => !seen.toArray.contains e.born) = L at hleft hold hnew
  have hLlen : L.size = (left sm seen).length := by have := congrArg List.length hleft; simpa using this
  by_cases hz : left sm seen = []
  · have hL0 : L = #[] := by
      apply Array.eq_empty_of_size_eq_zero
      rw [hLlen, hz]; rfl
    refine ⟨.tuple #[.bool false], w, V, _, _, .inl ?_, .tup _ _ rfl (fun i x v hx hv => ?_), hs.rel, .refl _ _ _, .inl ⟨hz, rfl, rfl⟩⟩
    · simp only [execOp, hq, Instr.next, Sem.run_bind, hg1, Result.andThen_ok, hg2, hq1, hL]
      simp [hL0, Question.forced]
    · cases i with
      | zero => simp at hx hv; subst hx hv; exact .bool _
      | succ i => simp at hx
  · have hLpos : 0 < L.size := by rw [hLlen]; exact List.length_pos_iff.2 hz
    obtain ⟨j, w1, hj, hrun, hheap, hos, htape, hout⟩ : ∃ (j : Nat) (w1 : World), j < L.size ∧ (choose (.mapNext L.size)).run P w = .ok j w1 ∧ w1.heap = w.heap ∧ w1.os = w.os ∧ w1.tape = w.tape ∧ w1.output = w.output := by
      rw [run_choose]
      split
      · exact ⟨0, w, hLpos, rfl, rfl, rfl, rfl, rfl⟩
      · exact ⟨_, _, Nat.mod_lt _ hLpos, rfl, rfl, rfl, rfl, rfl⟩
    have hjleft : j < (left sm seen).length := by omega
    obtain ⟨e, he⟩ : ∃ e, e = (left sm seen)[j] := ⟨_, rfl⟩
    have hemem : e ∈ left sm seen := by rw [he]; exact List.getElem_mem hjleft
    have hborn : L[j].born = e.1 := by
      have := congrArg (fun l => l[j]?) hleft
      simp [hj, hjleft] at this
      rw [this, he]
    -- the entry itself
    have hesm : e ∈ sm := (List.mem_filter.1 hemem).1
    obtain ⟨p, hp, hpe⟩ := List.mem_iff_getElem.1 hesm
    have hLm : L[j] ∈ ents := by
      have hmem : L[j] ∈ L := Array.getElem_mem hj
      generalize L[j] = y at hmem
      rw [← hL] at hmem
      exact (Array.mem_filter.1 hmem).1
    obtain ⟨p', hp', hpe'⟩ := Array.mem_iff_getElem.1 hLm
    have hp'l : p' < sm.length := by have := h1; simp [mapSt] at this; omega
    have hh := h2 p' (sm[p'].1, encK sm[p'].2.1, encV sm[p'].2.2) ents[p'] (by simp [mapSt, hp'l]) (Array.getElem?_eq_getElem hp')
    have hpp : p' = p := by
      have hnd : (sm.map (·.1)).Nodup := by have : (mapSt encK encV sm).map (·.1) = sm.map (·.1) := by simp [mapSt, Function.comp_def]
                                            rw [← this]; exact h3
      have e1 : (sm.map (·.1))[p']'(by simpa using hp'l) = (sm.map (·.1))[p]'(by simpa using hp) := by
        simp only [List.getElem_map]
        rw [hpe, ← hborn, ← hpe', hh.1]
      exact (List.getElem_inj hnd).1 e1
    subst hpp
    rw [hpe] at hh
    rw [hpe'] at hh
    have hrel1 : Rel GV w1 V H := by
      refine ⟨hs.rel.nodup, fun b o hm => (hs.rel.objs b o hm).keep (.refl _) (by rw [hheap]) (fun _ => rfl), fun b i v hv => ?_, hs.rel.glob⟩
      have := hs.rel.claims b i v hv
      simpa [World.cell?, hheap] using this
    have hext1 : Ext w V H w1 V H := ⟨hos, htape, hout, by rw [hheap]; exact Nat.le_refl _, .refl _, fun b _ _ => by rw [hheap], fun _ _ _ _ => rfl, fun b hb => .inl hb⟩
    have hset := hrel1.setIter (b := it) (m := b) (c := c) (seen := seen) (seen' := seen ++ [e.1]) (H' := H' (seen ++ [e.1]))
    refine ⟨.tuple #[.bool true, L[j].key, L[j].val], _, V, _, _, .inl ?_, .tup _ _ rfl (fun i x v hx hv => ?_), hset.1, hext1.trans hset.2, .inr ⟨e, hemem, rfl, rfl⟩⟩
    · have hsome : ((if L.isEmpty then #[none] else #[]) ++ (L ++ #[]).map some : Array (Option MapEntry)) = L.map some := by
        have : L.isEmpty = false := by
          rw [Bool.eq_false_iff]; intro h
          have hs0 : L.size = 0 := by rw [Array.isEmpty_iff.1 h]; rfl
          omega
        simp [this]
      have hsz : (L.map some : Array (Option MapEntry)).size = L.size := by simp
      have hso : ∀ o, (setObj it o).run P w1 = .ok () { w1 with heap := w1.heap.setIfInBounds it o } := fun o => by simp [setObj, Sem.run, hheap, hit]
      simp only [execOp, hq, Instr.next, Sem.run_bind, hg1, Result.andThen_ok, hg2, hq1, hL, Bool.false_eq_true, if_false, hold, hnew, hsome, hsz, hrun]
      simp [hj, hso, hborn]
    · match i with
      | 0 => simp at hx hv; subst hx hv; exact .bool _
      | 1 => simp at hx hv; subst hx hv; exact hh.2.1
      | 2 => simp at hx hv; subst hx hv; exact hh.2.2.1
      | i + 3 => simp at hx

/-- The stamps are forgotten. -/
theorem AS.closeMap {todo : List Item} {b c : Nat} {sm : List (Nat × κ × α)} {m : List (κ × α)} {H' : AH} [hat : At H b (.mapB (mapSt encK encV sm) c)] [hup : Upd H b (.map (mapAV encK encV m)) H'] (hm : sm.map (·.2) = m)
    (h : AS P GV f n todo env H' R) : AS P GV f n todo env H R := by
  intro V a w hs
  obtain ⟨ents, hb, h1, h2, h3⟩ := hs.rel.objs _ _ hat.mem
  have hent : Entries V (mapAV encK encV m) ents c := by
    subst hm
    refine ⟨by simpa [mapSt, mapAV] using h1, fun j x e hx he => ?_, ?_⟩
    · simp only [mapAV, List.map_map, List.getElem?_map, Option.map_eq_some_iff] at hx
      obtain ⟨s, hs', rfl⟩ := hx
      have := h2 j (s.1, encK s.2.1, encV s.2.2) e (by simp [mapSt, hs']) he
      exact this.2
    · have : ents.toList.map (·.born) = (mapSt encK encV sm).map (·.1) := by
        apply List.ext_getElem?
        intro j
        simp only [List.getElem?_map, Array.getElem?_toList]
        have h1' : ents.size = (mapSt encK encV sm).length := h1
        by_cases hj : j < ents.size
        · have hjl : j < (mapSt encK encV sm).length := by omega
          have := (h2 j _ _ (List.getElem?_eq_getElem hjl) (Array.getElem?_eq_getElem hj)).1
          rw [Array.getElem?_eq_getElem hj, List.getElem?_eq_getElem hjl]
          simp [this]
        · have hjl : ¬ j < (mapSt encK encV sm).length := by omega
          simp [hj, hjl]
      rw [this]; exact h3
  have hrel := hs.rel.update (w' := w) (b := b) (o' := .map (mapAV encK encV m)) (H' := H') rfl rfl rfl rfl (fun _ _ => rfl) (fun i v hv => hs.rel.claims b i v hv) ⟨ents, c, hb, hent⟩
  exact (h V a w ⟨hs.defers, hs.size, hs.env, hrel.1⟩).mono fun v w' ⟨V', x, H2, a, b, c', d⟩ => ⟨V', x, H2, a, b, hrel.2.trans c', d⟩
end rules

section plain
variable {κ α : Type}
/-- One more has come. -/
theorem left_step {sm vis : List (Nat × κ × α)} (hn : (sm.map (·.1)).Nodup) (hp : (vis ++ left sm (vis.map (·.1))).Perm sm) {e : Nat × κ × α} (he : e ∈ left sm (vis.map (·.1))) :
    ((vis ++ [e]) ++ left sm ((vis ++ [e]).map (·.1))).Perm sm ∧ (left sm ((vis ++ [e]).map (·.1))).length < (left sm (vis.map (·.1))).length := by
  have hnd : ((left sm (vis.map (·.1))).map (·.1)).Nodup := hn.sublist (List.filter_sublist.map _)
  have e1 : left sm ((vis ++ [e]).map (·.1)) = (left sm (vis.map (·.1))).filter (fun x => !(x.1 == e.1)) := by
    simp only [left, List.filter_filter]
    apply List.filter_congr
    intro x _
    rw [Bool.eq_iff_iff]
    simp [and_comm]
  have key : ∀ (l : List (Nat × κ × α)), (l.map (·.1)).Nodup → e ∈ l → (e :: l.filter (fun x => !(x.1 == e.1))).Perm l := by
    intro l
    induction l with
    | nil => intro _ h; cases h
    | cons y l ih =>
      intro hnl hm
      simp only [List.map_cons, List.nodup_cons] at hnl
      rcases List.mem_cons.1 hm with e' | hm
      · subst e'
        have : l.filter (fun x => !(x.1 == e.1)) = l := by
          apply List.filter_eq_self.2
          intro x hx
          have : x.1 ≠ e.1 := fun h => hnl.1 (by rw [← h]; exact List.mem_map.2 ⟨x, hx, rfl⟩)
          simp [this]
        simp [this]
      · have hne : y.1 ≠ e.1 := fun h => hnl.1 (by rw [h]; exact List.mem_map.2 ⟨e, hm, rfl⟩)
        rw [List.filter_cons_of_pos (by simp [hne])]
        exact (List.Perm.swap _ _ _).trans ((ih hnl.2 hm).cons y)
  have hk := key _ hnd he
  refine ⟨?_, ?_⟩
  · rw [e1, List.append_assoc]
    exact (List.Perm.append_left vis hk).trans hp
  · rw [e1]
    have := hk.length_eq
    simp only [List.length_cons] at this
    omega
theorem left_nil {sm vis : List (Nat × κ × α)} (hp : (vis ++ left sm (vis.map (·.1))).Perm sm) (h : left sm (vis.map (·.1)) = []) : vis.Perm sm := by rw [h, List.append_nil] at hp; exact hp
theorem left_start (sm : List (Nat × κ × α)) : (([] : List (Nat × κ × α)) ++ left sm (([] : List (Nat × κ × α)).map (fun x : Nat × κ × α => x.1))).Perm sm := by
  have : left sm (([] : List (Nat × κ × α)).map (fun x : Nat × κ × α => x.1)) = sm := List.filter_eq_self.2 (by simp)
  rw [this]; exact .refl _
end plain
end Go.Proofs.Fw
