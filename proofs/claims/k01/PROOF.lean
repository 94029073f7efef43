import PyProof.Rows.All
import Wide.All
import OpenK.AllK
import Wide.FinOn
import PySem.Challenge.RW_formulahall_k01_values_in_their_order
import HandS.Zip
import KE.SortData
import KE.LtSeq
import HandS.Strs
import HandS.TupSets
import HandS.DictComp
import HandS.NoneIn
import HandS.ForMost
import HandS.Deep
import HandS.Flow
import HandS.TupAny
import HandS.IsInst
import HandS.CallLocal
import HandS.SetKeys
import HandS.Style
import HandS.Replace
import HandS.More
import HandS.Text
import HandS.FStr
import KE.DataCmp
import HandS.RaiseMore
import HandS.Head0
import HandS.Head1
import HandS.Head2
import HandS.HeadEnd
import HandS.HeadHook1
import HandS.HeadHook2
import HandS.HeadHook3
import HandS.HeadHook4
set_option Elab.async false
set_option linter.all false
set_option maxRecDepth 100000
section
set_option maxHeartbeats 1000000
/-! FHZ: zip of two or three, lists and tuples mixed. -/
namespace FH.Zp
open PySem PySem.Spec PyProof.Rows L2
/-- an iterator over a list (true) or a tuple -/
def Ist (b : Bool) (h : Heap) (it l : Addr) (i : Nat) : Prop := match b with
  | true => h.IsListIter it l i | false => h.IsTupleIter it l i
def Isq (b : Bool) (h : Heap) (l : Addr) (xs : Array Value) : Prop := match b with
  | true => h.IsList l xs | false => h.IsTuple l xs
theorem Ist.keep {b : Bool} {h h' : Heap} {it l : Addr} {i : Nat} (x : Ist b h it l i) (e : ∀ o, h.get? it = some o → h'.get? it = some o) : Ist b h' it l i := by
  cases b with
  | true => exact Heap.IsListIter.at x e
  | false => exact Heap.IsTupleIter.at x e
theorem Isq.keep {b : Bool} {h h' : Heap} {l : Addr} {xs : Array Value} (x : Isq b h l xs) (e : ∀ o, h.get? l = some o → h'.get? l = some o) : Isq b h' l xs := by
  cases b with
  | true => obtain ⟨o, ho, r⟩ := x; exact ⟨o, e o ho, r⟩
  | false => obtain ⟨o, ho, r⟩ := x; exact ⟨o, e o ho, r⟩
theorem Ist.obj {b : Bool} {h : Heap} {it l : Addr} {i : Nat} (x : Ist b h it l i) : ∃ o, h.get? it = some o ∧ ∀ v, o.data ≠ .cell v := by
  cases b with
  | true => obtain ⟨o, ho, _, d⟩ := x; exact ⟨o, ho, fun v q => by rw [d] at q; cases q⟩
  | false => obtain ⟨o, ho, _, d⟩ := x; exact ⟨o, ho, fun v q => by rw [d] at q; cases q⟩
section
variable {prog : Program} {w : World} {A : Around} {E : Value → Shared → Prop} {s : Shared}
theorem nx_item {b : Bool} {it l : Addr} {i : Nat} {items : Array Value} {x : Value} {Q : Value → Shared → Prop} (hit : Ist b s.heap it l i) (hl : Isq b s.heap l items) (hx : items[i]? = some x)
    (hQ : ∀ h', Ist b h' it l (i + 1) → Heap.SameBut it s.heap h' → Q x { s with heap := h' }) : wpAny (model prog w) A (Builtin.SmallTypes.nextOf (.ref it)) Q E s := by
  cases b with
  | true => exact wpAny_nextOf_list_item hit hl hx hQ
  | false => exact RZ.nextOf_tuple_item hit hl hx hQ
theorem nx_end {b : Bool} {it l : Addr} {i : Nat} {items : Array Value} {Q : Value → Shared → Prop} (hh : A.handled = none) (hit : Ist b s.heap it l i) (hl : Isq b s.heap l items) (hx : items[i]? = none)
    (hE : ∀ h' e, Heap.ExtBut it s.heap h' → (∃ o, h'.get? e = some o ∧ o.cls = .type "StopIteration") → E (.ref e) { s with heap := h' }) : wpAny (model prog w) A (Builtin.SmallTypes.nextOf (.ref it)) Q E s := by
  cases b with
  | true => exact wpAny_nextOf_list_end hh hit hl hx hE
  | false => exact RZ.nextOf_tuple_end hh hit hl hx hE
/-- an iterator: its kind, where it stands, what it walks, the items -/
structure Sc where
  b : Bool
  it : Addr
  l : Addr
  xs : Array Value
def tupO (vs : List Value) : Obj := { cls := .type "tuple", data := .seq vs.toArray }
/-- far from one another -/
structure Apart (z TI TO : Addr) (L : List Sc) : Prop where
  TIz : TI ≠ z
  TOz : TO ≠ z
  TITO : TI ≠ TO
  it : ∀ e ∈ L, e.it ≠ z ∧ e.it ≠ TO ∧ TI ≠ e.it
  nd : (L.map (·.it)).Nodup
  src : ∀ e ∈ L, e.l ≠ z ∧ e.l ≠ TO ∧ ∀ f ∈ L, e.l ≠ f.it
theorem upd_tup {T : Addr} {vs : List Value} {k : Nat} {x : Value} {Q : Unit → Shared → Prop} (hT : s.heap.get? T = some (tupO vs)) (hn : vs.length ≤ 8)
    (h : ∀ h', h'.get? T = some (tupO (vs.set k x)) → Heap.SameBut T s.heap h' → Q () { s with heap := h' }) :
    wpAny (model prog w) A (updateSeq T (·.setIfInBounds k x)) Q E s := by
  have h8 : (8 : Nat) ≤ sizeLine := by decide
  refine wpAny_updateSeq hT rfl (h _ ?_ (Heap.SameBut.update ..)) (by simp; omega) (by simp; omega)
  rw [Heap.get?_update_self _ hT rfl]
  simp [Obj.mapSeq, tupO]
/-- the walk over the iterators, when each has an item: acc are what was put, rest what stood -/
theorem loop_item {β : Type} {b0 : β} {body : Value × Nat → β → Sem (ForInStep β)} {z TI TO : Addr} {k : Nat}
    (step : ∀ (it : Addr) (j : Nat) (vs : List Value) (s : Shared) (b : Bool) (l : Addr) (xs : Array Value) (x : Value) (Q : ForInStep β → Shared → Prop), Ist b s.heap it l k → Isq b s.heap l xs → xs[k]? = some x → it ≠ TO → s.heap.get? TO = some (tupO vs) → vs.length ≤ 8 →
      (∀ h', Ist b h' it l (k + 1) → h'.get? TO = some (tupO (vs.set j x)) → (∀ c o, c ≠ it → c ≠ TO → s.heap.get? c = some o → h'.get? c = some o) → h'.objs.size = s.heap.objs.size → Q (.yield b0) { s with heap := h' }) →
      wpAny (model prog w) A (body (.ref it, j) b0) Q E s)
    {L0 : List Sc} (D : Apart z TI TO L0) :
    ∀ (L : List Sc) (acc rest : List Value) (ys : List Value) (s : Shared) (Q : β → Shared → Prop), (∀ e ∈ L, e ∈ L0) → (L.map (·.it)).Nodup → acc.length + rest.length ≤ 8 → rest.length = L.length →
      s.heap.get? TO = some (tupO (acc ++ rest)) → (∀ e ∈ L, Ist e.b s.heap e.it e.l k ∧ Isq e.b s.heap e.l e.xs) → L.map (fun e => e.xs[k]?) = ys.map some →
      (∀ h', h'.get? TO = some (tupO (acc ++ ys)) → (∀ e ∈ L, Ist e.b h' e.it e.l (k + 1)) → (∀ c o, c ∉ L.map (·.it) → c ≠ TO → s.heap.get? c = some o → h'.get? c = some o) → h'.objs.size = s.heap.objs.size → Q b0 { s with heap := h' }) →
      wpAny (model prog w) A (forIn ((L.map fun e => Value.ref e.it).zipIdx acc.length) b0 body) Q E s
  | [], acc, rest, ys, s, Q, sub, nd, h8, hr, hTO, hL, hy, hQ => by
    have e1 : rest = [] := List.length_eq_zero_iff.mp hr
    have e2 : ys = [] := by simpa using hy.symm
    subst e1; subst e2
    simp only [List.map_nil, List.zipIdx_nil, List.forIn_nil]
    exact wpAny_pure (hQ s.heap hTO (fun e h => nomatch h) (fun c o _ _ h => h) rfl)
  | e :: L, acc, rest, ys, s, Q, sub, nd, h8, hr, hTO, hL, hy, hQ => by
    obtain ⟨y, ys, rfl⟩ : ∃ y ys', ys = y :: ys' := by
      cases ys with
      | nil => simp at hy
      | cons y ys => exact ⟨y, ys, rfl⟩
    obtain ⟨r, rest, rfl⟩ : ∃ y ys', rest = y :: ys' := by
      cases rest with
      | nil => simp at hr
      | cons y ys => exact ⟨y, ys, rfl⟩
    simp only [List.map_cons, List.cons.injEq] at hy
    simp only [List.map_cons, List.nodup_cons] at nd
    simp only [List.length_cons] at hr h8
    obtain ⟨De1, De2, De3⟩ := D.it e (sub e List.mem_cons_self)
    obtain ⟨he1, he2⟩ := hL e List.mem_cons_self
    simp only [List.map_cons, List.zipIdx_cons, List.forIn_cons]
    refine wpAny_bind (step e.it acc.length (acc ++ r :: rest) s e.b e.l e.xs y _ he1 he2 hy.1 De2 hTO (by simp; omega) fun h' h1 h2 h3 h4 => ?_)
    have hset : (acc ++ r :: rest).set acc.length y = (acc ++ [y]) ++ rest := by simp
    rw [hset] at h2
    have hlen : acc.length + 1 = (acc ++ [y]).length := by simp
    show wpAny _ _ (forIn _ b0 body) _ _ _
    rw [hlen]
    refine loop_item step D L (acc ++ [y]) rest ys { s with heap := h' } Q (fun f hf => sub f (List.mem_cons_of_mem _ hf)) nd.2 (by simp; omega) (by omega) h2 (fun f hf => ?_) hy.2 fun h'' g1 g2 g3 g4 => ?_
    · obtain ⟨Df1, Df2, _⟩ := D.it f (sub f (List.mem_cons_of_mem _ hf))
      obtain ⟨Ds1, Ds2, Ds3⟩ := D.src f (sub f (List.mem_cons_of_mem _ hf))
      obtain ⟨a, b⟩ := hL f (List.mem_cons_of_mem _ hf)
      have ne : f.it ≠ e.it := fun q => nd.1 (List.mem_map.mpr ⟨f, hf, q⟩)
      exact ⟨a.keep fun o ho => h3 _ o ne Df2 ho, b.keep fun o ho => h3 _ o (Ds3 e (sub e List.mem_cons_self)) Ds2 ho⟩
    · refine hQ h'' (by simpa using g1) (fun f hf => ?_) (fun c o hc hc2 ho => ?_) (g4.trans h4)
      · rcases List.mem_cons.mp hf with rfl | hf
        · exact h1.keep fun o ho => g3 _ o nd.1 De2 ho
        · exact g2 f hf
      · simp only [List.map_cons, List.mem_cons, not_or] at hc
        exact g3 c o hc.2 hc2 (h3 c o hc.1 hc2 ho)
/-- .. when one of them has none -/
theorem loop_end {β : Type} {b0 : β} {body : Value × Nat → β → Sem (ForInStep β)} {z TI TO : Addr} {k : Nat}
    (step : ∀ (it : Addr) (j : Nat) (vs : List Value) (s : Shared) (b : Bool) (l : Addr) (xs : Array Value) (x : Value) (Q : ForInStep β → Shared → Prop), Ist b s.heap it l k → Isq b s.heap l xs → xs[k]? = some x → it ≠ TO → s.heap.get? TO = some (tupO vs) → vs.length ≤ 8 →
      (∀ h', Ist b h' it l (k + 1) → h'.get? TO = some (tupO (vs.set j x)) → (∀ c o, c ≠ it → c ≠ TO → s.heap.get? c = some o → h'.get? c = some o) → h'.objs.size = s.heap.objs.size → Q (.yield b0) { s with heap := h' }) →
      wpAny (model prog w) A (body (.ref it, j) b0) Q E s)
    (stop : ∀ (it : Addr) (j : Nat) (s : Shared) (b : Bool) (l : Addr) (xs : Array Value) (f0 : Value) (Q : ForInStep β → Shared → Prop), Ist b s.heap it l k → Isq b s.heap l xs → xs[k]? = none → it ≠ z → IsZip s.heap z TI TO f0 →
      (∀ h' e, (∀ c o, c ≠ z → c ≠ it → s.heap.get? c = some o → h'.get? c = some o) → (∃ o, h'.get? e = some o ∧ o.cls = .type "StopIteration") → E (.ref e) { s with heap := h' }) →
      wpAny (model prog w) A (body (.ref it, j) b0) Q E s)
    {L0 : List Sc} (D : Apart z TI TO L0) :
    ∀ (L : List Sc) (acc rest : List Value) (s : Shared) (Q : β → Shared → Prop) (f0 : Value), (∀ e ∈ L, e ∈ L0) → (L.map (·.it)).Nodup → acc.length + rest.length ≤ 8 → rest.length = L.length →
      s.heap.get? TO = some (tupO (acc ++ rest)) → IsZip s.heap z TI TO f0 → (∀ e ∈ L, Ist e.b s.heap e.it e.l k ∧ Isq e.b s.heap e.l e.xs) → (∃ e ∈ L, e.xs[k]? = none) →
      (∀ h' e, (∀ c o, c ∉ L.map (·.it) → c ≠ TO → c ≠ z → s.heap.get? c = some o → h'.get? c = some o) → (∃ o, h'.get? e = some o ∧ o.cls = .type "StopIteration") → E (.ref e) { s with heap := h' }) →
      wpAny (model prog w) A (forIn ((L.map fun e => Value.ref e.it).zipIdx acc.length) b0 body) Q E s
  | [], acc, rest, s, Q, f0, sub, nd, h8, hr, hTO, hz, hL, hy, hE => by obtain ⟨e, he, _⟩ := hy; cases he
  | e :: L, acc, rest, s, Q, f0, sub, nd, h8, hr, hTO, hz, hL, hy, hE => by
    obtain ⟨r, rest, rfl⟩ : ∃ y ys', rest = y :: ys' := by
      cases rest with
      | nil => simp at hr
      | cons y ys => exact ⟨y, ys, rfl⟩
    simp only [List.map_cons, List.nodup_cons] at nd
    simp only [List.length_cons] at hr h8
    obtain ⟨De1, De2, De3⟩ := D.it e (sub e List.mem_cons_self)
    obtain ⟨he1, he2⟩ := hL e List.mem_cons_self
    simp only [List.map_cons, List.zipIdx_cons, List.forIn_cons]
    cases hx : e.xs[k]? with
    | none =>
      refine wpAny_bind (stop e.it acc.length s e.b e.l e.xs f0 _ he1 he2 hx De1 hz fun h' ex hk hex => hE h' ex (fun c o hc hc2 hc3 ho => ?_) hex)
      simp only [List.map_cons, List.mem_cons, not_or] at hc
      exact hk c o hc3 hc.1 ho
    | some y =>
      refine wpAny_bind (step e.it acc.length (acc ++ r :: rest) s e.b e.l e.xs y _ he1 he2 hx De2 hTO (by simp; omega) fun h' h1 h2 h3 h4 => ?_)
      have hset : (acc ++ r :: rest).set acc.length y = (acc ++ [y]) ++ rest := by simp
      rw [hset] at h2
      have hlen : acc.length + 1 = (acc ++ [y]).length := by simp
      show wpAny _ _ (forIn _ b0 body) _ _ _
      rw [hlen]
      refine loop_end step stop D L (acc ++ [y]) rest { s with heap := h' } Q f0 (fun f hf => sub f (List.mem_cons_of_mem _ hf)) nd.2 (by simp; omega) (by omega) h2 (h3 _ _ (Ne.symm De1) (Ne.symm D.TOz) hz) (fun f hf => ?_) ?_ fun h'' ex g1 g2 => ?_
      · obtain ⟨Df1, Df2, _⟩ := D.it f (sub f (List.mem_cons_of_mem _ hf))
        obtain ⟨Ds1, Ds2, Ds3⟩ := D.src f (sub f (List.mem_cons_of_mem _ hf))
        obtain ⟨a, b⟩ := hL f (List.mem_cons_of_mem _ hf)
        have ne : f.it ≠ e.it := fun q => nd.1 (List.mem_map.mpr ⟨f, hf, q⟩)
        exact ⟨a.keep fun o ho => h3 _ o ne Df2 ho, b.keep fun o ho => h3 _ o (Ds3 e (sub e List.mem_cons_self)) Ds2 ho⟩
      · obtain ⟨f, hf, hn⟩ := hy
        rcases List.mem_cons.mp hf with rfl | hf
        · rw [hx] at hn; cases hn
        · exact ⟨f, hf, hn⟩
      · refine hE h'' ex (fun c o hc hc2 hc3 ho => ?_) g2
        simp only [List.map_cons, List.mem_cons, not_or] at hc
        exact g1 c o hc.2 hc2 hc3 (h3 c o hc.1 hc2 ho)
theorem next_item {z TI TO : Addr} {L : List Sc} {k : Nat} {vs ys : List Value} {Q : Value → Shared → Prop} (D : Apart z TI TO L) (hn : L.length ≤ 8) (h0 : L ≠ [])
    (hz : IsZip s.heap z TI TO .none) (hTI : s.heap.get? TI = some (tupO (L.map fun e => .ref e.it))) (hTO : s.heap.get? TO = some (tupO vs)) (hv : vs.length = L.length)
    (hL : ∀ e ∈ L, Ist e.b s.heap e.it e.l k ∧ Isq e.b s.heap e.l e.xs) (hy : L.map (fun e => e.xs[k]?) = ys.map some)
    (hQ : ∀ h', IsZip h' z TI TO (rawInt s.heap.objs.size) → h'.get? TO = some (tupO ys) → (∀ e ∈ L, Ist e.b h' e.it e.l (k + 1)) → h'.get? s.heap.objs.size = some (tupO ys) → h'.objs.size = s.heap.objs.size + 1 →
      (∀ c o, c ≠ z → c ≠ TO → c ∉ L.map (·.it) → s.heap.get? c = some o → h'.get? c = some o) → Q (.ref s.heap.objs.size) { s with heap := h' }) :
    wpAny (model prog w) A (Builtin.«zip.__next__» ⟨[.ref z], []⟩) (fun fin s' => ∃ v, fin = .done (.ret v) ∧ Q v s') E s := by
  have lys : ys.length = L.length := by have := congrArg List.length hy; simpa using this.symm
  show wpAny _ _ (field (.ref z) 2 >>= _) _ _ _
  refine wpAny_bind (wpAny_field hz rfl (x := .bool false) rfl ?_)
  show wpAny _ _ (field (.ref z) 3 >>= _) _ _ _
  refine wpAny_bind (wpAny_field hz rfl (x := .ref TI) rfl ?_)
  refine wpAny_bind (wpAny_seqItems hTI rfl ?_)
  have ne : (L.map fun e => Value.ref e.it).toArray.isEmpty = false := by
    cases L with
    | nil => exact absurd rfl h0
    | cons e L => rfl
  show wpAny _ _ (if ((L.map fun e => Value.ref e.it).toArray.isEmpty) = true then _ else _) _ _ _
  rw [if_neg (by rw [ne]; exact Bool.false_ne_true)]
  show wpAny _ _ (Builtin.SmallTypes.ownedTupleIsFree (.ref z) >>= _) _ _ _
  refine wpAny_bind ?_
  unfold Builtin.SmallTypes.ownedTupleIsFree
  refine wpAny_bind (wpAny_field hz rfl (x := .none) rfl (wpAny_pure ?_))
  simp only [if_true]
  refine wpAny_bind (wpAny_rule ?_)
  refine wpAny_bind (wpAny_field hz rfl (x := .ref TO) rfl ?_)
  refine wpAny_bind (wpAny_setField_rec hz (by simp) fun h₁ hz₁ hs₁ => ?_)
  replace hz₁ : IsZip h₁ z TI TO .ellipsis := hz₁
  refine wpAny_bind ?_
  refine loop_item (z := z) (TI := TI) (TO := TO) (k := k) ?step D L [] vs ys { s with heap := h₁ } _ (fun e h => h) D.nd (by simp; omega) (by omega) (hs₁.extBut _ _ D.TOz hTO) (fun e he => ?_) hy fun h₅ hTO₅ hi₅ hk hsz5 => ?_
  case step =>
    intro it j us s b l xs x Q hit hl hx hne hT h8 hQ
    refine wpAny_bind (wpAny_onRaise ?_)
    show wpAny _ _ (Builtin.SmallTypes.nextOf (.ref it) >>= _) _ _ _
    refine wpAny_bind (nx_item hit hl hx fun h₂ h1₂ hs₂ => wpAny_pure ?_)
    have hT₂ : h₂.get? TO = some (tupO us) := hs₂.extBut _ _ hne.symm hT
    refine wpAny_bind (wpAny_seqItems hT₂ rfl ?_)
    refine wpAny_bind (upd_tup hT₂ h8 fun h₃ hT₃ hs₃ => ?_)
    refine wpAny_bind (wpAny_letGo (wpAny_pure ?_))
    exact hQ h₃ (h1₂.keep fun o ho => hs₃.extBut _ _ hne ho) hT₃ (fun c o c1 c2 ho => hs₃.extBut _ _ c2 (hs₂.extBut _ _ c1 ho)) (by rw [hs₃.1, hs₂.1])
  · obtain ⟨a, b⟩ := hL e he
    exact ⟨a.keep fun o ho => hs₁.extBut _ _ (D.it e he).1 ho, b.keep fun o ho => hs₁.extBut _ _ (D.src e he).1 ho⟩
  · simp only [List.nil_append] at hTO₅
    refine wpAny_bind (wpAny_seqItems hTO₅ rfl ?_)
    refine wpAny_bind (wpAny_newTuple ?_ (by have h8 : (8 : Nat) ≤ sizeLine := by decide
                                             simp; omega))
    have hsz : h₅.objs.size = s.heap.objs.size := by rw [hsz5, hs₁.1]
    have hz₅ : IsZip h₅ z TI TO .ellipsis := hk _ _ (fun hm => by obtain ⟨e, he, q⟩ := List.mem_map.mp hm; exact (D.it e he).1 q) (Ne.symm D.TOz) hz₁
    have hzlt : z < h₅.objs.size := Heap.lt_size hz₅
    show wpAny _ _ (Builtin.SmallTypes.ownedTupleHandOut (.ref z) (.ref h₅.objs.size) >>= _) _ _ _
    refine wpAny_bind ?_
    unfold Builtin.SmallTypes.ownedTupleHandOut
    have hz₆ : IsZip (h₅.push (tupO ys)) z TI TO .ellipsis := Heap.get?_push_of_some _ hz₅
    refine wpAny_bind (wpAny_setField_rec hz₆ (by simp) fun h₇ hz₇ hs₇ => ?_)
    replace hz₇ : IsZip h₇ z TI TO (rawInt h₅.objs.size) := hz₇
    refine wpAny_setField_rec hz₇ (by simp) fun h₈ hz₈ hs₈ => ?_
    replace hz₈ : IsZip h₈ z TI TO (rawInt h₅.objs.size) := hz₈
    have up : ∀ c o, c ≠ z → h₅.get? c = some o → h₈.get? c = some o := fun c o c1 e => hs₈.extBut _ _ c1 (hs₇.extBut _ _ c1 (Heap.get?_push_of_some _ e))
    have hT₈ : h₈.get? h₅.objs.size = some (tupO ys) := hs₈.extBut _ _ (Nat.ne_of_gt hzlt) (hs₇.extBut _ _ (Nat.ne_of_gt hzlt) (Heap.get?_push_size _ rfl))
    have hz8 : h₈.objs.size = h₅.objs.size + 1 := by rw [hs₈.1, hs₇.1, Heap.size_push]
    rw [hsz] at hz₈ hT₈ hz8
    refine wpAny_pure ⟨_, rfl, ?_⟩
    show Q (.ref h₅.objs.size) _
    rw [hsz]
    exact hQ h₈ hz₈ (up _ _ D.TOz hTO₅) (fun e he => (hi₅ e he).keep fun o ho => up _ o (D.it e he).1 ho) hT₈ hz8 fun c o c1 c2 c3 ho => up c o c1 (hk c o c3 c2 (hs₁.extBut _ _ c1 ho))
theorem next_end {z TI TO : Addr} {L : List Sc} {k : Nat} {vs : List Value} {Q : Fin → Shared → Prop} (hh : A.handled = none) (D : Apart z TI TO L) (hn : L.length ≤ 8)
    (hz : IsZip s.heap z TI TO .none) (hTI : s.heap.get? TI = some (tupO (L.map fun e => .ref e.it))) (hTO : s.heap.get? TO = some (tupO vs)) (hv : vs.length = L.length)
    (hL : ∀ e ∈ L, Ist e.b s.heap e.it e.l k ∧ Isq e.b s.heap e.l e.xs) (hy : ∃ e ∈ L, e.xs[k]? = none)
    (hE : ∀ h' e, (∀ c o, c ≠ z → c ≠ TO → c ∉ L.map (·.it) → s.heap.get? c = some o → h'.get? c = some o) → (∃ o, h'.get? e = some o ∧ o.cls = .type "StopIteration") → E (.ref e) { s with heap := h' }) :
    wpAny (model prog w) A (Builtin.«zip.__next__» ⟨[.ref z], []⟩) Q E s := by
  show wpAny _ _ (field (.ref z) 2 >>= _) _ _ _
  refine wpAny_bind (wpAny_field hz rfl (x := .bool false) rfl ?_)
  show wpAny _ _ (field (.ref z) 3 >>= _) _ _ _
  refine wpAny_bind (wpAny_field hz rfl (x := .ref TI) rfl ?_)
  refine wpAny_bind (wpAny_seqItems hTI rfl ?_)
  have ne : (L.map fun e => Value.ref e.it).toArray.isEmpty = false := by
    cases L with
    | nil => obtain ⟨e, he, _⟩ := hy; cases he
    | cons e L => rfl
  show wpAny _ _ (if ((L.map fun e => Value.ref e.it).toArray.isEmpty) = true then _ else _) _ _ _
  rw [if_neg (by rw [ne]; exact Bool.false_ne_true)]
  show wpAny _ _ (Builtin.SmallTypes.ownedTupleIsFree (.ref z) >>= _) _ _ _
  refine wpAny_bind ?_
  unfold Builtin.SmallTypes.ownedTupleIsFree
  refine wpAny_bind (wpAny_field hz rfl (x := .none) rfl (wpAny_pure ?_))
  simp only [if_true]
  refine wpAny_bind (wpAny_rule ?_)
  refine wpAny_bind (wpAny_field hz rfl (x := .ref TO) rfl ?_)
  refine wpAny_bind (wpAny_setField_rec hz (by simp) fun h₁ hz₁ hs₁ => ?_)
  replace hz₁ : IsZip h₁ z TI TO .ellipsis := hz₁
  refine wpAny_bind ?_
  refine loop_end (z := z) (TI := TI) (TO := TO) (k := k) ?step ?stop D L [] vs { s with heap := h₁ } _ .ellipsis (fun e h => h) D.nd (by simp; omega) (by omega) (hs₁.extBut _ _ D.TOz hTO) hz₁ (fun e he => ?_) hy fun h₅ ex hk hex => ?_
  case step =>
    intro it j us s b l xs x Q hit hl hx hne hT h8 hQ
    refine wpAny_bind (wpAny_onRaise ?_)
    show wpAny _ _ (Builtin.SmallTypes.nextOf (.ref it) >>= _) _ _ _
    refine wpAny_bind (nx_item hit hl hx fun h₂ h1₂ hs₂ => wpAny_pure ?_)
    have hT₂ : h₂.get? TO = some (tupO us) := hs₂.extBut _ _ hne.symm hT
    refine wpAny_bind (wpAny_seqItems hT₂ rfl ?_)
    refine wpAny_bind (upd_tup hT₂ h8 fun h₃ hT₃ hs₃ => ?_)
    refine wpAny_bind (wpAny_letGo (wpAny_pure ?_))
    exact hQ h₃ (h1₂.keep fun o ho => hs₃.extBut _ _ hne ho) hT₃ (fun c o c1 c2 ho => hs₃.extBut _ _ c2 (hs₂.extBut _ _ c1 ho)) (by rw [hs₃.1, hs₂.1])
  case stop =>
    intro it j s b l xs f0 Q hit hl hx hne hz hE
    refine wpAny_bind (wpAny_onRaise ?_)
    show wpAny _ _ (Builtin.SmallTypes.nextOf (.ref it) >>= _) _ _ _
    refine wpAny_bind (nx_end hh hit hl hx fun h₂ e hs₂ he => ?_)
    obtain ⟨oe, hoe, hce⟩ := he
    have hz₂ : IsZip h₂ z TI TO f0 := hs₂ _ _ hne.symm hz
    have hez : e ≠ z := fun x => by subst x; rw [hz₂] at hoe; cases hoe; simp at hce
    refine wpAny_setField_rec hz₂ (by simp) fun h₃ _ hs₃ => hE h₃ e (fun c o c1 c3 x => hs₃.extBut _ _ c1 (hs₂ _ _ c3 x)) ⟨oe, hs₃.extBut _ _ hez hoe, hce⟩
  · obtain ⟨a, b⟩ := hL e he
    exact ⟨a.keep fun o ho => hs₁.extBut _ _ (D.it e he).1 ho, b.keep fun o ho => hs₁.extBut _ _ (D.src e he).1 ho⟩
  · exact hE h₅ ex (fun c o c1 c2 c3 ho => hk c o c3 c2 c1 (hs₁.extBut _ _ c1 ho)) hex
theorem pyNext_item {z TI TO : Addr} {L : List Sc} {k : Nat} {vs ys : List Value} {Q : Option Value → Shared → Prop} (D : Apart z TI TO L) (hn : L.length ≤ 8) (h0 : L ≠ [])
    (hz : IsZip s.heap z TI TO .none) (hTI : s.heap.get? TI = some (tupO (L.map fun e => .ref e.it))) (hTO : s.heap.get? TO = some (tupO vs)) (hv : vs.length = L.length)
    (hL : ∀ e ∈ L, Ist e.b s.heap e.it e.l k ∧ Isq e.b s.heap e.l e.xs) (hy : L.map (fun e => e.xs[k]?) = ys.map some)
    (hQ : ∀ h', IsZip h' z TI TO (rawInt s.heap.objs.size) → h'.get? TO = some (tupO ys) → (∀ e ∈ L, Ist e.b h' e.it e.l (k + 1)) → h'.get? s.heap.objs.size = some (tupO ys) → h'.objs.size = s.heap.objs.size + 1 →
      (∀ c o, c ≠ z → c ≠ TO → c ∉ L.map (·.it) → s.heap.get? c = some o → h'.get? c = some o) → Q (some (.ref s.heap.objs.size)) { s with heap := h' }) :
    wpAny (model prog w) A (pyNext (.ref z)) Q E s := by
  have hT : s.TypeIs (.ref z) "zip" := ⟨_, hz, rfl⟩
  unfold pyNext
  exact wpAny_bind (wpAny_attempt (wpAny_callSpecial?_slot (name := Str.ofString "__next__") hT F.slot_zip_next
    (wpAny_call_entry F.slot_zip_next hT F.entry_zip_next
      (next_item D hn h0 hz hTI hTO hv hL hy fun h' a1 a2 a3 a5 a6 a7 => wpAny_pure (hQ h' a1 a2 a3 a5 a6 a7)) (F.args_zip_next_1 _))))
theorem pyNext_end {z TI TO : Addr} {L : List Sc} {k : Nat} {vs : List Value} {Q : Option Value → Shared → Prop} (hh : A.handled = none) (D : Apart z TI TO L) (hn : L.length ≤ 8)
    (hz : IsZip s.heap z TI TO .none) (hTI : s.heap.get? TI = some (tupO (L.map fun e => .ref e.it))) (hTO : s.heap.get? TO = some (tupO vs)) (hv : vs.length = L.length)
    (hL : ∀ e ∈ L, Ist e.b s.heap e.it e.l k ∧ Isq e.b s.heap e.l e.xs) (hy : ∃ e ∈ L, e.xs[k]? = none)
    (hQ : ∀ h', (∀ c o, c ≠ z → c ≠ TO → c ∉ L.map (·.it) → s.heap.get? c = some o → h'.get? c = some o) → Q none { s with heap := h' }) : wpAny (model prog w) A (pyNext (.ref z)) Q E s := by
  have hT : s.TypeIs (.ref z) "zip" := ⟨_, hz, rfl⟩
  unfold pyNext
  refine wpAny_bind (wpAny_attempt (wpAny_callSpecial?_slot (name := Str.ofString "__next__") hT F.slot_zip_next
    (wpAny_call_entry F.slot_zip_next hT F.entry_zip_next (next_end hh D hn hz hTI hTO hv hL hy fun h' e hk he => ?_) (F.args_zip_next_1 _))))
  obtain ⟨o, ho, hc⟩ := he
  refine wpAny_bind (wpAny_isInstance (T := "StopIteration") (b := true) ⟨o, ho, hc⟩ isSubtype_stop ?_)
  exact wpAny_pure (hQ _ hk)
end
end FH.Zp
end
section
set_option maxHeartbeats 1000000
/-! FHZ2: zip is called; its turns. -/
namespace FH.Zp
open PySem PySem.Spec PyProof.Rows L2
def itO (b : Bool) (l : Addr) : Obj := match b with
  | true => { cls := .type "list_iterator", data := .fields #[.ref l, .int 0 0] }
  | false => { cls := .type "tuple_iterator", data := .fields #[.ref l, .int 0 0] }
theorem itO_st {b : Bool} {h : Heap} {it l : Addr} (e : h.get? it = some (itO b l)) : Ist b h it l 0 := by
  cases b with
  | true => exact ⟨_, e, rfl, rfl⟩
  | false => exact ⟨_, e, rfl, rfl⟩
theorem Isq.push {b : Bool} {h : Heap} {l : Addr} {xs : Array Value} (x : Isq b h l xs) (o : Obj) : Isq b (h.push o) l xs := by
  cases b with
  | true => exact Heap.IsList.push x o
  | false => exact Heap.IsTuple.push x o
theorem typeCall_zip_3 (a b c : Value) : checkTypeCall "zip" ⟨[a, b, c], []⟩ = pure () := by kernel_rfl
theorem newCall_zip_3 (a b c : Value) : checkBuiltinCall "zip.__new__" ⟨[.type "zip", a, b, c], []⟩ = pure () := by kernel_rfl
theorem args_object_init_4 (a b c d : Value) : argsOk "object.__init__" ⟨[a, b, c, d], []⟩ := by
  unfold argsOk; rw [signature?_of (id := "object.__init__") (n := ['_', '_', 't', 'i', 'n', 'i', '_', '_']) (o := ['t', 'c', 'e', 'j', 'b', 'o']) (by kernel_rfl) F.owner_object]; kernel_rfl
section
variable {prog : Program} {w : World} {A : Around} {E : Value → Shared → Prop} {s : Shared}
theorem py_iter {b : Bool} {l : Addr} {xs : Array Value} {Q : Value → Shared → Prop} (hl : Isq b s.heap l xs) (hQ : Q (.ref s.heap.objs.size) { s with heap := s.heap.push (itO b l) }) :
    wpAny (model prog w) A (pyIter (.ref l)) Q E s := by
  cases b with
  | true => exact wpAny_pyIter_list hl hQ
  | false => exact wpAny_pyIter_tuple hl hQ
end
abbrev zipO (TI TO : Addr) : Obj := { cls := .type "zip", data := .fields #[.none, .bool false, .bool false, .ref TI, .ref TO] }
abbrev h2 (h : Heap) (b1 b2 : Bool) (l1 l2 : Addr) : Heap := (h.push (itO b1 l1)).push (itO b2 l2)
abbrev z2 (h : Heap) (b1 b2 : Bool) (l1 l2 : Addr) : Heap :=
  (((h2 h b1 b2 l1 l2).push (tupO [.ref h.objs.size, .ref (h.push (itO b1 l1)).objs.size])).push (tupO [.none, .none])).push (zipO (h2 h b1 b2 l1 l2).objs.size ((h2 h b1 b2 l1 l2).push (tupO [.ref h.objs.size, .ref (h.push (itO b1 l1)).objs.size])).objs.size)
theorem meets_2 (b1 b2 : Bool) (l1 l2 : Addr) (xs ys : Array Value) :
    Meets (Builtin.«zip.__new__» ⟨[.type "zip", .ref l1, .ref l2], []⟩) (fun _ R s => Isq b1 s.heap l1 xs ∧ Isq b2 s.heap l2 ys ∧
      R (.ok (.ret (.ref (((h2 s.heap b1 b2 l1 l2).push (tupO [.ref s.heap.objs.size, .ref (s.heap.push (itO b1 l1)).objs.size])).push (tupO [.none, .none])).objs.size))) { s with heap := z2 s.heap b1 b2 l1 l2 }) :=
  .of_wp fun prog w A R s h => by
    obtain ⟨hp, g, d, tk, os⟩ := s; obtain ⟨hl1, hl2, h⟩ := h
    have hsub := sub_zip
    have hL1 : Isq b1 (Shared.heap ⟨hp, g, d, tk, os⟩) l1 xs := hl1
    have hL2 : Isq b2 (Shared.heap ⟨hp.push (itO b1 l1), g, d, tk, os⟩) l2 ys := Isq.push hl2 _
    wp_walk using py_iter hL1, py_iter hL2
    exact ⟨_, rfl, h⟩
abbrev h3 (h : Heap) (b1 b2 b3 : Bool) (l1 l2 l3 : Addr) : Heap := (h2 h b1 b2 l1 l2).push (itO b3 l3)
abbrev t3 (h : Heap) (b1 b2 b3 : Bool) (l1 l2 l3 : Addr) : Heap := (h3 h b1 b2 b3 l1 l2 l3).push (tupO [.ref h.objs.size, .ref (h.push (itO b1 l1)).objs.size, .ref (h2 h b1 b2 l1 l2).objs.size])
abbrev z3 (h : Heap) (b1 b2 b3 : Bool) (l1 l2 l3 : Addr) : Heap :=
  ((t3 h b1 b2 b3 l1 l2 l3).push (tupO [.none, .none, .none])).push (zipO (h3 h b1 b2 b3 l1 l2 l3).objs.size (t3 h b1 b2 b3 l1 l2 l3).objs.size)
theorem meets_3 (b1 b2 b3 : Bool) (l1 l2 l3 : Addr) (xs ys zs : Array Value) :
    Meets (Builtin.«zip.__new__» ⟨[.type "zip", .ref l1, .ref l2, .ref l3], []⟩) (fun _ R s => Isq b1 s.heap l1 xs ∧ Isq b2 s.heap l2 ys ∧ Isq b3 s.heap l3 zs ∧
      R (.ok (.ret (.ref ((t3 s.heap b1 b2 b3 l1 l2 l3).push (tupO [.none, .none, .none])).objs.size))) { s with heap := z3 s.heap b1 b2 b3 l1 l2 l3 }) :=
  .of_wp fun prog w A R s h => by
    obtain ⟨hp, g, d, tk, os⟩ := s; obtain ⟨hl1, hl2, hl3, h⟩ := h
    have hsub := sub_zip
    have hL1 : Isq b1 (Shared.heap ⟨hp, g, d, tk, os⟩) l1 xs := hl1
    have hL2 : Isq b2 (Shared.heap ⟨hp.push (itO b1 l1), g, d, tk, os⟩) l2 ys := Isq.push hl2 _
    have hL3 : Isq b3 (Shared.heap ⟨(hp.push (itO b1 l1)).push (itO b2 l2), g, d, tk, os⟩) l3 zs := Isq.push (Isq.push hl3 _) _
    wp_walk using py_iter hL1, py_iter hL2, py_iter hL3
    exact ⟨_, rfl, h⟩
section
variable {prog : Program} {w : World} {A : Around} {E : Value → Shared → Prop} {s : Shared}
theorem get_size {h : Heap} {o : Obj} (f : ∀ v, o.data ≠ .cell v) : True := trivial
theorem call_2 {b1 b2 : Bool} {l1 l2 : Addr} {xs ys : Array Value} {Q : Value → Shared → Prop} (hl1 : Isq b1 s.heap l1 xs) (hl2 : Isq b2 s.heap l2 ys)
    (h : ∀ h', IsZip h' (s.heap.objs.size + 4) (s.heap.objs.size + 2) (s.heap.objs.size + 3) .none → h'.get? (s.heap.objs.size + 2) = some (tupO [.ref s.heap.objs.size, .ref (s.heap.objs.size + 1)]) →
      h'.get? (s.heap.objs.size + 3) = some (tupO [.none, .none]) → Ist b1 h' s.heap.objs.size l1 0 → Ist b2 h' (s.heap.objs.size + 1) l2 0 →
      (∀ c o, s.heap.get? c = some o → h'.get? c = some o) → Q (.ref (s.heap.objs.size + 4)) { s with heap := h' }) :
    wpAny (model prog w) A (call (.type "zip") [.ref l1, .ref l2]) Q E s := by
  refine callType_new F.called_zip (by decide) (F.typeCall_zip_2 _ _) (F.newCall_zip_2 _ _) (fun obj => F.args_object_init_3 obj _ _) F.entry_zip_new
    (meets_2 b1 b2 l1 l2 xs ys) ⟨hl1, hl2, ?_⟩
  have a1 : (s.heap.push (itO b1 l1)).objs.size = s.heap.objs.size + 1 := Heap.size_push ..
  have a2 : (h2 s.heap b1 b2 l1 l2).objs.size = s.heap.objs.size + 2 := by rw [Heap.size_push, a1]
  have i0 : ∀ b l, Obj.isFreed (itO b l) = false := fun b l => by cases b <;> rfl
  have a3 : ((h2 s.heap b1 b2 l1 l2).push (tupO [.ref s.heap.objs.size, .ref (s.heap.push (itO b1 l1)).objs.size])).objs.size = s.heap.objs.size + 3 := by rw [Heap.size_push, a2]
  have a4 : (((h2 s.heap b1 b2 l1 l2).push (tupO [.ref s.heap.objs.size, .ref (s.heap.push (itO b1 l1)).objs.size])).push (tupO [.none, .none])).objs.size = s.heap.objs.size + 4 := by rw [Heap.size_push, a3]
  have g5 : (z2 s.heap b1 b2 l1 l2).get? _ = some _ := Heap.get?_push_size _ rfl
  have g4 : (z2 s.heap b1 b2 l1 l2).get? _ = some _ := Heap.get?_push_of_some _ (Heap.get?_push_size _ rfl)
  have g3 : (z2 s.heap b1 b2 l1 l2).get? _ = some _ := Heap.get?_push_of_some _ (Heap.get?_push_of_some _ (Heap.get?_push_size _ rfl))
  have g2 : (z2 s.heap b1 b2 l1 l2).get? _ = some _ := Heap.get?_push_of_some _ (Heap.get?_push_of_some _ (Heap.get?_push_of_some _ (Heap.get?_push_size _ (i0 b2 l2))))
  have g1 : (z2 s.heap b1 b2 l1 l2).get? _ = some _ := Heap.get?_push_of_some _ (Heap.get?_push_of_some _ (Heap.get?_push_of_some _ (Heap.get?_push_of_some _ (Heap.get?_push_size _ (i0 b1 l1)))))
  show _ ∧ _
  rw [a2, a3, a4] at g5
  rw [a1, a2] at g3
  rw [a3] at g4
  rw [a1] at g2
  rw [a4]
  exact ⟨⟨_, g5, rfl⟩, h _ g5 g3 g4 (itO_st g1) (itO_st g2) fun c o x =>
    Heap.get?_push_of_some _ (Heap.get?_push_of_some _ (Heap.get?_push_of_some _ (Heap.get?_push_of_some _ (Heap.get?_push_of_some _ x))))⟩
theorem call_3 {b1 b2 b3 : Bool} {l1 l2 l3 : Addr} {xs ys zs : Array Value} {Q : Value → Shared → Prop} (hl1 : Isq b1 s.heap l1 xs) (hl2 : Isq b2 s.heap l2 ys) (hl3 : Isq b3 s.heap l3 zs)
    (h : ∀ h', IsZip h' (s.heap.objs.size + 5) (s.heap.objs.size + 3) (s.heap.objs.size + 4) .none → h'.get? (s.heap.objs.size + 3) = some (tupO [.ref s.heap.objs.size, .ref (s.heap.objs.size + 1), .ref (s.heap.objs.size + 2)]) →
      h'.get? (s.heap.objs.size + 4) = some (tupO [.none, .none, .none]) → Ist b1 h' s.heap.objs.size l1 0 → Ist b2 h' (s.heap.objs.size + 1) l2 0 → Ist b3 h' (s.heap.objs.size + 2) l3 0 →
      (∀ c o, s.heap.get? c = some o → h'.get? c = some o) → Q (.ref (s.heap.objs.size + 5)) { s with heap := h' }) :
    wpAny (model prog w) A (call (.type "zip") [.ref l1, .ref l2, .ref l3]) Q E s := by
  refine callType_new F.called_zip (by decide) (typeCall_zip_3 _ _ _) (newCall_zip_3 _ _ _) (fun obj => args_object_init_4 obj _ _ _) F.entry_zip_new
    (meets_3 b1 b2 b3 l1 l2 l3 xs ys zs) ⟨hl1, hl2, hl3, ?_⟩
  have a1 : (s.heap.push (itO b1 l1)).objs.size = s.heap.objs.size + 1 := Heap.size_push ..
  have a2 : (h2 s.heap b1 b2 l1 l2).objs.size = s.heap.objs.size + 2 := by rw [Heap.size_push, a1]
  have a3 : (h3 s.heap b1 b2 b3 l1 l2 l3).objs.size = s.heap.objs.size + 3 := by rw [Heap.size_push, a2]
  have i0 : ∀ b l, Obj.isFreed (itO b l) = false := fun b l => by cases b <;> rfl
  have a4 : (t3 s.heap b1 b2 b3 l1 l2 l3).objs.size = s.heap.objs.size + 4 := by rw [Heap.size_push, a3]
  have a5 : ((t3 s.heap b1 b2 b3 l1 l2 l3).push (tupO [.none, .none, .none])).objs.size = s.heap.objs.size + 5 := by rw [Heap.size_push, a4]
  have g6 : (z3 s.heap b1 b2 b3 l1 l2 l3).get? _ = some _ := Heap.get?_push_size _ rfl
  have g5 : (z3 s.heap b1 b2 b3 l1 l2 l3).get? _ = some _ := Heap.get?_push_of_some _ (Heap.get?_push_size _ rfl)
  have g4 : (z3 s.heap b1 b2 b3 l1 l2 l3).get? _ = some _ := Heap.get?_push_of_some _ (Heap.get?_push_of_some _ (Heap.get?_push_size _ rfl))
  have g3 : (z3 s.heap b1 b2 b3 l1 l2 l3).get? _ = some _ := Heap.get?_push_of_some _ (Heap.get?_push_of_some _ (Heap.get?_push_of_some _ (Heap.get?_push_size _ (i0 b3 l3))))
  have g2 : (z3 s.heap b1 b2 b3 l1 l2 l3).get? _ = some _ := Heap.get?_push_of_some _ (Heap.get?_push_of_some _ (Heap.get?_push_of_some _ (Heap.get?_push_of_some _ (Heap.get?_push_size _ (i0 b2 l2)))))
  have g1 : (z3 s.heap b1 b2 b3 l1 l2 l3).get? _ = some _ := Heap.get?_push_of_some _ (Heap.get?_push_of_some _ (Heap.get?_push_of_some _ (Heap.get?_push_of_some _ (Heap.get?_push_of_some _ (Heap.get?_push_size _ (i0 b1 l1))))))
  show _ ∧ _
  rw [a3, a4, a5] at g6
  rw [a1, a2, a3] at g4
  rw [a4] at g5
  rw [a2] at g3
  rw [a1] at g2
  rw [a5]
  exact ⟨⟨_, g6, rfl⟩, h _ g6 g4 g5 (itO_st g1) (itO_st g2) (itO_st g3) fun c o x =>
    Heap.get?_push_of_some _ (Heap.get?_push_of_some _ (Heap.get?_push_of_some _ (Heap.get?_push_of_some _ (Heap.get?_push_of_some _ (Heap.get?_push_of_some _ x)))))⟩
end
end FH.Zp
end
section
set_option maxHeartbeats 1000000
/-! FHZ3: walking a zip, as the hand layer has it. -/
namespace FH.Zp
open PySem PySem.Spec PyProof.Rows L2
/-- a list (true) or a tuple at a -/
def SqB (K : PySem.W.Frag) (H : Hp) (s : Bool × Addr) (xs : List V) : Prop := match s.1 with
  | true => SqL K H s.2 xs | false => SqT K H s.2 xs
abbrev SqBs (K : PySem.W.Frag) (H : Hp) : List (Bool × Addr) → List (List V) → Prop := Paired (SqB K H)
def ItzN (K : PySem.W.Frag) (S : List (Bool × Addr)) : It :=
  ⟨fun i H => ∃ (XS : List (List V)) (ys : List V), SqBs K H S XS ∧ XS.map (fun xs => xs[i]?) = ys.map some,
    fun i H v H' => ∃ (T : Addr) (ys : List V), v = .ref T ∧ H T = none ∧ H' = upd H T (.tup ys) ∧ ∀ XS, SqBs K H S XS → XS.map (fun xs => xs[i]?) = ys.map some,
    fun i H => ∃ XS : List (List V), SqBs K H S XS ∧ ∃ xs ∈ XS, xs[i]? = none⟩
section
variable {X : Cx} {pins : List (Addr × Obj)} {σ : L2.St} {H : Hp} {s : Shared}
theorem SqB.at_ (I : Inv X pins σ H s) {e : Bool × Addr} {xs : List V} (h : SqB X.K H e xs) : ∃ its : List Value, Vals xs its ∧ Isq e.1 s.heap e.2 its.toArray := by
  obtain ⟨b, a⟩ := e
  cases b with
  | true => obtain ⟨its, r, p, _⟩ := I.list h; exact ⟨its, r, p.isList⟩
  | false => obtain ⟨its, r, p, _⟩ := I.tuple h; exact ⟨its, r, p⟩
theorem SqB.inj (I : Inv X pins σ H s) {e : Bool × Addr} {xs ys : List V} (h : SqB X.K H e xs) (h' : SqB X.K H e ys) : xs = ys := by
  obtain ⟨b, a⟩ := e
  cases b with
  | true => exact I.list_inj h h'
  | false => exact I.tuple_inj h h'
theorem SqBs.inj (I : Inv X pins σ H s) : ∀ {S : List (Bool × Addr)} {XS YS : List (List V)}, SqBs X.K H S XS → SqBs X.K H S YS → XS = YS
  | _, _, _, .nil, .nil => rfl
  | _, _, _, .cons a b, .cons c d => by rw [SqB.inj I a c, SqBs.inj I b d]
/-- the iterators, with the items that they walk now -/
theorem SqBs.scs (I : Inv X pins σ H s) : ∀ {S : List (Bool × Addr)} {its : List Addr} {XS : List (List V)}, SqBs X.K H S XS → its.length = S.length →
    ∃ L : List Sc, L.map (fun e => (e.b, e.l)) = S ∧ L.map (·.it) = its ∧ (∀ e ∈ L, Isq e.b s.heap e.l e.xs) ∧ (∀ (i : Nat) (ys : List V), XS.map (fun xs => xs[i]?) = ys.map some → ∃ us : List Value, L.map (fun e => e.xs[i]?) = us.map some ∧ Vals ys us) ∧ ∀ i : Nat, (∃ xs ∈ XS, xs[i]? = none) → ∃ e ∈ L, e.xs[i]? = none
  | _, its, _, .nil, hl => by
    have : its = [] := List.length_eq_zero_iff.mp hl
    subst this
    refine ⟨[], rfl, rfl, fun e h => (nomatch h), fun i ys h => ?_, fun i h => ?_⟩
    · have : ys = [] := by simpa using h.symm
      subst this
      exact ⟨[], rfl, .nil⟩
    · obtain ⟨_, h, _⟩ := h; cases h
  | _, its, _, .cons (a := e) (b := xs) hx t, hl => by
    cases its with
    | nil => simp at hl
    | cons it its =>
      obtain ⟨u, r, q⟩ := SqB.at_ I hx
      obtain ⟨L, l1, l2, l3, l4, l5⟩ := SqBs.scs I t (its := its) (by simpa using hl)
      refine ⟨⟨e.1, it, e.2, u.toArray⟩ :: L, by simp [l1], by simp [l2], fun f hf => ?_, fun i ys h => ?_, fun i h => ?_⟩
      · rcases List.mem_cons.mp hf with rfl | hf
        · exact q
        · exact l3 f hf
      · cases ys with
        | nil => simp at h
        | cons y ys =>
          simp only [List.map_cons, List.cons.injEq] at h
          obtain ⟨w, hw, rw_⟩ := r.get h.1
          obtain ⟨us, m1, m2⟩ := l4 i ys h.2
          exact ⟨w :: us, by simp [hw, m1], .cons rw_ m2⟩
      · obtain ⟨zs, hz, hn⟩ := h
        rcases List.mem_cons.mp hz with rfl | hz
        · exact ⟨_, List.mem_cons_self, by have := Vals.none_of r hn; simpa using this⟩
        · obtain ⟨f, hf, hn⟩ := l5 i ⟨zs, hz, hn⟩
          exact ⟨f, List.mem_cons_of_mem _ hf, hn⟩
end
/-- what is kept of a zip from turn to turn -/
structure Zt (z TI TO : Addr) (its : List Addr) (S : List (Bool × Addr)) (i : Nat) (h : Heap) : Prop where
  z : IsZip h z TI TO .none
  ti : h.get? TI = some (tupO (its.map .ref))
  to : ∃ vs : List Value, vs.length = S.length ∧ h.get? TO = some (tupO vs)
  its : Paired (fun it e => Ist e.1 h it e.2 i) its S
structure Far (z TI TO : Addr) (its : List Addr) (S : List (Bool × Addr)) : Prop where
  TIz : TI ≠ z
  TOz : TO ≠ z
  TITO : TI ≠ TO
  it : ∀ e ∈ its, e ≠ z ∧ e ≠ TO ∧ TI ≠ e
  nd : its.Nodup
  src : ∀ e ∈ S, e.2 ≠ z ∧ e.2 ≠ TO ∧ ∀ f ∈ its, e.2 ≠ f
theorem Far.apart {z TI TO : Addr} {its : List Addr} {S : List (Bool × Addr)} (D : Far z TI TO its S) {L : List Sc} (h1 : L.map (fun e => (e.b, e.l)) = S) (h2 : L.map (·.it) = its) : Apart z TI TO L :=
  ⟨D.TIz, D.TOz, D.TITO, fun e he => D.it _ (by rw [← h2]; exact List.mem_map.mpr ⟨e, he, rfl⟩), by rw [h2]; exact D.nd, fun e he => by
    obtain ⟨a, b, c⟩ := D.src (e.b, e.l) (by rw [← h1]; exact List.mem_map.mpr ⟨e, he, rfl⟩)
    exact ⟨a, b, fun f hf => c f.it (by rw [← h2]; exact List.mem_map.mpr ⟨f, hf, rfl⟩)⟩⟩
theorem its_of {h : Heap} {i : Nat} : ∀ {L : List Sc} {its : List Addr} {S : List (Bool × Addr)}, L.map (fun e => (e.b, e.l)) = S → L.map (·.it) = its → Paired (fun it e => Ist e.1 h it e.2 i) its S → ∀ e ∈ L, Ist e.b h e.it e.l i
  | [], _, _, _, _, _ => fun e h => nomatch h
  | f :: L, _, _, rfl, rfl, .cons p t => fun e he => by
    rcases List.mem_cons.mp he with rfl | he
    · exact p
    · exact its_of rfl rfl t e he
theorem of_its {h : Heap} {i : Nat} : ∀ {L : List Sc}, (∀ e ∈ L, Ist e.b h e.it e.l i) → Paired (fun it (e : Bool × Addr) => Ist e.1 h it e.2 i) (L.map (·.it)) (L.map fun e => (e.b, e.l))
  | [], _ => .nil
  | f :: L, q => .cons (q f List.mem_cons_self) (of_its fun e he => q e (List.mem_cons_of_mem _ he))
theorem Paired.memL {α β : Type} {F : α → β → Prop} : ∀ {l : List α} {m : List β}, Paired F l m → ∀ a ∈ l, ∃ b ∈ m, F a b
  | _, _, .nil, _, h => nomatch h
  | _, _, .cons p t, a, h => by
    rcases List.mem_cons.mp h with rfl | h
    · exact ⟨_, List.mem_cons_self, p⟩
    · obtain ⟨b, hb, q⟩ := Paired.memL t a h; exact ⟨b, List.mem_cons_of_mem _ hb, q⟩
theorem Paired.keepI {h h' : Heap} {i : Nat} : ∀ {its : List Addr} {S : List (Bool × Addr)}, Paired (fun it (e : Bool × Addr) => Ist e.1 h it e.2 i) its S → (∀ it ∈ its, ∀ o, h.get? it = some o → h'.get? it = some o) → Paired (fun it (e : Bool × Addr) => Ist e.1 h' it e.2 i) its S
  | _, _, .nil, _ => .nil
  | _, _, .cons p t, k => .cons (p.keep (k _ List.mem_cons_self)) (Paired.keepI t fun it hit => k it (List.mem_cons_of_mem _ hit))
theorem turn_zipN {P : Program} {w : World} {K : PySem.W.Frag} {elts : List Expr} {kk : Nat} {tpos : Pos} {z TI TO : Addr} {its : List Addr} {S : List (Bool × Addr)} (D : Far z TI TO its S) (hl : its.length = S.length) (h8 : S.length ≤ 8) (h0 : S ≠ []) :
    Turn P w K (.Tuple elts kk tpos) (ItzN K S) (z :: TI :: TO :: its) z (Zt z TI TO its S) where
  mem := by simp
  obj := fun i h st c hc => by
    simp only [List.mem_cons] at hc
    rcases hc with rfl | rfl | rfl | hc
    · exact ⟨_, st.z, fun v q => nomatch q⟩
    · exact ⟨_, st.ti, fun v q => nomatch q⟩
    · obtain ⟨vs, _, e⟩ := st.to; exact ⟨_, e, fun v q => nomatch q⟩
    · obtain ⟨e, _, q⟩ := Paired.memL st.its c hc; exact q.obj
  keep := fun i h h' st k => by
    obtain ⟨vs, hv, e⟩ := st.to
    exact ⟨k z (by simp) _ st.z, k TI (by simp) _ st.ti, ⟨vs, hv, k TO (by simp) _ e⟩, Paired.keepI st.its fun it hit o q => k it (by simp [hit]) o q⟩
  item := by
    intro X hP hw hK hc i pins s σ H E I hf st hg
    subst hP hw hK
    obtain ⟨XS, ys, hX, hy⟩ := hg
    obtain ⟨L, l1, l2, l3, l4, _⟩ := SqBs.scs I hX hl
    obtain ⟨us, hu, rv⟩ := l4 i ys hy
    obtain ⟨vs, hv, hTO⟩ := st.to
    have lL : L.length = S.length := by rw [← l1]; simp
    have hzl : z < s.heap.objs.size := Heap.lt_size st.z
    have hL : ∀ e ∈ L, Ist e.b s.heap e.it e.l i ∧ Isq e.b s.heap e.l e.xs := fun e he => ⟨its_of l1 l2 st.its e he, l3 e he⟩
    have hTI : s.heap.get? TI = some (tupO (L.map fun e => .ref e.it)) := by
      have : L.map (fun e => Value.ref e.it) = its.map .ref := by rw [← l2, List.map_map]; rfl
      rw [this]; exact st.ti
    refine pyNext_item (D.apart l1 l2) (by omega) (fun q => h0 (by rw [← l1, q]; rfl)) st.z hTI hTO (by omega) hL hu fun h' z' TO' hi' hT hsz hk => ?_
    refine ⟨_, rfl, wpAny_letOwnedTupleGo_zip (s := { s with heap := h' }) z' fun h'' z'' sb => ?_⟩
    have hT2 : h''.get? s.heap.objs.size = some (tupO us) := (sb.2 _ (Nat.ne_of_gt hzl)).trans hT
    have lus : us.length = S.length := by have := congrArg List.length hu; simpa [lL] using this.symm
    have new : ObjOk X.prog X.w (upd H s.heap.objs.size (.tup ys)) h'' s.heap.objs.size (.tup ys) :=
      ⟨by have h8' : (8 : Nat) ≤ sizeLine := by decide
          have := rv.length; show ys.length ≤ sizeLine; omega, us, rv, ⟨_, hT2, rfl, _, rfl⟩⟩
    have nm : ∀ c, c ∈ L.map (·.it) → c ∈ its := fun c h => by rw [l2] at h; exact h
    have I1 : Inv X pins σ (upd H s.heap.objs.size (.tup ys)) { s with heap := h'' } :=
      I.turnedNew (t' := s.toks) (ch := z :: TI :: TO :: its) (fun c o hb q => by
        simp only [List.mem_cons, not_or] at hb
        exact (sb.2 c hb.1).trans (hk c o hb.1 hb.2.2.1 (fun q' => hb.2.2.2 (nm c q')) q)) hf (Nat.le_refl _) new
    have zits : ∀ it ∈ its, it ≠ z := fun it h => (D.it it h).1
    refine ⟨.ref s.heap.objs.size, _, I1, rfl, ⟨_, ys, rfl, I.hok.fresh (Nat.le_refl _), rfl, fun XS' h' => by rw [SqBs.inj I h' hX]; exact hy⟩, ⟨z'', ?_, ⟨us, lus, ?_⟩, ?_⟩, fun c hcm => ?_⟩
    · exact (sb.2 _ D.TIz).trans (hk _ _ D.TIz D.TITO (fun q => (D.it _ (nm _ q)).2.2 rfl) st.ti)
    · exact (sb.2 _ D.TOz).trans TO'
    · have := of_its (i := i + 1) (h := h') hi'
      rw [l1, l2] at this
      exact Paired.keepI this fun it hit o q => (sb.2 _ (zits it hit)).trans q
    · have hlt : c < s.heap.objs.size := by
        simp only [List.mem_cons] at hcm
        rcases hcm with rfl | rfl | rfl | q
        · exact hzl
        · exact Heap.lt_size st.ti
        · exact Heap.lt_size hTO
        · obtain ⟨e, _, q⟩ := Paired.memL st.its c q
          obtain ⟨o, ho, _⟩ := q.obj
          exact Heap.lt_size ho
      rw [upd_ne (Nat.ne_of_lt hlt)]
      exact (hf c hcm).1
  done := by
    intro X hP hw hK hc i pins s σ H E I hf st hg
    subst hP hw hK
    obtain ⟨XS, hX, hn⟩ := hg
    obtain ⟨L, l1, l2, l3, _, l5⟩ := SqBs.scs I hX hl
    obtain ⟨vs, hv, hTO⟩ := st.to
    have lL : L.length = S.length := by rw [← l1]; simp
    have hL : ∀ e ∈ L, Ist e.b s.heap e.it e.l i ∧ Isq e.b s.heap e.l e.xs := fun e he => ⟨its_of l1 l2 st.its e he, l3 e he⟩
    have hTI : s.heap.get? TI = some (tupO (L.map fun e => .ref e.it)) := by
      have : L.map (fun e => Value.ref e.it) = its.map .ref := by rw [← l2, List.map_map]; rfl
      rw [this]; exact st.ti
    exact pyNext_end (I.ok.hd hc) (D.apart l1 l2) (by omega) st.z hTI hTO (by omega) hL (l5 i hn) fun h' hk => ⟨rfl, I.turnedL (t' := s.toks) (ch := z :: TI :: TO :: its) (fun c o hb q => by
      simp only [List.mem_cons, not_or] at hb
      exact hk c o hb.1 hb.2.2.1 (fun q' => hb.2.2.2 (by rw [l2] at q'; exact q')) q) hf⟩
  self := fun A i s Q E st h => wpAny_pyIter_zip st.z h
/-- what is handed to zip: lists (true) and tuples -/
def iZipN (K : PySem.W.Frag) (ta : TA) : TI := fun σ H R => ta σ H fun vs H1 => ∃ (S : List (Bool × Addr)) (XS : List (List V)), vs = S.map (fun e => V.ref e.2) ∧ (S.length = 2 ∨ S.length = 3) ∧ SqBs K H1 S XS ∧ R (ItzN K S) H1
theorem pi_zipN {X : Cx} {e e2 : Expr} {es : List Expr} {ta : TA} {p pos tpos : Pos} {elts : List Expr} {kk : Nat} (hg : Gl X "zip") (hm : X.mg "zip" = none) (ha : PA X (e :: e2 :: es) ta)
    (hs : starEach (e :: e2 :: es) X.env = (false, eval e X.env) :: starEach (e2 :: es) X.env := by rfl) (hpl : (backTo pos (starEach (e2 :: es) X.env)).any (·.1) = false := by rfl) :
    PI X (.Tuple elts kk tpos) (.Call (.Name "zip" p) (e :: e2 :: es) [] pos) (iZipN X.K ta) := by
  refine ⟨fun pins s σ H R I h => ?_⟩
  refine Call_ (ld_blt I hg hm PyProof.Rows.boot_zip (PyProof.Rows.callWith_type1 (thn (ha.run pos pins s σ H _ I h) fun us s1 ⟨vs, H1, I1, r1, q1⟩ => ?_) hs hpl))
  obtain ⟨S, XS, rfl, hn, hX, q⟩ := q1
  have hlt : ∀ {e : Bool × Addr} {xs : List V}, SqB X.K H1 e xs → e.2 < s1.heap.objs.size := fun {e xs} h => by
    obtain ⟨its, _, q⟩ := SqB.at_ I1 h
    obtain ⟨b, a⟩ := e
    cases b with
    | true => obtain ⟨o, ho, _⟩ := q; exact Heap.lt_size ho
    | false => obtain ⟨o, ho, _⟩ := q; exact Heap.lt_size ho
  have fresh : ∀ c, s1.heap.objs.size ≤ c → FpOk X pins H1 c := fun c hle => I1.fpOk hle (I1.hok.fresh hle)
  rcases hn with hn | hn
  · match S, hn with
    | [a, b], _ =>
      cases hX with
      | cons ha' t =>
        cases t with
        | cons hb' t =>
          cases t
          cases r1 with
          | cons r rr =>
            cases rr with
            | cons r' rr =>
              cases rr
              cases r
              cases r'
              obtain ⟨i1, _, p1⟩ := SqB.at_ I1 ha'
              obtain ⟨i2, _, p2⟩ := SqB.at_ I1 hb'
              have la : @LT.lt Nat _ a.2 s1.heap.objs.size := hlt ha'
              have lb : @LT.lt Nat _ b.2 s1.heap.objs.size := hlt hb'
              refine call_2 p1 p2 fun h' hz hTI hTO h1 h2 hk => wpAny_pyIter_zip hz ?_
              have I2 : Inv X pins σ H1 { s1 with heap := h' } := I1.kept (t' := s1.toks) hk
              refine ⟨s1.heap.objs.size + 4, _, _, _, H1, rfl, I2, turn_zipN (TI := s1.heap.objs.size + 2) (TO := s1.heap.objs.size + 3) (its := [s1.heap.objs.size, s1.heap.objs.size + 1]) (S := [a, b]) ?_ rfl (by simp) (by simp), ⟨hz, hTI, ⟨_, rfl, hTO⟩, .cons h1 (.cons h2 .nil)⟩, fun c hc => fresh c ?_, q⟩
              · refine ⟨by show @Ne Nat _ _; omega, by show @Ne Nat _ _; omega, by show @Ne Nat _ _; omega, fun e he => ?_, by simp, fun e he => ?_⟩
                · simp only [List.mem_cons, List.not_mem_nil, or_false] at he
                  rcases he with rfl | rfl <;> (refine ⟨?_, ?_, ?_⟩ <;> (show @Ne Nat _ _; omega))
                · simp only [List.mem_cons, List.not_mem_nil, or_false] at he
                  rcases he with rfl | rfl <;> (refine ⟨by show @Ne Nat _ _; omega, by show @Ne Nat _ _; omega, fun f hf => ?_⟩; simp only [List.mem_cons, List.not_mem_nil, or_false] at hf; rcases hf with rfl | rfl <;> (show @Ne Nat _ _; omega))
              · simp only [List.mem_cons, List.not_mem_nil, or_false] at hc
                rcases hc with rfl | rfl | rfl | rfl | rfl <;> (show @LE.le Nat _ _ _; omega)
  · match S, hn with
    | [a, b, d], _ =>
      cases hX with
      | cons ha' t =>
        cases t with
        | cons hb' t =>
          cases t with
          | cons hd' t =>
            cases t
            cases r1 with
            | cons r rr =>
              cases rr with
              | cons r' rr =>
                cases rr with
                | cons r'' rr =>
                  cases rr
                  cases r
                  cases r'
                  cases r''
                  obtain ⟨i1, _, p1⟩ := SqB.at_ I1 ha'
                  obtain ⟨i2, _, p2⟩ := SqB.at_ I1 hb'
                  obtain ⟨i3, _, p3⟩ := SqB.at_ I1 hd'
                  have la : @LT.lt Nat _ a.2 s1.heap.objs.size := hlt ha'
                  have lb : @LT.lt Nat _ b.2 s1.heap.objs.size := hlt hb'
                  have ld : @LT.lt Nat _ d.2 s1.heap.objs.size := hlt hd'
                  refine call_3 p1 p2 p3 fun h' hz hTI hTO h1 h2 h3 hk => wpAny_pyIter_zip hz ?_
                  have I2 : Inv X pins σ H1 { s1 with heap := h' } := I1.kept (t' := s1.toks) hk
                  refine ⟨s1.heap.objs.size + 5, _, _, _, H1, rfl, I2, turn_zipN (TI := s1.heap.objs.size + 3) (TO := s1.heap.objs.size + 4) (its := [s1.heap.objs.size, s1.heap.objs.size + 1, s1.heap.objs.size + 2]) (S := [a, b, d]) ?_ rfl (by simp) (by simp), ⟨hz, hTI, ⟨_, rfl, hTO⟩, .cons h1 (.cons h2 (.cons h3 .nil))⟩, fun c hc => fresh c ?_, q⟩
                  · refine ⟨by show @Ne Nat _ _; omega, by show @Ne Nat _ _; omega, by show @Ne Nat _ _; omega, fun e he => ?_, by simp, fun e he => ?_⟩
                    · simp only [List.mem_cons, List.not_mem_nil, or_false] at he
                      rcases he with rfl | rfl | rfl <;> (refine ⟨?_, ?_, ?_⟩ <;> (show @Ne Nat _ _; omega))
                    · simp only [List.mem_cons, List.not_mem_nil, or_false] at he
                      rcases he with rfl | rfl | rfl <;> (refine ⟨by show @Ne Nat _ _; omega, by show @Ne Nat _ _; omega, fun f hf => ?_⟩; simp only [List.mem_cons, List.not_mem_nil, or_false] at hf; rcases hf with rfl | rfl | rfl <;> (show @Ne Nat _ _; omega))
                  · simp only [List.mem_cons, List.not_mem_nil, or_false] at hc
                    rcases hc with rfl | rfl | rfl | rfl | rfl | rfl <;> (show @LE.le Nat _ _ _; omega)
end FH.Zp
end
section
/-! FHI: sorting by insertion, that the kernel can follow; it is what mergeSort gives. -/
namespace FH
def ins {α : Type} (le : α → α → Bool) (x : α) : List α → List α
  | [] => [x]
  | y :: ys => if le x y then x :: y :: ys else y :: ins le x ys
def isort {α : Type} (le : α → α → Bool) : List α → List α
  | [] => []
  | x :: xs => ins le x (isort le xs)
theorem isrt_at {α : Type} {le : α → α → Bool} {a : α} : ∀ {l m : List α}, (∀ b ∈ l, le a b = false) → (∀ b ∈ m, le a b = true) → ins le a (l ++ m) = l ++ a :: m
  | [], [], _, _ => rfl
  | [], b :: m, _, h => by
    show (if le a b = true then a :: b :: m else b :: ins le a m) = _
    rw [if_pos (h b List.mem_cons_self)]; rfl
  | c :: l, m, h1, h2 => by
    show (if le a c = true then a :: c :: (l ++ m) else c :: ins le a (l ++ m)) = _
    rw [if_neg (by rw [h1 c List.mem_cons_self]; exact Bool.false_ne_true), isrt_at (fun b hb => h1 b (List.mem_cons_of_mem _ hb)) h2]; rfl
theorem ms_eq {α : Type} {le : α → α → Bool} (tr : ∀ a b c, le a b = true → le b c = true → le a c = true) (tot : ∀ a b, (le a b || le b a) = true) : ∀ xs : List α, xs.mergeSort le = isort le xs
  | [] => by simp [isort]
  | a :: l => by
    obtain ⟨l1, l2, e1, e2, h⟩ := List.mergeSort_cons tr tot a l
    have s := List.pairwise_mergeSort tr tot (a :: l)
    rw [e1] at s
    have s2 := (List.pairwise_append.mp s).2.1
    have s3 := (List.pairwise_cons.mp s2).1
    show _ = ins le a (isort le l)
    rw [← ms_eq tr tot l, e1, e2]
    exact (isrt_at (fun b hb => by have := h b hb; simpa using this) s3).symm
end FH
end
section
/-! FHS0: sorting tuples of which some are empty. -/
namespace FH
open PySem PySem.W PySem.Calls PyProof.Rows PySem.SeqAt
section
variable {prog : Program} {w : World} {A : Around} {E : Value → Shared → Prop} {s : Shared}
theorem call_tuple_lt {Q : Value → Shared → Prop} {l b : Addr} {items items2 : Array Value} {e r : Nat → Bool} (hl : s.heap.IsTuple l items) (hb : s.heap.IsTuple b items2)
    (he : ∀ j (h1 : j < items.size) (h2 : j < items2.size), EqAt A.in1 s items[j] items2[j] (e j)) (hr : ∀ j (h1 : j < items.size) (h2 : j < items2.size), e j = false → RcLt A.in1 s items[j] items2[j] (r j))
    (h : Q (.bool (firstLt e r (decide (items.size < items2.size)) (List.range (min items.size items2.size)))) s) : wpAny (model prog w) A (call (.builtin "tuple.__lt__") [.ref l, .ref b]) Q E s := by
  obtain ⟨⟨cls, dd, data, sl⟩, ho, hc, n, hd⟩ := id hl
  obtain ⟨⟨cls2, dd2, data2, sl2⟩, ho2, hc2, n2, hd2⟩ := id hb
  simp only at hc hd hc2 hd2
  subst hc hd hc2 hd2
  exact call_meets F.slot_tuple_lt ⟨_, ho, rfl⟩ F.entry_tuple_lt (F.args_tuple_lt_2 _ _) (tuple_ltAt l b items items2 n n2 dd dd2 sl sl2 e r) ⟨ho, ho2, he, hr, h⟩
theorem oneLt_tup {xs ys : List PyData} {a b : Value} {as bs : List Addr} {Q : Bool → Shared → Prop} (ra : Reads s.heap a (.tuple xs) as) (rb : Reads s.heap b (.tuple ys) bs) (h : alike (.tuple xs) (.tuple ys) = true)
    (hu : A.units + min (PyData.depth (.tuple xs)) (PyData.depth (.tuple ys)) < cLine) (hq : Q (dataLt (.tuple xs) (.tuple ys)) s) : wpAny (model prog w) A (oneLt' true a b) Q E s := by
  have hal : alikeAll xs ys = true := by simpa [alike] using h
  cases ra with
  | @tuple l o vs n _ as₁ h1 h2 h3 h4 =>
    cases rb with
    | @tuple l' o' vs' n' _ bs₁ k1 k2 k3 k4 =>
      have n1 : vs.size = xs.length := by simpa using SeqAt.ReadsAll.length _ _ _ h4
      have n2 : vs'.size = ys.length := by simpa using SeqAt.ReadsAll.length _ _ _ k4
      rw [dataLt_tuple, ← firstLt_toks xs ys hal, ← n1, ← n2] at hq
      rw [oneLt'_eq]
      simp only [if_true]
      refine wpAny_bind (wpAny_cRoomFor (room_here hu) ?_)
      refine wpAny_bind (wpAny_callSpecialIfBound?_slot (T := "tuple") ⟨_, h1, h2⟩ F.slot_tuple_lt (call_tuple_lt (e := pairEq xs ys) (r := fun j => dataLt (xs.getD j .none) (ys.getD j .none)) ⟨_, h1, h2, _, h3⟩ ⟨_, k1, k2, _, k3⟩ (fun j j1 j2 => ?_) (fun j j1 j2 hj => ?_) ?_))
      · have := eqAt_alikeAll xs ys A.in1 s vs.toList vs'.toList _ _ h4 k4 hal (room_in hu) j (by simpa using j1) (by simpa using j2)
        simpa using this
      · have := rcLt_alikeAll xs ys A.in1 s vs.toList vs'.toList _ _ h4 k4 hal (room_in hu) j (by simpa using j1) (by simpa using j2) hj
        simpa using this
      · exact wpAny_truthy_bool hq
def neB : PyData → Bool
  | .tuple (_ :: _) => true
  | _ => false
theorem tup_firsts {M : Model} : ∀ {vs : List Value} {ds : List PyData} {Q : List (Option Value) → Shared → Prop}, EachIs (fun v d => ∃ as, Reads s.heap v d as) vs ds → (∀ d ∈ ds, ∃ xs, d = .tuple xs) →
    (∀ os : List (Option Value), os.map Option.isSome = ds.map neB → Q os s) → wpAny M A (vs.mapM firstOfTuple') Q E s
  | _, _, Q, .nil, _, h => by rw [List.mapM_nil]; exact wpAny_pure (h [] rfl)
  | _, _, Q, .cons (a := v) (b := d) (as := vs) (bs := ds) ⟨as, r⟩ t, ht, h => by
    obtain ⟨xs, rfl⟩ := ht d List.mem_cons_self
    rw [List.mapM_cons]
    refine wpAny_bind ?_
    rw [kas_first_eq]
    cases r with
    | @tuple a o its n _ _ ho hc hd hr =>
      refine wpAny_bind (Looks.here (show Looks M s.heap (typeOf (.ref a)) o.cls from (Looks.ld ho).andThen .now) ?_)
      rw [hc, if_neg (by first | decide | simp)]
      refine wpAny_bind (listItems_at ho hd (wpAny_pure ?_))
      refine wpAny_bind (tup_firsts t (fun d hd => ht d (List.mem_cons_of_mem _ hd)) fun os hos => wpAny_pure (h _ ?_))
      rw [List.map_cons, List.map_cons, hos]
      congr 1
      cases xs with
      | nil =>
        have e : its.toList = [] := by
          generalize its.toList = l at hr
          cases hr; rfl
        have : its[0]? = none := by rw [← Array.getElem?_toList, e]; rfl
        rw [this]; rfl
      | cons x xs =>
        obtain ⟨f, fr, e⟩ : ∃ f fr, its.toList = f :: fr := by
          generalize its.toList = l at hr
          cases hr; exact ⟨_, _, rfl⟩
        have : its[0]? = some f := by rw [← Array.getElem?_toList, e]; rfl
        rw [this]; rfl
theorem kind_tups {M : Model} {vs : List Value} {ds : List PyData} {Q : SortKind → Shared → Prop} (e : EachIs (fun v d => ∃ as, Reads s.heap v d as) vs ds) (ht : ∀ d ∈ ds, ∃ xs, d = .tuple xs) (hne : ds.all neB = false)
    (h : Q (if (ds.head?.map neB) = some true then general' else oneType') s) : wpAny M A (keyKind' vs.toArray) Q E s := by
  rw [keyKind'_eq, List.mapM_toArray, map_eq_pure_bind]
  refine wpAny_bind (wpAny_bind (tup_firsts e ht fun os hos => wpAny_pure ?_))
  have h1 : (os.toArray.all fun x => x.isSome) = false := by
    rw [List.all_toArray]
    have q : (os.map Option.isSome).all id = (ds.map neB).all id := by rw [hos]
    rw [List.all_map, List.all_map] at q
    rw [← hne]
    exact q
  rw [if_neg (by rw [h1]; exact Bool.false_ne_true)]
  have h2 : ((os.toArray[0]?.bind id).isSome = true) ↔ (ds.head?.map neB) = some true := by
    cases os with
    | nil =>
      cases ds with
      | nil => simp
      | cons d ds => simp at hos
    | cons o os =>
      cases ds with
      | nil => simp at hos
      | cons d ds =>
        simp only [List.map_cons, List.cons.injEq] at hos
        simp [hos.1]
  by_cases c : (ds.head?.map neB) = some true
  · rw [if_pos c] at h
    rw [if_pos (h2.mpr c)]
    exact wpAny_pure h
  · rw [if_neg c] at h
    rw [if_neg (fun z => c (h2.mp z))]
    rw [oneTypeOnly'_eq, List.mapM_toArray, map_eq_pure_bind]
    have lk : ∀ v ∈ vs, Looks M s.heap (typeOf v) (.type "tuple") := fun v hv => by
      obtain ⟨d, hd, as, r⟩ := e.left v hv
      obtain ⟨xs, rfl⟩ := ht d hd
      exact looks_reads r
    refine wpAny_bind (wpAny_bind (wpAny_bind (kas_mapM (r := Value.type "tuple") _ (fun v hv Q' hq => (lk v hv).here hq) (wpAny_pure ?_))))
    have hall : ((List.map (fun _ => Value.type "tuple") vs).toArray.all fun x => x == Value.type "tuple") = true := by
      simp only [List.all_toArray, List.all_map, List.all_eq_true]
      intro _ _
      exact beq_self_eq_true _
    obtain ⟨v0, r0, rfl⟩ : ∃ v0 r0, vs = v0 :: r0 := by
      cases e with
      | nil => simp at hne
      | cons _ _ => exact ⟨_, _, rfl⟩
    have h0 : (List.map (fun _ => Value.type "tuple") (v0 :: r0)).toArray[0]? = some (Value.type "tuple") := by simp
    rw [h0]
    simp only [hall, if_true]
    exact wpAny_pure (wpAny_pure h)
/-- tuples, be they empty or not -/
theorem sorts_tups {vs : List Value} {ds : List PyData} (e : EachIs (fun v d => ∃ as, Reads s.heap v d as) vs ds) (hal : AllAlike ds) (ht : ∀ d ∈ ds, ∃ xs, d = .tuple xs) (hu : ∀ d, d ∈ ds → A.units + d.depth < cLine) : SortsAt prog w A s (dataKind s.heap ds) vs := by
  by_cases c : ds.all neB = true
  · refine SortsAt.data e hal (.inl fun d hd => ?_) hu
    have q := List.all_eq_true.mp c d hd
    obtain ⟨xs, rfl⟩ := ht d hd
    cases xs with
    | nil => exact absurd q Bool.false_ne_true
    | cons x r => exact ⟨x, r, rfl⟩
  · have c' : ds.all neB = false := by simpa using c
    have room : ∀ {d d' : PyData}, d ∈ ds → A.units + min d.depth d'.depth < cLine := fun {d d'} hd => Nat.lt_of_le_of_lt (Nat.add_le_add_left (Nat.min_le_left _ _) _) (hu d hd)
    refine ⟨fun v hv => ?_, if (ds.head?.map neB) = some true then general' else oneType', ?_, fun h2 E Q hq => kind_tups e ht c' hq⟩
    · obtain ⟨d, hd, as, r⟩ := e.left v hv
      exact ⟨_, dataKind_some hal hd r⟩
    · intro E x y a b Q ha hb hq
      obtain ⟨d, as, hd, ra, rfl⟩ := dataKind_inv ha
      obtain ⟨d', as', hd', rb, rfl⟩ := dataKind_inv hb
      obtain ⟨xs, rfl⟩ := ht d hd
      obtain ⟨ys, rfl⟩ := ht d' hd'
      split
      · show wpAny (model prog w) A (oneLt' false x y) Q E s
        exact oneLt_alike (fun z => nomatch z) ra rb (hal _ hd _ hd') (fun z => nomatch z) (room hd) hq
      · rw [keyLt'_oneType]
        exact oneLt_tup ra rb (hal _ hd _ hd') (room hd) hq
/-- sorted(xs) of tuples, be they empty or not -/
theorem sorted_dataT {β : Type} {vs : List Value} {bs : List β} {enc : β → PyData} {R : Value → β → Prop} {l : Addr} {Q : Value → Shared → Prop} (hl : s.heap.IsList l vs.toArray) (e : EachIs R vs bs) (er : EachIs (fun v b => ∃ as, Reads s.heap v (enc b) as) vs bs) (hal : AllAlike (bs.map enc)) (hk : ∀ d ∈ bs.map enc, ∃ xs, d = .tuple xs) (hL : bs.length ≤ sizeLine)
    (hu : ∀ b, b ∈ bs → A.units + 2 + (enc b).depth < cLine) (h : ∀ out, out.length = bs.length → EachIs R out (bs.mergeSort (dataLe false enc)) → Q (.ref (s.heap.objs.size + 1)) { s with heap := sortedAll s.heap vs (List.toArray out) }) :
    wpAny (model prog w) A (call (.builtin "sorted") [.ref l]) Q E s := by
  have er' : EachIs (fun v b => ∃ as, Reads (sortingHeap (copyHeap s.heap vs) (s.heap.objs.size + 1) vs) v (enc b) as) vs bs := er.mono fun _ _ ⟨as, r⟩ => ⟨as, PyProof.Rows.Reads.keeps (fun _ _ => sorting_copy_old) r⟩
  exact sorted_vals hl (sorts_tups (s := { s with heap := sortingHeap (copyHeap s.heap vs) (s.heap.objs.size + 1) vs }) (each_map (R := fun v d => ∃ as, Reads (sortingHeap (copyHeap s.heap vs) (s.heap.objs.size + 1) vs) v d as) enc er') hal hk (bound_map hu)) (by rw [e.length]; exact hL)
    (h _ (by rw [sortVals_length false rfl]; exact e.length) (sortVals_data false e er' hal))
end
end FH
end
section
/-! FHT: sorted(set([texts])). -/
namespace FH
open PySem PySem.Spec PyProof.Rows L2
def keyS (e : Int × Value) : Str := match e.2 with | .str k _ => k | _ => Str.empty
def GoodS (w : World) (e : Int × Value) : Prop := ∃ k tk, e.2 = Value.str k tk ∧ e.1 = hashStr w k
/-- the set of texts at a: L its members; its table rises and can be walked -/
def SetRS (w : World) (h : Heap) (a : Addr) (L : List Str) : Prop :=
  ∃ o es ep t, h.get? a = some o ∧ o.ExactSet ∧ o.data = .set es ep t ∧ (∀ e ∈ es.toList, GoodS w e) ∧ (es.toList.map keyS).Perm L ∧ L.Nodup ∧
    es.size < scanBound ∧ t.fits es.size = true ∧ Ris t.place.toList ∧ (w.params.followText "set-order" = true ∨ t.led = true)
def putS (L : List Str) (k : Str) : List Str := if k ∈ L then L else k :: L
theorem putS_le (L : List Str) (k : Str) : (putS L k).length ≤ L.length + 1 := by unfold putS; split <;> simp
def setS' (xs : List Str) : List Str := xs.foldl putS []
theorem setS_le : ∀ (xs L : List Str), (xs.foldl putS L).length ≤ L.length + xs.length
  | [], L => by simp
  | x :: xs, L => by
    have h := setS_le xs (putS L x)
    have h2 := putS_le L x
    simp only [List.foldl_cons, List.length_cons]
    omega
section
variable {P : Program} {w : World} {h h' : Heap} {a : Addr} {L : List Str}
theorem SetRS.at (R : SetRS w h a L) (k : ∀ o, h.get? a = some o → h'.get? a = some o) : SetRS w h' a L := by
  obtain ⟨o, es, ep, t, ho, r⟩ := R
  exact ⟨o, es, ep, t, k o ho, r⟩
theorem goodS_elems {l : List (Int × Value)} (g : ∀ e ∈ l, GoodS w e) : ElemsOf (strKind P w) l := fun e he => by
  obtain ⟨k, tk, h1, h2⟩ := g e he
  exact ⟨⟨k, by rw [h1]; exact strKind_is P w k tk, h2⟩, by rw [h1] <;> rfl⟩
theorem goodS_is {e : Int × Value} (g : GoodS w e) (k : Str) : (strKind P w).is k e.2 = true ↔ keyS e = k := by
  obtain ⟨k0, tk, h1, _⟩ := g
  unfold keyS
  rw [h1]
  exact ⟨fun z => (strKind P w).inj (.str k0 tk) k0 k (strKind_is P w k0 tk) z, fun z => z ▸ strKind_is P w k0 tk⟩
theorem goodS_mem {l : List (Int × Value)} (g : ∀ e ∈ l, GoodS w e) (k : Str) : k ∈ l.map keyS ↔ ∃ e ∈ l, (strKind P w).is k e.2 = true := by
  rw [List.mem_map]
  constructor
  · rintro ⟨e, he, q⟩
    exact ⟨e, he, (goodS_is (g e he) k).2 q⟩
  · rintro ⟨e, he, q⟩
    exact ⟨e, he, (goodS_is (g e he) k).1 q⟩
end
section
variable {P : Program} {w : World} {A : Around} {E : Value → Shared → Prop} {s : Shared} {a : Addr} {L : List Str}
theorem setRS_add_tail {g : Bool → Sem Unit} (hg : ∀ (b : Bool) (s₁ : Shared) (Q' : Unit → Shared → Prop), Q' () s₁ → wpAny (model P w) A (g b) Q' E s₁)
    {o : Obj} {es : Array (Int × Value)} {ep : Nat} {t : SetTable} (ho : s.heap.get? a = some o) (hex : o.ExactSet) (hd : o.data = .set es ep t)
    {es1 : Array (Int × Value)} {t2 : SetTable} {L' : List Str} (g1 : ∀ e ∈ es1.toList, GoodS w e) (p1 : (es1.toList.map keyS).Perm L') (nd1 : L'.Nodup)
    (hb1 : es1.size < scanBound) (hf2 : t2.fits es1.size = true) (hr : Ris t2.place.toList) (hl : w.params.followText "set-order" = true ∨ t2.led = true) {wasDummy : Bool} {R : Option Bool → Shared → Prop}
    (hR : ∀ h', Heap.SameBut a s.heap h' → SetRS w h' a L' → R (some true) { s with heap := h' }) :
    wpAny (model P w) A (do
        storeSet a es1 t2
        if (!wasDummy && t2.tooFull) = true then do
            g (relayAll t2 es1 (SetTable.grown es1.size)).2.2
            storeSet a (relayAll t2 es1 (SetTable.grown es1.size)).1 (relayAll t2 es1 (SetTable.grown es1.size)).2.1
            pure (some true)
          else pure (some true)) R E s := by
  refine wpAny_bind (wpAny_storeSet_of ho hd ?_ (fits_of_scanBound hb1))
  have ho1 := store_at (es' := es1) (t' := t2) ho hd
  have sb1 := Heap.SameBut.update s.heap a (Obj.putSet es1 t2)
  split
  · have pm := relayAll_perm t2 es1 (SetTable.grown es1.size)
    have hf3 := relayAll_fits t2 es1 (SetTable.grown es1.size)
    have hr3 := relayAll_ris t2 es1 (SetTable.grown es1.size)
    have hl3 := relayAll_led t2 es1 (SetTable.grown es1.size)
    generalize relayAll t2 es1 (SetTable.grown es1.size) = Z at pm hf3 hr3 hl3 ⊢
    obtain ⟨es2, t3, gave⟩ := Z
    dsimp only at pm hf3 hr3 hl3 ⊢
    have hsz : es2.size = es1.size := by rw [← Array.length_toList, pm.length_eq, Array.length_toList]
    have hb2 : es2.size < scanBound := by rw [hsz]; exact hb1
    refine wpAny_bind (hg _ _ _ ?_)
    refine wpAny_bind (wpAny_storeSet_of ho1 rfl ?_ (fits_of_scanBound hb2))
    have ho2 := store_at (es' := es2) (t' := t3) ho1 rfl
    refine wpAny_pure (hR _ (sb1.trans (Heap.SameBut.update _ a _)) ?_)
    exact ⟨_, es2, _, t3, ho2, hex, rfl, fun e he => g1 e (pm.mem_iff.mp he), (pm.map keyS).trans p1, nd1, hb2, hf3, hr3,
      hl.imp id fun z => by rw [hl3]; exact z⟩
  · exact wpAny_pure (hR _ sb1 ⟨_, es1, _, t2, ho1, hex, rfl, g1, p1, nd1, hb1, hf2, hr, hl⟩)

theorem setRS_add_hashed {k : Str} {tk : Tok} {Q : Bool → Shared → Prop} (R : SetRS w s.heap a L) (room : L.length + 1 < scanBound)
    (hQ : ∀ b h', Heap.SameBut a s.heap h' → SetRS w h' a (putS L k) → Q b { s with heap := h' }) :
    wpAny (model P w) A (setAddHashed a (.str k tk) ((strKind P w).hash k)) Q E s := by
  obtain ⟨o, es, ep, t, ho, hex, hd, g, pL, nd, hb, hf, hr, hl⟩ := R
  have hkey : (strKind P w).is k (.str k tk) = true := strKind_is P w k tk
  have hsc : (Value.str k tk).scannable = true := rfl
  have hel : ElemsOf (strKind P w) es.toList := goodS_elems g
  unfold setAddHashed setAddHashedIn
  refine wpAny_holding (wpAny_bind (wpAny_setState_of ho hd hf ?_))
  dsimp only
  rw [byScan_of hsc hb hel]
  simp only [↓reduceIte]
  unfold setAddByScan
  refine wpAny_bind ?_
  refine wpAny_bind (wpAny_rule ?_)
  refine wpAny_bind (wpAny_setScan_of hkey ho hd hf hel ?_)
  cases hfi : List.findIdx? (fun e => (strKind P w).is k e.2) es.toList with
  | some j =>
    dsimp only
    obtain ⟨hj, pj, _⟩ := List.findIdx?_eq_some_iff_getElem.mp hfi
    have hkL : k ∈ L := pL.mem_iff.mp ((goodS_mem (P := P) (w := w) g k).2 ⟨es.toList[j], List.getElem_mem hj, pj⟩)
    refine wpAny_pure (wpAny_pure ?_)
    refine hQ _ s.heap (Heap.SameBut.refl a s.heap) ⟨o, es, ep, t, ho, hex, hd, g, ?_, ?_, hb, hf, hr, hl⟩
    · unfold putS; rw [if_pos hkL]; exact pL
    · unfold putS; rw [if_pos hkL]; exact nd
  | none =>
    dsimp only
    have hnk : k ∉ es.toList.map keyS := fun z => by
      obtain ⟨e, he, q⟩ := (goodS_mem (P := P) (w := w) g k).1 z
      have c := List.findIdx?_eq_none_iff.mp hfi e he
      rw [q] at c
      cases c
    have hkL : k ∉ L := fun z => hnk (pL.mem_iff.mpr z)
    have hput : putS L k = k :: L := if_neg hkL
    have hgw : ∀ (b : Bool) {s₁ : Shared} {Q' : Unit → Shared → Prop}, Q' () s₁ → wpAny (model P w) A (match b with | true => rule "set.scan.the-table-gave-way" | false => pure ()) Q' E s₁ :=
      fun b s₁ Q' q => by cases b <;> first | exact wpAny_pure q | exact wpAny_rule q
    have pm := layNew_perm t es ((strKind P w).hash k) (.str k tk)
    have hf1 := layNew_fits t es ((strKind P w).hash k) (.str k tk)
    have hr1 := layNew_ris t es ((strKind P w).hash k) (.str k tk) hr
    have hl1 := layNew_led t es ((strKind P w).hash k) (.str k tk)
    generalize layNew t es ((strKind P w).hash k) (.str k tk) = Z at pm hf1 hr1 hl1 ⊢
    obtain ⟨es1, t1, wasDummy, gave⟩ := Z
    dsimp only at pm hf1 hr1 hl1 ⊢
    rw [Array.toList_push] at pm
    have pc : es1.toList.Perm (((strKind P w).hash k, Value.str k tk) :: es.toList) := pm.trans (List.perm_append_singleton _ _)
    have pk : (es1.toList.map keyS).Perm (k :: L) := (pc.map keyS).trans (pL.cons k)
    have g1 : ∀ e ∈ es1.toList, GoodS w e := fun e he => by
      rcases List.mem_cons.mp (pc.mem_iff.mp he) with z | z
      · rw [z]; exact ⟨k, tk, rfl, rfl⟩
      · exact g e z
    have nd1 : (k :: L).Nodup := List.nodup_cons.mpr ⟨hkL, nd⟩
    have hlen : es1.size = L.length + 1 := by
      rw [← Array.length_toList, ← List.length_map (f := keyS), pk.length_eq, List.length_cons]
    have hb1 : es1.size < scanBound := by rw [hlen]; exact room
    have hled : w.params.followText "set-order" = true ∨ t1.led = true := hl.imp id fun z => by rw [hl1]; exact z
    have fin : ∀ h', Heap.SameBut a s.heap h' → SetRS w h' a (k :: L) → Q true { s with heap := h' } := fun h' sb r => hQ true h' sb (by rw [hput]; exact r)
    refine wpAny_bind (hgw _ ?_)
    split
    · refine wpAny_bind ?_
      rw [hashByValue_scannable 8 hsc]
      refine wpAny_pure ?_
      refine setRS_add_tail ?_ ho hex hd g1 pk nd1 hb1 ?_ ?_ ?_ ?_
      · intro b s₁ Q' q; cases b <;> first | exact wpAny_pure q | exact wpAny_rule q
      · first | (split <;> first | exact hf1 | exact SetTable.fits_plain_off hf1) | exact hf1
      · first | (split <;> exact hr1) | exact hr1
      · first | (split <;> exact hled) | exact hled
      · intro h' sb r; dsimp only; exact wpAny_pure (fin h' sb r)
    · refine wpAny_bind (wpAny_pure ?_)
      simp only [↓reduceIte]
      refine setRS_add_tail ?_ ho hex hd g1 pk nd1 hb1 hf1 hr1 hled ?_
      · intro b s₁ Q' q; cases b <;> first | exact wpAny_pure q | exact wpAny_rule q
      · intro h' sb r; dsimp only; exact wpAny_pure (fin h' sb r)
end
section
variable {prog : Program} {w : World} {A : Around} {R : Result → Shared → Prop} {I : Addr} {fp wr : List Addr} {G : Array GenState → Array GenState → Prop} {n : Nat} {P : Nat → Value → Prop} {St : Nat → Shared → Prop}
theorem loopSetS (W : WalksS prog w A.in1 I fp wr G n P St) (S : Addr) (hSf : S ∉ fp) (xs : List Str) (hsz : xs.length = n)
    (hval : ∀ i v, P i v → ∃ t, v = .str (xs.getD i Str.empty) t) :
    ∀ (k i : Nat) (L : List Str) (s : Shared), n - i = k → i ≤ n → St i s → SetRS w s.heap S L → L.length + (n - i) + 1 < scanBound →
      (∀ s', Moved (S :: wr) G s s' → SetRS w s'.heap S ((xs.drop i).foldl putS L) → R (.ok (.ret .none)) s') →
      codeAny (model prog w) A (.builtin "set.update.loop" ⟨[.ref S, .ref I], []⟩) R s := by
  have hSw : S ∉ wr := fun h => hSf (W.sub _ h)
  have hsub : ∀ b ∈ wr, b ∈ S :: wr := fun b hb => List.mem_cons_of_mem _ hb
  intro k
  induction k with
  | zero =>
    intro i L s hk hi hst hS hb hR
    have hin : i = n := by omega
    subst hin
    refine codeAny_builtin PyProof.Rows.F.entry_set_update_loop ?_
    rw [Around.under_plainId PyProof.Rows.F.plain_set_update_loop _]
    show wpAny _ A.in1 (pyNext (.ref I) >>= _) _ _ s
    refine wpAny_bind (W.done s _ _ hst fun s' hm => ?_)
    show wpAny _ A.in1 (ret Value.none) _ _ s'
    refine wpAny_pure (hR s' (hm.mono hsub) ?_)
    rw [← hsz, List.drop_length]
    exact hS.at fun o ho => hm.heap S o hSw ho
  | succ k ih =>
    intro i L s hk hi hst hS hb hR
    have hlt : i < n := by omega
    refine codeAny_builtin PyProof.Rows.F.entry_set_update_loop ?_
    rw [Around.under_plainId PyProof.Rows.F.plain_set_update_loop _]
    show wpAny _ A.in1 (pyNext (.ref I) >>= _) _ _ s
    refine wpAny_bind (W.item i s _ _ hlt hst fun v s' hP hst' hm => ?_)
    obtain ⟨t, rfl⟩ := hval i v hP
    have hS' : SetRS w s'.heap S L := hS.at fun o ho => hm.heap S o hSw ho
    show wpAny _ A.in1 (holding [Value.str (xs.getD i Str.empty) t] (setAdd S (.str (xs.getD i Str.empty) t)) >>= _) _ _ s'
    refine wpAny_bind (wpAny_holding ?_)
    unfold setAdd
    refine wpAny_holding ?_
    refine wpAny_bind ((PySem.strKind prog w).pyHash (k := xs.getD i Str.empty) (strKind_is _ _ _ _) ?_)
    refine setRS_add_hashed (P := prog) (s := { s' with toks := s'.toks + 1 }) hS' (by omega) fun b h' hsb hS2 => ?_
    have hput := putS_le L (xs.getD i Str.empty)
    refine wpAny_pure ⟨plainId_quiet PyProof.Rows.F.plain_set_update_loop _, ih (i + 1) _ _ (by omega) hlt (W.frame _ s' _ _ hst' (Nat.le_succ _) fun b hb o e => ?_) hS2 (by omega) fun s'' hm'' hS'' => ?_⟩
    · rw [hsb.2 b (fun h : b = S => hSf (by rw [← h]; exact hb))]; exact e
    · refine hR s'' (Moved.trans W.gtrans ((hm.mono hsub).then_heap (Nat.le_succ _) fun b o hb e => ?_) hm'') ?_
      · rw [hsb.2 b (fun h : b = S => hb (by rw [h]; exact List.mem_cons_self))]; exact e
      · have hl : i < xs.length := by omega
        have e : xs.drop i = xs.getD i Str.empty :: xs.drop (i + 1) := by
          rw [List.drop_eq_getElem_cons hl]
          simp [List.getD, hl]
        rw [e]
        exact hS''
end
section
variable {prog : Program} {w : World} {A : Around} {E : Value → Shared → Prop} {s : Shared}
set_option maxHeartbeats 3200000 in
theorem call_set_strs {l : Addr} {items : Array Value} {xs : List Str} {Q : Value → Shared → Prop}
    (hh : A.handled = none) (hl : s.heap.IsList l items) (hi : PyProof.Rows.StrsAre items.toList xs) (hb : xs.length + 1 < scanBound)
    (h : ∀ (h' : Heap) (tk : Nat), SetRS w h' s.heap.objs.size (setS' xs) → (∀ b o, s.heap.get? b = some o → h'.get? b = some o) → Q (.ref s.heap.objs.size) { s with heap := h', toks := tk }) :
    wpAny (model prog w) A (call (.type "set") [.ref l]) Q E s := by
  obtain ⟨c, tl, hmro⟩ := PySem.F.called_set.mro
  have hmade := PySem.F.called_set.made
  have hsub := PySem.F.called_set.sub
  refine wpAny_call (codeAny_of_tree ?_)
  show wpAny _ _ (callAny (.type "set") _) _ _ _
  refine wpAny_pure ⟨Code.quiet_builtin _ (by decide +kernel), codeAny_builtin PySem.F.entry_type_call ?_⟩
  rw [Around.under_plain (weight_type_call_type "set" [.ref l] []) rfl]
  have h1 := PySem.F.called_set.notType
  have h2 := PySem.F.called_set.canCreate
  have hct := PySem.F.typeCall_set_1 (.ref l)
  repeat (any_goals (first | assumption | wp_step))

  refine codeAny_mono (code_set_led1 (.ref l) (E := E) (Q₁ := fun obj s₁ => obj = .ref s.heap.objs.size ∧ s₁ = { s with heap := s.heap.push { cls := .type "set", dict := none, data := .set #[] 0 (.fresh 0 0 (!w.params.followText "set-order")) } }) ⟨rfl, rfl⟩) fun r s₁ hr => ?_
  cases r with
  | error e => exact hr
  | ok fl =>
    cases fl with
    | ret obj =>
      obtain ⟨rfl, rfl⟩ := hr
      have hS : (s.heap.push { cls := .type "set", dict := none, data := .set #[] 0 (.fresh 0 0 (!w.params.followText "set-order")) }).get? s.heap.objs.size = some { cls := .type "set", dict := none, data := .set #[] 0 (.fresh 0 0 (!w.params.followText "set-order")) } := Heap.get?_push_size _ rfl
      have hT : Shared.TypeIs { s with heap := s.heap.push { cls := .type "set", dict := none, data := .set #[] 0 (.fresh 0 0 (!w.params.followText "set-order")) } } (.ref s.heap.objs.size) "set" := ⟨_, hS, rfl⟩
      have hli := PySem.F.called_set.init.lookup
      have hbi := PySem.F.called_set.init.bind (.ref s.heap.objs.size)
      repeat (any_goals (first | assumption | wp_step))

      refine codeAny_mono (codeAny_call_builtin (R := wants (fun r s₂ => r = .none ∧ ∃ h' tk, s₂ = { s with heap := h', toks := tk } ∧ SetRS w h' s.heap.objs.size (setS' xs) ∧
          (∀ b o, s.heap.get? b = some o → h'.get? b = some o)) E) PySem.F.called_set.init.plain PySem.F.entry_set_init (check_set_init_1 hT ?_)) fun r₂ s₂ hr₂ => ?_
      · obtain ⟨ol, hol, hcl, nl, hdl⟩ := hl
        obtain ⟨ocls, odict, odata, oslots⟩ := ol
        simp only at hcl hdl
        subst hcl; subst hdl
        have hol' : (s.heap.push { cls := .type "set", dict := none, data := .set #[] 0 (.fresh 0 0 (!w.params.followText "set-order")) }).get? l = some { cls := .type "list", dict := odict, data := .seq items nl, slots := oslots } := Heap.get?_push_of_some _ hol
        have hsls := PySem.F.sub_list_set
        have hslf := PySem.F.sub_list_frozenset
        have hne : (Value.type "list" == Value.type "dict") = false := by decide
        have hl1 : (s.heap.push { cls := .type "set", dict := none, data := .set #[] 0 (.fresh 0 0 (!w.params.followText "set-order")) }).IsList l items := ⟨_, hol', rfl, nl, rfl⟩
        unfold Builtin.«set.__init__» noKeywords Builtin.Frozenset.updateFrom
        generalize hPI : pyIter = PI
        wp_walk
        subst hPI

        refine wpAny_pyIter_list hl1 ?_
        refine wpAny_bind (wpAny_runValue ?_)
        have hlS : l < s.heap.objs.size := Heap.lt_size hol
        have hh3 : A.in1.in1.in1.handled = none := by simp [hh]
        have hneI : l ≠ (s.heap.push { cls := .type "set", dict := none, data := .set #[] 0 (.fresh 0 0 (!w.params.followText "set-order")) }).objs.size := by
          rw [Heap.size_push]; exact Nat.ne_of_lt (Nat.lt_succ_of_lt hlS)
        have hSf : s.heap.objs.size ∉ [(s.heap.push { cls := .type "set", dict := none, data := .set #[] 0 (.fresh 0 0 (!w.params.followText "set-order")) }).objs.size, l] := by
          rw [Heap.size_push]; simp only [List.mem_cons, List.mem_singleton, List.not_mem_nil, or_false, not_or]
          exact ⟨Nat.ne_of_lt (Nat.lt_succ_self _), Nat.ne_of_gt hlS⟩
        have hsz : xs.length = items.size := by rw [← StrsAre.len_eq hi, Array.length_toList]
        have hval : ∀ (i : Nat) (v : Value), items[i]? = some v → ∃ t, v = .str (xs.getD i Str.empty) t := fun i v hv => SS.strs_at hi i v (by rw [Array.getElem?_toList]; exact hv)
        refine loopSetS ((Walks.list hh3 _ l hneI items).toS) s.heap.objs.size
          hSf xs hsz hval (items.size - 0) 0 [] _ (by omega) (Nat.zero_le _)
          ⟨⟨_, Heap.get?_push_size _ rfl, rfl, rfl⟩, (hl1.push _)⟩ ?hS0 (by rw [← hsz]; simpa using hb) ?hR
        case hS0 =>
          have hget : ((s.heap.push { cls := .type "set", dict := none, data := .set #[] 0 (.fresh 0 0 (!w.params.followText "set-order")) }).push { cls := .type "list_iterator", data := .fields #[.ref l, .int 0 0] }).get? s.heap.objs.size
              = some { cls := .type "set", dict := none, data := .set #[] 0 (.fresh 0 0 (!w.params.followText "set-order")) } := Heap.get?_push_of_some _ hS
          exact ⟨_, #[], 0, _, hget, ⟨rfl, rfl, rfl⟩, rfl, (fun e he => by simp at he), .nil, List.nodup_nil, (by decide), (by rfl), List.Pairwise.nil, by
            show _ ∨ (!w.params.followText "set-order") = true
            cases w.params.followText "set-order"
            · exact .inr rfl
            · exact .inl rfl⟩
        case hR =>
          intro s' hm hS'
          obtain ⟨h', g', d', tk', os'⟩ := s'
          have eg : g' = s.gens := hm.gens
          have ed : d' = s.drawn := hm.drawn
          have eo : os' = s.os := hm.os
          subst eg; subst ed; subst eo
          show wpAny _ _ _ _ _ _
          refine wpAny_pure ?_
          show wpAny _ _ (ret Value.none) _ _ _
          refine wpAny_pure ⟨rfl, h', tk', rfl, hS', fun b o e => ?_⟩
          have hb : b < s.heap.objs.size := Heap.lt_size e
          have hb1 : b ≠ s.heap.objs.size := Nat.ne_of_lt hb
          have hb2 : b ≠ (s.heap.push { cls := .type "set", dict := none, data := .set #[] 0 (.fresh 0 0 (!w.params.followText "set-order")) }).objs.size := by
            rw [Heap.size_push]; exact Nat.ne_of_lt (Nat.lt_succ_of_lt hb)
          exact hm.heap b o (by simp only [List.mem_cons, List.mem_singleton, List.not_mem_nil, or_false, not_or]; exact ⟨hb1, hb2⟩) (Heap.get?_push_of_some _ (Heap.get?_push_of_some _ e))

      · cases r₂ with
        | error e => exact hr₂
        | ok fl₂ =>
          cases fl₂ with
          | ret r =>
            obtain ⟨rfl, h', tk, rfl, hS', hk'⟩ := hr₂
            repeat (any_goals (first | assumption | wp_step))
            exact h _ _ hS' hk'
          | _ => exact hr₂.elim
    | _ => exact hr.elim
/-! sorted -/
def leS (a b : Str) : Bool := !decide (b.cps.toList < a.cps.toList)
theorem leS_eq (a b : Str) : leS a b = !decide (b.cps.toList < a.cps.toList) := rfl
theorem leS_data : PySem.W.dataLe false PyData.str = leS := by
  funext a b
  show (!PySem.W.dataLt (.str b) (.str a)) = _
  rw [PySem.W.dataLt_str]; rfl
def sortS (xs : List Str) : List Str := isort leS (setS' xs)
theorem leS_trans (a b c : Str) (h1 : leS a b = true) (h2 : leS b c = true) : leS a c = true := by
  rw [leS_eq] at *
  simp only [Bool.not_eq_true', decide_eq_false_iff_not] at *
  intro h
  exact h1 (List.lt_of_le_of_lt (List.not_lt.mp h2) h)
theorem leS_total (a b : Str) : (leS a b || leS b a) = true := by
  rw [leS_eq, leS_eq]
  by_cases h : b.cps.toList < a.cps.toList
  · have : ¬ a.cps.toList < b.cps.toList := List.lt_asymm h
    simp [h, this]
  · simp [h]
theorem leS_anti (a b : Str) (h1 : leS a b = true) (h2 : leS b a = true) : a = b := by
  rw [leS_eq] at *
  simp only [Bool.not_eq_true', decide_eq_false_iff_not] at *
  have e : a.cps.toList = b.cps.toList := List.le_antisymm h1 h2
  cases a; cases b
  simp at e
  exact congrArg Str.mk e
theorem sortS_ms (xs : List Str) : sortS xs = (setS' xs).mergeSort leS := (ms_eq leS_trans leS_total _).symm
theorem sort_perm {xs ys : List Str} (p : xs.Perm ys) : xs.mergeSort leS = ys.mergeSort leS := by
  refine List.Perm.eq_of_pairwise (le := fun a b => leS a b = true) (fun a b _ _ => leS_anti a b) ?_ ?_ ((List.mergeSort_perm _ _).trans (p.trans (List.mergeSort_perm _ _).symm))
  · exact List.pairwise_mergeSort leS_trans leS_total _
  · exact List.pairwise_mergeSort leS_trans leS_total _
theorem each_strs : ∀ {vs : List Value}, (∀ v ∈ vs, ∃ k tk, v = Value.str k tk) → ∃ ks : List Str, PySem.W.EachIs (fun v k => ∃ tk, v = Value.str k tk) vs ks
  | [], _ => ⟨[], .nil⟩
  | v :: vs, h => by
    obtain ⟨k, tk, e⟩ := h v List.mem_cons_self
    obtain ⟨ks, r⟩ := each_strs fun u hu => h u (List.mem_cons_of_mem _ hu)
    exact ⟨k :: ks, .cons ⟨tk, e⟩ r⟩
def vkey (v : Value) : Str := match v with | .str k _ => k | _ => Str.empty
theorem each_vkey : ∀ {vs : List Value} {ks : List Str}, PySem.W.EachIs (fun v k => ∃ tk, v = Value.str k tk) vs ks → ks = vs.map vkey
  | _, _, .nil => rfl
  | _, _, .cons ⟨tk, e⟩ t => by rw [each_vkey t, e]; rfl
theorem each_strs_are : ∀ {vs : List Value} {ks : List Str}, PySem.W.EachIs (fun v k => ∃ tk, v = Value.str k tk) vs ks → Vals (ks.map V.str) vs
  | _, _, .nil => .nil
  | _, _, .cons h t => .cons h (each_strs_are t)
theorem sorted_setS {a : Addr} {L : List Str} {Q : Value → Shared → Prop} (R : SetRS w s.heap a L) (hh : A.handled = none) (hu : A.units + 3 < cLine)
    (hQ : ∀ s' p (out : List Value) (c : Nat), (∀ b o, s.heap.get? b = some o → s'.heap.get? b = some o) → s'.gens = s.gens → s'.os = s.os → s.heap.objs.size ≤ p →
      s'.heap.get? p = some (seqObj "list" out.toArray c) → Vals ((L.mergeSort leS).map V.str) out → Q (.ref p) s') :
    wpAny (model prog w) A (call (.builtin "sorted") [.ref a]) Q E s := by
  obtain ⟨o, es, ep, t, ho, hex, hd, g, pL, nd, hb, hf, hr, hl⟩ := R
  refine Calls.call_function_entry kind_sorted plain_sorted entry_sorted (args_sorted1 _) ?_
  unfold Builtin.«sorted»
  refine wpAny_bind (m := checkCount "sorted" 1 1 _) (wpAny_pure ?_)
  refine wpAny_bind (collect_set (A := A.in1) hh ⟨o, ho, hex.1, hd⟩ hf hb hr hl fun s1 vs k1 hz g1 o1 pm => ?_)
  have hall : ∀ v ∈ vs, ∃ k tk, v = Value.str k tk := fun v hv => by
    obtain ⟨e, he, q⟩ := List.mem_map.mp (pm.mem_iff.mp hv)
    obtain ⟨k, tk, h1, _⟩ := g e he
    exact ⟨k, tk, by rw [← q]; exact h1⟩
  obtain ⟨ks, hks⟩ := each_strs hall
  have pk : ks.Perm L := by
    rw [each_vkey hks]
    refine (pm.map vkey).trans ?_
    rw [List.map_map]
    exact pL
  have hvl : vs.length = es.size := by rw [pm.length_eq, List.length_map, Array.length_toList]
  have hks_len : vs.length = ks.length := hks.length
  have hzs : vs.length ≤ sizeLine := by rw [hvl, sizeLine_eq]; unfold scanBound at hb; omega
  refine wpAny_bind (wpAny_newList ?_ hzs)
  have hoL : (s1.heap.push (seqObj "list" vs.toArray 0)).get? s1.heap.objs.size = some (seqObj "list" vs.toArray 0) := Heap.get?_push_size _ rfl
  have er : PySem.W.EachIs (fun v k => ∃ as, Reads (s1.heap.push (seqObj "list" vs.toArray 0)) v (PyData.str k) as ∧ s1.heap.objs.size ∉ as) vs ks :=
    hks.mono fun v k ⟨tk, e⟩ => ⟨[], by rw [e]; exact .str _ _, by simp⟩
  refine wpAny_bind (wpAny_holding (PySem.W.list_sort_data (s := { s1 with heap := s1.heap.push (seqObj "list" vs.toArray 0) }) (enc := PyData.str) (bs := ks) hoL hks er (PySem.W.AllAlike.of fun b b' => by simp [PySem.W.alike]) (PySem.W.Sortable.others fun b => ⟨(fun z => nomatch z), fun xs z => nomatch z⟩) (by rw [← hks_len]; exact hzs) (fun b hb => by
    show A.in1.units + 1 + (PyData.str b).depth < cLine
    have : (PyData.str b).depth = 0 := by simp [PyData.depth]
    have e : A.in1.units = A.units + 1 := rfl
    omega) fun out hlen hout => ?_))
  obtain ⟨c, hc⟩ := sortedHeap_at (vs := vs) (out := out.toArray) hoL
  have hv : Vals ((L.mergeSort leS).map V.str) out := by
    rw [← sort_perm pk, ← leS_data]
    exact each_strs_are hout
  refine wpAny_pure ⟨_, rfl, hQ _ s1.heap.objs.size out c (fun b u e => ?_) g1 o1 hz hc hv⟩
  have q := k1 b u e
  have hlt := Heap.lt_size q
  show (sortedHeap (s1.heap.push (seqObj "list" vs.toArray 0)) s1.heap.objs.size vs out.toArray).get? b = some u
  rw [sortedHeap_old (Nat.ne_of_lt hlt) (by rw [size_push']; exact Nat.lt_succ_of_lt hlt)]
  exact Heap.get?_push_of_some _ q
end
end FH
namespace FH
open PySem PySem.Spec PyProof.Rows L2
def SetSO (w : World) (a : Addr) (L : List Str) : HO := .ext fun h => SetRS w h a L
theorem setSO_new {P : Program} {w : World} {H : Hp} {h : Heap} {a : Addr} {L : List Str} (R : SetRS w h a L) : ObjOk P w H h a (SetSO w a L) := by
  have ⟨o, _, _, _, ho, _⟩ := R
  exact ⟨R, ⟨o, ho⟩, fun h1 h2 p k => SetRS.at p k⟩
section
variable {X : Cx}
/-- set(xs), xs a list of texts -/
def rSetS (K : PySem.W.Frag) (w : World) : List V → Hp → VK → Prop := fun xs H Q => ∃ (l : Addr) (ys : List Str), xs = [V.ref l] ∧ SqL K H l (ys.map V.str) ∧ ys.length + 1 < scanBound ∧ ∀ a, H a = none → Q (.ref a) (upd H a (SetSO w a (setS' ys)))
theorem cr_setS (hc : X.calm = true) : CallR X (.type "set") (rSetS X.K X.w) := by
  intro pins s σ H xs us Q I r h
  obtain ⟨l, ys, rfl, hl, hz, q⟩ := h
  rw [Vals.ref1 r]
  obtain ⟨its, rv, pl, _⟩ := I.list hl
  have hn : H s.heap.objs.size = none := I.hok.fresh (Nat.le_refl _)
  exact call_set_strs (I.ok.hd hc) pl.isList (by simpa using strsAre_of rv) hz fun h' tk R k =>
    ⟨.ref s.heap.objs.size, upd H s.heap.objs.size (SetSO X.w s.heap.objs.size (setS' ys)), I.laid (t' := tk) k (Nat.le_refl _) (setSO_new R), rfl, q _ hn⟩
/-- sorted(s), s a set of texts -/
def rSortSS (w : World) : List V → Hp → VK → Prop := fun vs H Q => ∃ (a : Addr) (L : List Str), vs = [V.ref a] ∧ H a = some (SetSO w a L) ∧ L.length ≤ sizeLine ∧ ∀ p, H p = none → Q (.ref p) (upd H p (.lst ((L.mergeSort leS).map V.str)))
theorem cr_sortSS (hc : X.calm = true) (hu : X.A.units + 3 < cLine) : CallR X (.builtin "sorted") (rSortSS X.w) := by
  intro pins s σ H vs us Q I r h
  obtain ⟨a, L, rfl, ha, hz, q⟩ := h
  have R : SetRS X.w s.heap a L := (I.hok a _ ha).1
  rw [Vals.ref1 r]
  refine sorted_setS R (I.ok.hd hc) hu fun s' p out c k g o hp hg hv => ?_
  have hlen : ((L.mergeSort leS).map V.str).length ≤ sizeLine := by rw [List.length_map, List.length_mergeSort]; exact hz
  have hn : H p = none := I.hok.fresh hp
  have J : Inv X pins σ (upd H p (.lst ((L.mergeSort leS).map V.str))) { s with heap := s'.heap, gens := s'.gens, drawn := s'.drawn, toks := s'.toks } :=
    I.call (ch := []) (Un.laid k hp hn) (I.hok.laid k hp ⟨hlen, out, c, hv, hg⟩) (by rw [g]; exact I.bare) (fun _ z => nomatch z)
  have e : s' = { s with heap := s'.heap, gens := s'.gens, drawn := s'.drawn, toks := s'.toks } := by
    cases s'
    cases s
    cases o
    rfl
  rw [e]
  exact ⟨.ref p, _, J, rfl, q p hn⟩
end
end FH
end
section
/-! FHD: dict comprehensions whose keys are of any kind; dicts with None, ints and texts as keys. -/
namespace FH
open PySem PySem.Spec PyProof.Rows L2
/-- how a kind of dict begins, and takes a key and a value -/
structure DSt (X : Cx) (o0 : Addr → HO) (Sd : Addr → V → V → (Hp → Prop) → Hp → Prop) : Prop where
  nil : ∀ (H : Hp) (h : Heap), sysModules < h.objs.size → ObjOk X.prog X.w H (h.push { cls := .type "dict", data := .dict #[] }) h.objs.size (o0 h.objs.size)
  put : ∀ (Y : Cx) (hp : Y.prog = X.prog) (hw : Y.w = X.w) {pins : List (Addr × Obj)} {σ : L2.St} {H : Hp} {s : Shared} {D : Addr} {y z : V} {u r : Value} {Nx : Hp → Prop} {Q : Unit → Shared → Prop} {E : Value → Shared → Prop},
    Inv Y pins σ H s → RelV y u → RelV z r → Sd D y z Nx H → (∀ s' H', Inv Y pins σ H' s' → Nx H' → Q () s') → wpAny (model Y.prog Y.w) Y.A (dictSet D u r) Q E s
section
variable {X : Cx}
/-- {k: v for target in iter if ..}, keys of any kind: how a store goes is told by Sd -/
def tDg (o0 : Addr → HO) (Sd : Addr → V → V → (Hp → Prop) → Hp → Prop) (wi : TI) (g : TG) (tt : TT) (tk tv : TE) (vs : List Nat) : TE := fun σ H Q => wi σ H fun J H1 => ∀ D, H1 D = none → ∃ W : Nat → Nat → Hp → Prop, (∃ m, W 0 m (upd H1 D (o0 D))) ∧ ∀ i m H, W i m H →
  (J.stop i H ∧ Q (.ref D) H) ∨ (J.go i H ∧ ∃ Nx : Hp → Prop, (∀ H', Nx H' → ∃ m', m' < m ∧ W (i + 1) m' H') ∧ ∀ x H', J.yld i H x H' → g x (wipe σ vs) H' fun σ2 H2 => wipe σ2 vs = wipe σ vs ∧ tt σ2 H2 fun b H3 =>
    if b = true then tk σ2 H3 fun y H4 => tv σ2 H4 fun z H5 => Sd D y z Nx H5 else Nx H3)
theorem dg_core {o0 : Addr → HO} {Sd : Addr → V → V → (Hp → Prop) → Hp → Prop} (DS : DSt X o0 Sd) {pins : List (Addr × Obj)} {s : Shared} {σ : L2.St} {H : Hp} {Q : VK} {kx vx tg iter : Expr} {ifs : List Expr} {scope : Scope} {own : List (Str × Nat)} {pos pos' : Pos} {wi : TI} {g : TG} {tt : TT} {tk tv : TE} {use : Option (Value → Sem Unit)} {Qf : Value → Shared → Prop}
    (hc : X.calm = true) (hN : X.N.Nodup) (I : Inv X pins σ H s) (hi : PI X tg iter wi) (ok : BlkOk X.N X.env.scope scope own)
    (hg : ∀ (s : Shared) (H : Hp) (C : Addr) (cl : List (Str × Addr)) (fp : List Addr), PG (X.blk s H scope (compEnvC scope cl C X.env) fp) tg g) (ht : ∀ (s : Shared) (H : Hp) (C : Addr) (cl : List (Str × Addr)) (fp : List Addr), PTs (X.blk s H scope (compEnvC scope cl C X.env) fp) ifs tt)
    (hk : ∀ (s : Shared) (H : Hp) (C : Addr) (cl : List (Str × Addr)) (fp : List Addr), PE (X.blk s H scope (compEnvC scope cl C X.env) fp) kx tk)
    (he : ∀ (s : Shared) (H : Hp) (C : Addr) (cl : List (Str × Addr)) (fp : List Addr), PE (X.blk s H scope (compEnvC scope cl C X.env) fp) vx tv) (hs : ∀ x, foldedSetIterable iter X.env x = pure x)
    (h : tDg o0 Sd wi g tt tk tv (own.map (·.2)) σ H Q)
    (hRR : ∀ D C s' m H', Inv X pins σ H' s' → Q (.ref D) H' → s'.heap.Ns C m → FpOk X pins H' C → compPost (model X.prog X.w) X.A X.xe use Qf (.ref D) C (.ok .next) s') :
    wpAny (model X.prog X.w) X.A (comprehension (.DictComp kx vx [⟨tg, iter, ifs, 0⟩] scope pos) scope X.env pos' newDict false (eval iter X.env) use) Qf X.xe s := by
  have hfree : ∀ y ∈ scope.names, y.2 = .free → ∃ c, X.env.cells.lookup y.1 = some c := fun y hy e => by
    rcases ok.free y hy e with k | k
    · exact I.ok.has _ (.inl k)
    · exact I.ok.has _ (.inr k)
  refine wpAny_comprehension_free (use := use) rfl hs (closure_ok hfree) ok.kind (fun y hy e => by rw [ok.uniq y hy, e])
    (thn (hi.run pins s σ H _ I h) fun xv s1 hx => thn hx fun itv s2 h2 => ?_)
  obtain ⟨it, fp, tn, J, H2, e, I2, T, st2, f2, q⟩ := h2
  subst e
  refine wpAny_newObj_type (newEnv_comp ?_)
  generalize hD : s2.heap.objs.size = D
  have hDn : H2 D = none := I2.hok.fresh (Nat.le_of_eq hD)
  obtain ⟨W, ⟨m0, w0⟩, turn⟩ := q D hDn
  -- the new list
  generalize hs3 : ({ s2 with heap := s2.heap.push { cls := .type "dict", data := .dict #[] } } : Shared) = s3
  have I3 : Inv X pins σ (upd H2 D (o0 D)) s3 := by
    rw [← hs3]
    refine I2.laid (t' := s2.toks) (fun b o e => Heap.get?_push_of_some _ e) (Nat.le_of_eq hD) ?_
    rw [← hD]
    exact DS.nil _ _ I2.big
  have h3 : s3.heap = s2.heap.push { cls := .type "dict", data := .dict #[] } := by rw [← hs3]
  have sz : ∀ b ∈ fp, b < s2.heap.objs.size := fun b hb => by
    obtain ⟨o, e, _⟩ := T.obj _ _ st2 b hb
    exact Heap.lt_size e
  have f3 : ∀ b ∈ fp, FpOk X pins (upd H2 D (o0 D)) b ∧ b < s3.heap.objs.size := fun b hb => by
    have hlt := sz b hb
    refine ⟨⟨?_, (f2 b hb).2⟩, by rw [h3, Heap.size_push]; exact Nat.lt_succ_of_lt hlt⟩
    rw [upd_ne (by rw [← hD]; exact Nat.ne_of_lt hlt)]
    exact (f2 b hb).1
  have st3 : tn 0 s3.heap := T.keep _ _ _ st2 fun b _ o e => by rw [h3]; exact Heap.get?_push_of_some _ e
  have I4 := block_start I3 ok hN f3
  have pg := hg s3 (upd H2 D (o0 D)) s3.heap.objs.size (cellsFrom (s3.heap.objs.size + 1) scope.names (cloFrom X.env.cells scope.names [])) fp
  have pt := ht s3 (upd H2 D (o0 D)) s3.heap.objs.size (cellsFrom (s3.heap.objs.size + 1) scope.names (cloFrom X.env.cells scope.names [])) fp
  have pk := hk s3 (upd H2 D (o0 D)) s3.heap.objs.size (cellsFrom (s3.heap.objs.size + 1) scope.names (cloFrom X.env.cells scope.names [])) fp
  have pe := he s3 (upd H2 D (o0 D)) s3.heap.objs.size (cellsFrom (s3.heap.objs.size + 1) scope.names (cloFrom X.env.cells scope.names [])) fp
  show codeAny _ _ (.compStart (.DictComp kx vx [⟨tg, iter, ifs, 0⟩] scope pos) 0 (.ref it) (.ref D) (compEnvC scope (cellsFrom (s3.heap.objs.size + 1) scope.names (cloFrom X.env.cells scope.names [])) s3.heap.objs.size X.env)) (compPost (model X.prog X.w) X.A X.xe use Qf (.ref D) s3.heap.objs.size) { s3 with heap := pushCells (s3.heap.push { cls := .type "dict", data := .dict #[] }) scope.names }
  have nfp : ∀ b ∈ fp, (upd H2 D (o0 D)) b = none := fun b hb => (f3 b hb).1.1
  generalize hce : compEnvC scope (cellsFrom (s3.heap.objs.size + 1) scope.names (cloFrom X.env.cells scope.names [])) s3.heap.objs.size X.env = ce at I4 pg pt pk pe ⊢
  have cL : ce.locals = s3.heap.objs.size := by subst hce; rfl
  generalize hH3 : upd H2 D (o0 D) = H3 at I3 I4 pg pt pk pe w0 nfp f3
  generalize hs4 : ({ s3 with heap := pushCells (s3.heap.push { cls := .type "dict", data := .dict #[] }) scope.names } : Shared) = s4 at I4 ⊢
  have st4 : tn 0 s4.heap := T.keep _ _ _ st3 fun b _ o e => by rw [← hs4]; exact pushCells_keeps _ _ _ _ (Heap.get?_push_of_some _ e)
  have stat : ∀ {σ' : L2.St} {H' : Hp} {s' : Shared}, Inv (X.blk s3 H3 scope ce fp) [] σ' H' s' → (∀ b ∈ fp, H' b = none) → ∀ b ∈ fp, FpOk (X.blk s3 H3 scope ce fp) [] H' b := fun {σ' H' s'} I' hn b hb =>
    ⟨hn b hb, (I'.ok.exf b hb).1, I'.ok.exfs b hb, .inl hb, fun x c e => (I'.ok.exf b hb).2 x c e, fun p hp => absurd (show p ∈ ([] : List (Addr × Obj)) ++ [] from hp) (by simp)⟩
  have loop : codeAny (model X.prog X.w) X.A (.compLoop (.DictComp kx vx [⟨tg, iter, ifs, 0⟩] scope pos) 0 (.ref it) (.ref D) ce) (compPost (model X.prog X.w) X.A X.xe use Qf (.ref D) s3.heap.objs.size) s4 := by
    refine compLoop_anyD (fun n s' => ∃ i H', Inv (X.blk s3 H3 scope ce fp) [] (wipe σ (own.map (·.2))) H' s' ∧ tn i s'.heap ∧ (∀ b ∈ fp, H' b = none) ∧ W i n H') ?_ m0 ⟨0, H3, I4, st4, nfp, w0⟩
    rintro n s5 ⟨i, H5, I5, st5, n5, w5⟩
    rcases turn i n H5 w5 with ⟨stop, qq⟩ | ⟨go, Nx, hNx, step⟩
    · have td := T.done (X.blk s3 H3 scope ce fp) rfl rfl rfl hc i [] s5 _ H5 (fun _ _ => False) I5 (stat I5 n5) st5 stop
      refine thnF td fun r s6 ⟨hr, I6⟩ => ?_
      subst hr
      -- back in the def's context
      have I7 : Inv X pins σ H5 s6 := I3.call' (ch := fp) I6.os I6.base I6.hok I6.bare fun b hb => ⟨(f3 b hb).1.2.2.2.1, (f3 b hb).1.2.1, (f3 b hb).1.2.2.2.2.1, (f3 b hb).1.2.2.2.2.2⟩
      have nC : H5 s3.heap.objs.size = none := by
        have z : H5 ce.locals = none := I6.free
        rw [cL] at z
        exact z
      obtain ⟨m, hn, _⟩ := I6.loc
      have hn : s6.heap.Ns ce.locals m := hn
      rw [cL] at hn
      exact hRR D s3.heap.objs.size s6 m H5 I7 qq hn (I3.fpOk (Nat.le_refl _) nC)
    · have ti := T.item (X.blk s3 H3 scope ce fp) rfl rfl rfl hc i [] s5 _ H5 (fun _ _ => False) I5 (stat I5 n5) st5 go
      refine thnF ti fun r s6 ⟨u, hr, h6⟩ => ?_
      subst hr
      refine thnF h6 fun _ s7 ⟨x, H7, I7, r7, y7, st7, n7⟩ => ?_
      have I7' := I7.pinned (stat I7 n7) (T.obj _ _ st7)
      refine thnF (pg.run _ s7 _ H7 x u _ I7' r7 (step x H7 y7)) fun _ s8 ⟨σ8, H8, I8, hw8, q8⟩ => ?_
      refine thnF (pt.run _ s8 σ8 H8 _ I8 q8) fun b s9 ⟨H9, I9, q9⟩ => ?_
      -- the turn's end
      have fin : ∀ {s' : Shared} {H' : Hp}, Inv (X.blk s3 H3 scope ce fp) ([] ++ pinsAt fp s7.heap) σ8 H' s' → Nx H' → ∃ m, m < n ∧ ∃ i H', Inv (X.blk s3 H3 scope ce fp) [] (wipe σ (own.map (·.2))) H' s' ∧ tn i s'.heap ∧ (∀ b ∈ fp, H' b = none) ∧ W i m H' := fun {s' H'} I' nx => by
        obtain ⟨m', hm, w'⟩ := hNx H' nx
        have pin' : ∀ b ∈ fp, ∀ o, s7.heap.get? b = some o → s'.heap.get? b = some o ∧ H' b = none := fun b hb o e =>
          let z := I'.pin (b, o) (List.mem_append_right _ (List.mem_append_right _ (mem_pinsAt hb e)))
          ⟨z.1, z.2.1⟩
        have hl : (wipe σ (own.map (·.2))).length = σ8.length := by rw [← hw8, wipe_length]
        refine ⟨m', hm, i + 1, H', (I'.unpinned (pins := [])).weak hl (fun j v e => ?_), T.keep _ _ _ st7 fun b hb o e => (pin' b hb o e).1, fun b hb => ?_, w'⟩
        · rw [← hw8] at e
          exact (wipe_some e).1
        · obtain ⟨o, e, _⟩ := T.obj _ _ st7 b hb
          exact (pin' b hb o e).2
      cases b with
      | false =>
        simp only [Bool.false_eq_true, if_false] at q9 ⊢
        exact fin I9 q9
      | true =>
        simp only [if_true] at q9 ⊢
        refine thnF (pk.run _ s9 σ8 H9 _ I9 q9) fun z s10 ⟨yk, H10, I10, r10, q10⟩ => ?_
        refine thnF (pe.run _ s10 σ8 H10 _ I10 q10) fun z2 s11 ⟨yv, H11, I11, r11, nx⟩ => ?_
        exact DS.put (X.blk s3 H3 scope ce fp) rfl rfl I11 r10 r11 nx fun s12 H12 I12 n12 => fin I12 n12
  exact codeAny_compStart_dict loop (T.self X.A 0 _ _ _ st4 loop)
/-- name = {..} on one line, the name a local -/
theorem ps_setDg {o0 : Addr → HO} {Sd : Addr → V → V → (Hp → Prop) → Hp → Prop} (DS : DSt X o0 Sd) {i : Nat} {y : Str} {py : Pos} {kx vx tg iter : Expr} {ifs : List Expr} {scope : Scope} {own : List (Str × Nat)} {pos spos : Pos} {wi : TI} {g : TG} {tt : TT} {tk tv : TE} (hc : X.calm = true) (hN : X.N.Nodup) (hy : X.N[i]? = some y) (hyl : X.env.scope.names.lookup y = some .local)
    (hsw : swapsWith (.DictComp kx vx [⟨tg, iter, ifs, 0⟩] scope pos) (some (.Name y py)) spos.line X.env = pure true) (hi : PI X tg iter wi) (ok : BlkOk X.N X.env.scope scope own)
    (hg : ∀ (s : Shared) (H : Hp) (C : Addr) (cl : List (Str × Addr)) (fp : List Addr), PG (X.blk s H scope (compEnvC scope cl C X.env) fp) tg g) (ht : ∀ (s : Shared) (H : Hp) (C : Addr) (cl : List (Str × Addr)) (fp : List Addr), PTs (X.blk s H scope (compEnvC scope cl C X.env) fp) ifs tt)
    (hk : ∀ (s : Shared) (H : Hp) (C : Addr) (cl : List (Str × Addr)) (fp : List Addr), PE (X.blk s H scope (compEnvC scope cl C X.env) fp) kx tk)
    (he : ∀ (s : Shared) (H : Hp) (C : Addr) (cl : List (Str × Addr)) (fp : List Addr), PE (X.blk s H scope (compEnvC scope cl C X.env) fp) vx tv) (hs : ∀ x, foldedSetIterable iter X.env x = pure x) :
    PS X (.Assign [.Name y py] (.DictComp kx vx [⟨tg, iter, ifs, 0⟩] scope pos) spos) (tAsg (tDg o0 Sd wi g tt tk tv (own.map (·.2))) (gName i)) := by
  refine ⟨fun pins s σ H D I h => ?_⟩
  rw [exec_Assign_Name_used _ _ _ _ hsw]
  refine wpAny_bind (wpAny_standAt (wpAny_bind ?_))
  show wpAny _ X.A (do let _ ← comprehension (.DictComp kx vx [⟨tg, iter, ifs, 0⟩] scope pos) scope X.env (firstIterPos [⟨tg, iter, ifs, 0⟩] pos) newDict false (eval iter X.env) (some (assign (.Name y py) X.env))) _ _ s
  have h : tDg o0 Sd wi g tt tk tv (own.map (·.2)) σ H (fun x H1 => gName i x σ H1 D.nx) := h
  refine wpAny_bind (thn (dg_core DS (Qf := fun _ s' => SP X pins D .next s') hc hN I hi ok hg ht hk he hs h fun L C s' m H' I' q hn f => ?_) fun _ s' hq => wpAny_pure (wpAny_pure hq))
  show wpAny _ _ (assign (.Name y py) X.env (.ref L)) _ _ _
  refine wpAny_assign_Name (store_ok2 (v := V.ref L) I' hN hy (.inl hyl) rfl (fun s2 I2 ⟨a, sb, ha⟩ => ?_) (.inr hyl))
  obtain ⟨f0, f1, f2, f3, f4, f5⟩ := f
  have haC : C ≠ a := ha.elim (fun z => z ▸ f1) fun z e => f4 y a z e.symm
  refine ⟨m, hn.sameBut sb haC, fun h3 sb3 => ?_⟩
  exact ⟨_, H', I2.turned (t' := s2.toks) (fun b o hb e => (sb3.2 b hb).trans e) f0 f1 f3 f4 f5, q⟩
theorem swd_true {kx vx : Expr} {gs : List Comprehension} {scope : Scope} {pos py : Pos} {y : Str} {l : Nat} {env : Env} (hk : env.scope.kind = .function) (hy : env.scope.names.lookup y = some .local) (hl : (py.line == pos.line) = true)
    (ha : (scope.names.any fun (n, k) => n == y && (k == .local || k == .cell)) = false) : swapsWith (.DictComp kx vx gs scope pos) (some (.Name y py)) l env = pure true := by
  have ky : env.kindOf y = some .local := hy
  have hb : env.blockKind = .function := by unfold Env.blockKind; rw [hk]; rfl
  unfold swapsWith
  simp only [hb, ky, ha, Expr.pos, hl]
  rfl
end

/-! ### dicts with None, ints and texts as keys -/
abbrev NK := Option Key
def nV : NK → V
  | none => .non
  | some k => kV k
def DnO (P : Program) (w : World) (a : Addr) (kvs : List (NK × V)) : HO := .ext fun h => kvs.length ≤ sizeLine ∧ (a == sysModules) = false ∧ ∃ vs, KV kvs vs ∧ h.DictOf (noneKind P w) a vs
theorem nV_is {P : Program} {w : World} {k : NK} {u : Value} (r : RelV (nV k) u) : (noneKind P w).is k u = true := by
  cases k with
  | none =>
    obtain rfl : u = .none := r
    rfl
  | some k => exact kV_is (P := P) (w := w) r
section
variable {P : Program} {w : World} {H : Hp} {h : Heap} {a : Addr} {kvs : List (NK × V)}
theorem dn_new {vs : List (NK × Value)} (z : kvs.length ≤ sizeLine) (hd : (a == sysModules) = false) (r : KV kvs vs) (d : h.DictOf (noneKind P w) a vs) : ObjOk P w H h a (DnO P w a kvs) := by
  have ⟨o, _, _, ho, _⟩ := d
  refine ⟨⟨z, hd, vs, r, d⟩, ⟨o, ho⟩, ?_⟩
  rintro h1 h2 ⟨z1, d1, vs1, r1, o1, es, ep, ho1, q⟩ k
  exact ⟨z1, d1, vs1, r1, o1, es, ep, k _ ho1, q⟩
theorem dn_of (ok : HOk P w H h) (e : H a = some (DnO P w a kvs)) : kvs.length ≤ sizeLine ∧ (a == sysModules) = false ∧ ∃ vs, KV kvs vs ∧ h.DictOf (noneKind P w) a vs := (ok a _ e).1
end
section
variable {X : Cx}
def StN (P : Program) (w : World) (D : Addr) (y z : V) (Nx : Hp → Prop) (H : Hp) : Prop := ∃ kvs k, y = nV k ∧ H D = some (DnO P w D kvs) ∧ kvs.length < sizeLine ∧ Nx (upd H D (DnO P w D (putK kvs k z)))
theorem dst_n : DSt X (fun D => DnO X.prog X.w D []) (StN X.prog X.w) where
  nil := fun H h hb => dn_new (Nat.zero_le _) (beq_eq_false_iff_ne.mpr (Ne.symm (Nat.ne_of_lt hb))) .nil (Heap.DictOf.new h)
  put := fun Y hp hw => by
    intro pins σ H s D y z0 u r Nx Q E I ry rz ⟨kvs, k, ey, hD, hz, nx⟩ h
    subst ey
    rw [← hp, ← hw] at hD nx
    obtain ⟨z, hd, vs, rel, dd⟩ := dn_of I.hok hD
    have hzv : vs.length ≤ sizeLine := by rw [← rel.length]; exact z
    have hl : (putK kvs k z0).length ≤ sizeLine := by have := length_putK kvs k z0; omega
    refine wpAny_dictSet_pairs (hsz := hzv) (nV_is ry) dd fun h' dd' hs => ?_
    have he : ∃ q, h'.get? D = some q := let ⟨q, _, _, hq, _⟩ := dd'; ⟨q, hq⟩
    exact h _ _ (d_write I (by rw [hD]; exact True.intro) hs he (dn_new hl hd (rel.put k rz) dd')) nx
/-- len(d) -/
def rLenN (P : Program) (w : World) : List V → Hp → VK → Prop := fun xs H Q => ∃ a kvs, xs = [V.ref a] ∧ H a = some (DnO P w a kvs) ∧ Q (.int kvs.length) H
theorem cr_lenN : CallR X (.builtin "len") (rLenN X.prog X.w) := by
  intro pins s σ H xs us Q I r h
  obtain ⟨a, kvs, rfl, ha, q⟩ := h
  rw [Vals.ref1 r]
  obtain ⟨z, hd, vs, rel, dd⟩ := dn_of I.hok ha
  have hl := rel.length
  refine PySem.call_len_dict hd dd (by have := sizeLine_eq; omega) ⟨.int kvs.length, H, (I.tok (s.toks + 1)).tok _, ⟨_, by rw [hl]⟩, q⟩
/-- x in d, x not in d -/
def rInN (P : Program) (w : World) (neg : Bool) : R2 := fun x y H Q => ∃ a kvs k, y = V.ref a ∧ x = nV k ∧ H a = some (DnO P w a kvs) ∧ Q (.bl (if neg then !(valV kvs k).isSome else (valV kvs k).isSome)) H
theorem relO_some {o : Option V} {u : Option Value} (h : RelO o u) : u.isSome = o.isSome := by
  cases o <;> cases u <;> first | rfl | exact h.elim
theorem op_inN : OpR X (compareOp .In) (rInN X.prog X.w false) := by
  intro pins s σ H x y v u Q I rx ry h
  obtain ⟨a, kvs, k, rfl, rfl, ha, q⟩ := h
  cases ry
  obtain ⟨z, hd, vs, rel, dd⟩ := dn_of I.hok ha
  exact wpAny_in_of (nV_is rx) hd dd.mapOf ⟨.bl (valV kvs k).isSome, H, I.tok _, by rw [relO_some (rel.val k)]; rfl, q⟩
theorem op_notInN : OpR X (compareOp .NotIn) (rInN X.prog X.w true) := by
  intro pins s σ H x y v u Q I rx ry h
  obtain ⟨a, kvs, k, rfl, rfl, ha, q⟩ := h
  cases ry
  obtain ⟨z, hd, vs, rel, dd⟩ := dn_of I.hok ha
  exact wpAny_notIn_of (nV_is rx) hd dd.mapOf ⟨.bl (!(valV kvs k).isSome), H, I.tok _, by rw [relO_some (rel.val k)]; rfl, q⟩
end
end FH
end
section
/-! FH1: a small language of its own for what the law's text does, over plain data: its terms and what they come to. -/
namespace FH
open PySem L2

/-- plain data: what values are, read to their depth; what may change stands behind a number -/
inductive D where
  | non | bl (b : Bool) | int (i : Int) | str (x : Str)
  | tup (ds : List D) | lst (ds : List D)
  | ref (n : Nat) | fn (n : Nat) | ty (n : String)
  deriving Inhabited

/-- what may change -/
inductive Cell where
  | lst (ds : List D)
  | dic (kvs : List (Key × D))
  | nd (kvs : List (NK × D))
  | ins (c : Nat) (fs : List (Str × D))
  | tup (ds : List D)
  deriving Inhabited
abbrev Store := List Cell
/-- a def's name: nothing yet; a value; a list or dict that the def alone holds -/
inductive Slot where
  | emp | val (d : D) | own (c : Cell)
  deriving Inhabited
abbrev Slots := List Slot

/-! ### plain operations -/
mutual
def D.py : D → Option PyData
  | .non => some .none
  | .bl b => some (.bool b)
  | .int i => some (.int i)
  | .str x => some (.str x)
  | .tup ds => (pyL ds).map .tuple
  | .lst ds => (pyL ds).map .list
  | .ref _ => none | .fn _ => none | .ty _ => none
def pyL : List D → Option (List PyData)
  | [] => some []
  | d :: ds => match d.py, pyL ds with
    | some x, some xs => some (x :: xs)
    | _, _ => none
end
/-! what orders data -/
def pyO (d : D) : PyData := d.py.getD .none
def leD (a b : D) : Bool := PySem.W.dataLe false pyO a b
def sortableB (ps : List PyData) : Bool :=
  (ps.all fun p => match p with | .tuple _ => true | _ => false) || (ps.all fun p => match p with | .tuple _ => false | .none => false | _ => true)
/-- sorted(xs) -/
def sortD (ds : List D) : Option (List D) :=
  match pyL ds with
  | some ps => if (ps.all fun x => ps.all fun y => PySem.W.alike x y) && sortableB ps && (ps.all fun p => decide (p.depth ≤ 60)) then some (isort leD ds) else none
  | none => none
def isNn : PyData → Bool
  | .none => true
  | _ => false
/-- a < b of data that are alike -/
def ltA (a b : D) : Option Bool :=
  match a.py, b.py with
  | some x, some y => if PySem.W.alike x y && (!isNn x && decide (min x.depth y.depth ≤ 60)) then some (PySem.W.dataLt x y) else none
  | _, _ => none
def D.flat : D → Bool
  | .non | .bl _ | .int _ | .str _ => true
  | _ => false
def b2i (b : Bool) : Int := if b then 1 else 0
/-- == of what has no parts -/
def eqF : D → D → Bool
  | .non, .non => true
  | .bl a, .bl b => a == b
  | .bl a, .int j => b2i a == j
  | .int i, .bl b => i == b2i b
  | .int i, .int j => i == j
  | .str x, .str y => x == y
  | _, _ => false
/-- == -/
def eqD (a b : D) : Option Bool :=
  if a.flat && b.flat then some (eqF a b)
  else match a.py, b.py with
    | some x, some y => if SeqAt.shaped x && SeqAt.shaped y then some (PyData.eqv x y) else none
    | _, _ => none
/-- x in a list or tuple -/
def inD (a : D) (ds : List D) : Option Bool :=
  if a.flat && ds.all D.flat then some (ds.any fun z => eqF z a)
  else match a.py, pyL ds with
    | some x, some xs => if SeqAt.shaped x && SeqAt.shaped (.list xs) then some (xs.any fun z => PyData.eqv z x) else none
    | _, _ => none
/-- truth -/
def truD : D → Option Bool
  | .non => some false
  | .bl b => some b
  | .int i => some (i != 0)
  | .str x => if x.length ≤ sizeLine then some (x.length != 0) else none
  | .tup ds => some (!ds.isEmpty)
  | .lst ds => some (!ds.isEmpty)
  | _ => none
def keyD : D → Option Key
  | .int i => some (.inl i)
  | .str x => some (.inr x)
  | _ => none
def getK (kvs : List (Key × D)) (k : Key) : Option D := (kvs.find? fun kv => decide (kv.1 = k)).map (·.2)
def setK (kvs : List (Key × D)) (k : Key) (v : D) : List (Key × D) :=
  if kvs.any fun kv => decide (kv.1 = k) then kvs.map fun kv => if kv.1 = k then (kv.1, v) else kv else kvs ++ [(k, v)]

/-- a dict with None among its keys, perhaps -/
def nkD : D → Option NK
  | .non => some none
  | .int i => some (some (.inl i))
  | .str x => some (some (.inr x))
  | _ => none
def getN (kvs : List (NK × D)) (k : NK) : Option D := (kvs.find? fun kv => decide (kv.1 = k)).map (·.2)
def setN (kvs : List (NK × D)) (k : NK) (v : D) : List (NK × D) :=
  if kvs.any fun kv => decide (kv.1 = k) then kvs.map fun kv => if kv.1 = k then (kv.1, v) else kv else kvs ++ [(k, v)]

inductive P where
  | bin (op : Operator) | neg | cmp (op : CmpOp) | ix
  | len | abs | int | str | repr | ord | isi | tuple | all | any | sum | min | max
  deriving DecidableEq, Repr

def boolsD : List D → Option (List Bool)
  | [] => some []
  | .bl b :: ds => (boolsD ds).map (b :: ·)
  | _ :: _ => none
def intsD : List D → Option (List Int)
  | [] => some []
  | .int b :: ds => (intsD ds).map (b :: ·)
  | _ :: _ => none
def binD : Operator → D → D → Option D
  | .Add, .int i, .int j => some (.int (i + j))
  | .Add, .str x, .str y => if x.length + y.length ≤ sizeLine then some (.str (x ++ y)) else none
  | .Add, .tup x, .tup y => if x.length + y.length ≤ sizeLine then some (.tup (x ++ y)) else none
  | .Add, .lst x, .lst y => if x.length ≤ sizeLine ∧ y.length ≤ sizeLine ∧ x.length + y.length ≤ sizeLine then some (.lst (x ++ y)) else none
  | .Sub, .int i, .int j => some (.int (i - j))
  | .Mult, .int i, .int j => if (-(2 ^ 64) < i ∧ i < 2 ^ 64) ∨ (-(2 ^ 64) < j ∧ j < 2 ^ 64) then some (.int (i * j)) else none
  | .Mult, .str x, .int n => if x.length ≤ 1000 ∧ 0 ≤ n ∧ n ≤ 1000 then some (.str (Txt.mul x n)) else none
  | .FloorDiv, .int i, .int j => if j ≠ 0 ∧ j.natAbs < 1073741824 then some (.int (i.fdiv j)) else none
  | .Mod, .int i, .int j => if j ≠ 0 then some (.int (i.fmod j)) else none
  | .Pow, .int i, .int j => if 0 ≤ j ∧ j ≤ 1000000 ∧ i.natAbs < 2 ^ 64 then some (.int (i ^ j.toNat)) else none
  | _, _, _ => none
def cmpD : CmpOp → D → D → Option D
  | .Eq, a, b => (eqD a b).map .bl
  | .NotEq, a, b => (eqD a b).map fun k => .bl !k
  | .Lt, .int i, .int j => some (.bl (decide (i < j)))
  | .LtE, .int i, .int j => some (.bl (decide (i ≤ j)))
  | .Gt, .int i, .int j => some (.bl (decide (j < i)))
  | .GtE, .int i, .int j => some (.bl (decide (j ≤ i)))
  | .Lt, .str i, .str j => some (.bl (decide (i.cps.toList < j.cps.toList)))
  | .LtE, .str i, .str j => some (.bl (!decide (j.cps.toList < i.cps.toList)))
  | .Lt, .tup xs, .tup ys => match intsD xs, intsD ys with
    | some ns, some ms => some (.bl (HT.lexLt ns ms))
    | _, _ => (ltA (.tup xs) (.tup ys)).map .bl
  | .LtE, .tup xs, .tup ys => (ltA (.tup ys) (.tup xs)).map fun k => .bl !k
  | .Gt, .tup xs, .tup ys => (ltA (.tup ys) (.tup xs)).map .bl
  | .GtE, .tup xs, .tup ys => (ltA (.tup xs) (.tup ys)).map fun k => .bl !k
  | .In, a, .tup ds => (inD a ds).map .bl
  | .In, a, .lst ds => (inD a ds).map .bl
  | .NotIn, a, .tup ds => (inD a ds).map fun k => .bl !k
  | .NotIn, a, .lst ds => (inD a ds).map fun k => .bl !k
  | .In, .str i, .str j => some (.bl (!(Builtin.Str.occurrences j i 0 j.length 1).isEmpty))
  | .NotIn, .str i, .str j => some (.bl (!(!(Builtin.Str.occurrences j i 0 j.length 1).isEmpty)))
  | .Is, a, .non => some (.bl (match a with | .non => true | _ => false))
  | .IsNot, a, .non => some (.bl (match a with | .non => false | _ => true))
  | _, _, _ => none
/-- an item by its number -/
def ixD : D → D → Option D
  | .tup ds, .int i => atI ds i
  | .lst ds, .int i => atI ds i
  | .str z, .int i => if z.length ≤ sizeLine then (atI z.cps.toList i).map fun c => .str ⟨#[c]⟩ else none
  | _, _ => none
/-- isinstance, by the type's name -/
def tyN : D → Option String
  | .non => some "NoneType" | .bl _ => some "bool" | .int _ => some "int" | .str _ => some "str" | .tup _ => some "tuple" | .lst _ => some "list"
  | _ => none
def isiD (d : D) (T : String) : Option Bool :=
  if T = "int" then (tyN d).map fun n => n == "int" || n == "bool"
  else if T = "bool" then (tyN d).map (· == "bool")
  else if T = "str" then (tyN d).map (· == "str")
  else if T = "tuple" then (tyN d).map (· == "tuple")
  else none
def reprD (d : D) : Option Str :=
  match d.py with
  | some x => if x.showable && !x.hasDict && decide (x.depth ≤ 64) && decide (x.shown.length ≤ sizeLine) then some x.shown else none
  | none => none
/-- methods of texts and tuples -/
inductive M where
  | sindex | join
  deriving DecidableEq, Repr
def strsD : List D → Option (List Str)
  | [] => some []
  | .str b :: ds => (strsD ds).map (b :: ·)
  | _ :: _ => none
def findI (z : Str) : List Str → Option Nat
  | [] => none
  | y :: ys => if y = z then some 0 else (findI z ys).map (· + 1)
def methD : M → D → List D → Option D
  | .sindex, .str a, [.str b] => match Builtin.Str.occurrences a b 0 a.length 1 with
    | i :: _ => some (.int (i : Nat))
    | [] => none
  | .join, .str a, [.lst ds] => (strsD ds).bind fun ys => if (ys.map (·.length)).sum + ys.length * a.length ≤ 16777216 then some (.str (Txt.join a ys)) else none
  | _, _, _ => none
def primD : P → List D → Option D
  | .bin op, [a, b] => binD op a b
  | .neg, [.int i] => some (.int (-i))
  | .cmp op, [a, b] => cmpD op a b
  | .ix, [a, b] => ixD a b
  | .len, [.tup ds] => some (.int ds.length)
  | .len, [.lst ds] => some (.int ds.length)
  | .len, [.str z] => if z.length ≤ sizeLine then some (.int z.length) else none
  | .abs, [.int i] => some (.int (if i < 0 then -i else i))
  | .int, [.int i] => some (.int i)
  | .int, [.bl b] => some (.int (if b then 1 else 0))
  | .int, [.str a] => if a.length ≤ 640 then (PySem.intText? a).map .int else none
  | .str, [.str a] => some (.str a)
  | .str, [.non] => some (.str "None")
  | .str, [.int i] => if i.natAbs.log2 < 1920 then some (.str (toString i)) else none
  | .ord, [.str z] => if z.length = 1 then some (.int (z.cps.getD 0 0 : Nat)) else none
  | .isi, [d, .ty T] => (isiD d T).map .bl
  | .tuple, [.tup ds] => some (.tup ds)
  | .tuple, [.lst ds] => some (.tup ds)
  | .all, [.lst ds] => (boolsD ds).map fun bs => .bl (bs.all id)
  | .any, [.lst ds] => (boolsD ds).map fun bs => .bl (bs.any id)
  | .sum, [.lst ds] => (intsD ds).map fun ns => .int ns.sum
  | .repr, [d] => (reprD d).map .str
  | .min, [.int i, .int j] => some (.int (if j < i then j else i))
  | .max, [.int i, .int j] => some (.int (if j > i then j else i))
  | _, _ => none

/-- what f'..' makes of a value -/
def txtD : D → Option Str
  | .str y => if y.length ≤ sizeLine then some y else none
  | .int i => if i.natAbs.log2 < 1920 then some (toString i) else none
  | _ => none
def fstD (acc : Str) : List D → Option Str
  | [] => some acc
  | d :: ds => (txtD d).bind fun y => if (acc ++ y).length ≤ sizeLine then fstD (acc ++ y) ds else none
def seqD : D → Option (List D)
  | .tup ds => some ds
  | .lst ds => some ds
  | _ => none
def zip2 : List D → List D → List D
  | a :: as, b :: bs => .tup [a, b] :: zip2 as bs
  | _, _ => []
def zip3 : List D → List D → List D → List D
  | a :: as, b :: bs, c :: cs => .tup [a, b, c] :: zip3 as bs cs
  | _, _, _ => []
def zipD : List D → Option (List D)
  | [a, b] => match seqD a, seqD b with
    | some xs, some ys => some (zip2 xs ys)
    | _, _ => none
  | [a, b, c] => match seqD a, seqD b, seqD c with
    | some xs, some ys, some zs => some (zip3 xs ys zs)
    | _, _, _ => none
  | _ => none

/-! ### the terms -/
mutual
inductive Tg where
  | nm (i : Nat)
  | tp (ts : Tgs)
inductive Tgs where
  | nil | cons (t : Tg) (ts : Tgs)
end
mutual
inductive IE where
  | lit (d : D)
  | var (i : Nat)
  | own (i : Nat)
  | glob (x : Str) (d : D)
  | prim (p : P) (es : IEs)
  | tindex (i : Nat) (e : IE)
  | meth (m : M) (o : IE) (es : IEs)
  | gdget (x : Str) (kvs : List (Str × D)) (k : IE)
  | fstr (es : IEs)
  | slice (e : IE) (lo hi : IO)
  | nott (e : IE)
  | andd (a b : IE)
  | orr (a b : IE)
  | cond (c a b : IE)
  | cmp2 (o1 o2 : CmpOp) (a b c : IE)
  | tup (es : IEs)
  | frz (f : FE)
  | cell (f : FE)
  | celld
  | dcopy (e : IE)
  | dlen (e : IE)
  | ndlen (i : Nat)
  | ndhas (neg : Bool) (k : IE) (i : Nat)
  | isir (es : IEs)
  | call (x : Str) (f : Nat) (es : IEs)
  | callv (i : Nat) (es : IEs)
  | attr (c : Nat) (e : IE) (f : Str)
  | mcall (c : Nat) (m : Str) (f : Nat) (e : IE) (es : IEs)
  | make (x : Str) (c : Nat) (f : Nat) (es : IEs)
  | dhas (neg : Bool) (k d : IE)
  | dget (d k : IE)
  | dgetD (d k x : IE)
  | dsetd (d k x : IE)
inductive IEs where
  | nil | cons (e : IE) (es : IEs)
inductive IO where
  | no | som (e : IE)
inductive FE where
  | disp (es : IEs)
  | list (e : IE)
  | sorted (e : IE)
  | sortset (e : IE)
  | split (a b : IE)
  | cat (a b : IE)
  | comp (g : Tg) (own : List (Str × Nat)) (s : Src) (c : IO) (e : IE)
inductive Src where
  | it (e : IE)
  | range1 (e : IE)
  | range2 (a b : IE)
  | enum (e : IE)
  | zip (es : IEs)
  | cel (e : IE)
end
/-- what a name is given: a value, or a list that it alone holds -/
inductive In where
  | v (e : IE) | o (f : FE)
mutual
inductive IS where
  | expr (e : IE)
  | ret (e : IE)
  | retN
  | set (i : Nat) (e : IE)
  | unp (g : Tg) (e : IE)
  | par (i j : Nat) (a b : In)
  | par3 (i j l : Nat) (es : IEs)
  | setOwn (i : Nat) (f : FE)
  | setTup (i : Nat) (es : IEs)
  | setDc (i : Nat) (g : Tg) (own : List (Str × Nat)) (s : Src) (c : IO) (k v : IE)
  | freeze (i : Nat) (s : IS)
  | ifs (c : IE) (a b : ISs)
  | fors (g : Tg) (s : Src) (b : ISs)
  | whil (c : IE) (b : ISs)
  | brk | cnt | pass
  | setIx (o i e : IE)
  | setKy (o i e : IE)
  | augIx (op : Operator) (o i e : IE)
  | aug (op : Operator) (i : Nat) (e : IE)
  | setAt (c : Nat) (o : IE) (f : Str) (e : IE)
  | setAt2 (c : Nat) (i : Nat) (f g : Str) (a b : IE)
  | app (o : IE) (e : IE)
  | appOwn (i : Nat) (e : IE)
  | extOwn (i : Nat) (f : FE)
  | extV (i : Nat) (e : IE)
inductive ISs where
  | nil | cons (s : IS) (ss : ISs)
end

/-! ### what they come to -/
mutual
def asgT : Tg → D → Slots → Option Slots
  | .nm i, d, ρ => if i < ρ.length then some (ρ.set i (.val d)) else none
  | .tp ts, .tup ds, ρ => asgTs ts ds ρ
  | .tp _, _, _ => none
def asgTs : Tgs → List D → Slots → Option Slots
  | .nil, [], ρ => some ρ
  | .cons t ts, d :: ds, ρ => (asgT t d ρ).bind fun ρ' => asgTs ts ds ρ'
  | _, _, _ => none
end
def viewD (μ : Store) : D → D
  | .ref n => match μ[n]? with
    | some (.lst ds) => .lst ds
    | _ => .ref n
  | d => d
def slotD (ρ : Slots) (i : Nat) : Option D := match ρ[i]? with
  | some (.val d) => some d
  | _ => none
def ownD (ρ : Slots) (i : Nat) : Option D := match ρ[i]? with
  | some (.own (.lst ds)) => some (.lst ds)
  | some (.own (.tup ds)) => some (.tup ds)
  | _ => none
def ndS (ρ : Slots) (i : Nat) : Option (List (NK × D)) := match ρ[i]? with
  | some (.own (.nd kvs)) => some kvs
  | _ => none
def tupS (ρ : Slots) (i : Nat) : Option (List D) := match ρ[i]? with
  | some (.own (.tup ds)) => some ds
  | _ => none
def wipeS (ρ : Slots) : List Nat → Slots
  | [] => ρ
  | v :: vs => (wipeS ρ vs).set v .emp
def itemsD : D → Option (List D)
  | .tup ds => some ds
  | .lst ds => some ds
  | .str z => some (z.cps.toList.map fun c => .str ⟨#[c]⟩)
  | _ => none
def rangeD (lo : Int) (n : Nat) : List D := (List.range n).map fun k => .int (lo + (k : Nat))
/-- a comprehension's turns -/
def loopC (f : D → Store → Option (Option D × Store)) : List D → Store → Option (List D × Store)
  | [], μ => some ([], μ)
  | x :: xs, μ => (f x μ).bind fun r => (loopC f xs r.2).bind fun q => some ((match r.1 with | some y => y :: q.1 | none => q.1), q.2)

/-- a dict comprehension's turns -/
def loopD (f : D → Store → Option (Option (NK × D) × Store)) : List D → List (NK × D) → Store → Option (List (NK × D) × Store)
  | [], acc, μ => some (acc, μ)
  | x :: xs, acc, μ => (f x μ).bind fun r => match r.1 with
    | some q => if acc.length < sizeLine then loopD f xs (setN acc q.1 q.2) r.2 else none
    | none => loopD f xs acc r.2
/-- .. over a list that may change meanwhile, as it stands at each turn -/
def loopCC (f : D → Store → Option (Option D × Store)) (n : Nat) : Nat → Nat → Store → Option (List D × Store)
  | 0, _, _ => none
  | k + 1, i, μ => match μ[n]? with
    | some (.lst ds) => match ds[i]? with
      | none => some ([], μ)
      | some x => (f x μ).bind fun r => (loopCC f n k (i + 1) r.2).bind fun q => some ((match r.1 with | some y => y :: q.1 | none => q.1), q.2)
    | _ => none
/-- what is walked: these, or the list at n -/
inductive Sr where
  | items (ds : List D) | cel (n : Nat)

abbrev Fns := Nat → List D → Store → Option (D × Store)
structure Env2 where
  fns : Fns
  inits : Fns

section
variable (Γ : Env2)
mutual
def evE : IE → Slots → Store → Option (D × Store)
  | .lit d, _, μ => some (d, μ)
  | .var i, ρ, μ => (slotD ρ i).map fun d => (d, μ)
  | .own i, ρ, μ => (ownD ρ i).map fun d => (d, μ)
  | .glob _ d, _, μ => some (d, μ)
  | .prim p es, ρ, μ => (evEs es ρ μ).bind fun r => (primD p (r.1.map (viewD r.2))).map fun d => (d, r.2)
  | .tindex i e, ρ, μ => (tupS ρ i).bind fun ds => (evE e ρ μ).bind fun x => match x.1 with
      | .str z => (strsD ds).bind fun ys => (findI z ys).map fun j => (.int (j : Nat), x.2)
      | _ => none
  | .meth m o es, ρ, μ => (evE o ρ μ).bind fun x => (evEs es ρ x.2).bind fun r => (methD m x.1 (r.1.map (viewD r.2))).map fun d => (d, r.2)
  | .gdget _ kvs k, ρ, μ => (evE k ρ μ).bind fun x => match x.1 with
      | .str z => (kvs.lookup z).map fun d => (d, x.2)
      | _ => none
  | .fstr es, ρ, μ => (evEs es ρ μ).bind fun r => (fstD Str.empty r.1).map fun z => (.str z, r.2)
  | .slice e lo hi, ρ, μ => (evE e ρ μ).bind fun r => (evO lo ρ r.2).bind fun l => (evO hi ρ l.2).bind fun h =>
      match viewD h.2 r.1 with
      | .tup ds => some (.tup ((ds.drop (HT.sIx ds.length 0 l.1)).take (HT.sIx ds.length ds.length h.1 - HT.sIx ds.length 0 l.1)), h.2)
      | .lst ds => some (.lst ((ds.drop (HT.sIx ds.length 0 l.1)).take (HT.sIx ds.length ds.length h.1 - HT.sIx ds.length 0 l.1)), h.2)
      | .str z => if z.length ≤ sizeLine then some (.str (cutS z l.1 h.1), h.2) else none
      | _ => none
  | .nott e, ρ, μ => (evE e ρ μ).bind fun r => (truD (viewD r.2 r.1)).map fun k => (.bl !k, r.2)
  | .andd a b, ρ, μ => (evE a ρ μ).bind fun r => (truD (viewD r.2 r.1)).bind fun k => if k then evE b ρ r.2 else some r
  | .orr a b, ρ, μ => (evE a ρ μ).bind fun r => (truD (viewD r.2 r.1)).bind fun k => if k then some r else evE b ρ r.2
  | .cond c a b, ρ, μ => (evE c ρ μ).bind fun r => (truD (viewD r.2 r.1)).bind fun k => if k then evE a ρ r.2 else evE b ρ r.2
  | .cmp2 o1 o2 a b c, ρ, μ => (evE a ρ μ).bind fun x => (evE b ρ x.2).bind fun y => (cmpD o1 (viewD y.2 x.1) (viewD y.2 y.1)).bind fun k =>
      match k with
      | .bl true => (evE c ρ y.2).bind fun z => (cmpD o2 (viewD z.2 y.1) (viewD z.2 z.1)).map fun d => (d, z.2)
      | .bl false => some (.bl false, y.2)
      | _ => none
  | .tup es, ρ, μ => (evEs es ρ μ).bind fun r => if r.1.length ≤ sizeLine then some (.tup r.1, r.2) else none
  | .frz f, ρ, μ => (evF f ρ μ).map fun r => (.lst r.1, r.2)
  | .cell f, ρ, μ => (evF f ρ μ).map fun r => (.ref r.2.length, r.2 ++ [.lst r.1])
  | .celld, _, μ => some (.ref μ.length, μ ++ [.dic []])
  | .dcopy e, ρ, μ => (evE e ρ μ).bind fun r => match r.1 with
      | .ref n => match r.2[n]? with
        | some (.dic kvs) => some (.ref r.2.length, r.2 ++ [.dic kvs])
        | _ => none
      | _ => none
  | .dlen e, ρ, μ => (evE e ρ μ).bind fun r => match r.1 with
      | .ref n => match r.2[n]? with
        | some (.dic kvs) => some (.int kvs.length, r.2)
        | _ => none
      | _ => none
  | .ndlen i, ρ, μ => (ndS ρ i).map fun kvs => (.int kvs.length, μ)
  | .ndhas neg k i, ρ, μ => (evE k ρ μ).bind fun x => (ndS ρ i).bind fun kvs => (nkD x.1).map fun y => (.bl (if neg then !(getN kvs y).isSome else (getN kvs y).isSome), x.2)
  | .isir es, ρ, μ => (evEs es ρ μ).bind fun r => match r.1 with
      | [.ref n, .ty T] => match r.2[n]? with
        | some (.dic _) => if T = "int" ∨ T = "bool" ∨ T = "str" ∨ T = "tuple" then some (.bl false, r.2) else none
        | _ => (primD .isi (r.1.map (viewD r.2))).map fun d => (d, r.2)
      | _ => (primD .isi (r.1.map (viewD r.2))).map fun d => (d, r.2)
  | .call _ f es, ρ, μ => (evEs es ρ μ).bind fun r => Γ.fns f r.1 r.2
  | .callv i es, ρ, μ => (slotD ρ i).bind fun d => match d with
      | .fn f => (evEs es ρ μ).bind fun r => Γ.fns f r.1 r.2
      | _ => none
  | .attr c e f, ρ, μ => (evE e ρ μ).bind fun r => match r.1 with
      | .ref n => match r.2[n]? with
        | some (.ins c' fs) => if c' = c then (fs.lookup f).map fun d => (d, r.2) else none
        | _ => none
      | _ => none
  | .mcall c m f e es, ρ, μ => (evE e ρ μ).bind fun r => match r.1 with
      | .ref n => match r.2[n]? with
        | some (.ins c' fs) => if c' = c ∧ fs.lookup m = none then (evEs es ρ r.2).bind fun q => Γ.fns f (.ref n :: q.1) q.2 else none
        | _ => none
      | _ => none
  | .make _ c f es, ρ, μ => (evEs es ρ μ).bind fun r => (Γ.inits f (.ref r.2.length :: r.1) (r.2 ++ [.ins c []])).bind fun q => match q.1 with
      | .non => some (.ref r.2.length, q.2)
      | _ => none
  | .dhas neg k d, ρ, μ => (evE k ρ μ).bind fun x => (evE d ρ x.2).bind fun r => match r.1 with
      | .ref n => match r.2[n]? with
        | some (.dic kvs) => (keyD x.1).map fun k => (.bl (if neg then !(getK kvs k).isSome else (getK kvs k).isSome), r.2)
        | _ => none
      | _ => none
  | .dget d k, ρ, μ => (evE d ρ μ).bind fun r => (evE k ρ r.2).bind fun x => match r.1 with
      | .ref n => match x.2[n]? with
        | some (.dic kvs) => (keyD x.1).bind fun k => (getK kvs k).map fun d => (d, x.2)
        | _ => none
      | _ => none
  | .dgetD d k z, ρ, μ => (evE d ρ μ).bind fun r => match r.1 with
      | .ref n => match r.2[n]? with
        | some (.dic _) => (evE k ρ r.2).bind fun x => (evE z ρ x.2).bind fun y => match y.2[n]? with
          | some (.dic kvs) => (keyD x.1).map fun k => ((getK kvs k).getD y.1, y.2)
          | _ => none
        | _ => none
      | _ => none
  | .dsetd d k z, ρ, μ => (evE d ρ μ).bind fun r => match r.1 with
      | .ref n => match r.2[n]? with
        | some (.dic _) => (evE k ρ r.2).bind fun x => (evE z ρ x.2).bind fun y => match y.2[n]? with
          | some (.dic kvs) => if kvs.length < sizeLine then (keyD x.1).map fun k => match getK kvs k with
              | some v => (v, y.2)
              | none => (y.1, y.2.set n (.dic (kvs ++ [(k, y.1)]))) else none
          | _ => none
        | _ => none
      | _ => none
def evEs : IEs → Slots → Store → Option (List D × Store)
  | .nil, _, μ => some ([], μ)
  | .cons e es, ρ, μ => (evE e ρ μ).bind fun r => (evEs es ρ r.2).map fun q => (r.1 :: q.1, q.2)
def evO : IO → Slots → Store → Option (Option Int × Store)
  | .no, _, μ => some (none, μ)
  | .som e, ρ, μ => (evE e ρ μ).bind fun r => match r.1 with
    | .int i => some (some i, r.2)
    | _ => none
/-- a comprehension's test -/
def evC : IO → Slots → Store → Option (Bool × Store)
  | .no, _, μ => some (true, μ)
  | .som c, ρ, μ => (evE c ρ μ).bind fun k => (truD (viewD k.2 k.1)).map fun b => (b, k.2)
/-- a new list -/
def evF : FE → Slots → Store → Option (List D × Store)
  | .disp es, ρ, μ => (evEs es ρ μ).bind fun r => if r.1.length ≤ sizeLine then some r else none
  | .list e, ρ, μ => (evE e ρ μ).bind fun r => match viewD r.2 r.1 with
    | .tup ds => some (ds, r.2)
    | .lst ds => some (ds, r.2)
    | _ => none
  | .sorted e, ρ, μ => (evE e ρ μ).bind fun r => match viewD r.2 r.1 with
    | .lst ds => (sortD ds).map fun es => (es, r.2)
    | _ => none
  | .sortset e, ρ, μ => (evE e ρ μ).bind fun r => match viewD r.2 r.1 with
    | .lst ds => (strsD ds).bind fun ys => if ys.length + 1 < scanBound then some ((sortS ys).map .str, r.2) else none
    | _ => none
  | .split a b, ρ, μ => (evE a ρ μ).bind fun x => (evE b ρ x.2).bind fun y => match x.1, y.1 with
    | .str z, .str w => if w.length ≠ 0 ∧ z.length + 2 ≤ sizeLine then some ((Txt.split z w).map .str, y.2) else none
    | _, _ => none
  | .cat a b, ρ, μ => (evE a ρ μ).bind fun x => (evE b ρ x.2).bind fun y => match viewD y.2 x.1, viewD y.2 y.1 with
    | .lst xs, .lst ys => if xs.length ≤ sizeLine ∧ ys.length ≤ sizeLine ∧ xs.length + ys.length ≤ sizeLine then some (xs ++ ys, y.2) else none
    | _, _ => none
  | .comp g own s c e, ρ, μ => (evSrc s ρ μ).bind fun r =>
      match r.1 with
      | .items ds => if ds.length < sizeLine then loopC (fun x μ => (asgT g x (wipeS ρ (own.map (·.2)))).bind fun ρ' => (evC c ρ' μ).bind fun k =>
          if k.1 then (evE e ρ' k.2).map fun q => (some q.1, q.2) else some (none, k.2)) ds r.2 else none
      | .cel n => loopCC (fun x μ => (asgT g x (wipeS ρ (own.map (·.2)))).bind fun ρ' => (evC c ρ' μ).bind fun k =>
          if k.1 then (evE e ρ' k.2).map fun q => (some q.1, q.2) else some (none, k.2)) n sizeLine 0 r.2
/-- what is walked -/
def evSrc : Src → Slots → Store → Option (Sr × Store)
  | .it e, ρ, μ => (evE e ρ μ).bind fun r => (itemsD r.1).map fun ds => (.items ds, r.2)
  | .range1 e, ρ, μ => (evE e ρ μ).bind fun r => match r.1 with
    | .int j => if -(2 ^ 62) ≤ j ∧ j < 2 ^ 62 then some (.items (rangeD 0 j.toNat), r.2) else none
    | _ => none
  | .range2 a b, ρ, μ => (evE a ρ μ).bind fun r => (evE b ρ r.2).bind fun q => match r.1, q.1 with
    | .int i, .int j => if -(2 ^ 62) ≤ i ∧ i < 2 ^ 62 ∧ -(2 ^ 62) ≤ j ∧ j < 2 ^ 62 then some (.items (rangeD i (j - i).toNat), q.2) else none
    | _, _ => none
  | .enum e, ρ, μ => (evE e ρ μ).bind fun r => match r.1 with
    | .lst ds => some (.items (ds.zipIdx.map fun p => .tup [.int p.2, p.1]), r.2)
    | _ => none
  | .zip es, ρ, μ => (evEs es ρ μ).bind fun r => (zipD r.1).map fun ds => (.items ds, r.2)
  | .cel e, ρ, μ => (evE e ρ μ).bind fun r => match r.1 with
    | .ref n => match r.2[n]? with
      | some (.lst _) => some (.cel n, r.2)
      | _ => none
    | _ => none
end

/-- how a statement ends -/
inductive Fl where
  | nx | brk | ct | ret (d : D)
abbrev SR := Option (Fl × Slots × Store)
def loopF (f : D → Slots → Store → SR) : List D → Slots → Store → SR
  | [], ρ, μ => some (.nx, ρ, μ)
  | x :: xs, ρ, μ => (f x ρ μ).bind fun r => match r.1 with
    | .nx => loopF f xs r.2.1 r.2.2
    | .ct => loopF f xs r.2.1 r.2.2
    | .brk => some (.nx, r.2)
    | .ret d => some (.ret d, r.2)
def loopW (c : Slots → Store → Option (Bool × Store)) (b : Slots → Store → SR) : Nat → Slots → Store → SR
  | 0, _, _ => none
  | n + 1, ρ, μ => (c ρ μ).bind fun k => if k.1 then (b ρ k.2).bind fun r => match r.1 with
      | .nx => loopW c b n r.2.1 r.2.2
      | .ct => loopW c b n r.2.1 r.2.2
      | .brk => some (.nx, r.2)
      | .ret d => some (.ret d, r.2)
    else some (.nx, ρ, k.2)
/-- as many turns as any loop here wants -/
def fuelW : Nat := 2 ^ 64
def putD (f : Str) (v : D) : List (Str × D) → List (Str × D)
  | [] => [(f, v)]
  | (g, w) :: r => if g = f then (g, v) :: r else (g, w) :: putD f v r
def setS (ρ : Slots) (i : Nat) (s : Slot) : Option Slots := if i < ρ.length then some (ρ.set i s) else none
def ownS (ρ : Slots) (i : Nat) : Option (List D) := match ρ[i]? with
  | some (.own (.lst ds)) => some ds
  | _ => none
def lstAt (μ : Store) (d : D) : Option (Nat × List D) := match d with
  | .ref n => match μ[n]? with
    | some (.lst ds) => some (n, ds)
    | _ => none
  | _ => none
def insAt (μ : Store) (c : Nat) (d : D) : Option (Nat × List (Str × D)) := match d with
  | .ref n => match μ[n]? with
    | some (.ins c' fs) => if c' = c then some (n, fs) else none
    | _ => none
  | _ => none
def evIn : In → Slots → Store → Option (Slot × Store)
  | .v e, ρ, μ => (evE Γ e ρ μ).map fun r => (.val r.1, r.2)
  | .o f, ρ, μ => (evF Γ f ρ μ).map fun r => (.own (.lst r.1), r.2)
mutual
def evS : IS → Slots → Store → SR
  | .expr e, ρ, μ => (evE Γ e ρ μ).map fun r => (.nx, ρ, r.2)
  | .ret e, ρ, μ => (evE Γ e ρ μ).map fun r => (.ret r.1, ρ, r.2)
  | .retN, ρ, μ => some (.ret .non, ρ, μ)
  | .set i e, ρ, μ => (evE Γ e ρ μ).bind fun r => (setS ρ i (.val r.1)).map fun ρ' => (.nx, ρ', r.2)
  | .unp g e, ρ, μ => (evE Γ e ρ μ).bind fun r => (asgT g r.1 ρ).map fun ρ' => (.nx, ρ', r.2)
  | .par i j a b, ρ, μ => (evIn Γ a ρ μ).bind fun x => (evIn Γ b ρ x.2).bind fun y => (setS ρ i x.1).bind fun ρ1 => (setS ρ1 j y.1).map fun ρ2 => (.nx, ρ2, y.2)
  | .par3 i j l es, ρ, μ => (evEs Γ es ρ μ).bind fun r => match r.1 with
      | [u, v, w] => (setS ρ i (.val u)).bind fun ρ1 => (setS ρ1 j (.val v)).bind fun ρ2 => (setS ρ2 l (.val w)).map fun ρ3 => (.nx, ρ3, r.2)
      | _ => none
  | .setOwn i f, ρ, μ => (evF Γ f ρ μ).bind fun r => (setS ρ i (.own (.lst r.1))).map fun ρ' => (.nx, ρ', r.2)
  | .setTup i es, ρ, μ => (evEs Γ es ρ μ).bind fun r => if r.1.length ≤ sizeLine then (setS ρ i (.own (.tup r.1))).map fun ρ' => (.nx, ρ', r.2) else none
  | .setDc i g own s c k v, ρ, μ => (evSrc Γ s ρ μ).bind fun r => match r.1 with
      | .items ds => (loopD (fun x μ => (asgT g x (wipeS ρ (own.map (·.2)))).bind fun ρ' => (evC Γ c ρ' μ).bind fun b =>
          if b.1 then (evE Γ k ρ' b.2).bind fun kd => (evE Γ v ρ' kd.2).bind fun q => (nkD kd.1).map fun kk => (some (kk, q.1), q.2) else some (none, b.2)) ds [] r.2).bind fun q =>
          (setS ρ i (.own (.nd q.1))).map fun ρ' => (.nx, ρ', q.2)
      | .cel _ => none
  | .freeze i s, ρ, μ => (ownS ρ i).bind fun ds => evS s (ρ.set i (.val (.lst ds))) μ
  | .ifs c a b, ρ, μ => (evE Γ c ρ μ).bind fun r => (truD (viewD r.2 r.1)).bind fun k => if k then evSs a ρ r.2 else evSs b ρ r.2
  | .fors g s b, ρ, μ => (evSrc Γ s ρ μ).bind fun r => match r.1 with
      | .items ds => loopF (fun x ρ μ => (asgT g x ρ).bind fun ρ' => evSs b ρ' μ) ds ρ r.2
      | .cel _ => none
  | .whil c b, ρ, μ => loopW (fun ρ μ => (evE Γ c ρ μ).bind fun r => (truD (viewD r.2 r.1)).map fun k => (k, r.2)) (fun ρ μ => evSs b ρ μ) fuelW ρ μ
  | .brk, ρ, μ => some (.brk, ρ, μ)
  | .cnt, ρ, μ => some (.ct, ρ, μ)
  | .pass, ρ, μ => some (.nx, ρ, μ)
  | .setIx o i e, ρ, μ => (evE Γ e ρ μ).bind fun x => (evE Γ o ρ x.2).bind fun r => (evE Γ i ρ r.2).bind fun k => match lstAt k.2 r.1, k.1 with
      | some (n, ds), .int m => (ixN ds.length m).map fun j => (.nx, ρ, k.2.set n (.lst (ds.set j x.1)))
      | _, _ => none
  | .setKy o i e, ρ, μ => (evE Γ e ρ μ).bind fun x => (evE Γ o ρ x.2).bind fun r => (evE Γ i ρ r.2).bind fun k => match r.1 with
      | .ref n => match k.2[n]? with
        | some (.dic kvs) => if kvs.length < sizeLine then (keyD k.1).map fun y => (.nx, ρ, k.2.set n (.dic (setK kvs y x.1))) else none
        | _ => none
      | _ => none
  | .augIx op o i e, ρ, μ => (evE Γ o ρ μ).bind fun r => (evE Γ i ρ r.2).bind fun k => match lstAt k.2 r.1, k.1 with
      | some (_, ds), .int m => (atI ds m).bind fun v => (evE Γ e ρ k.2).bind fun x => match op, v, x.1 with
        | .Add, .int a, .int b => match lstAt x.2 r.1 with
          | some (n, es) => (ixN es.length m).map fun j => (.nx, ρ, x.2.set n (.lst (es.set j (.int (a + b)))))
          | none => none
        | _, _, _ => none
      | _, _ => none
  | .aug op i e, ρ, μ => (slotD ρ i).bind fun v => (evE Γ e ρ μ).bind fun x => match op, v, x.1 with
      | .Add, .int a, .int b => some (.nx, ρ.set i (.val (.int (a + b))), x.2)
      | _, _, _ => none
  | .setAt c o f e, ρ, μ => (evE Γ e ρ μ).bind fun x => (evE Γ o ρ x.2).bind fun r => (insAt r.2 c r.1).bind fun p =>
      if p.2.length < 1000 then some (.nx, ρ, r.2.set p.1 (.ins c (putD f x.1 p.2))) else none
  | .setAt2 c i f g a b, ρ, μ => (evE Γ a ρ μ).bind fun x => (evE Γ b ρ x.2).bind fun y => (slotD ρ i).bind fun d => (insAt y.2 c d).bind fun p =>
      if p.2.length < 999 then some (.nx, ρ, (y.2.set p.1 (.ins c (putD f x.1 p.2))).set p.1 (.ins c (putD g y.1 (putD f x.1 p.2)))) else none
  | .app o e, ρ, μ => (evE Γ o ρ μ).bind fun r => (lstAt r.2 r.1).bind fun _ => (evE Γ e ρ r.2).bind fun x => (lstAt x.2 r.1).bind fun p =>
      if p.2.length < sizeLine then some (.nx, ρ, x.2.set p.1 (.lst (p.2 ++ [x.1]))) else none
  | .appOwn i e, ρ, μ => (ownS ρ i).bind fun ds => (evE Γ e ρ μ).bind fun x => if ds.length < sizeLine then some (.nx, ρ.set i (.own (.lst (ds ++ [x.1]))), x.2) else none
  | .extOwn i f, ρ, μ => (ownS ρ i).bind fun ds => (evF Γ f ρ μ).bind fun x => if ds.length + x.1.length ≤ sizeLine then some (.nx, ρ.set i (.own (.lst (ds ++ x.1))), x.2) else none
  | .extV i e, ρ, μ => (ownS ρ i).bind fun ds => (evE Γ e ρ μ).bind fun x => match viewD x.2 x.1 with
      | .lst es => if ds.length + es.length ≤ sizeLine then some (.nx, ρ.set i (.own (.lst (ds ++ es))), x.2) else none
      | _ => none
def evSs : ISs → Slots → Store → SR
  | .nil, ρ, μ => some (.nx, ρ, μ)
  | .cons s ss, ρ, μ => (evS s ρ μ).bind fun r => match r.1 with
    | .nx => evSs ss r.2.1 r.2.2
    | .brk => some (.brk, r.2)
    | .ct => some (.ct, r.2)
    | .ret d => some (.ret d, r.2)
end
end
/-- a def: its parameters, its names, its body -/
structure Fn where
  np : Nat
  size : Nat
  body : ISs
def start0 (F : Fn) (ds : List D) : Slots := ds.map .val ++ List.replicate (F.size - ds.length) .emp
def callF (fs : List Fn) (Γ : Env2) : Fns := fun f ds μ => match fs[f]? with
  | some F => if ds.length = F.np then match evSs Γ F.body (start0 F ds) μ with
      | some (.ret d, _, μ') => some (d, μ')
      | some (.nx, _, μ') => some (.non, μ')
      | _ => none
    else none
  | none => none
/-- all defs, to a depth of k calls within one another; and to one less -/
def runP (fs : List Fn) : Nat → Fns × Fns
  | 0 => (fun _ _ _ => none, fun _ _ _ => none)
  | k + 1 => (callF fs ⟨(runP fs k).1, (runP fs k).2⟩, (runP fs k).1)
def run (fs : List Fn) (k : Nat) : Fns := (runP fs k).1
end FH
end
section
/-! FH2: how plain data lies in the hand layer's heap; the plain operations are what the machine does. -/
namespace FH
open PySem PySem.Spec PyProof.Rows L2

/-- where the text's own defs and classes stand -/
structure Ev where
  K : PySem.W.Frag
  P : Program
  w : World
  fa : Nat → Addr
  ca : Nat → Addr

/-- a list that the top wrote -/
def KL (K : PySem.W.Frag) (a : Addr) (vs : List V) : Prop := ∃ (its : List Value) (n : Nat), K.lookup a = some { cls := .type "list", data := .seq its.toArray n } ∧ vs.length ≤ sizeLine ∧ Vals vs its
/-- a list that stays -/
def FzL (K : PySem.W.Frag) (H : Hp) (a : Addr) (vs : List V) : Prop := (∃ o, H a = some (.frz o (.lst vs))) ∨ KL K a vs
/-- a list that is read -/
def RdL (K : PySem.W.Frag) (H : Hp) (a : Addr) (vs : List V) : Prop := Rd H a (.lst vs) ∨ KL K a vs
theorem FzL.rd {K : PySem.W.Frag} {H : Hp} {a : Addr} {vs : List V} (h : FzL K H a vs) : RdL K H a vs := h.elim (fun q => .inl (.inr q)) .inr
theorem RdL.sq {K : PySem.W.Frag} {H : Hp} {a : Addr} {vs : List V} (h : RdL K H a vs) : SqL K H a vs := h.elim .inl fun ⟨its, n, e, z, r⟩ => .inr ⟨_, its.toArray, n, e, rfl, rfl, rfl, by have := r.length; rw [List.size_toArray]; omega, by simpa using r⟩
theorem RdL.at_ {X : Cx} {pins : List (Addr × Obj)} {σ : L2.St} {s : Shared} {H : Hp} {a : Addr} {vs : List V} (h : RdL X.K H a vs) (I : Inv X pins σ H s) : ∃ (its : List Value) (n : Nat), vs.length ≤ sizeLine ∧ Vals vs its ∧ s.heap.get? a = some { cls := .type "list", data := .seq its.toArray n } := by
  rcases h with h | ⟨its, n, e, z, r⟩
  · obtain ⟨z, its, n, r, e⟩ := h.ok I.hok
    exact ⟨its, n, z, r, e⟩
  · exact ⟨its, n, z, r, I.kIn a _ e⟩

mutual
/-- how d lies: φ tells where the changing things stand -/
inductive Enc (ε : Ev) (φ : List Addr) (H : Hp) : V → D → Prop
  | non : Enc ε φ H .non .non
  | bl (b : Bool) : Enc ε φ H (.bl b) (.bl b)
  | int (i : Int) : Enc ε φ H (.int i) (.int i)
  | str (x : Str) : Enc ε φ H (.str x) (.str x)
  | ty (n : String) : Enc ε φ H (.ty n) (.ty n)
  | fn (n : Nat) : Enc ε φ H (.ref (ε.fa n)) (.fn n)
  | ref {n : Nat} {a : Addr} : φ[n]? = some a → Enc ε φ H (.ref a) (.ref n)
  | tup {a : Addr} {vs : List V} {ds : List D} : SqT ε.K H a vs → EncL ε φ H vs ds → Enc ε φ H (.ref a) (.tup ds)
  | lst {a : Addr} {vs : List V} {ds : List D} : FzL ε.K H a vs → EncL ε φ H vs ds → Enc ε φ H (.ref a) (.lst ds)
inductive EncL (ε : Ev) (φ : List Addr) (H : Hp) : List V → List D → Prop
  | nil : EncL ε φ H [] []
  | cons {v : V} {vs : List V} {d : D} {ds : List D} : Enc ε φ H v d → EncL ε φ H vs ds → EncL ε φ H (v :: vs) (d :: ds)
end

/-- what stays for good -/
structure Grow (H H' : Hp) : Prop where
  tups : ∀ b xs, H b = some (.tup xs) → H' b = some (.tup xs)
  frzs : ∀ b o u, H b = some (.frz o u) → H' b = some (.frz o u)
theorem Grow.refl {H : Hp} : Grow H H := ⟨fun _ _ q => q, fun _ _ _ q => q⟩
theorem Grow.trans {H H1 H2 : Hp} (a : Grow H H1) (b : Grow H1 H2) : Grow H H2 := ⟨fun c xs q => b.tups c xs (a.tups c xs q), fun c o u q => b.frzs c o u (a.frzs c o u q)⟩
theorem SqT.grow {K : PySem.W.Frag} {H H' : Hp} {a : Addr} {vs : List V} (g : Grow H H') (h : SqT K H a vs) : SqT K H' a vs := by
  rcases h with (q | ⟨o, q⟩) | q
  · exact .inl (.inl (g.tups _ _ q))
  · exact .inl (.inr ⟨o, g.frzs _ _ _ q⟩)
  · exact .inr q
theorem FzL.grow {K : PySem.W.Frag} {H H' : Hp} {a : Addr} {vs : List V} (g : Grow H H') (h : FzL K H a vs) : FzL K H' a vs := h.elim (fun ⟨o, q⟩ => .inl ⟨o, g.frzs _ _ _ q⟩) .inr
section
variable {ε : Ev} {φ : List Addr} {H H' : Hp}
theorem get_app {α : Type} {l m : List α} {n : Nat} {a : α} (h : l[n]? = some a) : (l ++ m)[n]? = some a := by
  have q := (List.getElem?_eq_some_iff.mp h).1
  rw [List.getElem?_append_left q]; exact h
mutual
theorem Enc.mono (φ2 : List Addr) (g : Grow H H') : ∀ {d : D} {v : V}, Enc ε φ H v d → Enc ε (φ ++ φ2) H' v d
  | .non, _, h => by cases h; exact .non
  | .bl _, _, h => by cases h; exact .bl _
  | .int _, _, h => by cases h; exact .int _
  | .str _, _, h => by cases h; exact .str _
  | .ty _, _, h => by cases h; exact .ty _
  | .fn _, _, h => by cases h; exact .fn _
  | .ref _, _, h => by cases h with | ref q => exact .ref (get_app q)
  | .tup ds, _, h => by cases h with | tup q r => exact .tup (SqT.grow g q) (EncL.mono φ2 g r)
  | .lst ds, _, h => by cases h with | lst q r => exact .lst (FzL.grow g q) (EncL.mono φ2 g r)
theorem EncL.mono (φ2 : List Addr) (g : Grow H H') : ∀ {ds : List D} {vs : List V}, EncL ε φ H vs ds → EncL ε (φ ++ φ2) H' vs ds
  | [], _, h => by cases h; exact .nil
  | d :: ds, _, h => by cases h with | cons q r => exact .cons (Enc.mono φ2 g q) (EncL.mono φ2 g r)
end
theorem Enc.grow {d : D} {v : V} (g : Grow H H') (h : Enc ε φ H v d) : Enc ε φ H' v d := by
  have q := Enc.mono [] g h
  rwa [List.append_nil] at q
theorem EncL.grow {ds : List D} {vs : List V} (g : Grow H H') (h : EncL ε φ H vs ds) : EncL ε φ H' vs ds := by
  have q := EncL.mono [] g h
  rwa [List.append_nil] at q
theorem EncL.length : ∀ {vs : List V} {ds : List D}, EncL ε φ H vs ds → vs.length = ds.length
  | _, [], h => by cases h; rfl
  | _, d :: ds, h => by cases h with | cons q r => simp [EncL.length r]
theorem EncL.app : ∀ {vs ws : List V} {ds es : List D}, EncL ε φ H vs ds → EncL ε φ H ws es → EncL ε φ H (vs ++ ws) (ds ++ es)
  | _, _, [], _, h, k => by cases h; exact k
  | _, _, d :: ds, _, h, k => by cases h with | cons q r => exact .cons q (EncL.app r k)
theorem EncL.get : ∀ {vs : List V} {ds : List D} {i : Nat} {d : D}, EncL ε φ H vs ds → ds[i]? = some d → ∃ v, vs[i]? = some v ∧ Enc ε φ H v d
  | _, [], i, d, h, e => by simp at e
  | _, x :: ds, 0, d, h, e => by cases h with | cons q r => simp at e; subst e; exact ⟨_, rfl, q⟩
  | _, x :: ds, i + 1, d, h, e => by
    cases h with
    | cons q r =>
      obtain ⟨v, h1, h2⟩ := EncL.get r (by simpa using e)
      exact ⟨v, by simpa using h1, h2⟩
theorem EncL.getV : ∀ {ds : List D} {vs : List V} {i : Nat} {v : V}, EncL ε φ H vs ds → vs[i]? = some v → ∃ d, ds[i]? = some d ∧ Enc ε φ H v d := by
  intro ds vs i v h e
  have hl := h.length
  have hi := (List.getElem?_eq_some_iff.mp e).1
  obtain ⟨d, hd⟩ : ∃ d, ds[i]? = some d := ⟨ds[i], by simp [show i < ds.length by omega]⟩
  obtain ⟨w, h1, h2⟩ := EncL.get h hd
  rw [e] at h1; cases h1
  exact ⟨d, hd, h2⟩
theorem EncL.drop : ∀ {vs : List V} {ds : List D} (n : Nat), EncL ε φ H vs ds → EncL ε φ H (vs.drop n) (ds.drop n)
  | _, _, 0, h => h
  | _, [], n + 1, h => by cases h; exact .nil
  | _, d :: ds, n + 1, h => by cases h with | cons q r => exact EncL.drop n r
theorem EncL.take : ∀ {vs : List V} {ds : List D} (n : Nat), EncL ε φ H vs ds → EncL ε φ H (vs.take n) (ds.take n)
  | _, _, 0, h => .nil
  | _, [], n + 1, h => by cases h; exact .nil
  | _, d :: ds, n + 1, h => by cases h with | cons q r => exact .cons q (EncL.take n r)
theorem EncL.set : ∀ {vs : List V} {ds : List D} {v : V} {d : D} (n : Nat), EncL ε φ H vs ds → Enc ε φ H v d → EncL ε φ H (vs.set n v) (ds.set n d)
  | _, [], _, _, n, h, k => by cases h; exact .nil
  | _, e :: ds, _, _, 0, h, k => by cases h with | cons q r => exact .cons k r
  | _, e :: ds, _, _, n + 1, h, k => by cases h with | cons q r => exact .cons q (EncL.set n r k)

/-- how an operand lies that is read at once -/
def Vw (ε : Ev) (φ : List Addr) (H : Hp) (v : V) (d : D) : Prop :=
  Enc ε φ H v d ∨ ∃ a vs ds, d = .lst ds ∧ v = .ref a ∧ RdL ε.K H a vs ∧ EncL ε φ H vs ds
inductive VwL (ε : Ev) (φ : List Addr) (H : Hp) : List V → List D → Prop
  | nil : VwL ε φ H [] []
  | cons {v : V} {vs : List V} {d : D} {ds : List D} : Vw ε φ H v d → VwL ε φ H vs ds → VwL ε φ H (v :: vs) (d :: ds)
theorem Vw.lst {v : V} {ds : List D} (h : Vw ε φ H v (.lst ds)) : ∃ a vs, v = .ref a ∧ RdL ε.K H a vs ∧ EncL ε φ H vs ds := by
  rcases h with h | ⟨a, vs, es, e, hv, hs, hl⟩
  · cases h with | lst q r => exact ⟨_, _, rfl, q.rd, r⟩
  · cases e; exact ⟨a, vs, hv, hs, hl⟩
theorem Vw.tup {v : V} {ds : List D} (h : Vw ε φ H v (.tup ds)) : ∃ a vs, v = .ref a ∧ SqT ε.K H a vs ∧ EncL ε φ H vs ds := by
  rcases h with h | ⟨a, vs, es, e, hv, hs, hl⟩
  · cases h with | tup q r => exact ⟨_, _, rfl, q, r⟩
  · cases e
theorem Vw.int {v : V} {i : Int} (h : Vw ε φ H v (.int i)) : v = .int i := by
  rcases h with h | ⟨a, vs, es, e, hv, hs, hl⟩
  · cases h; rfl
  · cases e
theorem Vw.str {v : V} {i : Str} (h : Vw ε φ H v (.str i)) : v = .str i := by
  rcases h with h | ⟨a, vs, es, e, hv, hs, hl⟩
  · cases h; rfl
  · cases e
theorem Vw.bl {v : V} {i : Bool} (h : Vw ε φ H v (.bl i)) : v = .bl i := by
  rcases h with h | ⟨a, vs, es, e, hv, hs, hl⟩
  · cases h; rfl
  · cases e
theorem Vw.non {v : V} (h : Vw ε φ H v .non) : v = .non := by
  rcases h with h | ⟨a, vs, es, e, hv, hs, hl⟩
  · cases h; rfl
  · cases e
theorem Vw.ty {v : V} {n : String} (h : Vw ε φ H v (.ty n)) : v = .ty n := by
  rcases h with h | ⟨a, vs, es, e, hv, hs, hl⟩
  · cases h; rfl
  · cases e
theorem Vw.enc {v : V} {d : D} (h : Vw ε φ H v d) (n : ∀ ds, d ≠ .lst ds) : Enc ε φ H v d := by
  rcases h with h | ⟨a, vs, es, e, _⟩
  · exact h
  · exact absurd e (n es)

mutual
theorem Enc.dp : ∀ {d : D} {v : V} {p : PyData}, Enc ε φ H v d → d.py = some p → Dp ε.K H v p
  | .non, _, _, h, e => by cases h; simp [D.py] at e; subst e; exact .non
  | .bl _, _, _, h, e => by cases h; simp [D.py] at e; subst e; exact .bl _
  | .int _, _, _, h, e => by cases h; simp [D.py] at e; subst e; exact .int _
  | .str _, _, _, h, e => by cases h; simp [D.py] at e; subst e; exact .str _
  | .ty _, _, _, h, e => by simp [D.py] at e
  | .fn _, _, _, h, e => by simp [D.py] at e
  | .ref _, _, _, h, e => by simp [D.py] at e
  | .tup ds, _, _, h, e => by
    cases h with
    | tup q r =>
      simp only [D.py, Option.map_eq_some_iff] at e
      obtain ⟨ps, e, rfl⟩ := e
      exact .tup q (EncL.dp r e)
  | .lst ds, _, _, h, e => by
    cases h with
    | lst q r =>
      simp only [D.py, Option.map_eq_some_iff] at e
      obtain ⟨ps, e, rfl⟩ := e
      exact .lst q.rd.sq (EncL.dp r e)
theorem EncL.dp : ∀ {ds : List D} {vs : List V} {ps : List PyData}, EncL ε φ H vs ds → pyL ds = some ps → DpAll ε.K H vs ps
  | [], _, _, h, e => by cases h; simp [pyL] at e; subst e; exact .nil
  | d :: ds, _, _, h, e => by
    cases h with
    | cons q r =>
      simp only [pyL] at e
      split at e
      · rename_i x xs e1 e2
        cases e
        exact .cons (Enc.dp q e1) (EncL.dp r e2)
      · cases e
end
theorem Vw.dp {d : D} {v : V} {p : PyData} (h : Vw ε φ H v d) (e : d.py = some p) : Dp ε.K H v p := by
  rcases h with h | ⟨a, vs, ds, rfl, rfl, hs, hl⟩
  · exact h.dp e
  · simp only [D.py, Option.map_eq_some_iff] at e
    obtain ⟨ps, e, rfl⟩ := e
    exact .lst hs.sq (hl.dp e)
theorem Vw.flat {d : D} {v : V} (h : Vw ε φ H v d) (f : d.flat = true) : flatV v = true := by
  cases d <;> first | (simp [D.flat] at f; done) | skip
  · rw [h.non]; rfl
  · rw [h.bl]; rfl
  · rw [h.int]; rfl
  · rw [h.str]; rfl
theorem Enc.eqv {c d : D} {u v : V} (h : Enc ε φ H u c) (k : Enc ε φ H v d) (f : c.flat = true) (g : d.flat = true) : eqV u v = eqF c d := by
  cases c <;> first | (simp [D.flat] at f; done) | skip
  all_goals (cases d <;> first | (simp [D.flat] at g; done) | skip)
  all_goals (cases h; cases k; first | rfl | simp [eqV, eqF, b2i])
theorem EncL.flatAll : ∀ {ds : List D} {vs : List V}, EncL ε φ H vs ds → ds.all D.flat = true → vs.all flatV = true
  | [], _, h, f => by cases h; rfl
  | d :: ds, _, h, f => by
    cases h with
    | cons q r =>
      simp only [List.all_cons, Bool.and_eq_true] at f ⊢
      exact ⟨Vw.flat (.inl q) f.1, EncL.flatAll r f.2⟩
theorem EncL.anyEq {a : D} {x : V} (hx : Enc ε φ H x a) (fa : a.flat = true) : ∀ {ds : List D} {vs : List V}, EncL ε φ H vs ds → ds.all D.flat = true → inV x vs = ds.any fun z => eqF z a
  | [], _, h, f => by cases h; rfl
  | d :: ds, _, h, f => by
    cases h with
    | cons q r =>
      simp only [List.all_cons, Bool.and_eq_true] at f
      have ih := EncL.anyEq hx fa r f.2
      unfold inV at ih ⊢
      simp only [List.any_cons, ih, q.eqv hx f.1 fa]
end

/-- only new things -/
def Ex (H H' : Hp) : Prop := ∀ b o, H b = some o → H' b = some o
theorem Ex.refl {H : Hp} : Ex H H := fun _ _ q => q
theorem Ex.grow {H H' : Hp} (h : Ex H H') : Grow H H' := ⟨fun b xs q => h b _ q, fun b o u q => h b _ q⟩
theorem Ex.new {H : Hp} {p : Addr} {o : HO} (h : H p = none) : Ex H (upd H p o) := fun b u q => by
  rw [upd_ne (fun e => by rw [e, h] at q; cases q)]; exact q

/-- a list just made is left as it is from here on -/
theorem EP.frz {X : Cx} {pins : List (Addr × Obj)} {σ : L2.St} {Q : VK} {u : Value} {s : Shared}
    (h : EP X pins σ (fun v H => ∃ p ys, v = .ref p ∧ H p = some (.lst ys) ∧ ∀ o, Q v (upd H p (.frz o (.lst ys)))) u s) : EP X pins σ Q u s := by
  obtain ⟨v, H, I, r, p, ys, rfl, hp, q⟩ := h
  obtain ⟨od, I2⟩ := I.lock hp trivial
  exact ⟨_, _, I2, r, q od⟩
theorem frz_new {H : Hp} {p : Addr} {o : Obj} {u : HO} (h : H p = none) : Ex H (upd (upd H p u) p (.frz o u)) := by
  rw [upd_upd]; exact Ex.new h

/-! ### the operators, by plain data -/
section
variable {X : Cx} {ε : Ev}
/-- two operands -/
def rP2 (ε : Ev) (f : D → D → Option D) : R2 := fun x y H Q => ∃ φ c d z, Vw ε φ H x c ∧ Vw ε φ H y d ∧ f c d = some z ∧ ∀ v H', Ex H H' → Enc ε φ H' v z → Q v H'
theorem OpR.imp {f : Value → Value → Sem Value} {r r' : R2} (h : OpR X f r) (k : ∀ x y H Q, r' x y H Q → r x y H Q) : OpR X f r' :=
  fun pins s σ H x y v u Q I rx ry q => h pins s σ H x y v u Q I rx ry (k x y H Q q)
theorem CallR.imp {f : Value} {r r' : List V → Hp → VK → Prop} (h : CallR X f r) (k : ∀ xs H Q, r' xs H Q → r xs H Q) : CallR X f r' :=
  fun pins s σ H xs us Q I rx q => h pins s σ H xs us Q I rx (k xs H Q q)
theorem IxR.imp {r r' : R2} (h : IxR X r) (k : ∀ x y H Q, r' x y H Q → r x y H Q) : IxR X r' :=
  fun value slice pins s σ H x y v u Q I rx ry q => h value slice pins s σ H x y v u Q I rx ry (k x y H Q q)
/-- two lists, any -/
def rCatL (K : PySem.W.Frag) : R2 := fun x y H Q => ∃ l b xs zs, x = .ref l ∧ y = .ref b ∧ RdL K H l xs ∧ RdL K H b zs ∧ xs.length + zs.length ≤ sizeLine ∧ ∀ p, H p = none → Q (.ref p) (upd H p (.lst (xs ++ zs)))
theorem op_catL : OpR X (binaryOp .Add) (rCatL X.K) := by
  intro pins s σ H x y v u Q I rx ry h
  obtain ⟨l, b, xs, zs, rfl, rfl, hH, hB, hz, q⟩ := h
  cases rx
  cases ry
  obtain ⟨its, n, _, r, e⟩ := hH.at_ I
  obtain ⟨its2, n2, _, r2, e2⟩ := hB.at_ I
  have hl := r.length
  have hl2 := r2.length
  refine PySem.P.add_list e e2 ?_ (by rw [List.size_toArray, List.size_toArray]; omega)
  have ea : its.toArray ++ its2.toArray = (its ++ its2).toArray := by simp
  rw [ea]
  exact ⟨.ref _, _, I.lnew (t' := s.toks) (r.append r2) (by rw [List.length_append]; omega), rfl, q _ I.fresh⟩
/-- what is made by an operator that makes a list, left as it is -/
theorem OpR.frz {f : Value → Value → Sem Value} {r : R2} (h : OpR X f r) :
    OpR X f (fun x y H Q => r x y H (fun v H' => ∃ p ys, v = .ref p ∧ H' p = some (.lst ys) ∧ ∀ o, Q v (upd H' p (.frz o (.lst ys))))) :=
  fun pins s σ H x y v u Q I rx ry q => thn (h pins s σ H x y v u _ I rx ry q) fun _ _ e => EP.frz e



theorem op_addD (hK : ε.K = X.K) : OpR X (binaryOp .Add) (rP2 ε (binD .Add)) := by
  refine OpR.imp (op_add.or (op_add_str.or (op_catA.or (OpR.frz op_catL)))) fun x y H Q h => ?_
  obtain ⟨φ, c, d, z, hc, hd, e, q⟩ := h
  cases c <;> cases d <;> (first | (exfalso; simp [binD] at e; done) | skip)
  · simp only [binD, Option.some.injEq] at e
    subst e
    exact .inl ⟨_, _, hc.int, hd.int, q _ _ Ex.refl (.int _)⟩
  · rename_i x y
    simp only [binD] at e
    split at e
    · cases e
      exact .inr (.inl ⟨_, _, hc.str, hd.str, by assumption, q _ _ Ex.refl (.str _)⟩)
    · cases e
  · rename_i xs ys
    simp only [binD] at e
    split at e
    · cases e
      obtain ⟨a, vs, rfl, h1, h2⟩ := hc.tup
      obtain ⟨b, ws, rfl, k1, k2⟩ := hd.tup
      have l1 := h2.length
      have l2 := k2.length
      rw [hK] at h1 k1
      refine .inr (.inr (.inl ⟨a, b, vs, ws, rfl, rfl, h1, k1, by omega, fun z => ?_, fun _ z => ?_, fun _ _ p hp => ?_⟩))
      · subst z
        cases xs with
        | nil => exact q _ _ Ex.refl (.tup (by rw [hK]; exact k1) k2)
        | cons _ _ => simp at l1
      · subst z
        cases ys with
        | nil => rw [List.append_nil] at q; exact q _ _ Ex.refl (.tup (by rw [hK]; exact h1) h2)
        | cons _ _ => simp at l2
      · have g : Ex H (upd H p (.tup (vs ++ ws))) := Ex.new hp
        exact q _ _ g (.tup (SqT.of upd_same) (EncL.app (h2.grow g.grow) (k2.grow g.grow)))
    · cases e
  · rename_i xs ys
    simp only [binD] at e
    split at e
    · rename_i hz
      cases e
      obtain ⟨a, vs, rfl, h1, h2⟩ := hc.lst
      obtain ⟨b, ws, rfl, k1, k2⟩ := hd.lst
      have l1 := h2.length
      have l2 := k2.length
      refine .inr (.inr (.inr ⟨a, b, vs, ws, rfl, rfl, hK ▸ h1, hK ▸ k1, by omega, fun p hp => ⟨p, _, rfl, upd_same, fun o => ?_⟩⟩))
      have g : Ex H (upd (upd H p (.lst (vs ++ ws))) p (.frz o (.lst (vs ++ ws)))) := frz_new hp
      exact q _ _ g (.lst (.inl ⟨o, upd_same⟩) (EncL.app (h2.grow g.grow) (k2.grow g.grow)))
    · cases e
theorem op_subD : OpR X (binaryOp .Sub) (rP2 ε (binD .Sub)) := by
  refine OpR.imp op_sub fun x y H Q h => ?_
  obtain ⟨φ, c, d, z, hc, hd, e, q⟩ := h
  cases c <;> cases d <;> (first | (exfalso; simp [binD] at e; done) | skip)
  simp only [binD, Option.some.injEq] at e
  subst e
  exact ⟨_, _, hc.int, hd.int, q _ _ Ex.refl (.int _)⟩
/-- a text, so many times -/
theorem op_mul_txt : OpR X (binaryOp .Mult) (fun x y H Q => ∃ (z : Str) (n : Int), x = .str z ∧ y = .int n ∧ z.length ≤ 1000 ∧ 0 ≤ n ∧ n ≤ 1000 ∧ Q (.str (Txt.mul z n)) H) := by
  intro pins s σ H x y v u Q I rx ry h
  obtain ⟨z, n, rfl, rfl, h1, h2, h3, q⟩ := h
  obtain ⟨t, rfl⟩ := rx
  obtain ⟨t', rfl⟩ := ry
  refine SB.mul ⟨?_, fun _ _ => ?_, fun _ _ => ?_⟩ fun t' k => ⟨.str _, H, I.tok _, ⟨_, rfl⟩, q⟩
  · simp only [Bool.or_eq_false_iff, decide_eq_false_iff_not]
    omega
  · have : (2 ^ 63 - 1 : Int) / 1000 ≤ (2 ^ 63 - 1) / n := by
      apply Int.le_ediv_of_mul_le (by omega)
      have e : (2 ^ 63 - 1 : Int) / 1000 = 9223372036854775 := by decide
      rw [e]
      have : 9223372036854775 * n ≤ 9223372036854775 * 1000 := Int.mul_le_mul_of_nonneg_left h3 (by decide)
      omega
    have e : (2 ^ 63 - 1 : Int) / 1000 = 9223372036854775 := by decide
    omega
  · have e : z.length * n.toNat ≤ 1000 * 1000 := Nat.mul_le_mul h1 (by omega)
    unfold Builtin.Str.tooLong
    simp only [decide_eq_false_iff_not]
    have := sizeLine_eq
    omega
theorem op_mulD : OpR X (binaryOp .Mult) (rP2 ε (binD .Mult)) := by
  refine OpR.imp (op_mul.or op_mul_txt) fun x y H Q h => ?_
  obtain ⟨φ, c, d, z, hc, hd, e, q⟩ := h
  cases c <;> cases d <;> (first | (exfalso; simp [binD] at e; done) | skip)
  · simp only [binD] at e
    split at e
    · cases e
      exact .inl ⟨_, _, hc.int, hd.int, by assumption, q _ _ Ex.refl (.int _)⟩
    · cases e
  · simp only [binD] at e
    split at e
    · rename_i hz
      cases e
      exact .inr ⟨_, _, hc.str, hd.int, hz.1, hz.2.1, hz.2.2, q _ _ Ex.refl (.str _)⟩
    · cases e
theorem op_divD : OpR X (binaryOp .FloorDiv) (rP2 ε (binD .FloorDiv)) := by
  refine OpR.imp op_fdivN fun x y H Q h => ?_
  obtain ⟨φ, c, d, z, hc, hd, e, q⟩ := h
  cases c <;> cases d <;> (first | (exfalso; simp [binD] at e; done) | skip)
  simp only [binD] at e
  split at e
  · cases e
    exact ⟨_, _, hc.int, hd.int, by assumption, q _ _ Ex.refl (.int _)⟩
  · cases e
theorem op_modD : OpR X (binaryOp .Mod) (rP2 ε (binD .Mod)) := by
  refine OpR.imp op_modN fun x y H Q h => ?_
  obtain ⟨φ, c, d, z, hc, hd, e, q⟩ := h
  cases c <;> cases d <;> (first | (exfalso; simp [binD] at e; done) | skip)
  simp only [binD] at e
  split at e
  · cases e
    exact ⟨_, _, hc.int, hd.int, by assumption, q _ _ Ex.refl (.int _)⟩
  · cases e
theorem op_powD : OpR X (binaryOp .Pow) (rP2 ε (binD .Pow)) := by
  refine OpR.imp op_pow fun x y H Q h => ?_
  obtain ⟨φ, c, d, z, hc, hd, e, q⟩ := h
  cases c <;> cases d <;> (first | (exfalso; simp [binD] at e; done) | skip)
  simp only [binD] at e
  split at e
  · cases e
    exact ⟨_, _, hc.int, hd.int, by assumption, q _ _ Ex.refl (.int _)⟩
  · cases e
theorem op_binD (hK : ε.K = X.K) : ∀ op : Operator, OpR X (binaryOp op) (rP2 ε (binD op))
  | .Add => op_addD hK
  | .Sub => op_subD
  | .Mult => op_mulD
  | .FloorDiv => op_divD
  | .Mod => op_modD
  | .Pow => op_powD
  | .MatMult | .Div | .LShift | .RShift | .BitOr | .BitXor | .BitAnd => fun pins s σ H x y v u Q I rx ry h => by
    obtain ⟨φ, c, d, z, hc, hd, e, q⟩ := h
    cases c <;> cases d <;> simp [binD] at e

theorem eqD_cases {a b : D} {k : Bool} (h : eqD a b = some k) : (a.flat = true ∧ b.flat = true ∧ k = eqF a b) ∨ ∃ x y, a.py = some x ∧ b.py = some y ∧ SeqAt.shaped x = true ∧ SeqAt.shaped y = true ∧ k = PyData.eqv x y := by
  unfold eqD at h
  split at h
  · rename_i f
    simp only [Bool.and_eq_true] at f
    cases h
    exact .inl ⟨f.1, f.2, rfl⟩
  · split at h
    · rename_i x y e1 e2
      split at h
      · rename_i f
        simp only [Bool.and_eq_true] at f
        cases h
        exact .inr ⟨x, y, e1, e2, f.1, f.2, rfl⟩
      · cases h
    · cases h
/-- what flat things' == is, by the layer's two rules -/
theorem flat_eq {φ : List Addr} {H : Hp} {x y : V} {c d : D} (hc : Vw ε φ H x c) (hd : Vw ε φ H y d) (f : c.flat = true) (g : d.flat = true) :
    (scal x y = true ∧ decide (x = y) = eqF c d) ∨ ∃ p r, Dp ε.K H x p ∧ Dp ε.K H y r ∧ SeqAt.shaped p = true ∧ SeqAt.shaped r = true ∧ PyData.eqv p r = eqF c d := by
  have s1 : ∀ b : Bool, SeqAt.shaped (.bool b) = true := fun b => by cases b <;> decide
  have s2 : ∀ i : Int, SeqAt.shaped (.int i) = true := fun i => by simp [SeqAt.shaped, PyData.canLay0, PyData.depth]
  cases c <;> first | (simp [D.flat] at f; done) | skip
  all_goals (cases d <;> first | (simp [D.flat] at g; done) | skip)
  · rw [hc.non, hd.non]; exact .inl ⟨rfl, rfl⟩
  · rw [hc.non, hd.bl]; exact .inl ⟨rfl, rfl⟩
  · rw [hc.non, hd.int]; exact .inl ⟨rfl, rfl⟩
  · rw [hc.non, hd.str]; exact .inl ⟨rfl, rfl⟩
  · rw [hc.bl, hd.non]; exact .inl ⟨rfl, rfl⟩
  · rw [hc.bl, hd.bl]; exact .inl ⟨rfl, dec_bl⟩
  · rename_i b i
    rw [hc.bl, hd.int]
    exact .inr ⟨_, _, .bl b, .int i, s1 b, s2 i, rfl⟩
  · rw [hc.bl, hd.str]; exact .inl ⟨rfl, rfl⟩
  · rw [hc.int, hd.non]; exact .inl ⟨rfl, rfl⟩
  · rename_i i b
    rw [hc.int, hd.bl]
    exact .inr ⟨_, _, .int i, .bl b, s2 i, s1 b, rfl⟩
  · rw [hc.int, hd.int]; exact .inl ⟨rfl, dec_int⟩
  · rw [hc.int, hd.str]; exact .inl ⟨rfl, rfl⟩
  · rw [hc.str, hd.non]; exact .inl ⟨rfl, rfl⟩
  · rw [hc.str, hd.bl]; exact .inl ⟨rfl, rfl⟩
  · rw [hc.str, hd.int]; exact .inl ⟨rfl, rfl⟩
  · rw [hc.str, hd.str]; exact .inl ⟨rfl, dec_str⟩
theorem op_eqDD (hK : ε.K = X.K) (hu : X.A.units + 64 < cLine) : OpR X (compareOp .Eq) (rP2 ε (cmpD .Eq)) := by
  refine OpR.imp (op_eq.or (op_eqD hu)) fun x y H Q h => ?_
  obtain ⟨φ, c, d, z, hc, hd, e, q⟩ := h
  have e : (eqD c d).map D.bl = some z := by cases c <;> cases d <;> exact e
  simp only [Option.map_eq_some_iff] at e
  obtain ⟨k, e1, rfl⟩ := e
  have q := q _ _ Ex.refl (.bl k)
  rcases eqD_cases e1 with ⟨f, g, rfl⟩ | ⟨p, r, e2, e3, s1, s2, rfl⟩
  · rcases flat_eq hc hd f g with ⟨h1, h2⟩ | ⟨p, r, h1, h2, h3, h4, h5⟩
    · exact .inl ⟨h1, by rw [h2]; exact q⟩
    · exact .inr ⟨p, r, by rw [← hK]; exact h1, by rw [← hK]; exact h2, h3, h4, by rw [h5]; exact q⟩
  · exact .inr ⟨p, r, by rw [← hK]; exact hc.dp e2, by rw [← hK]; exact hd.dp e3, s1, s2, q⟩
theorem op_neDD (hK : ε.K = X.K) (hu : X.A.units + 64 < cLine) : OpR X (compareOp .NotEq) (rP2 ε (cmpD .NotEq)) := by
  refine OpR.imp (op_ne.or (op_neD hu)) fun x y H Q h => ?_
  obtain ⟨φ, c, d, z, hc, hd, e, q⟩ := h
  have e : (eqD c d).map (fun k => D.bl !k) = some z := by cases c <;> cases d <;> exact e
  simp only [Option.map_eq_some_iff] at e
  obtain ⟨k, e1, rfl⟩ := e
  have q := q _ _ Ex.refl (.bl !k)
  rcases eqD_cases e1 with ⟨f, g, rfl⟩ | ⟨p, r, e2, e3, s1, s2, rfl⟩
  · rcases flat_eq hc hd f g with ⟨h1, h2⟩ | ⟨p, r, h1, h2, h3, h4, h5⟩
    · exact .inl ⟨h1, by rw [h2]; exact q⟩
    · exact .inr ⟨p, r, by rw [← hK]; exact h1, by rw [← hK]; exact h2, h3, h4, by rw [h5]; exact q⟩
  · exact .inr ⟨p, r, by rw [← hK]; exact hc.dp e2, by rw [← hK]; exact hd.dp e3, s1, s2, q⟩
theorem inD_cases {a : D} {ds : List D} {k : Bool} (h : inD a ds = some k) : (a.flat = true ∧ ds.all D.flat = true ∧ k = ds.any fun z => eqF z a) ∨
    ∃ x xs, a.py = some x ∧ pyL ds = some xs ∧ SeqAt.shaped x = true ∧ SeqAt.shaped (.list xs) = true ∧ k = xs.any fun z => PyData.eqv z x := by
  unfold inD at h
  split at h
  · rename_i f
    simp only [Bool.and_eq_true] at f
    cases h
    exact .inl ⟨f.1, f.2, rfl⟩
  · split at h
    · rename_i x y e1 e2
      split at h
      · rename_i f
        simp only [Bool.and_eq_true] at f
        cases h
        exact .inr ⟨x, y, e1, e2, f.1, f.2, rfl⟩
      · cases h
    · cases h

/-- in, not in a list or tuple, any data -/
def rInA (K : PySem.W.Frag) (neg : Bool) : R2 := fun x y H Q => ∃ d ds, Dp K H x d ∧ (Dp K H y (.list ds) ∨ Dp K H y (.tuple ds)) ∧ SeqAt.shaped d = true ∧ SeqAt.shaped (.list ds) = true ∧ Q (.bl (if neg then !(ds.any fun z => PyData.eqv z d) else ds.any fun z => PyData.eqv z d)) H
theorem op_inA (hu : X.A.units + 65 < cLine) : OpR X (compareOp .In) (rInA X.K false) := by
  intro pins s σ H x y v u Q I rx ry h
  obtain ⟨d, ds, hd, he, sd, se, q⟩ := h
  obtain ⟨as, r1⟩ := Dp.reads I d x v hd rx
  have lay : PyData.canLayAll0 ds = true := by
    have z := SeqAt.canLay_of_shaped se
    simpa [PyData.canLay0] using z
  rcases he with he | he
  · obtain ⟨bs, r2⟩ := Dp.reads I _ y u he ry
    exact SeqAt.in_list_reads r2 r1 lay (SeqAt.canLay_of_shaped sd) (room_in_shaped sd hu) ⟨.bl _, H, I, rfl, q⟩
  · obtain ⟨bs, r2⟩ := Dp.reads I _ y u he ry
    exact SeqAt.in_tuple_reads r2 r1 lay (SeqAt.canLay_of_shaped sd) (room_in_shaped sd hu) ⟨.bl _, H, I, rfl, q⟩
theorem op_notInA (hu : X.A.units + 65 < cLine) : OpR X (compareOp .NotIn) (rInA X.K true) := by
  intro pins s σ H x y v u Q I rx ry h
  obtain ⟨d, ds, hd, he, sd, se, q⟩ := h
  obtain ⟨as, r1⟩ := Dp.reads I d x v hd rx
  have lay : PyData.canLayAll0 ds = true := by
    have z := SeqAt.canLay_of_shaped se
    simpa [PyData.canLay0] using z
  rcases he with he | he
  · obtain ⟨bs, r2⟩ := Dp.reads I _ y u he ry
    exact SeqAt.notIn_list_reads r2 r1 lay (SeqAt.canLay_of_shaped sd) (room_in_shaped sd hu) ⟨.bl _, H, I, rfl, q⟩
  · obtain ⟨bs, r2⟩ := Dp.reads I _ y u he ry
    exact SeqAt.notIn_tuple_reads r2 r1 lay (SeqAt.canLay_of_shaped sd) (room_in_shaped sd hu) ⟨.bl _, H, I, rfl, q⟩
/-- a sequence to look in -/
theorem Vw.seq {φ : List Addr} {H : Hp} {v : V} {d : D} {ds : List D} (h : Vw ε φ H v d) (e : d = .tup ds ∨ d = .lst ds) :
    ∃ a vs, v = .ref a ∧ (SqL ε.K H a vs ∨ SqT ε.K H a vs) ∧ EncL ε φ H vs ds ∧ ∀ ps, pyL ds = some ps → Dp ε.K H v (.list ps) ∨ Dp ε.K H v (.tuple ps) := by
  rcases e with rfl | rfl
  · obtain ⟨a, vs, rfl, h1, h2⟩ := h.tup
    exact ⟨a, vs, rfl, .inr h1, h2, fun ps e => .inr (.tup h1 (h2.dp e))⟩
  · obtain ⟨a, vs, rfl, h1, h2⟩ := h.lst
    exact ⟨a, vs, rfl, .inl h1.sq, h2, fun ps e => .inl (.lst h1.sq (h2.dp e))⟩
theorem in_read (hK : ε.K = X.K) {φ : List Addr} {H : Hp} {x y : V} {c d : D} {ds : List D} {k neg : Bool} {Q : VK} (hc : Vw ε φ H x c) (hd : Vw ε φ H y d) (e : d = .tup ds ∨ d = .lst ds) (ei : inD c ds = some k)
    (q : Q (.bl (if neg then !k else k)) H) : rIn X.K neg x y H Q ∨ rInA X.K neg x y H Q := by
  obtain ⟨a, vs, rfl, h1, h2, h3⟩ := hd.seq e
  rcases inD_cases ei with ⟨f, g, rfl⟩ | ⟨p, ps, e1, e2, s1, s2, rfl⟩
  · have hx : Enc ε φ H x c := hc.enc (fun es z => by rw [z] at f; simp [D.flat] at f)
    refine .inl ⟨a, vs, rfl, by rw [← hK]; exact h1, hc.flat f, h2.flatAll g, ?_⟩
    rw [h2.anyEq hx f g]
    exact q
  · exact .inr ⟨p, ps, by rw [← hK]; exact hc.dp e1, by rw [← hK]; exact h3 ps e2, s1, s2, q⟩
theorem op_inDD (hK : ε.K = X.K) (hu : X.A.units + 65 < cLine) : OpR X (compareOp .In) (rP2 ε (cmpD .In)) := by
  refine OpR.imp (op_in_seq.or ((op_inA hu).or op_in_str)) fun x y H Q h => ?_
  obtain ⟨φ, c, d, z, hc, hd, e, q⟩ := h
  have key : ∀ ds, d = .tup ds ∨ d = .lst ds → (inD c ds).map D.bl = some z → rIn X.K false x y H Q ∨ rInA X.K false x y H Q := fun ds ed ei => by
    simp only [Option.map_eq_some_iff] at ei
    obtain ⟨k, e1, rfl⟩ := ei
    exact in_read hK hc hd ed e1 (q _ _ Ex.refl (.bl k))
  cases d with
  | tup ds =>
    have e : (inD c ds).map D.bl = some z := by cases c <;> exact e
    exact (key ds (.inl rfl) e).imp id .inl
  | lst ds =>
    have e : (inD c ds).map D.bl = some z := by cases c <;> exact e
    exact (key ds (.inr rfl) e).imp id .inl
  | str w =>
    cases c <;> (first | (exfalso; simp [cmpD] at e; done) | skip)
    simp only [cmpD, Option.some.injEq] at e
    subst e
    exact .inr (.inr ⟨_, _, hc.str, hd.str, q _ _ Ex.refl (.bl _)⟩)
  | _ => exfalso; cases c <;> simp [cmpD] at e
theorem op_notInDD (hK : ε.K = X.K) (hu : X.A.units + 65 < cLine) : OpR X (compareOp .NotIn) (rP2 ε (cmpD .NotIn)) := by
  refine OpR.imp (op_notIn_seq.or ((op_notInA hu).or L2.op_notIn_str)) fun x y H Q h => ?_
  obtain ⟨φ, c, d, z, hc, hd, e, q⟩ := h
  have key : ∀ ds, d = .tup ds ∨ d = .lst ds → (inD c ds).map (fun k => D.bl !k) = some z → rIn X.K true x y H Q ∨ rInA X.K true x y H Q := fun ds ed ei => by
    simp only [Option.map_eq_some_iff] at ei
    obtain ⟨k, e1, rfl⟩ := ei
    exact in_read hK hc hd ed e1 (q _ _ Ex.refl (.bl _))
  cases d with
  | tup ds =>
    have e : (inD c ds).map (fun k => D.bl !k) = some z := by cases c <;> exact e
    exact (key ds (.inl rfl) e).imp id .inl
  | lst ds =>
    have e : (inD c ds).map (fun k => D.bl !k) = some z := by cases c <;> exact e
    exact (key ds (.inr rfl) e).imp id .inl
  | str w =>
    cases c <;> (first | (exfalso; simp [cmpD] at e; done) | skip)
    simp only [cmpD, Option.some.injEq] at e
    subst e
    exact .inr (.inr ⟨_, _, hc.str, hd.str, q _ _ Ex.refl (.bl _)⟩)
  | _ => exfalso; cases c <;> simp [cmpD] at e
theorem intsD_ok {φ : List Addr} {H : Hp} : ∀ {ds : List D} {vs : List V} {ns : List Int}, EncL ε φ H vs ds → intsD ds = some ns → vs = ns.map V.int
  | [], _, _, h, e => by cases h; simp [intsD] at e; subst e; rfl
  | d :: ds, _, _, h, e => by
    cases h with
    | cons q r =>
      cases d <;> (first | (exfalso; simp [intsD] at e; done) | skip)
      simp only [intsD, Option.map_eq_some_iff] at e
      obtain ⟨ms, e, rfl⟩ := e
      cases q
      rw [intsD_ok r e]; rfl
theorem boolsD_ok {φ : List Addr} {H : Hp} : ∀ {ds : List D} {vs : List V} {ns : List Bool}, EncL ε φ H vs ds → boolsD ds = some ns → vs = ns.map V.bl
  | [], _, _, h, e => by cases h; simp [boolsD] at e; subst e; rfl
  | d :: ds, _, _, h, e => by
    cases h with
    | cons q r =>
      cases d <;> (first | (exfalso; simp [boolsD] at e; done) | skip)
      simp only [boolsD, Option.map_eq_some_iff] at e
      obtain ⟨ms, e, rfl⟩ := e
      cases q
      rw [boolsD_ok r e]; rfl
/-- data that are alike, compared -/
theorem op_ltA (hu : X.A.units + 60 < cLine) : OpR X (compareOp .Lt) (fun x y H Q => ∃ d e, Dp X.K H x d ∧ Dp X.K H y e ∧ PySem.W.alike d e = true ∧ d ≠ .none ∧ min d.depth e.depth ≤ 60 ∧ Q (.bl (PySem.W.dataLt d e)) H) := by
  intro pins s σ H x y v u Q I rx ry h
  obtain ⟨d, e, hd, he, ha, hn, hz, q⟩ := h
  obtain ⟨as, r1⟩ := Dp.reads I d x v hd rx
  obtain ⟨bs, r2⟩ := Dp.reads I e y u he ry
  exact PySem.W.lt_data r1 r2 ha hn (by omega) ⟨.bl _, H, I, rfl, q⟩
theorem op_leA (hu : X.A.units + 60 < cLine) : OpR X (compareOp .LtE) (fun x y H Q => ∃ d e, Dp X.K H x d ∧ Dp X.K H y e ∧ PySem.W.alike d e = true ∧ d ≠ .none ∧ min d.depth e.depth ≤ 60 ∧ Q (.bl (!PySem.W.dataLt e d)) H) := by
  intro pins s σ H x y v u Q I rx ry h
  obtain ⟨d, e, hd, he, ha, hn, hz, q⟩ := h
  obtain ⟨as, r1⟩ := Dp.reads I d x v hd rx
  obtain ⟨bs, r2⟩ := Dp.reads I e y u he ry
  exact PySem.W.le_data r1 r2 ha hn (by omega) ⟨.bl _, H, I, rfl, q⟩
theorem op_gtA (hu : X.A.units + 60 < cLine) : OpR X (compareOp .Gt) (fun x y H Q => ∃ d e, Dp X.K H x d ∧ Dp X.K H y e ∧ PySem.W.alike d e = true ∧ d ≠ .none ∧ min d.depth e.depth ≤ 60 ∧ Q (.bl (PySem.W.dataLt e d)) H) := by
  intro pins s σ H x y v u Q I rx ry h
  obtain ⟨d, e, hd, he, ha, hn, hz, q⟩ := h
  obtain ⟨as, r1⟩ := Dp.reads I d x v hd rx
  obtain ⟨bs, r2⟩ := Dp.reads I e y u he ry
  exact PySem.W.gt_data r1 r2 ha hn (by omega) ⟨.bl _, H, I, rfl, q⟩
theorem op_geA (hu : X.A.units + 60 < cLine) : OpR X (compareOp .GtE) (fun x y H Q => ∃ d e, Dp X.K H x d ∧ Dp X.K H y e ∧ PySem.W.alike d e = true ∧ d ≠ .none ∧ min d.depth e.depth ≤ 60 ∧ Q (.bl (!PySem.W.dataLt d e)) H) := by
  intro pins s σ H x y v u Q I rx ry h
  obtain ⟨d, e, hd, he, ha, hn, hz, q⟩ := h
  obtain ⟨as, r1⟩ := Dp.reads I d x v hd rx
  obtain ⟨bs, r2⟩ := Dp.reads I e y u he ry
  exact PySem.W.ge_data r1 r2 ha hn (by omega) ⟨.bl _, H, I, rfl, q⟩
theorem ltA_inv {a b : D} {k : Bool} (h : ltA a b = some k) : ∃ x y, a.py = some x ∧ b.py = some y ∧ PySem.W.alike x y = true ∧ x ≠ .none ∧ y ≠ .none ∧ min x.depth y.depth ≤ 60 ∧ k = PySem.W.dataLt x y := by
  unfold ltA at h
  split at h
  · rename_i x y e1 e2
    split at h
    · rename_i hc
      obtain ⟨c1, c2⟩ := Bool.and_eq_true_iff.mp hc
      obtain ⟨c2, c3⟩ := Bool.and_eq_true_iff.mp c2
      have n1 : x ≠ .none := fun z => by rw [z] at c2; simp [isNn] at c2
      exact ⟨x, y, e1, e2, c1, n1, PySem.W.ne_none_both c1 n1, of_decide_eq_true c3, (Option.some.inj h).symm⟩
    · cases h
  · cases h
theorem op_ltDD (hK : ε.K = X.K) (hu : X.A.units + 60 < cLine) : OpR X (compareOp .Lt) (rP2 ε (cmpD .Lt)) := by
  refine OpR.imp (op_lt.or (op_lt_str.or ((op_ltT (by omega)).or (op_ltA hu)))) fun x y H Q h => ?_
  obtain ⟨φ, c, d, z, hc, hd, e, q⟩ := h
  cases c <;> cases d <;> (first | (exfalso; simp [cmpD] at e; done) | skip)
  · simp only [cmpD, Option.some.injEq] at e
    subst e
    exact .inl ⟨_, _, hc.int, hd.int, q _ _ Ex.refl (.bl _)⟩
  · simp only [cmpD, Option.some.injEq] at e
    subst e
    exact .inr (.inl ⟨_, _, hc.str, hd.str, q _ _ Ex.refl (.bl _)⟩)
  · simp only [cmpD] at e
    split at e
    · rename_i ns ms e1 e2
      cases e
      obtain ⟨a, vs, rfl, h1, h2⟩ := hc.tup
      obtain ⟨b, ws, rfl, k1, k2⟩ := hd.tup
      rw [intsD_ok h2 e1, hK] at h1
      rw [intsD_ok k2 e2, hK] at k1
      exact .inr (.inr (.inl ⟨a, b, ns, ms, rfl, rfl, h1, k1, q _ _ Ex.refl (.bl _)⟩))
    · obtain ⟨k, e', rfl⟩ := Option.map_eq_some_iff.mp e
      obtain ⟨p, r, e1, e2, h1, h2, _, h3, rfl⟩ := ltA_inv e'
      exact .inr (.inr (.inr ⟨p, r, hK ▸ hc.dp e1, hK ▸ hd.dp e2, h1, h2, h3, q _ _ Ex.refl (.bl _)⟩))
theorem op_leDD (hK : ε.K = X.K) (hu : X.A.units + 60 < cLine) : OpR X (compareOp .LtE) (rP2 ε (cmpD .LtE)) := by
  refine OpR.imp (op_le.or (op_le_str.or (op_leA hu))) fun x y H Q h => ?_
  obtain ⟨φ, c, d, z, hc, hd, e, q⟩ := h
  cases c <;> cases d <;> (first | (exfalso; simp [cmpD] at e; done) | skip)
  · simp only [cmpD, Option.some.injEq] at e
    subst e
    exact .inl ⟨_, _, hc.int, hd.int, q _ _ Ex.refl (.bl _)⟩
  · simp only [cmpD, Option.some.injEq] at e
    subst e
    exact .inr (.inl ⟨_, _, hc.str, hd.str, q _ _ Ex.refl (.bl _)⟩)
  · obtain ⟨k, e', rfl⟩ := Option.map_eq_some_iff.mp (show _ = some z from e)
    obtain ⟨p, r, e1, e2, h1, h2, h2', h3, rfl⟩ := ltA_inv e'
    exact .inr (.inr ⟨r, p, hK ▸ hc.dp e2, hK ▸ hd.dp e1, by rw [PySem.W.alike_comm]; exact h1, h2', by rw [Nat.min_comm]; exact h3, q _ _ Ex.refl (.bl _)⟩)
theorem op_gtDD (hK : ε.K = X.K) (hu : X.A.units + 60 < cLine) : OpR X (compareOp .Gt) (rP2 ε (cmpD .Gt)) := by
  refine OpR.imp (op_gt.or (op_gtA hu)) fun x y H Q h => ?_
  obtain ⟨φ, c, d, z, hc, hd, e, q⟩ := h
  cases c <;> cases d <;> (first | (exfalso; simp [cmpD] at e; done) | skip)
  · simp only [cmpD, Option.some.injEq] at e
    subst e
    exact .inl ⟨_, _, hc.int, hd.int, q _ _ Ex.refl (.bl _)⟩
  · obtain ⟨k, e', rfl⟩ := Option.map_eq_some_iff.mp (show _ = some z from e)
    obtain ⟨p, r, e1, e2, h1, h2, h2', h3, rfl⟩ := ltA_inv e'
    exact .inr ⟨r, p, hK ▸ hc.dp e2, hK ▸ hd.dp e1, by rw [PySem.W.alike_comm]; exact h1, h2', by rw [Nat.min_comm]; exact h3, q _ _ Ex.refl (.bl _)⟩
theorem op_geDD (hK : ε.K = X.K) (hu : X.A.units + 60 < cLine) : OpR X (compareOp .GtE) (rP2 ε (cmpD .GtE)) := by
  refine OpR.imp (op_ge.or (op_geA hu)) fun x y H Q h => ?_
  obtain ⟨φ, c, d, z, hc, hd, e, q⟩ := h
  cases c <;> cases d <;> (first | (exfalso; simp [cmpD] at e; done) | skip)
  · simp only [cmpD, Option.some.injEq] at e
    subst e
    exact .inl ⟨_, _, hc.int, hd.int, q _ _ Ex.refl (.bl _)⟩
  · obtain ⟨k, e', rfl⟩ := Option.map_eq_some_iff.mp (show _ = some z from e)
    obtain ⟨p, r, e1, e2, h1, h2, h2', h3, rfl⟩ := ltA_inv e'
    exact .inr ⟨p, r, hK ▸ hc.dp e1, hK ▸ hd.dp e2, h1, h2, h3, q _ _ Ex.refl (.bl _)⟩
theorem Vw.isNon {φ : List Addr} {H : Hp} {x : V} {c : D} (h : Vw ε φ H x c) : decide (x = .non) = (match c with | .non => true | _ => false) := by
  rcases h with h | ⟨a, vs, ds, rfl, rfl, _⟩
  · cases h <;> rfl
  · rfl
theorem op_isDD : OpR X (compareOp .Is) (rP2 ε (cmpD .Is)) := by
  refine OpR.imp op_isN fun x y H Q h => ?_
  obtain ⟨φ, c, d, z, hc, hd, e, q⟩ := h
  cases d <;> (first | (exfalso; cases c <;> simp [cmpD] at e; done) | skip)
  refine ⟨hd.non, ?_⟩
  rw [hc.isNon]
  cases c <;> (simp only [cmpD, Option.some.injEq] at e; subst e; exact q _ _ Ex.refl (.bl _))
theorem op_isNotDD : OpR X (compareOp .IsNot) (rP2 ε (cmpD .IsNot)) := by
  refine OpR.imp op_notN fun x y H Q h => ?_
  obtain ⟨φ, c, d, z, hc, hd, e, q⟩ := h
  cases d <;> (first | (exfalso; cases c <;> simp [cmpD] at e; done) | skip)
  refine ⟨hd.non, ?_⟩
  rw [hc.isNon]
  cases c <;> (simp only [cmpD, Option.some.injEq] at e; subst e; exact q _ _ Ex.refl (.bl _))
theorem op_cmpD (hK : ε.K = X.K) (hu : X.A.units + 65 < cLine) : ∀ op : CmpOp, OpR X (compareOp op) (rP2 ε (cmpD op))
  | .Eq => op_eqDD hK (by omega)
  | .NotEq => op_neDD hK (by omega)
  | .Lt => op_ltDD hK (by omega)
  | .LtE => op_leDD hK (by omega)
  | .Gt => op_gtDD hK (by omega)
  | .GtE => op_geDD hK (by omega)
  | .Is => op_isDD
  | .IsNot => op_isNotDD
  | .In => op_inDD hK hu
  | .NotIn => op_notInDD hK hu

/-! ### items, the built-in functions -/
theorem Enc.atI {φ : List Addr} {H : Hp} {vs : List V} {ds : List D} {i : Int} {d : D} (h : EncL ε φ H vs ds) (e : L2.atI ds i = some d) : ∃ v, L2.atI vs i = some v ∧ Enc ε φ H v d := by
  unfold L2.atI at e ⊢
  rw [h.length]
  cases ej : ixN ds.length i with
  | none => rw [ej] at e; cases e
  | some j =>
    rw [ej] at e
    obtain ⟨v, h1, h2⟩ := h.get (show ds[j]? = some d from e)
    exact ⟨v, h1, h2⟩
theorem ix_DD (hK : ε.K = X.K) : IxR X (rP2 ε ixD) := by
  refine IxR.imp ix_seq fun x y H Q h => ?_
  obtain ⟨φ, c, d, z, hc, hd, e, q⟩ := h
  cases c <;> cases d <;> (first | (exfalso; simp [ixD] at e; done) | skip)
  · simp only [ixD] at e
    split at e
    · rename_i hz
      simp only [Option.map_eq_some_iff] at e
      obtain ⟨k, e, rfl⟩ := e
      exact .inr (.inr ⟨_, _, k, hc.str, hd.int, hz, e, q _ _ Ex.refl (.str _)⟩)
    · cases e
  · simp only [ixD] at e
    obtain ⟨a, vs, rfl, h1, h2⟩ := hc.tup
    obtain ⟨v, e1, e2⟩ := Enc.atI h2 e
    exact .inr (.inl ⟨a, vs, _, v, rfl, hd.int, by rw [← hK]; exact h1, e1, q _ _ Ex.refl e2⟩)
  · simp only [ixD] at e
    obtain ⟨a, vs, rfl, h1, h2⟩ := hc.lst
    obtain ⟨v, e1, e2⟩ := Enc.atI h2 e
    exact .inl ⟨a, vs, _, v, rfl, hd.int, hK ▸ h1.sq, e1, q _ _ Ex.refl e2⟩
/-- operands -/
def rPL (ε : Ev) (p : P) : List V → Hp → VK → Prop := fun xs H Q => ∃ φ ds z, VwL ε φ H xs ds ∧ primD p ds = some z ∧ ∀ v H', Ex H H' → Enc ε φ H' v z → Q v H'
theorem VwL.one {φ : List Addr} {H : Hp} {xs : List V} {d : D} (h : VwL ε φ H xs [d]) : ∃ x, xs = [x] ∧ Vw ε φ H x d := by
  cases h with | cons q r => cases r; exact ⟨_, rfl, q⟩
theorem VwL.two {φ : List Addr} {H : Hp} {xs : List V} {c d : D} (h : VwL ε φ H xs [c, d]) : ∃ x y, xs = [x, y] ∧ Vw ε φ H x c ∧ Vw ε φ H y d := by
  cases h with | cons q r => cases r with | cons q2 r => cases r; exact ⟨_, _, rfl, q, q2⟩

section inv
variable {ds : List D} {z : D}
theorem inv_neg (e : primD .neg ds = some z) : ∃ i, ds = [.int i] ∧ z = .int (-i) := by
  rcases ds with _ | ⟨d, _ | _⟩ <;> (try cases d) <;> (first | (simp [primD] at e; done) | skip)
  cases e; exact ⟨_, rfl, rfl⟩
theorem inv_len (e : primD .len ds = some z) : (∃ es, ds = [.tup es] ∧ z = .int es.length) ∨ (∃ es, ds = [.lst es] ∧ z = .int es.length) ∨ ∃ x, ds = [.str x] ∧ x.length ≤ sizeLine ∧ z = .int x.length := by
  rcases ds with _ | ⟨d, _ | _⟩ <;> (try cases d) <;> (first | (simp [primD] at e; done) | skip)
  · simp only [primD] at e
    split at e
    · cases e; exact .inr (.inr ⟨_, rfl, by assumption, rfl⟩)
    · cases e
  · cases e; exact .inl ⟨_, rfl, rfl⟩
  · cases e; exact .inr (.inl ⟨_, rfl, rfl⟩)
theorem inv_abs (e : primD .abs ds = some z) : ∃ i, ds = [.int i] ∧ z = .int (if i < 0 then -i else i) := by
  rcases ds with _ | ⟨d, _ | _⟩ <;> (try cases d) <;> (first | (simp [primD] at e; done) | skip)
  cases e; exact ⟨_, rfl, rfl⟩
theorem inv_int (e : primD .int ds = some z) : ((∃ i, ds = [.int i] ∧ z = .int i) ∨ ∃ b, ds = [.bl b] ∧ z = .int (if b then 1 else 0)) ∨ ∃ a n, ds = [.str a] ∧ PySem.intText? a = some n ∧ a.length ≤ 640 ∧ z = .int n := by
  rcases ds with _ | ⟨d, _ | _⟩ <;> (try cases d) <;> (first | (simp [primD] at e; done) | skip)
  · cases e; exact .inl (.inr ⟨_, rfl, rfl⟩)
  · cases e; exact .inl (.inl ⟨_, rfl, rfl⟩)
  · simp only [primD] at e
    split at e
    · obtain ⟨n, h1, h2⟩ := Option.map_eq_some_iff.mp e
      exact .inr ⟨_, n, rfl, h1, by assumption, h2.symm⟩
    · cases e
theorem inv_str (e : primD .str ds = some z) : (∃ i, ds = [.int i] ∧ i.natAbs.log2 < 1920 ∧ z = .str (toString i)) ∨ (∃ a, ds = [.str a] ∧ z = .str a) ∨ (ds = [.non] ∧ z = .str "None") := by
  rcases ds with _ | ⟨d, _ | _⟩ <;> (try cases d) <;> (first | (simp [primD] at e; done) | skip)
  · cases e; exact .inr (.inr ⟨rfl, rfl⟩)
  · simp only [primD] at e
    split at e
    · cases e; exact .inl ⟨_, rfl, by assumption, rfl⟩
    · cases e
  · cases e; exact .inr (.inl ⟨_, rfl, rfl⟩)
theorem inv_ord (e : primD .ord ds = some z) : ∃ i, ds = [.str i] ∧ i.length = 1 ∧ z = .int (i.cps.getD 0 0 : Nat) := by
  rcases ds with _ | ⟨d, _ | _⟩ <;> (try cases d) <;> (first | (simp [primD] at e; done) | skip)
  simp only [primD] at e
  split at e
  · cases e; exact ⟨_, rfl, by assumption, rfl⟩
  · cases e
theorem inv_min (e : primD .min ds = some z) : ∃ i j, ds = [.int i, .int j] ∧ z = .int (if j < i then j else i) := by
  rcases ds with _ | ⟨d, _ | ⟨d2, _ | _⟩⟩ <;> (try cases d) <;> (try cases d2) <;> (first | (simp [primD] at e; done) | skip)
  cases e; exact ⟨_, _, rfl, rfl⟩
theorem inv_max (e : primD .max ds = some z) : ∃ i j, ds = [.int i, .int j] ∧ z = .int (if j > i then j else i) := by
  rcases ds with _ | ⟨d, _ | ⟨d2, _ | _⟩⟩ <;> (try cases d) <;> (try cases d2) <;> (first | (simp [primD] at e; done) | skip)
  cases e; exact ⟨_, _, rfl, rfl⟩
theorem inv_all (e : primD .all ds = some z) : ∃ es bs, ds = [.lst es] ∧ boolsD es = some bs ∧ z = .bl (bs.all id) := by
  rcases ds with _ | ⟨d, _ | _⟩ <;> (try cases d) <;> (first | (simp [primD] at e; done) | skip)
  simp only [primD, Option.map_eq_some_iff] at e
  obtain ⟨bs, e1, rfl⟩ := e
  exact ⟨_, bs, rfl, e1, rfl⟩
theorem inv_any (e : primD .any ds = some z) : ∃ es bs, ds = [.lst es] ∧ boolsD es = some bs ∧ z = .bl (bs.any id) := by
  rcases ds with _ | ⟨d, _ | _⟩ <;> (try cases d) <;> (first | (simp [primD] at e; done) | skip)
  simp only [primD, Option.map_eq_some_iff] at e
  obtain ⟨bs, e1, rfl⟩ := e
  exact ⟨_, bs, rfl, e1, rfl⟩
theorem inv_sum (e : primD .sum ds = some z) : ∃ es bs, ds = [.lst es] ∧ intsD es = some bs ∧ z = .int bs.sum := by
  rcases ds with _ | ⟨d, _ | _⟩ <;> (try cases d) <;> (first | (simp [primD] at e; done) | skip)
  simp only [primD, Option.map_eq_some_iff] at e
  obtain ⟨bs, e1, rfl⟩ := e
  exact ⟨_, bs, rfl, e1, rfl⟩
theorem inv_tuple (e : primD .tuple ds = some z) : ∃ es, (ds = [.lst es] ∨ ds = [.tup es]) ∧ z = .tup es := by
  rcases ds with _ | ⟨d, _ | _⟩ <;> (try cases d) <;> (first | (simp [primD] at e; done) | skip)
  · cases e; exact ⟨_, .inr rfl, rfl⟩
  · cases e; exact ⟨_, .inl rfl, rfl⟩
theorem inv_isi (e : primD .isi ds = some z) : ∃ c T b, ds = [c, .ty T] ∧ isiD c T = some b ∧ z = .bl b := by
  rcases ds with _ | ⟨d, _ | ⟨d2, _ | _⟩⟩ <;> (try cases d2) <;> (first | (simp [primD] at e; done) | skip)
  simp only [primD, Option.map_eq_some_iff] at e
  obtain ⟨bs, e1, rfl⟩ := e
  exact ⟨_, _, bs, rfl, e1, rfl⟩
theorem inv_repr (e : primD .repr ds = some z) : ∃ c x, ds = [c] ∧ reprD c = some x ∧ z = .str x := by
  rcases ds with _ | ⟨d, _ | _⟩ <;> (first | (simp [primD] at e; done) | skip)
  simp only [primD, Option.map_eq_some_iff] at e
  obtain ⟨bs, e1, rfl⟩ := e
  exact ⟨_, bs, rfl, e1, rfl⟩
end inv
theorem un_negD : UnR X (unaryOp .USub) (fun x H Q => rPL ε .neg [x] H Q) := by
  intro pins s σ H x v Q I rx h
  obtain ⟨φ, ds, z, hs, e, q⟩ := h
  have inv := inv_neg e
  obtain ⟨i, rfl, rfl⟩ := inv
  obtain ⟨y, ey, hy⟩ := hs.one
  cases ey
  exact un_neg pins s σ H x v Q I rx ⟨i, hy.int, q _ _ Ex.refl (.int _)⟩
theorem call_lenD (hK : ε.K = X.K) : CallR X (.builtin "len") (rPL ε .len) := by
  refine CallR.imp call_len fun xs H Q h => ?_
  obtain ⟨φ, ds, z, hs, e, q⟩ := h
  have inv := inv_len e
  rcases inv with ⟨es, rfl, rfl⟩ | ⟨es, rfl, rfl⟩ | ⟨y, rfl, hz, rfl⟩
  · obtain ⟨x, rfl, hx⟩ := hs.one
    obtain ⟨a, vs, rfl, h1, h2⟩ := hx.tup
    exact ⟨_, es.length, rfl, .inr ⟨vs, by rw [← hK]; exact h1, h2.length.symm⟩, q _ _ Ex.refl (.int _)⟩
  · obtain ⟨x, rfl, hx⟩ := hs.one
    obtain ⟨a, vs, rfl, h1, h2⟩ := hx.lst
    exact ⟨_, es.length, rfl, .inl ⟨vs, hK ▸ h1.sq, h2.length.symm⟩, q _ _ Ex.refl (.int _)⟩
  · obtain ⟨x, rfl, hx⟩ := hs.one
    rw [hx.str]
    exact ⟨_, y.length, rfl, ⟨hz, rfl⟩, q _ _ Ex.refl (.int _)⟩
theorem call_absD : CallR X (.builtin "abs") (rPL ε .abs) := by
  refine CallR.imp call_abs fun xs H Q h => ?_
  obtain ⟨φ, ds, z, hs, e, q⟩ := h
  have inv := inv_abs e
  obtain ⟨i, rfl, rfl⟩ := inv
  obtain ⟨x, rfl, hx⟩ := hs.one
  rw [hx.int]
  exact ⟨i, rfl, q _ _ Ex.refl (.int _)⟩
theorem call_intD : CallR X (.type "int") (rPL ε .int) := by
  refine CallR.imp (CallR.or call_int1 call_int_str) fun xs H Q h => ?_
  obtain ⟨φ, ds, z, hs, e, q⟩ := h
  have inv := inv_int e
  rcases inv with (⟨i, rfl, rfl⟩ | ⟨i, rfl, rfl⟩) | ⟨a, n, rfl, h1, h2, rfl⟩
  · obtain ⟨x, rfl, hx⟩ := hs.one
    rw [hx.int]
    exact .inl (.inl ⟨i, rfl, q _ _ Ex.refl (.int _)⟩)
  · obtain ⟨x, rfl, hx⟩ := hs.one
    rw [hx.bl]
    exact .inl (.inr ⟨i, rfl, q _ _ Ex.refl (.int _)⟩)
  · obtain ⟨x, rfl, hx⟩ := hs.one
    rw [hx.str]
    exact .inr ⟨a, n, rfl, h1, h2, q _ _ Ex.refl (.int _)⟩
theorem call_str_none : CallR X (.type "str") (fun xs H Q => xs = [.non] ∧ Q (.str "None") H) := by
  intro pins s σ H xs us Q I r h
  obtain ⟨rfl, q⟩ := h
  cases r with
  | cons rv rt =>
    cases rt
    cases rv
    exact PySem.P.str_of_none ⟨.str _, H, I.tok _, ⟨_, rfl⟩, q⟩
theorem call_strD : CallR X (.type "str") (rPL ε .str) := by
  refine CallR.imp (call_str_int.or (SkE.call_str_str.or call_str_none)) fun xs H Q h => ?_
  obtain ⟨φ, ds, z, hs, e, q⟩ := h
  rcases inv_str e with ⟨i, rfl, h1, rfl⟩ | ⟨a, rfl, rfl⟩ | ⟨rfl, rfl⟩
  · obtain ⟨x, rfl, hx⟩ := hs.one
    rw [hx.int]
    exact .inl ⟨i, rfl, h1, q _ _ Ex.refl (.str _)⟩
  · obtain ⟨x, rfl, hx⟩ := hs.one
    rw [hx.str]
    exact .inr (.inl ⟨a, rfl, q _ _ Ex.refl (.str _)⟩)
  · obtain ⟨x, rfl, hx⟩ := hs.one
    rw [hx.non]
    exact .inr (.inr ⟨rfl, q _ _ Ex.refl (.str _)⟩)
theorem call_ordD : CallR X (.builtin "ord") (rPL ε .ord) := by
  refine CallR.imp call_ord fun xs H Q h => ?_
  obtain ⟨φ, ds, z, hs, e, q⟩ := h
  have inv := inv_ord e
  obtain ⟨i, rfl, hz, rfl⟩ := inv
  obtain ⟨x, rfl, hx⟩ := hs.one
  rw [hx.str]
  exact ⟨i, rfl, hz, q _ _ Ex.refl (.int _)⟩
theorem call_min2D (hc : X.calm = true) : CallR X (.builtin "min") (rPL ε .min) := by
  refine CallR.imp (call_min2 hc) fun xs H Q h => ?_
  obtain ⟨φ, ds, z, hs, e, q⟩ := h
  have inv := inv_min e
  obtain ⟨i, j, rfl, rfl⟩ := inv
  obtain ⟨x, y, rfl, hx, hy⟩ := hs.two
  rw [hx.int, hy.int]
  exact ⟨i, j, rfl, q _ _ Ex.refl (.int _)⟩
theorem call_max2D (hc : X.calm = true) : CallR X (.builtin "max") (rPL ε .max) := by
  refine CallR.imp (call_max2 hc) fun xs H Q h => ?_
  obtain ⟨φ, ds, z, hs, e, q⟩ := h
  have inv := inv_max e
  obtain ⟨i, j, rfl, rfl⟩ := inv
  obtain ⟨x, y, rfl, hx, hy⟩ := hs.two
  rw [hx.int, hy.int]
  exact ⟨i, j, rfl, q _ _ Ex.refl (.int _)⟩
theorem call_allD (hK : ε.K = X.K) (hc : X.calm = true) : CallR X (.builtin "all") (rPL ε .all) := by
  refine CallR.imp (cr_all hc) fun xs H Q h => ?_
  obtain ⟨φ, ds, z, hs, e, q⟩ := h
  have inv := inv_all e
  obtain ⟨es, bs, rfl, eb, rfl⟩ := inv
  obtain ⟨x, rfl, hx⟩ := hs.one
  obtain ⟨a, vs, rfl, h1, h2⟩ := hx.lst
  rw [boolsD_ok h2 eb] at h1
  exact ⟨a, bs, rfl, hK ▸ h1.sq, q _ _ Ex.refl (.bl _)⟩
theorem call_anyD (hK : ε.K = X.K) (hc : X.calm = true) : CallR X (.builtin "any") (rPL ε .any) := by
  refine CallR.imp (cr_any hc) fun xs H Q h => ?_
  obtain ⟨φ, ds, z, hs, e, q⟩ := h
  have inv := inv_any e
  obtain ⟨es, bs, rfl, eb, rfl⟩ := inv
  obtain ⟨x, rfl, hx⟩ := hs.one
  obtain ⟨a, vs, rfl, h1, h2⟩ := hx.lst
  rw [boolsD_ok h2 eb] at h1
  exact ⟨a, bs, rfl, hK ▸ h1.sq, q _ _ Ex.refl (.bl _)⟩
theorem call_sumD (hK : ε.K = X.K) (hc : X.calm = true) : CallR X (.builtin "sum") (rPL ε .sum) := by
  refine CallR.imp (cr_sum hc) fun xs H Q h => ?_
  obtain ⟨φ, ds, z, hs, e, q⟩ := h
  have inv := inv_sum e
  obtain ⟨es, bs, rfl, eb, rfl⟩ := inv
  obtain ⟨x, rfl, hx⟩ := hs.one
  obtain ⟨a, vs, rfl, h1, h2⟩ := hx.lst
  rw [intsD_ok h2 eb] at h1
  exact ⟨a, bs, rfl, hK ▸ h1.sq, q _ _ Ex.refl (.int _)⟩
theorem call_tupleD (hK : ε.K = X.K) : CallR X (.type "tuple") (rPL ε .tuple) := by
  refine CallR.imp call_tuple_of fun xs H Q h => ?_
  obtain ⟨φ, ds, z, hs, e, q⟩ := h
  have inv := inv_tuple e
  obtain ⟨es, hd | hd, rfl⟩ := inv
  · subst hd
    obtain ⟨x, rfl, hx⟩ := hs.one
    obtain ⟨a, vs, rfl, h1, h2⟩ := hx.lst
    refine ⟨a, vs, rfl, .inl ⟨hK ▸ h1.sq, fun l hl => ?_⟩⟩
    have g : Ex H (upd H l (.tup vs)) := Ex.new hl
    exact q _ _ g (.tup (SqT.of upd_same) (h2.grow g.grow))
  · subst hd
    obtain ⟨x, rfl, hx⟩ := hs.one
    obtain ⟨a, vs, rfl, h1, h2⟩ := hx.tup
    exact ⟨a, vs, rfl, .inr ⟨by rw [← hK]; exact h1, q _ _ Ex.refl (.tup h1 h2)⟩⟩
/-- how isinstance sees it -/
theorem Vw.tyX {φ : List Addr} {H : Hp} {x : V} {c : D} {b : Bool} {T : String} (h : Vw ε φ H x c) (e : isiD c T = some b) : ∃ t, TyX ε.K H x t ∧ PySem.W.kitOne ε.K t (.type T) = some b := by
  have go : ∀ {n : String}, kitB n T = some b → PySem.W.kitOne ε.K (.type n) (.type T) = some b := fun h => kit_ty h
  have dec : ∃ n, kitB n T = some b ∧ tyN c = some n := by
    unfold isiD at e
    split at e
    · subst T; cases c <;> (first | (simp [tyN] at e; done) | skip) <;> (cases e; exact ⟨_, by decide +kernel, rfl⟩)
    · split at e
      · subst T; cases c <;> (first | (simp [tyN] at e; done) | skip) <;> (cases e; exact ⟨_, by decide +kernel, rfl⟩)
      · split at e
        · subst T; cases c <;> (first | (simp [tyN] at e; done) | skip) <;> (cases e; exact ⟨_, by decide +kernel, rfl⟩)
        · split at e
          · subst T; cases c <;> (first | (simp [tyN] at e; done) | skip) <;> (cases e; exact ⟨_, by decide +kernel, rfl⟩)
          · cases e
  obtain ⟨n, hn, hc⟩ := dec
  cases c <;> (first | (simp [tyN] at hc; done) | skip) <;> (simp only [tyN, Option.some.injEq] at hc; subst hc)
  case non => rw [h.non]; exact ⟨_, .base .non, go hn⟩
  case bl k => rw [h.bl]; exact ⟨_, .base (.bl k), go hn⟩
  case int k => rw [h.int]; exact ⟨_, .base (.int k), go hn⟩
  case str k => rw [h.str]; exact ⟨_, .base (.str k), go hn⟩
  case tup ds =>
    obtain ⟨a, vs, rfl, h1, h2⟩ := h.tup
    rcases h1 with (h1 | ⟨o, h1⟩) | ⟨o, its, m, h1, h3, _⟩
    · exact ⟨_, .base (.tup h1), go hn⟩
    · exact ⟨_, .fTuple h1, go hn⟩
    · exact ⟨_, .kTuple h1 h3, go hn⟩
  case lst ds =>
    obtain ⟨a, vs, rfl, h1, h2⟩ := h.lst
    rcases h1 with (h1 | ⟨o, h1⟩) | ⟨its, n, h1, _⟩
    · exact ⟨_, .base (.lst h1), go hn⟩
    · exact ⟨_, .base (.frz h1), go hn⟩
    · exact ⟨_, .kList h1 rfl, go hn⟩
theorem call_isiD (hK : ε.K = X.K) : CallR X (.builtin "isinstance") (rPL ε .isi) := by
  refine CallR.imp call_isi fun xs H Q h => ?_
  obtain ⟨φ, ds, z, hs, e, q⟩ := h
  have inv := inv_isi e
  obtain ⟨c, T, b, rfl, eb, rfl⟩ := inv
  obtain ⟨x, y, rfl, hx, hy⟩ := hs.two
  rw [hy.ty]
  obtain ⟨t, h1, h2⟩ := hx.tyX eb
  exact ⟨x, .ty T, t, .type T, b, rfl, .ty T, by rw [← hK]; exact h1, by rw [← hK]; exact h2, q _ _ Ex.refl (.bl _)⟩
theorem call_reprD (hK : ε.K = X.K) (hg : X.A.guards = some []) (hu : X.A.units + 66 < cLine) : CallR X (.builtin "repr") (rPL ε .repr) := by
  intro pins s σ H xs us Q I r h
  obtain ⟨φ, ds, z, hs, e, q⟩ := h
  have inv := inv_repr e
  obtain ⟨c, x, rfl, er, rfl⟩ := inv
  obtain ⟨y, rfl, hy⟩ := hs.one
  obtain ⟨u, rfl, ru⟩ := vals1 r
  have q : Q (.str x) H := q _ _ Ex.refl (.str _)
  unfold reprD at er
  split at er
  · rename_i p ep
    split at er
    · rename_i hp
      simp only [Bool.and_eq_true, decide_eq_true_eq, Bool.not_eq_true'] at hp
      obtain ⟨⟨⟨h1, h2⟩, h3⟩, h4⟩ := hp
      cases er
      have dp := hy.dp ep
      rw [hK] at dp
      have fin : ∀ tk, EP X pins σ Q (.str p.shown s.toks) { s with toks := tk } := fun tk => ⟨.str _, H, I.tok _, ⟨_, rfl⟩, q⟩
      have fin2 : ∀ (h' : Heap) (t tk : Tok), (∀ b o, s.heap.get? b = some o → h'.get? b = some o) → EP X pins σ Q (.str p.shown t) { s with heap := h', toks := tk } := fun h' t tk kp => ⟨.str _, H, I.kept kp, ⟨_, rfl⟩, q⟩
      cases dp with
      | non => cases ru; exact PySem.P.repr_of_none (fin _)
      | bl b => cases ru; exact PySem.P.repr_of_bool (fin _)
      | int i => obtain ⟨t, rfl⟩ := ru; exact PySem.P.repr_of_int (by simpa [PyData.showable] using h1) (fin _)
      | str w => obtain ⟨t, rfl⟩ := ru; exact PySem.P.repr_of_str (fin _) h4
      | lst hq ha =>
        obtain ⟨as, rd⟩ := Dp.reads I _ _ u (.lst hq ha) ru
        cases ru
        exact repr_of_reads' rd h1 (PyData.noDict_hsm h2) hg (by omega) (fun _ _ e => e) (fun h' t tk kp => fin2 h' t tk kp) h4
      | tup hq ha =>
        obtain ⟨as, rd⟩ := Dp.reads I _ _ u (.tup hq ha) ru
        cases ru
        exact repr_of_reads' rd h1 (PyData.noDict_hsm h2) hg (by omega) (fun _ _ e => e) (fun h' t tk kp => fin2 h' t tk kp) h4
    · cases er
  · cases er
end
end FH
end
section
/-! FHS: sorted(xs) of plain data. -/
namespace FH
open PySem PySem.Spec PyProof.Rows L2

theorem pyL_map : ∀ {ds : List D} {ps : List PyData}, pyL ds = some ps → ps = ds.map pyO ∧ ∀ d ∈ ds, d.py = some (pyO d)
  | [], _, h => by simp [pyL] at h; subst h; simp
  | d :: ds, _, h => by
    simp only [pyL] at h
    split at h
    · rename_i x xs e1 e2
      cases h
      obtain ⟨r1, r2⟩ := pyL_map e2
      refine ⟨by rw [r1]; simp [pyO, e1], fun z hz => ?_⟩
      rcases List.mem_cons.mp hz with rfl | hz
      · simp [pyO, e1]
      · exact r2 z hz
    · cases h
abbrev tk (d : D) : List (Int ⊕ List Nat) := PySem.W.keyToks (pyO d)
abbrev tlt (a b : List (Int ⊕ List Nat)) : Bool := PyProof.Rows.lexLt itemOrd a b
theorem leD_eq (a b : D) : leD a b = !tlt (tk b) (tk a) := rfl
theorem leD_trans (a b c : D) (h1 : leD a b = true) (h2 : leD b c = true) : leD a c = true := by
  rw [leD_eq] at *
  simp only [Bool.not_eq_true'] at *
  cases h : tlt (tk c) (tk a) with
  | false => rfl
  | true =>
    rcases PyProof.Rows.lex_negTrans (O := itemOrd) (tk c) (tk b) (tk a) h with z | z
    · rw [show tlt (tk c) (tk b) = true from z] at h2; cases h2
    · rw [show tlt (tk b) (tk a) = true from z] at h1; cases h1
theorem leD_total (a b : D) : (leD a b || leD b a) = true := by
  rw [leD_eq, leD_eq]
  cases h : tlt (tk b) (tk a) with
  | false => rfl
  | true =>
    cases h2 : tlt (tk a) (tk b) with
    | false => rfl
    | true =>
      have := PyProof.Rows.lex_trans (O := itemOrd) _ _ _ h h2
      rw [PyProof.Rows.lex_irrefl] at this; cases this
section
variable {X : Cx} {ε : Ev} {φ : List Addr} {H : Hp}
/-- value, and how it lies -/
def ZR (ε : Ev) (φ : List Addr) (H : Hp) (v : Value) (b : V × D) : Prop := RelV b.1 v ∧ Enc ε φ H b.1 b.2
theorem zr_of : ∀ {vs : List V} {its : List Value} {ds : List D}, Vals vs its → EncL ε φ H vs ds → PySem.W.EachIs (ZR ε φ H) its (vs.zip ds)
  | _, _, [], r, h => by cases h; cases r; exact .nil
  | _, _, d :: ds, r, h => by
    cases h with
    | cons q k => cases r with | cons rv rt => exact .cons ⟨rv, q⟩ (zr_of rt k)
theorem zr_vals : ∀ {out : List Value} {bs : List (V × D)}, PySem.W.EachIs (ZR ε φ H) out bs → Vals (bs.map (·.1)) out ∧ EncL ε φ H (bs.map (·.1)) (bs.map (·.2))
  | _, _, .nil => ⟨.nil, .nil⟩
  | _, _, .cons h t => ⟨.cons h.1 (zr_vals t).1, .cons h.2 (zr_vals t).2⟩
end
end FH
namespace FH
open PySem PySem.Spec PyProof.Rows L2
section
variable {X : Cx} {ε : Ev}
theorem sortable_of {ps : List PyData} (h : sortableB ps = true) : (∀ d ∈ ps, ∃ xs, d = .tuple xs) ∨ PySem.W.Sortable ps := by
  unfold sortableB at h
  rcases Bool.or_eq_true_iff.mp h with h | h
  · refine .inl fun d hd => ?_
    have q := List.all_eq_true.mp h d hd
    cases d <;> first | (simp at q; done) | exact ⟨_, rfl⟩
  · refine .inr (.inr fun d hd => ?_)
    have q := List.all_eq_true.mp h d hd
    cases d <;> first | (simp at q; done) | exact ⟨(fun z => nomatch z), fun xs z => nomatch z⟩
theorem zr_reads {pins : List (Addr × Obj)} {σ : L2.St} {H : Hp} {s : Shared} {φ : List Addr} (hK : ε.K = X.K) (I : L2.Inv X pins σ H s) : ∀ {its : List Value} {bs : List (V × D)}, PySem.W.EachIs (ZR ε φ H) its bs → (∀ b ∈ bs, b.2.py = some (pyO b.2)) →
    PySem.W.EachIs (fun v b => ∃ as, Reads s.heap v (pyO b.2) as) its bs
  | _, _, .nil, _ => .nil
  | _, _, .cons h t, hin => .cons (Dp.reads I _ _ _ (hK ▸ h.2.dp (hin _ List.mem_cons_self)) h.1) (zr_reads hK I t fun b hb => hin b (List.mem_cons_of_mem _ hb))
/-- sorted(xs) -/
def rSortedD (ε : Ev) : List V → Hp → VK → Prop := fun vs H Q => ∃ (φ : List Addr) (a : Addr) (xs : List V) (ds out : List D), vs = [V.ref a] ∧ RdL ε.K H a xs ∧ EncL ε φ H xs ds ∧ sortD ds = some out ∧
  ∀ (p : Addr) (ys : List V), H p = none → EncL ε φ H ys out → Q (.ref p) (upd H p (.lst ys))
theorem cr_sortedD (hK : ε.K = X.K) (hu : X.A.units + 64 < cLine) : CallR X (.builtin "sorted") (rSortedD ε) := by
  intro pins s σ H vs us Q I r h
  obtain ⟨φ, a, xs, ds, out, rfl, hs, he, ho, q⟩ := h
  obtain ⟨its, n, hz, rv, hob⟩ := (hK ▸ hs).at_ I
  rw [Vals.ref1 r]
  unfold sortD at ho
  split at ho
  case h_2 => cases ho
  rename_i ps hp
  split at ho
  case isFalse => cases ho
  rename_i hc
  cases ho
  obtain ⟨hps, hpy⟩ := pyL_map hp
  simp only [Bool.and_eq_true] at hc
  obtain ⟨⟨c1, c2⟩, c3⟩ := hc
  have hl1 := rv.length
  have hl2 := he.length
  have ez := zr_of rv he
  have ezip : (xs.zip ds).map (fun b => pyO b.2) = ps := by
    rw [hps]
    conv => rhs; rw [← List.map_snd_zip (l₁ := xs) (l₂ := ds) (by omega), List.map_map]
    rfl
  have hall : PySem.W.AllAlike ((xs.zip ds).map fun b => pyO b.2) := by
    rw [ezip]
    intro d hd d' hd'
    exact List.all_eq_true.mp (List.all_eq_true.mp c1 d hd) d' hd'
  have hsb : (∀ d ∈ (xs.zip ds).map (fun b => pyO b.2), ∃ ys, d = .tuple ys) ∨ PySem.W.Sortable ((xs.zip ds).map fun b => pyO b.2) := by rw [ezip]; exact sortable_of c2
  have hrd : PySem.W.EachIs (fun v b => ∃ as, Reads s.heap v (pyO b.2) as) its (xs.zip ds) := by
    have hin : ∀ b ∈ xs.zip ds, b.2.py = some (pyO b.2) := fun b hb => hpy b.2 (List.of_mem_zip hb).2
    exact zr_reads hK I ez hin
  have hb : ∀ b ∈ xs.zip ds, X.A.units + 2 + (pyO b.2).depth < cLine := by
    intro b hb
    have q : pyO b.2 ∈ ps := by rw [← ezip]; exact List.mem_map_of_mem hb
    have := of_decide_eq_true (List.all_eq_true.mp c3 _ q)
    omega
  have hzl : (xs.zip ds).length ≤ sizeLine := by rw [List.length_zip]; omega
  rw [← ms_eq leD_trans leD_total] at q
  have hlist : s.heap.IsList a its.toArray := ⟨_, hob, rfl, n, rfl⟩
  have fin : ∀ out' : List Value, out'.length = (xs.zip ds).length → PySem.W.EachIs (ZR ε φ H) out' ((xs.zip ds).mergeSort (PySem.W.dataLe false fun b => pyO b.2)) →
      EP X pins σ Q (.ref (s.heap.objs.size + 1)) { s with heap := PyProof.Rows.sortedAll s.heap its (List.toArray out') } := fun out' hlen hout => by
    obtain ⟨k1, k2⟩ := zr_vals hout
    obtain ⟨ep, he'⟩ := PyProof.Rows.sortedAll_at s.heap its out'.toArray
    have hmap : (((xs.zip ds).mergeSort (PySem.W.dataLe false fun b => pyO b.2)).map (·.2)) = ds.mergeSort leD := by
      have e := List.map_mergeSort (r := PySem.W.dataLe false fun b : V × D => pyO b.2) (s := leD) (f := Prod.snd) (l := xs.zip ds) (fun a _ b _ => rfl)
      rw [List.map_snd_zip (by omega)] at e
      exact e
    rw [hmap] at k2
    have hln : (((xs.zip ds).mergeSort (PySem.W.dataLe false fun b => pyO b.2)).map (·.1)).length ≤ sizeLine := by
      rw [List.length_map, List.length_mergeSort]; exact hzl
    exact ⟨.ref _, upd H (s.heap.objs.size + 1) (.lst _), I.laid (t' := s.toks) (fun _ _ => PyProof.Rows.sortedAll_old) (Nat.le_succ _) ⟨hln, out', ep, k1, he'⟩, rfl, q _ _ (I.hok.fresh (Nat.le_succ _)) k2⟩
  rcases hsb with hsb | hsb
  · exact sorted_dataT (vs := its) (R := ZR ε φ H) (bs := xs.zip ds) (enc := fun b => pyO b.2) hlist ez hrd hall hsb hzl hb fin
  · exact PySem.W.sorted_data (vs := its) (R := ZR ε φ H) (bs := xs.zip ds) (enc := fun b => pyO b.2) hlist ez hrd hall hsb hzl hb fin
end
end FH
end
section
/-! FH3: states by plain data; how a step leaves them. -/
namespace FH
open PySem PySem.Spec PyProof.Rows L2

section
variable {ε : Ev} {φ φ' φ'' : List Addr} {H H' H'' : Hp} {μ μ' μ'' : Store}
/-- a dict's entries, an instance's fields -/
def EncK {κ : Type} (ε : Ev) (φ : List Addr) (H : Hp) : List (κ × V) → List (κ × D) → Prop := Paired fun p q => p.1 = q.1 ∧ Enc ε φ H p.2 q.2
theorem EncK.mono {κ : Type} (φ2 : List Addr) (g : Grow H H') {ks : List (κ × V)} {ds : List (κ × D)} (h : EncK ε φ H ks ds) : EncK ε (φ ++ φ2) H' ks ds :=
  Paired.mapP h fun _ _ q => ⟨q.1, q.2.mono φ2 g⟩
/-- what stands at a place that may change -/
inductive CellOk (ε : Ev) (φ : List Addr) (H : Hp) (a : Addr) : Cell → Prop
  | lst {vs : List V} {ds : List D} : H a = some (.lst vs) → EncL ε φ H vs ds → CellOk ε φ H a (.lst ds)
  | dic {ks : List (Key × V)} {ds : List (Key × D)} : H a = some (.dK ks) → EncK ε φ H ks ds → CellOk ε φ H a (.dic ds)
  | nd {ks : List (NK × V)} {ds : List (NK × D)} : H a = some (DnO ε.P ε.w a ks) → EncK ε φ H ks ds → CellOk ε φ H a (.nd ds)
  | ins {c : Nat} {dx : Addr} {fs : List (Str × V)} {ds : List (Str × D)} : H a = some (.ins (ε.ca c) dx fs) → EncK ε φ H fs ds → CellOk ε φ H a (.ins c ds)
  | tup {o : Obj} {vs : List V} {ds : List D} : H a = some (.frz o (.tup vs)) → o.cls = .type "tuple" → o.dict = none → EncL ε φ H vs ds → CellOk ε φ H a (.tup ds)
theorem CellOk.there {a : Addr} {c : Cell} (h : CellOk ε φ H a c) : ∃ o, H a = some o := by cases h <;> exact ⟨_, by assumption⟩
theorem CellOk.mono {a : Addr} {c : Cell} (φ2 : List Addr) (g : Grow H H') (k : ∀ o, H a = some o → H' a = some o) (h : CellOk ε φ H a c) : CellOk ε (φ ++ φ2) H' a c := by
  cases h with
  | lst q r => exact .lst (k _ q) (r.mono φ2 g)
  | dic q r => exact .dic (k _ q) (r.mono φ2 g)
  | ins q r => exact .ins (k _ q) (r.mono φ2 g)
  | nd q r => exact .nd (k _ q) (r.mono φ2 g)
  | tup q c d r => exact .tup (k _ q) c d (r.mono φ2 g)
/-- the whole store -/
structure Sto (ε : Ev) (φ : List Addr) (μ : Store) (H : Hp) : Prop where
  len : φ.length = μ.length
  nd : φ.Nodup
  at_ : ∀ (n : Nat) (a : Addr) (c : Cell), φ[n]? = some a → μ[n]? = some c → CellOk ε φ H a c
theorem Sto.get (S : Sto ε φ μ H) {n : Nat} {c : Cell} (h : μ[n]? = some c) : ∃ a, φ[n]? = some a ∧ CellOk ε φ H a c := by
  have hn := (List.getElem?_eq_some_iff.mp h).1
  have hn' : n < φ.length := by rw [S.len]; exact hn
  exact ⟨φ[n], by simp [hn'], S.at_ n _ c (by simp [hn']) h⟩
theorem Sto.mem (S : Sto ε φ μ H) {a : Addr} (h : a ∈ φ) : ∃ (n : Nat) (c : Cell), φ[n]? = some a ∧ μ[n]? = some c ∧ CellOk ε φ H a c := by
  obtain ⟨n, hn, e⟩ := List.mem_iff_getElem.mp h
  have hn' : n < μ.length := by rw [← S.len]; exact hn
  exact ⟨n, μ[n], by simp [hn, e], by simp [hn'], S.at_ n a _ (by simp [hn, e]) (by simp [hn'])⟩
theorem Sto.there (S : Sto ε φ μ H) {a : Addr} (h : a ∈ φ) : ∃ o, H a = some o := by
  obtain ⟨n, c, _, _, q⟩ := S.mem h
  exact q.there
/-- what a step leaves: what may change is known as before and more; all else stays -/
structure Ext (φ : List Addr) (H : Hp) (φ' : List Addr) (H' : Hp) : Prop where
  more : ∃ φ2, φ' = φ ++ φ2 ∧ ∀ b ∈ φ2, H b = none
  grow : Grow H H'
  keep : ∀ b o, H b = some o → b ∉ φ → H' b = some o
  there : ∀ b, H b ≠ none → H' b ≠ none
theorem Ext.refl : Ext φ H φ H := ⟨⟨[], by simp, fun _ h => by simp at h⟩, .refl, fun _ _ h _ => h, fun _ h => h⟩
theorem Ext.trans (a : Ext φ H φ' H') (b : Ext φ' H' φ'' H'') : Ext φ H φ'' H'' := by
  obtain ⟨p2, rfl, f2⟩ := a.more
  obtain ⟨p3, rfl, f3⟩ := b.more
  have fr : ∀ c ∈ p3, H c = none := fun c hc => by
    cases e : H c with
    | none => rfl
    | some o => exact absurd (f3 c hc) (a.there c (by rw [e]; simp))
  refine ⟨⟨p2 ++ p3, by simp, fun c hc => ?_⟩, a.grow.trans b.grow, fun c o e n => ?_, fun c e => b.there c (a.there c e)⟩
  · rcases List.mem_append.mp hc with h | h
    · exact f2 c h
    · exact fr c h
  · refine b.keep c o (a.keep c o e n) fun z => ?_
    rcases List.mem_append.mp z with z | z
    · exact n z
    · rw [f2 c z] at e; cases e
theorem Ext.ex (h : Ex H H') : Ext φ H φ H' := ⟨⟨[], by simp, fun _ h => by simp at h⟩, h.grow, fun b o e _ => h b o e, fun b e z => e (by
  cases q : H b with
  | none => rfl
  | some o => rw [h b o q] at z; cases z)⟩
theorem Ext.enc (x : Ext φ H φ' H') {v : V} {d : D} (h : Enc ε φ H v d) : Enc ε φ' H' v d := by
  obtain ⟨p2, rfl, _⟩ := x.more
  exact h.mono p2 x.grow
theorem Ext.encL (x : Ext φ H φ' H') {v : List V} {d : List D} (h : EncL ε φ H v d) : EncL ε φ' H' v d := by
  obtain ⟨p2, rfl, _⟩ := x.more
  exact h.mono p2 x.grow
theorem Sto.ex (h : Ex H H') (S : Sto ε φ μ H) : Sto ε φ μ H' := ⟨S.len, S.nd, fun n a c e1 e2 => by
  have q := (S.at_ n a c e1 e2).mono [] h.grow fun o e => h a o e
  rwa [List.append_nil] at q⟩
/-- a step's end -/
structure Res (ε : Ev) (φ : List Addr) (H : Hp) (φ' : List Addr) (μ' : Store) (H' : Hp) : Prop where
  ext : Ext φ H φ' H'
  sto : Sto ε φ' μ' H'
theorem Res.refl (S : Sto ε φ μ H) : Res ε φ H φ μ H := ⟨.refl, S⟩
theorem Res.trans (a : Res ε φ H φ' μ' H') (b : Res ε φ' H' φ'' μ'' H'') : Res ε φ H φ'' μ'' H'' := ⟨a.ext.trans b.ext, b.sto⟩
theorem Res.ex (S : Sto ε φ μ H) (h : Ex H H') : Res ε φ H φ μ H' := ⟨.ex h, S.ex h⟩
/-- a new cell is laid -/
theorem Res.new {p : Addr} {o : HO} {c : Cell} (S : Sto ε φ μ H) (hp : H p = none) (hc : CellOk ε (φ ++ [p]) (upd H p o) p c) : Res ε φ H (φ ++ [p]) (μ ++ [c]) (upd H p o) := by
  have x : Ex H (upd H p o) := Ex.new hp
  refine ⟨⟨⟨[p], rfl, fun b hb => by rw [List.mem_singleton.mp hb]; exact hp⟩, x.grow, fun b u e _ => x b u e, (Ext.ex (φ := φ) x).there⟩, by simp [S.len], ?_, fun n a d e1 e2 => ?_⟩
  · refine List.nodup_append.mpr ⟨S.nd, by simp, fun a ha b hb => ?_⟩
    rw [List.mem_singleton.mp hb]
    rintro rfl
    obtain ⟨o, e⟩ := S.there ha
    rw [hp] at e; cases e
  · by_cases hn : n < φ.length
    · rw [List.getElem?_append_left hn] at e1
      rw [List.getElem?_append_left (by rw [← S.len]; exact hn)] at e2
      exact (S.at_ n a d e1 e2).mono [p] x.grow fun u e => x a u e
    · rw [List.getElem?_append_right (by omega)] at e1
      rw [List.getElem?_append_right (by rw [← S.len]; omega), ← S.len] at e2
      have h0 : n - φ.length = 0 := by
        have := (List.getElem?_eq_some_iff.mp e1).1
        simp at this; omega
      rw [h0] at e1 e2
      simp at e1 e2
      subst e1; subst e2
      exact hc
/-- a cell is changed -/
theorem Res.set {n : Nat} {a : Addr} {o : HO} {c : Cell} (S : Sto ε φ μ H) (ha : φ[n]? = some a) (nt : ∀ xs, H a ≠ some (.tup xs)) (nf : ∀ q u, H a ≠ some (.frz q u))
    (hc : CellOk ε φ (upd H a o) a c) : Res ε φ H φ (μ.set n c) (upd H a o) := by
  have g : Grow H (upd H a o) := ⟨fun b xs e => by rw [upd_ne (fun z => by rw [z] at e; exact nt _ e)]; exact e, fun b q u e => by rw [upd_ne (fun z => by rw [z] at e; exact nf _ _ e)]; exact e⟩
  refine ⟨⟨⟨[], by simp, fun _ h => by simp at h⟩, g, fun b u e nb => ?_, fun b e z => ?_⟩, by simp [S.len], S.nd, fun m b d e1 e2 => ?_⟩
  · rw [upd_ne (fun z => nb (by rw [z]; exact List.mem_of_getElem? ha))]; exact e
  · by_cases hb : b = a
    · rw [hb, upd_same] at z; cases z
    · rw [upd_ne hb] at z; exact e z
  · by_cases hm : m = n
    · subst hm
      rw [ha] at e1; cases e1
      have hl := (List.getElem?_eq_some_iff.mp e2).1
      rw [List.getElem?_set_self (by simpa using hl)] at e2
      cases e2
      exact hc
    · rw [List.getElem?_set_ne (Ne.symm hm)] at e2
      have hne : b ≠ a := by
        rintro rfl
        obtain ⟨h1, q1⟩ := List.getElem?_eq_some_iff.mp e1
        obtain ⟨h2, q2⟩ := List.getElem?_eq_some_iff.mp ha
        exact hm ((List.getElem_inj S.nd).mp (q1.trans q2.symm))
      have q := (S.at_ m b d e1 e2).mono [] g fun u e => by rw [upd_ne hne]; exact e
      rwa [List.append_nil] at q
theorem dk_noT {a : Addr} {ks : List (Key × V)} (h : H a = some (.dK ks)) : ∀ xs, H a ≠ some (.tup xs) := fun xs e => by rw [h] at e; cases e
theorem dk_noF {a : Addr} {ks : List (Key × V)} (h : H a = some (.dK ks)) : ∀ q u, H a ≠ some (.frz q u) := fun xs u e => by rw [h] at e; cases e

/-! ### the def's names -/
def SlotOk (ε : Ev) (φ : List Addr) (H : Hp) : Slot → Option V → Prop
  | .emp, _ => True
  | .val d, o => ∃ v, o = some v ∧ Enc ε φ H v d
  | .own c, o => ∃ a, o = some (.ref a) ∧ CellOk ε φ H a c
/-- where the lists and dicts stand that the def alone holds -/
def ownA : Slots → L2.St → List Addr
  | .own _ :: ρ, some (.ref a) :: σ => a :: ownA ρ σ
  | _ :: ρ, _ :: σ => ownA ρ σ
  | _, _ => []
structure Rel (ε : Ev) (φ : List Addr) (ρ : Slots) (μ : Store) (σ : L2.St) (H : Hp) : Prop where
  sto : Sto ε φ μ H
  slots : Paired (SlotOk ε φ H) ρ σ
  nd : (ownA ρ σ).Nodup
  dj : ∀ a ∈ ownA ρ σ, a ∉ φ
theorem ownA_cons {s : Slot} {o : Option V} {ρ : Slots} {σ : L2.St} {a : Addr} (h : a ∈ ownA ρ σ) : a ∈ ownA (s :: ρ) (o :: σ) := by
  cases s <;> cases o <;> (try (rename_i v; cases v)) <;> (first | exact h | exact List.mem_cons_of_mem _ h | skip)
  all_goals (first | (rename_i w _; cases w <;> first | exact h | exact List.mem_cons_of_mem _ h) | skip)
theorem ownA_there : ∀ {ρ : Slots} {σ : L2.St}, Paired (SlotOk ε φ H) ρ σ → ∀ a ∈ ownA ρ σ, ∃ o, H a = some o
  | _, _, .nil, a, h => by simp [ownA] at h
  | s :: ρ, o :: σ, .cons q r, a, h => by
    cases s with
    | own c =>
      obtain ⟨b, rfl, hb⟩ := q
      simp only [ownA, List.mem_cons] at h
      rcases h with rfl | h
      · exact hb.there
      · exact ownA_there r a h
    | emp => exact ownA_there r a (by simpa [ownA] using h)
    | val d => exact ownA_there r a (by simpa [ownA] using h)
theorem slots_step (x : Ext φ H φ' H') : ∀ {ρ : Slots} {σ : L2.St}, Paired (SlotOk ε φ H) ρ σ → (∀ a ∈ ownA ρ σ, a ∉ φ) → Paired (SlotOk ε φ' H') ρ σ
  | _, _, .nil, _ => .nil
  | s :: ρ, o :: σ, .cons q r, h => by
    refine .cons ?_ (slots_step x r fun a ha => h a (ownA_cons ha))
    cases s with
    | emp => trivial
    | val d => obtain ⟨v, rfl, e⟩ := q; exact ⟨v, rfl, x.enc e⟩
    | own c =>
      obtain ⟨a, rfl, e⟩ := q
      obtain ⟨p2, rfl, _⟩ := x.more
      exact ⟨a, rfl, e.mono p2 x.grow fun u z => x.keep a u z (h a (by simp [ownA]))⟩
theorem Rel.step {ρ : Slots} {σ : L2.St} (R : Rel ε φ ρ μ σ H) (x : Res ε φ H φ' μ' H') : Rel ε φ' ρ μ' σ H' := by
  refine ⟨x.sto, slots_step x.ext R.slots R.dj, R.nd, fun a ha z => ?_⟩
  obtain ⟨p2, rfl, f2⟩ := x.ext.more
  rcases List.mem_append.mp z with z | z
  · exact R.dj a ha z
  · obtain ⟨o, e⟩ := ownA_there R.slots a ha
    rw [f2 a z] at e; cases e
theorem Rel.slot {ρ : Slots} {σ : L2.St} (R : Rel ε φ ρ μ σ H) {i : Nat} {d : D} (h : slotD ρ i = some d) : ∃ v, σ[i]? = some (some v) ∧ Enc ε φ H v d := by
  unfold slotD at h
  split at h
  · rename_i e
    cases h
    obtain ⟨o, h1, h2⟩ := paired_get R.slots e
    obtain ⟨v, rfl, h3⟩ := h2
    exact ⟨v, h1, h3⟩
  · cases h
theorem ownA_get : ∀ {ρ : Slots} {σ : L2.St} {i : Nat} {c : Cell} {a : Addr}, ρ[i]? = some (.own c) → σ[i]? = some (some (.ref a)) → a ∈ ownA ρ σ
  | [], _, _, _, _, h, _ => by simp at h
  | s :: ρ, [], i, _, _, _, h => by simp at h
  | s :: ρ, o :: σ, 0, c, a, h, k => by simp at h k; subst h; subst k; simp [ownA]
  | s :: ρ, o :: σ, i + 1, c, a, h, k => ownA_cons (ownA_get (by simpa using h) (by simpa using k))
theorem Rel.own {ρ : Slots} {σ : L2.St} (R : Rel ε φ ρ μ σ H) {i : Nat} {c : Cell} (h : ρ[i]? = some (.own c)) : ∃ a, σ[i]? = some (some (.ref a)) ∧ CellOk ε φ H a c ∧ a ∉ φ ∧ a ∈ ownA ρ σ := by
  obtain ⟨o, h1, h2⟩ := paired_get R.slots h
  obtain ⟨a, rfl, h3⟩ := h2
  have m := ownA_get h h1
  exact ⟨a, h1, h3, R.dj a m, m⟩

/-! ### operands that are read at once -/
def ArgOk (ε : Ev) (φ : List Addr) (H : Hp) (v : V) (d : D) : Prop :=
  Enc ε φ H v d ∨ ∃ a vs ds, d = .lst ds ∧ v = .ref a ∧ H a = some (.lst vs) ∧ a ∉ φ ∧ EncL ε φ H vs ds
inductive ArgsOk (ε : Ev) (φ : List Addr) (H : Hp) : List V → List D → Prop
  | nil : ArgsOk ε φ H [] []
  | cons {v : V} {vs : List V} {d : D} {ds : List D} : ArgOk ε φ H v d → ArgsOk ε φ H vs ds → ArgsOk ε φ H (v :: vs) (d :: ds)
theorem ArgOk.step (x : Ext φ H φ' H') {v : V} {d : D} (h : ArgOk ε φ H v d) : ArgOk ε φ' H' v d := by
  rcases h with h | ⟨a, vs, ds, rfl, rfl, h1, h2, h3⟩
  · exact .inl (x.enc h)
  · refine .inr ⟨a, vs, ds, rfl, rfl, x.keep a _ h1 h2, fun z => ?_, x.encL h3⟩
    obtain ⟨p2, rfl, f2⟩ := x.more
    rcases List.mem_append.mp z with z | z
    · exact h2 z
    · rw [f2 a z] at h1; cases h1
theorem ArgOk.view (S : Sto ε φ μ H) {v : V} {d : D} (h : ArgOk ε φ H v d) : Vw ε φ H v (viewD μ d) := by
  rcases h with h | ⟨a, vs, ds, rfl, rfl, h1, h2, h3⟩
  · cases h with
    | ref q =>
      rename_i n a
      unfold viewD
      simp only
      split
      · rename_i ds e
        have c := S.at_ n a _ q e
        cases c with
        | lst c1 c2 => exact .inr ⟨a, _, _, rfl, rfl, .inl (.inl c1), c2⟩
      · exact .inl (.ref q)
    | _ => exact .inl (by unfold viewD; constructor <;> assumption)
  · exact .inr ⟨a, vs, ds, rfl, rfl, .inl (.inl h1), h3⟩
theorem ArgsOk.view (S : Sto ε φ μ H) : ∀ {vs : List V} {ds : List D}, ArgsOk ε φ H vs ds → VwL ε φ H vs (ds.map (viewD μ))
  | _, _, .nil => .nil
  | _, _, .cons h t => .cons (h.view S) (ArgsOk.view S t)
theorem ArgsOk.step (x : Ext φ H φ' H') : ∀ {vs : List V} {ds : List D}, ArgsOk ε φ H vs ds → ArgsOk ε φ' H' vs ds
  | _, _, .nil => .nil
  | _, _, .cons h t => .cons (h.step x) (ArgsOk.step x t)
theorem ArgsOk.of : ∀ {vs : List V} {ds : List D}, EncL ε φ H vs ds → ArgsOk ε φ H vs ds
  | _, [], h => by cases h; exact .nil
  | _, d :: ds, h => by cases h with | cons q r => exact .cons (.inl q) (ArgsOk.of r)
end
end FH
end
section
/-! FH4: defs by what they come to; expressions, one rule a construct. -/
namespace FH
open PySem PySem.Spec PyProof.Rows L2

/-- a def keeps its promise where nothing is being shown -/
structure FnG (P : Program) (w : World) (K : PySem.W.Frag) (mg : Str → Option Value) (base : Heap) (k : Nat) (f : Addr) (fd : FuncData) (ps : List Str) (sp : Sp) : Prop where
  len : ∀ vs H Q E, sp vs H Q E → vs.length = ps.length
  run : ∀ (A : Around) (outer : List Env) (s : Shared) (H : Hp) (args : Args) (us : List Value) (vs : List V) (Q : VK), Room k A → A.guards = some [] → Env0 P w K mg base A outer s H →
    BindsTo s fd args (ps.zip us) → Vals vs us → sp vs H Q E0 → codeAny (model P w) A (.call (.ref f) args) (CR CX0 outer P w H s Q E0) s
/-- what a def's plain meaning promises -/
def spOf (ε : Ev) (g : List D → Store → Option (D × Store)) : Sp := fun vs H Q _ => ∃ φ ds μ r μ', EncL ε φ H vs ds ∧ Sto ε φ μ H ∧ g ds μ = some (r, μ') ∧ ∀ φ' v H', Res ε φ H φ' μ' H' → Enc ε φ' H' v r → Q v H'

/-- what a name of the module stands for -/
inductive G where
  | unk | no | con (d : D) | fn (f : Nat) | cls (c : Nat) | dct (kvs : List (Str × D))
structure CI where
  init : Option Nat
  meths : List (Str × Nat)
  flds : List Str
structure Tab where
  g : List (Str × G)
  c : List CI
def Tab.look (T : Tab) (x : Str) : G := (T.g.lookup x).getD .unk
/-- a block's names -/
structure SC where
  N : List Str
  sc : Scope
  bs : Option Scope
def FOk (ε : Ev) (X : Cx) (k : Nat) (g : Fns) (f : Nat) : Prop := (∃ ds μ r, g f ds μ = some r) →
  ∃ fd ps, FnG X.prog X.w X.K X.mg X.base k (ε.fa f) fd ps (spOf ε (g f)) ∧ Binds X.K fd ps [] ∧ PySem.W.keepIn X.K (.ref (ε.fa f)) = true
def GOk (ε : Ev) (X : Cx) (x : Str) : G → Prop
  | .unk => True
  | .no => X.mg x = none
  | .con d => ∃ u v, X.mg x = some u ∧ RelV v u ∧ ∀ φ H, Enc ε φ H v d
  | .fn f => X.mg x = some (.ref (ε.fa f))
  | .cls c => X.mg x = some (.ref (ε.ca c))
  | .dct kvs => ∃ a, X.mg x = some (.ref a) ∧ ∀ z d, kvs.lookup z = some d → ∃ v, KDct X.K X.w a z v ∧ ∀ φ H, Enc ε φ H v d
structure ClOk (ε : Ev) (X : Cx) (c : Nat) (I : CI) : Prop where
  cl : Cls X.K (ε.ca c)
  meth : ∀ m f, I.meths.lookup m = some f → Meth X.K (ε.ca c) m (ε.fa f)
  fld : ∀ f, I.flds.contains f = true → NoAttr X.K (ε.ca c) f
  made : ∀ f, I.init = some f → Mk X.K (ε.ca c) (ε.fa f)
/-- where a piece of the text stands -/
structure CxOk (ε : Ev) (T : Tab) (Γ : Env2) (S : SC) (X : Cx) : Prop where
  K : ε.K = X.K
  P : ε.P = X.prog
  w : ε.w = X.w
  N : X.N = S.N
  nd : S.N.Nodup
  sc : X.env.scope = S.sc
  calm : X.calm = true
  xe : X.xe = fun _ _ => False
  gd : X.A.guards = some []
  hu : X.A.units + 200 < cLine
  fn : ∀ x, match S.bs with
    | none => X.fn x = true
    | some sc => X.fn x = (sc.names.lookup x == some .cell)
  gl : ∀ x, GOk ε X x (T.look x)
  fns : ∃ k, Room k X.A ∧ ∀ f, FOk ε X k Γ.fns f
  inits : ∃ k, Room (k + 1) X.A ∧ (∀ f, FOk ε X k Γ.inits f) ∨ ∀ f ds μ, Γ.inits f ds μ = none
  cls : ∀ (c : Nat) (I : CI), T.c[c]? = some I → ClOk ε X c I

section
variable {ε : Ev} {T : Tab} {Γ : Env2} {S : SC} {X : Cx}
def rdE (ε : Ev) (Γ : Env2) (ie : IE) : TE := fun σ H Q => ∃ φ ρ μ d μ', Rel ε φ ρ μ σ H ∧ evE Γ ie ρ μ = some (d, μ') ∧ ∀ φ' v H', Res ε φ H φ' μ' H' → Enc ε φ' H' v d → Q v H'
def rdT (ε : Ev) (Γ : Env2) (ie : IE) : TT := fun σ H Q => ∃ φ ρ μ d μ' k, Rel ε φ ρ μ σ H ∧ evE Γ ie ρ μ = some (d, μ') ∧ truD (viewD μ' d) = some k ∧ ∀ φ' H', Res ε φ H φ' μ' H' → Q k H'
/-- an operand: a name that alone holds its list, too -/
def rdO (ε : Ev) (Γ : Env2) (ie : IE) : TE := fun σ H Q => ∃ φ ρ μ d μ', Rel ε φ ρ μ σ H ∧ evE Γ ie ρ μ = some (d, μ') ∧ ∀ φ' v H', Res ε φ H φ' μ' H' → ArgOk ε φ' H' v d → Q v H'
def rdA (ε : Ev) (Γ : Env2) (es : IEs) : TA := fun σ H Q => ∃ φ ρ μ ds μ', Rel ε φ ρ μ σ H ∧ evEs Γ es ρ μ = some (ds, μ') ∧ ∀ φ' vs H', Res ε φ H φ' μ' H' → EncL ε φ' H' vs ds → Q vs H'
def rdAO (ε : Ev) (Γ : Env2) (es : IEs) : TA := fun σ H Q => ∃ φ ρ μ ds μ', Rel ε φ ρ μ σ H ∧ evEs Γ es ρ μ = some (ds, μ') ∧ ∀ φ' vs H', Res ε φ H φ' μ' H' → ArgsOk ε φ' H' vs ds → Q vs H'

theorem PE.imp {e : Expr} {t t' : TE} (h : PE X e t) (k : ∀ σ H Q, t' σ H Q → t σ H Q) : PE X e t' := ⟨fun pins s σ H Q I q => h.run pins s σ H Q I (k σ H Q q)⟩
theorem PT.imp {e : Expr} {t t' : TT} (h : PT X e t) (k : ∀ σ H Q, t' σ H Q → t σ H Q) : PT X e t' := ⟨fun pins s σ H Q I q => h.run pins s σ H Q I (k σ H Q q)⟩
theorem PW.imp {e : Expr} {t t' : TT} (h : PW X e t) (k : ∀ σ H Q, t' σ H Q → t σ H Q) : PW X e t' := ⟨fun wh pins s σ H Q I q => h.run wh pins s σ H Q I (k σ H Q q)⟩
theorem PA.imp {e : List Expr} {t t' : TA} (h : PA X e t) (k : ∀ σ H Q, t' σ H Q → t σ H Q) : PA X e t' := ⟨fun pos pins s σ H Q I q => h.run pos pins s σ H Q I (k σ H Q q)⟩
/-- a value is an operand -/
theorem PE.rdO {e : Expr} {ie : IE} (h : PE X e (rdE ε Γ ie)) : PE X e (rdO ε Γ ie) := PE.imp h fun σ H Q ⟨φ, ρ, μ, d, μ', R, e, q⟩ => ⟨φ, ρ, μ, d, μ', R, e, fun φ' v H' x y => q φ' v H' x (.inl y)⟩

/-! ### constants, names -/
theorem sd_int {i : Int} {j pos} : PE X (.Constant (.int i) j pos) (rdE ε Γ (.lit (.int i))) := PE.imp pe_int fun σ H Q ⟨φ, ρ, μ, d, μ', R, e, q⟩ => by
  cases e; exact q φ _ H (.refl R.sto) (.int i)
theorem sd_str {i : Str} {j pos} : PE X (.Constant (.str i) j pos) (rdE ε Γ (.lit (.str i))) := PE.imp pe_str fun σ H Q ⟨φ, ρ, μ, d, μ', R, e, q⟩ => by
  cases e; exact q φ _ H (.refl R.sto) (.str i)
theorem sd_bl {i : Bool} {j pos} : PE X (.Constant (.bool i) j pos) (rdE ε Γ (.lit (.bl i))) := PE.imp pe_bl fun σ H Q ⟨φ, ρ, μ, d, μ', R, e, q⟩ => by
  cases e; exact q φ _ H (.refl R.sto) (.bl i)
theorem sd_non {j pos} : PE X (.Constant .none j pos) (rdE ε Γ (.lit .non)) := PE.imp pe_non fun σ H Q ⟨φ, ρ, μ, d, μ', R, e, q⟩ => by
  cases e; exact q φ _ H (.refl R.sto) .non
def visB (sc : Scope) (x : Str) : Bool := match sc.names.lookup x with
  | some .local => true | some .cell => true | some .free => true | _ => false
theorem visB_ok {sc : Scope} {x : Str} (h : visB sc x = true) : Vis sc x := by
  unfold visB at h
  unfold Vis
  split at h <;> simp_all
def nameOk (x : Str) : Bool := !(x == ("__debug__" : Str)) && !(x == ("__classdict__" : Str)) && !(x == ("__name__" : Str))
theorem sd_var (C : CxOk ε T Γ S X) {i : Nat} {x : Str} {pos : Pos} (h : S.N[i]? = some x) (hv : visB S.sc x = true) (hn : nameOk x = true) : PE X (.Name x pos) (rdE ε Γ (.var i)) := by
  simp only [nameOk, Bool.and_eq_true, Bool.not_eq_true'] at hn
  refine PE.imp (pe_var (i := i) (by rw [C.N]; exact h) (by rw [C.sc]; exact visB_ok hv) hn.1.1 hn.1.2) fun σ H Q ⟨φ, ρ, μ, d, μ', R, e, q⟩ => ?_
  simp only [evE, Option.map_eq_some_iff] at e
  obtain ⟨d', e, e2⟩ := e
  cases e2
  obtain ⟨v, h1, h2⟩ := R.slot e
  exact ⟨v, h1, q φ v H (.refl R.sto) h2⟩
theorem sd_own (C : CxOk ε T Γ S X) {i : Nat} {x : Str} {pos : Pos} (h : S.N[i]? = some x) (hv : visB S.sc x = true) (hn : nameOk x = true) : PE X (.Name x pos) (rdO ε Γ (.own i)) := by
  simp only [nameOk, Bool.and_eq_true, Bool.not_eq_true'] at hn
  refine PE.imp (pe_var (i := i) (by rw [C.N]; exact h) (by rw [C.sc]; exact visB_ok hv) hn.1.1 hn.1.2) fun σ H Q ⟨φ, ρ, μ, d, μ', R, e, q⟩ => ?_
  simp only [evE, Option.map_eq_some_iff] at e
  obtain ⟨d', e, e2⟩ := e
  cases e2
  unfold ownD at e
  split at e
  · rename_i ds ei
    cases e
    obtain ⟨a, h1, h2, h3, h4⟩ := R.own ei
    refine ⟨_, h1, q φ _ H (.refl R.sto) ?_⟩
    cases h2 with
    | lst q1 q2 => exact .inr ⟨a, _, ds, rfl, rfl, q1, h3, q2⟩
  · rename_i ds ei
    cases e
    obtain ⟨a, h1, h2, h3, h4⟩ := R.own ei
    refine ⟨_, h1, q φ _ H (.refl R.sto) ?_⟩
    cases h2 with
    | tup q1 _ _ q2 => exact .inl (.tup (.inl (.inr ⟨_, q1⟩)) q2)
  · cases e
def glB (sc : Scope) (x : Str) : Bool := decide (sc.names.lookup x = some .globalImplicit)
theorem glB_ok (C : CxOk ε T Γ S X) {x : Str} (h : glB S.sc x = true) : Gl X x := by
  have e : S.sc.names.lookup x = some .globalImplicit := of_decide_eq_true h
  show X.env.scope.names.lookup x = _
  rw [C.sc]; exact e
theorem sd_glob (C : CxOk ε T Γ S X) {x : Str} {d : D} {pos : Pos} (hg : glB S.sc x = true) (hn : nameOk x = true) (ht : T.look x = .con d) : PE X (.Name x pos) (rdE ε Γ (.glob x d)) := by
  simp only [nameOk, Bool.and_eq_true, Bool.not_eq_true'] at hn
  have g := C.gl x
  rw [ht] at g
  obtain ⟨u, v, h1, h2, h3⟩ := g
  refine PE.imp (pe_glob (glB_ok C hg) h1 h2 hn.1.1) fun σ H Q ⟨φ, ρ, μ, d, μ', R, e, q⟩ => ?_
  cases e
  exact q φ v H (.refl R.sto) (h3 φ H)
theorem sd_gfn (C : CxOk ε T Γ S X) {x : Str} {f : Nat} {pos : Pos} (hg : glB S.sc x = true) (hn : nameOk x = true) (ht : T.look x = .fn f) : PE X (.Name x pos) (rdE ε Γ (.glob x (.fn f))) := by
  simp only [nameOk, Bool.and_eq_true, Bool.not_eq_true'] at hn
  have g := C.gl x
  rw [ht] at g
  refine PE.imp (pe_glob (v := .ref (ε.fa f)) (glB_ok C hg) g rfl hn.1.1) fun σ H Q ⟨φ, ρ, μ, d, μ', R, e, q⟩ => ?_
  cases e
  exact q φ _ H (.refl R.sto) (.fn f)
/-- a built-in type's name as a value -/
theorem sd_ty (C : CxOk ε T Γ S X) {x : Str} {n : String} {pos : Pos} (hg : glB S.sc x = true) (hn : nameOk x = true) (ht : T.look x = .no) (hb : bootBuiltins x = some (.type n)) : PE X (.Name x pos) (rdE ε Γ (.glob x (.ty n))) := by
  simp only [nameOk, Bool.and_eq_true, Bool.not_eq_true'] at hn
  have g := C.gl x
  rw [ht] at g
  refine PE.imp (pe_bltn (v := .ty n) (glB_ok C hg) g hb rfl (by
    intro z; rw [z] at hn; simp at hn) hn.1.1) fun σ H Q ⟨φ, ρ, μ, d, μ', R, e, q⟩ => ?_
  cases e
  exact q φ _ H (.refl R.sto) (.ty n)

/-! ### lists of operands -/
def okE : Expr → Bool
  | .Starred .. => false | .Set .. => false | .Slice .. => false | _ => true
theorem star_cons {e : Expr} {es : List Expr} {env : Env} (h : okE e = true) : starEach (e :: es) env = (false, eval e env) :: starEach es env := by
  cases e <;> first | rfl | (simp [okE] at h)
theorem star_plain : ∀ {es : List Expr} {env : Env} {pos : Pos}, es.all okE = true → (backTo pos (starEach es env)).any (·.1) = false
  | [], _, _, _ => rfl
  | e :: es, env, pos, h => by
    simp only [List.all_cons, Bool.and_eq_true] at h
    rw [star_cons h.1]
    have ih := star_plain (env := env) (pos := pos) h.2
    simpa [backTo] using ih
theorem sa_nil : PA X [] (rdA ε Γ .nil) := PA.imp pa_nil fun σ H Q ⟨φ, ρ, μ, ds, μ', R, e, q⟩ => by cases e; exact q φ _ H (.refl R.sto) .nil
theorem sa_cons {e : Expr} {es : List Expr} {ie : IE} {ies : IEs} (he : PE X e (rdE ε Γ ie)) (hs : PA X es (rdA ε Γ ies)) (ok : okE e = true) : PA X (e :: es) (rdA ε Γ (.cons ie ies)) := by
  refine PA.imp (pa_cons he hs (star_cons ok)) fun σ H Q ⟨φ, ρ, μ, ds, μ', R, e, q⟩ => ?_
  simp only [evEs, Option.bind_eq_some_iff, Option.map_eq_some_iff] at e
  obtain ⟨⟨d, μ1⟩, e1, ⟨ds', μ2⟩, e2, e3⟩ := e
  cases e3
  refine ⟨φ, ρ, μ, d, μ1, R, e1, fun φ1 v H1 x1 y1 => ⟨φ1, ρ, μ1, ds', _, R.step x1, e2, fun φ2 vs H2 x2 y2 => ?_⟩⟩
  exact q φ2 (v :: vs) H2 (x1.trans x2) (.cons (x2.ext.enc y1) y2)
theorem so_nil : PA X [] (rdAO ε Γ .nil) := PA.imp pa_nil fun σ H Q ⟨φ, ρ, μ, ds, μ', R, e, q⟩ => by cases e; exact q φ _ H (.refl R.sto) .nil
theorem so_cons {e : Expr} {es : List Expr} {ie : IE} {ies : IEs} (he : PE X e (rdO ε Γ ie)) (hs : PA X es (rdAO ε Γ ies)) (ok : okE e = true) : PA X (e :: es) (rdAO ε Γ (.cons ie ies)) := by
  refine PA.imp (pa_cons he hs (star_cons ok)) fun σ H Q ⟨φ, ρ, μ, ds, μ', R, e, q⟩ => ?_
  simp only [evEs, Option.bind_eq_some_iff, Option.map_eq_some_iff] at e
  obtain ⟨⟨d, μ1⟩, e1, ⟨ds', μ2⟩, e2, e3⟩ := e
  cases e3
  refine ⟨φ, ρ, μ, d, μ1, R, e1, fun φ1 v H1 x1 y1 => ⟨φ1, ρ, μ1, ds', _, R.step x1, e2, fun φ2 vs H2 x2 y2 => ?_⟩⟩
  exact q φ2 (v :: vs) H2 (x1.trans x2) (.cons (y1.step x2.ext) y2)

/-! ### plain operations -/
theorem fin_ex {φ : List Addr} {ρ : Slots} {μ : Store} {H0 H : Hp} {φ0 : List Addr} {z : D} {Q : VK} (x : Res ε φ0 H0 φ μ H) (q : ∀ φ' v H', Res ε φ0 H0 φ' μ H' → Enc ε φ' H' v z → Q v H') :
    ∀ v H', Ex H H' → Enc ε φ H' v z → Q v H' := fun v H' g y => q φ v H' (x.trans (.ex x.sto g)) y
theorem ev2 {p : P} {a b : IE} {ρ : Slots} {μ : Store} {r : D × Store} (h : evE Γ (.prim p (.cons a (.cons b .nil))) ρ μ = some r) :
    ∃ x μ1 y μ2 z, evE Γ a ρ μ = some (x, μ1) ∧ evE Γ b ρ μ1 = some (y, μ2) ∧ primD p [viewD μ2 x, viewD μ2 y] = some z ∧ r = (z, μ2) := by
  simp only [evE, evEs, Option.bind_eq_some_iff, Option.map_eq_some_iff] at h
  obtain ⟨⟨ds, μ'⟩, ⟨⟨x, μ1⟩, e1, ⟨es, μ3⟩, ⟨⟨y, μ2⟩, e2, ⟨fs, μ4⟩, e3, e4⟩, e5⟩, z, e6, e7⟩ := h
  cases e3; cases e4; cases e5
  exact ⟨x, μ1, y, _, z, e1, e2, e6, e7.symm⟩
theorem ev1 {p : P} {a : IE} {ρ : Slots} {μ : Store} {r : D × Store} (h : evE Γ (.prim p (.cons a .nil)) ρ μ = some r) :
    ∃ x μ1 z, evE Γ a ρ μ = some (x, μ1) ∧ primD p [viewD μ1 x] = some z ∧ r = (z, μ1) := by
  simp only [evE, evEs, Option.bind_eq_some_iff, Option.map_eq_some_iff] at h
  obtain ⟨⟨ds, μ'⟩, ⟨⟨x, μ1⟩, e1, ⟨es, μ3⟩, e3, e5⟩, z, e6, e7⟩ := h
  cases e3; cases e5
  exact ⟨x, _, z, e1, e6, e7.symm⟩
theorem rd2 {p : P} {f : D → D → Option D} (hp : ∀ c d, primD p [c, d] = f c d) {a b : IE} {σ : L2.St} {H : Hp} {Q : VK} (h : rdE ε Γ (.prim p (.cons a (.cons b .nil))) σ H Q) : tOp (rP2 ε f) (rdO ε Γ a) (rdO ε Γ b) σ H Q := by
  obtain ⟨φ, ρ, μ, d, μ', R, e, q⟩ := h
  obtain ⟨x, μ1, y, μ2, z, e1, e2, e3, e4⟩ := ev2 e
  cases e4
  rw [hp] at e3
  refine ⟨φ, ρ, μ, x, μ1, R, e1, fun φ1 v1 H1 x1 y1 => ⟨φ1, ρ, μ1, y, _, R.step x1, e2, fun φ2 v2 H2 x2 y2 => ?_⟩⟩
  exact ⟨φ2, _, _, _, (y1.step x2.ext).view x2.sto, y2.view x2.sto, e3, fin_ex (ρ := ρ) (x1.trans x2) q⟩
theorem sp_bin (C : CxOk ε T Γ S X) {op : Operator} {a b : Expr} {ia ib : IE} {pos : Pos} (ha : PE X a (rdO ε Γ ia)) (hb : PE X b (rdO ε Γ ib)) : PE X (.BinOp a op b pos) (rdE ε Γ (.prim (.bin op) (.cons ia (.cons ib .nil)))) :=
  PE.imp (pe_op (op_binD C.K op) ha hb) fun σ H Q h => rd2 (fun _ _ => rfl) h
theorem mark_ok {op : CmpOp} {b : Expr} (h : okE b = true) : behindInMarks op b = false := by
  cases b <;> first | rfl | (simp [okE] at h)
theorem sp_cmp (C : CxOk ε T Γ S X) {op : CmpOp} {a b : Expr} {ia ib : IE} {pos : Pos} (ok : okE b = true) (ha : PE X a (rdO ε Γ ia)) (hb : PE X b (rdO ε Γ ib)) : PE X (.Compare a [op] [b] pos) (rdE ε Γ (.prim (.cmp op) (.cons ia (.cons ib .nil)))) :=
  PE.imp (pe_cmpR (op_cmpD C.K (by have := C.hu; omega) op) ha hb (mark_ok ok)) fun σ H Q h => rd2 (fun _ _ => rfl) h
theorem plain_ix {b : Expr} (h : okE b = true) : PlainIx b := fun o i => by cases b <;> first | rfl | (simp [okE] at h)
theorem sp_ix (C : CxOk ε T Γ S X) {a b : Expr} {ia ib : IE} {pos : Pos} (ok : okE b = true) (ha : PE X a (rdO ε Γ ia)) (hb : PE X b (rdO ε Γ ib)) : PE X (.Subscript a b pos) (rdE ε Γ (.prim .ix (.cons ia (.cons ib .nil)))) :=
  PE.imp (pe_ix (ix_DD C.K) ha hb (plain_ix ok)) fun σ H Q h => rd2 (fun _ _ => rfl) h
theorem sp_neg {a : Expr} {ia : IE} {pos : Pos} (ha : PE X a (rdO ε Γ ia)) : PE X (.UnaryOp .USub a pos) (rdE ε Γ (.prim .neg (.cons ia .nil))) := by
  refine PE.imp (pe_un (un_negD (ε := ε)) ha) fun σ H Q h => ?_
  obtain ⟨φ, ρ, μ, d, μ', R, e, q⟩ := h
  obtain ⟨x, μ1, z, e1, e3, e4⟩ := ev1 e
  cases e4
  exact ⟨φ, ρ, μ, x, _, R, e1, fun φ1 v1 H1 x1 y1 => ⟨φ1, _, _, .cons (y1.view x1.sto) .nil, e3, fin_ex (ρ := ρ) x1 q⟩⟩
theorem rdL {p : P} {es : IEs} {σ : L2.St} {H : Hp} {Q : VK} (h : rdE ε Γ (.prim p es) σ H Q) : tCB (rPL ε p) (rdAO ε Γ es) σ H Q := by
  obtain ⟨φ, ρ, μ, d, μ', R, e, q⟩ := h
  simp only [evE, Option.bind_eq_some_iff, Option.map_eq_some_iff] at e
  obtain ⟨⟨ds, μ1⟩, e1, z, e2, e3⟩ := e
  cases e3
  exact ⟨φ, ρ, μ, ds, _, R, e1, fun φ1 vs H1 x1 y1 => ⟨φ1, _, _, y1.view x1.sto, e2, fin_ex (ρ := ρ) x1 q⟩⟩
/-- the built-in functions: name, what they are -/
def bltOf : P → Option (String × Value)
  | .len => some ("len", .builtin "len") | .abs => some ("abs", .builtin "abs") | .repr => some ("repr", .builtin "repr") | .ord => some ("ord", .builtin "ord")
  | .isi => some ("isinstance", .builtin "isinstance") | .all => some ("all", .builtin "all") | .any => some ("any", .builtin "any") | .sum => some ("sum", .builtin "sum")
  | .min => some ("min", .builtin "min") | .max => some ("max", .builtin "max") | .int => some ("int", .type "int") | .str => some ("str", .type "str") | .tuple => some ("tuple", .type "tuple")
  | _ => none
theorem sp_blt (C : CxOk ε T Γ S X) {p : P} {x : Str} {n : String} {u : Value} {e : Expr} {es : List Expr} {ies : IEs} {xp pos : Pos} (hb : bltOf p = some (n, u)) (hx : x = (n : Str)) (hg : glB S.sc x = true) (ht : T.look x = .no)
    (ha : PA X (e :: es) (rdAO ε Γ ies)) (ok : (e :: es).all okE = true) : PE X (.Call (.Name x xp) (e :: es) [] pos) (rdE ε Γ (.prim p ies)) := by
  have g := C.gl x
  rw [ht] at g
  simp only [List.all_cons, Bool.and_eq_true] at ok
  have h1 := star_cons (es := es) (env := X.env) ok.1
  have h2 := star_plain (env := X.env) (pos := pos) ok.2
  have gx := glB_ok C hg
  have hu := C.hu
  subst hx
  cases p <;> simp only [bltOf, Option.some.injEq, Prod.mk.injEq, reduceCtorEq] at hb <;> (obtain ⟨rfl, rfl⟩ := hb)
  · exact PE.imp (pe_callB (call_lenD C.K) gx g (by decide +kernel) ha (by decide +kernel) (by decide +kernel) h1 h2) fun σ H Q h => rdL h
  · exact PE.imp (pe_callB call_absD gx g (by decide +kernel) ha (by decide +kernel) (by decide +kernel) h1 h2) fun σ H Q h => rdL h
  · exact PE.imp (pe_callTy call_intD gx g (by decide +kernel) ha (by decide +kernel) (by decide +kernel) h1 h2) fun σ H Q h => rdL h
  · exact PE.imp (pe_callTy call_strD gx g (by decide +kernel) ha (by decide +kernel) (by decide +kernel) h1 h2) fun σ H Q h => rdL h
  · exact PE.imp (pe_callB (call_reprD C.K C.gd (by omega)) gx g (by decide +kernel) ha (by decide +kernel) (by decide +kernel) h1 h2) fun σ H Q h => rdL h
  · exact PE.imp (pe_callB call_ordD gx g (by decide +kernel) ha (by decide +kernel) (by decide +kernel) h1 h2) fun σ H Q h => rdL h
  · exact PE.imp (pe_callB (call_isiD C.K) gx g (by decide +kernel) ha (by decide +kernel) (by decide +kernel) h1 h2) fun σ H Q h => rdL h
  · exact PE.imp (pe_callTy (call_tupleD C.K) gx g (by decide +kernel) ha (by decide +kernel) (by decide +kernel) h1 h2) fun σ H Q h => rdL h
  · exact PE.imp (pe_callB (call_allD C.K C.calm) gx g (by decide +kernel) ha (by decide +kernel) (by decide +kernel) h1 h2) fun σ H Q h => rdL h
  · exact PE.imp (pe_callB (call_anyD C.K C.calm) gx g (by decide +kernel) ha (by decide +kernel) (by decide +kernel) h1 h2) fun σ H Q h => rdL h
  · exact PE.imp (pe_callB (call_sumD C.K C.calm) gx g (by decide +kernel) ha (by decide +kernel) (by decide +kernel) h1 h2) fun σ H Q h => rdL h
  · exact PE.imp (pe_callB (call_min2D C.calm) gx g (by decide +kernel) ha (by decide +kernel) (by decide +kernel) h1 h2) fun σ H Q h => rdL h
  · exact PE.imp (pe_callB (call_max2D C.calm) gx g (by decide +kernel) ha (by decide +kernel) (by decide +kernel) h1 h2) fun σ H Q h => rdL h
end
end FH
end
section
/-! FH5: truth, and, or, displays, calls, objects, dicts. -/
namespace FH
open PySem PySem.Spec PyProof.Rows L2
section
variable {ε : Ev} {T : Tab} {Γ : Env2} {S : SC} {X : Cx}

/-! ### truth -/
theorem tru_ok {φ : List Addr} {H : Hp} {v : V} {d : D} {k : Bool} (h : Vw ε φ H v d) (e : truD d = some k) : TruV ε.K v H k := by
  cases d <;> (first | (simp [truD] at e; done) | skip)
  · cases e; rw [h.non]; rfl
  · cases e; rw [h.bl]; rfl
  · cases e; rw [h.int]; rfl
  · simp only [truD] at e
    split at e
    · rename_i x hz
      cases e; rw [h.str]
      refine ⟨hz, ?_⟩
      cases hx : x.length
      · rfl
      · simp; omega
    · cases e
  · rename_i ds
    cases e
    obtain ⟨a, vs, rfl, h1, h2⟩ := h.tup
    refine .inr (.inl ⟨vs, h1, ?_⟩)
    cases ds <;> cases h2 <;> rfl
  · rename_i ds
    cases e
    obtain ⟨a, vs, rfl, h1, h2⟩ := h.lst
    refine .inl ⟨vs, h1.sq, ?_⟩
    cases ds <;> cases h2 <;> rfl
theorem sd_pt (C : CxOk ε T Γ S X) {e : Expr} {ie : IE} (h : PE X e (rdE ε Γ ie)) (he : ∀ whole, isTrue e X.env whole = (do let v ← whole; standAt e.pos; holding [v] (truthy v))) : PT X e (rdT ε Γ ie) := by
  refine PT.imp (pt_truth h he) fun σ H Q ⟨φ, ρ, μ, d, μ', k, R, e, et, q⟩ => ?_
  refine ⟨φ, ρ, μ, d, μ', R, e, fun φ1 v H1 x1 y1 => ⟨k, ?_, q φ1 H1 x1⟩⟩
  rw [← C.K]
  exact tru_ok (ArgOk.view x1.sto (.inl y1)) et
theorem cmpD_bl {op : CmpOp} {a b z : D} (h : cmpD op a b = some z) : ∃ k, z = .bl k := by
  unfold cmpD at h
  split at h <;> (first | (simp only [Option.map_eq_some_iff] at h; obtain ⟨k, _, rfl⟩ := h; exact ⟨_, rfl⟩) | (cases h; exact ⟨_, rfl⟩) | skip)
  all_goals (first | (cases h; done) | (split at h <;> (first | (simp only [Option.map_eq_some_iff] at h; obtain ⟨k, _, rfl⟩ := h; exact ⟨_, rfl⟩) | (cases h; try exact ⟨_, rfl⟩))))
/-- a comparison as a test -/
theorem st_cmp (C : CxOk ε T Γ S X) {op : CmpOp} {a b : Expr} {ia ib : IE} {pos : Pos} (ok : okE b = true) (ha : PE X a (rdO ε Γ ia)) (hb : PE X b (rdO ε Γ ib)) : PT X (.Compare a [op] [b] pos) (rdT ε Γ (.prim (.cmp op) (.cons ia (.cons ib .nil)))) := by
  refine PT.imp (pt_cmpR (op_cmpD C.K (by have := C.hu; omega) op) ha hb (mark_ok ok)) fun σ H Q ⟨φ, ρ, μ, d, μ', k, R, e, et, q⟩ => ?_
  refine rd2 (fun _ _ => rfl) ⟨φ, ρ, μ, d, μ', R, e, fun φ1 v H1 x1 y1 => ?_⟩
  obtain ⟨x, m1, y, m2, z, _, _, e3, e4⟩ := ev2 e
  cases e4
  have hz : ∃ b, d = .bl b := cmpD_bl e3
  obtain ⟨b, rfl⟩ := hz
  cases y1
  cases et
  exact ⟨_, rfl, q φ1 H1 x1⟩
theorem sd_not (C : CxOk ε T Γ S X) {a : Expr} {ia : IE} {pos : Pos} (ha : PE X a (rdE ε Γ ia)) : PE X (.UnaryOp .Not a pos) (rdE ε Γ (.nott ia)) := by
  refine PE.imp (pe_notT ha) fun σ H Q ⟨φ, ρ, μ, d, μ', R, e, q⟩ => ?_
  simp only [evE, Option.bind_eq_some_iff, Option.map_eq_some_iff] at e
  obtain ⟨⟨x, μ1⟩, e1, k, e2, e3⟩ := e
  cases e3
  refine ⟨φ, ρ, μ, x, _, R, e1, fun φ1 v H1 x1 y1 => ⟨k, ?_, q φ1 _ H1 x1 (.bl _)⟩⟩
  rw [← C.K]
  exact tru_ok (ArgOk.view x1.sto (.inl y1)) e2
theorem st_not {a : Expr} {ia : IE} {pos : Pos} (ha : PT X a (rdT ε Γ ia)) : PT X (.UnaryOp .Not a pos) (rdT ε Γ (.nott ia)) := by
  refine PT.imp (pt_not ha) fun σ H Q ⟨φ, ρ, μ, d, μ', k, R, e, et, q⟩ => ?_
  simp only [evE, Option.bind_eq_some_iff, Option.map_eq_some_iff] at e
  obtain ⟨⟨x, μ1⟩, e1, k1, e2, e3⟩ := e
  cases e3
  cases et
  exact ⟨φ, ρ, μ, x, _, k1, R, e1, e2, fun φ1 H1 x1 => q φ1 H1 x1⟩
theorem sd_and (C : CxOk ε T Γ S X) {a b : Expr} {rest : List Expr} {ia ib : IE} {pos : Pos} (ha : PE X a (rdE ε Γ ia)) (hb : PE X (.BoolOp .And (b :: rest) pos) (rdE ε Γ ib)) : PE X (.BoolOp .And (a :: b :: rest) pos) (rdE ε Γ (.andd ia ib)) := by
  refine PE.imp (pe_andT ha hb) fun σ H Q ⟨φ, ρ, μ, d, μ', R, e, q⟩ => ?_
  simp only [evE, Option.bind_eq_some_iff] at e
  obtain ⟨⟨x, μ1⟩, e1, k, e2, e3⟩ := e
  refine ⟨φ, ρ, μ, x, _, R, e1, fun φ1 v H1 x1 y1 => ⟨k, ?_, ?_⟩⟩
  · rw [← C.K]; exact tru_ok (ArgOk.view x1.sto (.inl y1)) e2
  · cases k with
    | true => exact ⟨φ1, ρ, μ1, d, μ', R.step x1, by simpa using e3, fun φ2 w H2 x2 y2 => q φ2 w H2 (x1.trans x2) y2⟩
    | false =>
      simp at e3
      obtain ⟨rfl, rfl⟩ := e3
      exact q φ1 v H1 x1 y1
theorem sd_or (C : CxOk ε T Γ S X) {a b : Expr} {rest : List Expr} {ia ib : IE} {pos : Pos} (ha : PE X a (rdE ε Γ ia)) (hb : PE X (.BoolOp .Or (b :: rest) pos) (rdE ε Γ ib)) : PE X (.BoolOp .Or (a :: b :: rest) pos) (rdE ε Γ (.orr ia ib)) := by
  refine PE.imp (pe_orT ha hb) fun σ H Q ⟨φ, ρ, μ, d, μ', R, e, q⟩ => ?_
  simp only [evE, Option.bind_eq_some_iff] at e
  obtain ⟨⟨x, μ1⟩, e1, k, e2, e3⟩ := e
  refine ⟨φ, ρ, μ, x, _, R, e1, fun φ1 v H1 x1 y1 => ⟨k, ?_, ?_⟩⟩
  · rw [← C.K]; exact tru_ok (ArgOk.view x1.sto (.inl y1)) e2
  · cases k with
    | false => exact ⟨φ1, ρ, μ1, d, μ', R.step x1, by simpa using e3, fun φ2 w H2 x2 y2 => q φ2 w H2 (x1.trans x2) y2⟩
    | true =>
      simp at e3
      obtain ⟨rfl, rfl⟩ := e3
      exact q φ1 v H1 x1 y1
theorem sw_and {a b : Expr} {rest : List Expr} {ia ib : IE} {pos : Pos} (ha : PT X a (rdT ε Γ ia)) (hb : PW X (.BoolOp .And (b :: rest) pos) (rdT ε Γ ib)) : PW X (.BoolOp .And (a :: b :: rest) pos) (rdT ε Γ (.andd ia ib)) := by
  refine PW.imp (pw_and ha hb) fun σ H Q ⟨φ, ρ, μ, d, μ', k, R, e, et, q⟩ => ?_
  simp only [evE, Option.bind_eq_some_iff] at e
  obtain ⟨⟨x, μ1⟩, e1, k1, e2, e3⟩ := e
  refine ⟨φ, ρ, μ, x, μ1, k1, R, e1, e2, fun φ1 H1 x1 => ?_⟩
  cases k1 with
  | true => exact ⟨φ1, ρ, μ1, d, μ', k, R.step x1, by simpa using e3, et, fun φ2 H2 x2 => q φ2 H2 (x1.trans x2)⟩
  | false =>
    simp at e3
    obtain ⟨rfl, rfl⟩ := e3
    rw [e2] at et; cases et
    exact q φ1 H1 x1
theorem sw_or {a b : Expr} {rest : List Expr} {ia ib : IE} {pos : Pos} (ha : PT X a (rdT ε Γ ia)) (hb : PW X (.BoolOp .Or (b :: rest) pos) (rdT ε Γ ib)) : PW X (.BoolOp .Or (a :: b :: rest) pos) (rdT ε Γ (.orr ia ib)) := by
  refine PW.imp (pw_or ha hb) fun σ H Q ⟨φ, ρ, μ, d, μ', k, R, e, et, q⟩ => ?_
  simp only [evE, Option.bind_eq_some_iff] at e
  obtain ⟨⟨x, μ1⟩, e1, k1, e2, e3⟩ := e
  refine ⟨φ, ρ, μ, x, μ1, k1, R, e1, e2, fun φ1 H1 x1 => ?_⟩
  cases k1 with
  | false => exact ⟨φ1, ρ, μ1, d, μ', k, R.step x1, by simpa using e3, et, fun φ2 H2 x2 => q φ2 H2 (x1.trans x2)⟩
  | true =>
    simp at e3
    obtain ⟨rfl, rfl⟩ := e3
    rw [e2] at et; cases et
    exact q φ1 H1 x1
theorem ev_cond {c a b : IE} {ρ : Slots} {μ : Store} {r : D × Store} (h : evE Γ (.cond c a b) ρ μ = some r) : ∃ x μ1 k, evE Γ c ρ μ = some (x, μ1) ∧ truD (viewD μ1 x) = some k ∧ (if k = true then evE Γ a ρ μ1 = some r else evE Γ b ρ μ1 = some r) := by
  simp only [evE, Option.bind_eq_some_iff] at h
  obtain ⟨⟨x, μ1⟩, e1, k, e2, e3⟩ := h
  exact ⟨x, μ1, k, e1, e2, by cases k <;> simpa using e3⟩
theorem sd_cond {c a b : Expr} {ic ia ib : IE} {pos : Pos} (hc : PT X c (rdT ε Γ ic)) (ha : PE X a (rdE ε Γ ia)) (hb : PE X b (rdE ε Γ ib)) : PE X (.IfExp c a b pos) (rdE ε Γ (.cond ic ia ib)) := by
  refine PE.imp (pe_ifExp hc ha hb) fun σ H Q ⟨φ, ρ, μ, d, μ', R, e, q⟩ => ?_
  obtain ⟨x, μ1, k, e1, e2, e3⟩ := ev_cond e
  refine ⟨φ, ρ, μ, x, μ1, k, R, e1, e2, fun φ1 H1 x1 => ?_⟩
  cases k with
  | true => exact ⟨φ1, ρ, μ1, d, μ', R.step x1, by simpa using e3, fun φ2 w H2 x2 y2 => q φ2 w H2 (x1.trans x2) y2⟩
  | false => exact ⟨φ1, ρ, μ1, d, μ', R.step x1, by simpa using e3, fun φ2 w H2 x2 y2 => q φ2 w H2 (x1.trans x2) y2⟩
def tIfT (c t u : TT) : TT := fun σ H Q => c σ H fun k H1 => if k = true then t σ H1 Q else u σ H1 Q
theorem pt_ifExp {c a b : Expr} {tc ta tb : TT} {pos : Pos} (hc : PT X c tc) (ha : PT X a ta) (hb : PT X b tb) : PT X (.IfExp c a b pos) (tIfT tc ta tb) := by
  refine ⟨fun pins s σ H Q I h => ?_⟩
  refine isTrue_IfExp (thn (hc.run pins s σ H _ I h) fun k s1 ⟨H1, I1, q1⟩ => ?_)
  cases k with
  | true => exact ha.run pins s1 σ H1 Q I1 q1
  | false => exact hb.run pins s1 σ H1 Q I1 q1
theorem st_cond {c a b : Expr} {ic ia ib : IE} {pos : Pos} (hc : PT X c (rdT ε Γ ic)) (ha : PT X a (rdT ε Γ ia)) (hb : PT X b (rdT ε Γ ib)) : PT X (.IfExp c a b pos) (rdT ε Γ (.cond ic ia ib)) := by
  refine PT.imp (pt_ifExp hc ha hb) fun σ H Q ⟨φ, ρ, μ, d, μ', kk, R, e, et, q⟩ => ?_
  obtain ⟨x, μ1, k, e1, e2, e3⟩ := ev_cond e
  refine ⟨φ, ρ, μ, x, μ1, k, R, e1, e2, fun φ1 H1 x1 => ?_⟩
  cases k with
  | true => exact ⟨φ1, ρ, μ1, d, μ', kk, R.step x1, by simpa using e3, et, fun φ2 H2 x2 => q φ2 H2 (x1.trans x2)⟩
  | false => exact ⟨φ1, ρ, μ1, d, μ', kk, R.step x1, by simpa using e3, et, fun φ2 H2 x2 => q φ2 H2 (x1.trans x2)⟩
/-- two comparisons in a chain -/
theorem rd_chain {o1 o2 : CmpOp} {a b c : IE} {σ : L2.St} {H : Hp} {Q : VK} (h : rdE ε Γ (.cmp2 o1 o2 a b c) σ H Q) : tChain (rP2 ε (cmpD o1)) (rP2 ε (cmpD o2)) (rdO ε Γ a) (rdO ε Γ b) (rdO ε Γ c) σ H Q := by
  obtain ⟨φ, ρ, μ, d, μ', R, e, q⟩ := h
  simp only [evE, Option.bind_eq_some_iff] at e
  obtain ⟨⟨x, μ1⟩, e1, ⟨y, μ2⟩, e2, k, e3, e4⟩ := e
  refine ⟨φ, ρ, μ, x, μ1, R, e1, fun φ1 v1 H1 x1 y1 => ⟨φ1, ρ, μ1, y, μ2, R.step x1, e2, fun φ2 v2 H2 x2 y2 => ?_⟩⟩
  refine ⟨φ2, _, _, k, (y1.step x2.ext).view x2.sto, y2.view x2.sto, e3, fun v H3 g3 y3 => ?_⟩
  have x3 : Res ε φ2 H2 φ2 μ2 H3 := .ex x2.sto g3
  split at e4
  · cases y3
    refine ⟨true, rfl, ?_⟩
    simp only [if_true]
    simp only [Option.bind_eq_some_iff, Option.map_eq_some_iff] at e4
    obtain ⟨⟨z, μ3⟩, e5, d', e6, e7⟩ := e4
    cases e7
    refine ⟨φ2, ρ, μ2, z, _, (R.step (x1.trans x2)).step x3, e5, fun φ4 v4 H4 x4 y4 => ?_⟩
    exact ⟨φ4, _, _, _, ((y2.step x3.ext).step x4.ext).view x4.sto, y4.view x4.sto, e6, fin_ex (ρ := ρ) (((x1.trans x2).trans x3).trans x4) q⟩
  · cases y3
    cases e4
    refine ⟨false, rfl, ?_⟩
    simp only [Bool.false_eq_true, if_false]
    exact q φ2 _ H3 ((x1.trans x2).trans x3) (.bl _)
  · cases e4
theorem mark2 {o1 o2 : CmpOp} {b c : Expr} (h2 : okE c = true) : lastMarks [o1, o2] [b, c] = false := by
  show behindInMarks o2 c = false
  exact mark_ok h2
theorem sd_chain (C : CxOk ε T Γ S X) {o1 o2 : CmpOp} {a b c : Expr} {ia ib ic : IE} {pos : Pos} (ok : okE c = true) (ha : PE X a (rdO ε Γ ia)) (hb : PE X b (rdO ε Γ ib)) (hc : PE X c (rdO ε Γ ic)) :
    PE X (.Compare a [o1, o2] [b, c] pos) (rdE ε Γ (.cmp2 o1 o2 ia ib ic)) :=
  PE.imp (pe_chain (op_cmpD C.K (by have := C.hu; omega) o1) (op_cmpD C.K (by have := C.hu; omega) o2) ha hb hc (mark2 ok)) fun σ H Q h => rd_chain h
theorem st_chain (C : CxOk ε T Γ S X) {o1 o2 : CmpOp} {a b c : Expr} {ia ib ic : IE} {pos : Pos} (ok : okE c = true) (ha : PE X a (rdO ε Γ ia)) (hb : PE X b (rdO ε Γ ib)) (hc : PE X c (rdO ε Γ ic)) :
    PT X (.Compare a [o1, o2] [b, c] pos) (rdT ε Γ (.cmp2 o1 o2 ia ib ic)) := by
  refine PT.imp (pt_chain (op_cmpD C.K (by have := C.hu; omega) o1) (op_cmpD C.K (by have := C.hu; omega) o2) ha hb hc (mark2 ok)) fun σ H Q ⟨φ, ρ, μ, d, μ', k, R, e, et, q⟩ => ?_
  refine rd_chain ⟨φ, ρ, μ, d, μ', R, e, fun φ1 v H1 x1 y1 => ?_⟩
  have hz : ∃ b, d = .bl b := by
    simp only [evE, Option.bind_eq_some_iff] at e
    obtain ⟨_, _, _, _, k, _, e⟩ := e
    split at e
    · simp only [Option.bind_eq_some_iff, Option.map_eq_some_iff] at e
      obtain ⟨_, _, d', e6, e7⟩ := e
      cases e7
      exact cmpD_bl e6
    · cases e; exact ⟨_, rfl⟩
    · cases e
  obtain ⟨b, rfl⟩ := hz
  cases y1
  cases et
  exact ⟨_, rfl, q φ1 H1 x1⟩

/-! ### tuples, new lists -/
theorem sd_tup {es : List Expr} {ies : IEs} {j : Nat} {pos : Pos} (h : PA X es (rdA ε Γ ies)) : PE X (.Tuple es j pos) (rdE ε Γ (.tup ies)) := by
  refine PE.imp (pe_tup h) fun σ H Q ⟨φ, ρ, μ, d, μ', R, e, q⟩ => ?_
  simp only [evE, Option.bind_eq_some_iff] at e
  obtain ⟨⟨ds, μ1⟩, e1, e2⟩ := e
  split at e2
  · rename_i hz
    cases e2
    refine ⟨φ, ρ, μ, ds, _, R, e1, fun φ1 vs H1 x1 y1 => ⟨by rw [y1.length]; exact hz, fun p hp => ?_⟩⟩
    have g : Ex H1 (upd H1 p (.tup vs)) := Ex.new hp
    exact q φ1 _ _ (x1.trans (.ex x1.sto g)) (.tup (SqT.of upd_same) (y1.grow g.grow))
  · cases e2
/-- a new list, alone as yet -/
structure NewL (ε : Ev) (φ : List Addr) (H : Hp) (φ' : List Addr) (μ' : Store) (H' : Hp) (p : Addr) (ds : List D) : Prop where
  res : Res ε φ H φ' μ' H'
  free : H p = none
  out : p ∉ φ'
  it : ∃ vs, H' p = some (.lst vs) ∧ EncL ε φ' H' vs ds
def rdF (ε : Ev) (Γ : Env2) (f : FE) : TE := fun σ H Q => ∃ φ ρ μ ds μ', Rel ε φ ρ μ σ H ∧ evF Γ f ρ μ = some (ds, μ') ∧ ∀ φ' H' p, NewL ε φ H φ' μ' H' p ds → Q (.ref p) H'
theorem NewL.mk' {φ φ1 : List Addr} {H H1 : Hp} {μ1 : Store} {p : Addr} {vs : List V} {ds : List D} (x : Res ε φ H φ1 μ1 H1) (hp : H1 p = none) (y : EncL ε φ1 H1 vs ds) : NewL ε φ H φ1 μ1 (upd H1 p (.lst vs)) p ds := by
  have g : Ex H1 (upd H1 p (.lst vs)) := Ex.new hp
  refine ⟨x.trans (.ex x.sto g), ?_, fun z => ?_, vs, upd_same, y.grow g.grow⟩
  · cases e : H p with
    | none => rfl
    | some o => exact absurd hp (x.ext.there p (by rw [e]; simp))
  · obtain ⟨o, e⟩ := x.sto.there z
    rw [hp] at e; cases e
theorem NewL.frz {φ φ' : List Addr} {H H' : Hp} {μ' : Store} {p : Addr} {ds : List D} (n : NewL ε φ H φ' μ' H' p ds) : ∃ ys, H' p = some (.lst ys) ∧ ∀ o, Res ε φ H φ' μ' (upd H' p (.frz o (.lst ys))) ∧ Enc ε φ' (upd H' p (.frz o (.lst ys))) (.ref p) (.lst ds) := by
  obtain ⟨vs, h1, h2⟩ := n.it
  refine ⟨vs, h1, fun o => ?_⟩
  have ne : ∀ b u, H b = some u → b ≠ p := fun b u e z => by rw [z, n.free] at e; cases e
  have g : Grow H' (upd H' p (.frz o (.lst vs))) := ⟨fun b xs e => by rw [upd_ne (fun z => by rw [z, h1] at e; cases e)]; exact e, fun b q u e => by rw [upd_ne (fun z => by rw [z, h1] at e; cases e)]; exact e⟩
  obtain ⟨⟨⟨p2, e2, f2⟩, gr, kp, th⟩, S⟩ := n.res
  refine ⟨⟨⟨⟨p2, e2, f2⟩, gr.trans g, fun b u e nb => ?_, fun b e z => ?_⟩, ⟨S.len, S.nd, fun m a c e1 e2 => ?_⟩⟩, .lst (.inl ⟨o, upd_same⟩) (h2.grow g)⟩
  · rw [upd_ne (ne b u e)]; exact kp b u e nb
  · by_cases hb : b = p
    · rw [hb, upd_same] at z; cases z
    · rw [upd_ne hb] at z; exact th b e z
  · have q := (S.at_ m a c e1 e2).mono [] g fun u e => by rw [upd_ne (fun z => n.out (by rw [← z]; exact List.mem_of_getElem? e1))]; exact e
    rwa [List.append_nil] at q
theorem NewL.cell {φ φ' : List Addr} {H H' : Hp} {μ' : Store} {p : Addr} {ds : List D} (n : NewL ε φ H φ' μ' H' p ds) : Res ε φ H (φ' ++ [p]) (μ' ++ [.lst ds]) H' ∧ Enc ε (φ' ++ [p]) H' (.ref p) (.ref μ'.length) := by
  obtain ⟨vs, h1, h2⟩ := n.it
  obtain ⟨⟨⟨p2, e2, f2⟩, gr, kp, th⟩, S⟩ := n.res
  refine ⟨⟨⟨⟨p2 ++ [p], by rw [e2, List.append_assoc], fun b hb => ?_⟩, gr, kp, th⟩, ⟨by simp [S.len], ?_, fun m a c q1 q2 => ?_⟩⟩, .ref ?_⟩
  · rcases List.mem_append.mp hb with hb | hb
    · exact f2 b hb
    · rw [List.mem_singleton.mp hb]; exact n.free
  · exact List.nodup_append.mpr ⟨S.nd, by simp, fun a ha b hb => by rw [List.mem_singleton.mp hb]; exact fun z => n.out (z ▸ ha)⟩
  · by_cases hm : m < φ'.length
    · rw [List.getElem?_append_left hm] at q1
      rw [List.getElem?_append_left (by rw [← S.len]; exact hm)] at q2
      exact (S.at_ m a c q1 q2).mono [p] .refl fun _ e => e
    · rw [List.getElem?_append_right (by omega)] at q1
      rw [List.getElem?_append_right (by rw [← S.len]; omega), ← S.len] at q2
      have h0 : m - φ'.length = 0 := by
        have := (List.getElem?_eq_some_iff.mp q1).1
        simp at this; omega
      rw [h0] at q1 q2
      simp at q1 q2
      subst q1; subst q2
      exact .lst h1 (h2.mono [p] .refl)
  · rw [← S.len]; simp
theorem sd_frz {e : Expr} {f : FE} (h : PE X e (rdF ε Γ f)) : PE X e (rdE ε Γ (.frz f)) := by
  refine ⟨fun pins s σ H Q I ⟨φ, ρ, μ, d, μ', R, e, q⟩ => ?_⟩
  simp only [evE, Option.map_eq_some_iff] at e
  obtain ⟨⟨ds, μ1⟩, e1, e2⟩ := e
  cases e2
  refine thn (h.run pins s σ H (fun v H' => ∃ p ys, v = .ref p ∧ H' p = some (.lst ys) ∧ ∀ o, Q v (upd H' p (.frz o (.lst ys)))) I ⟨φ, ρ, μ, ds, _, R, e1, fun φ1 H1 p n => ?_⟩) fun _ _ z => EP.frz z
  obtain ⟨ys, h1, h2⟩ := n.frz
  exact ⟨p, ys, rfl, h1, fun o => q φ1 _ _ (h2 o).1 (h2 o).2⟩
theorem sd_cell {e : Expr} {f : FE} (h : PE X e (rdF ε Γ f)) : PE X e (rdE ε Γ (.cell f)) := by
  refine PE.imp h fun σ H Q ⟨φ, ρ, μ, d, μ', R, e, q⟩ => ?_
  simp only [evE, Option.map_eq_some_iff] at e
  obtain ⟨⟨ds, μ1⟩, e1, e2⟩ := e
  cases e2
  exact ⟨φ, ρ, μ, ds, _, R, e1, fun φ1 H1 p n => q _ _ _ n.cell.1 n.cell.2⟩
theorem sf_disp {es : List Expr} {ies : IEs} {pos : Pos} (h : PA X es (rdA ε Γ ies)) : PE X (.List es pos) (rdF ε Γ (.disp ies)) := by
  refine PE.imp (pe_lst h) fun σ H Q ⟨φ, ρ, μ, ds, μ', R, e, q⟩ => ?_
  simp only [evF, Option.bind_eq_some_iff] at e
  obtain ⟨⟨es', μ1⟩, e1, e2⟩ := e
  split at e2
  · rename_i hz
    cases e2
    exact ⟨φ, ρ, μ, ds, _, R, e1, fun φ1 vs H1 x1 y1 => ⟨by rw [y1.length]; exact hz, fun p hp => q φ1 _ p (.mk' x1 hp y1)⟩⟩
  · cases e2
theorem sf_list (C : CxOk ε T Γ S X) {a : Expr} {ia : IE} {xp pos : Pos} (hg : glB S.sc "list" = true) (ht : T.look "list" = .no) (ha : PE X a (rdO ε Γ ia)) (ok : okE a = true) : PE X (.Call (.Name "list" xp) [a] [] pos) (rdF ε Γ (.list ia)) := by
  have g := C.gl "list"
  rw [ht] at g
  refine PE.imp (pe_callTy call_list_of (glB_ok C hg) g (by decide +kernel) (pa_cons ha pa_nil (star_cons ok)) (by decide +kernel) (by decide +kernel) (star_cons ok) rfl) fun σ H Q ⟨φ, ρ, μ, ds, μ', R, e, q⟩ => ?_
  simp only [evF, Option.bind_eq_some_iff] at e
  obtain ⟨⟨x, μ1⟩, e1, e2⟩ := e
  refine ⟨φ, ρ, μ, x, μ1, R, e1, fun φ1 v H1 x1 y1 => ?_⟩
  have w := y1.view x1.sto
  split at e2
  · rename_i es ev
    cases e2
    rw [ev] at w
    obtain ⟨a, vs, rfl, h1, h2⟩ := w.tup
    exact ⟨a, vs, rfl, .inr (by rw [← C.K]; exact h1), fun l hl => q φ1 _ l (.mk' x1 hl h2)⟩
  · rename_i es ev
    cases e2
    rw [ev] at w
    obtain ⟨a, vs, rfl, h1, h2⟩ := w.lst
    exact ⟨a, vs, rfl, .inl (C.K ▸ h1.sq), fun l hl => q φ1 _ l (.mk' x1 hl h2)⟩
  · cases e2
theorem sf_sorted (C : CxOk ε T Γ S X) {a : Expr} {ia : IE} {xp pos : Pos} (hg : glB S.sc "sorted" = true) (ht : T.look "sorted" = .no) (ha : PE X a (rdO ε Γ ia)) (ok : okE a = true) : PE X (.Call (.Name "sorted" xp) [a] [] pos) (rdF ε Γ (.sorted ia)) := by
  have g := C.gl "sorted"
  rw [ht] at g
  have hu := C.hu
  refine PE.imp (pe_callB (cr_sortedD C.K (by omega)) (glB_ok C hg) g (by decide +kernel) (pa_cons ha pa_nil (star_cons ok)) (by decide +kernel) (by decide +kernel) (star_cons ok) rfl) fun σ H Q ⟨φ, ρ, μ, ds, μ', R, e, q⟩ => ?_
  simp only [evF, Option.bind_eq_some_iff] at e
  obtain ⟨⟨x, μ1⟩, e1, e2⟩ := e
  refine ⟨φ, ρ, μ, x, μ1, R, e1, fun φ1 v H1 x1 y1 => ?_⟩
  have w := y1.view x1.sto
  split at e2
  · rename_i es ev
    obtain ⟨out, e3, e4⟩ := Option.map_eq_some_iff.mp e2
    cases e4
    rw [ev] at w
    obtain ⟨a, vs, rfl, h1, h2⟩ := w.lst
    exact ⟨φ1, a, vs, es, ds, rfl, h1, h2, e3, fun p ys hp hy => q φ1 _ p (.mk' x1 hp hy)⟩
  · cases e2
theorem sf_cat (C : CxOk ε T Γ S X) {a b : Expr} {ia ib : IE} {pos : Pos} (ha : PE X a (rdO ε Γ ia)) (hb : PE X b (rdO ε Γ ib)) : PE X (.BinOp a .Add b pos) (rdF ε Γ (.cat ia ib)) := by
  refine PE.imp (pe_op op_catL ha hb) fun σ H Q ⟨φ, ρ, μ, ds, μ', R, e, q⟩ => ?_
  simp only [evF, Option.bind_eq_some_iff] at e
  obtain ⟨⟨x, μ1⟩, e1, ⟨y, μ2⟩, e2, e3⟩ := e
  refine ⟨φ, ρ, μ, x, μ1, R, e1, fun φ1 v1 H1 x1 y1 => ⟨φ1, ρ, μ1, y, μ2, R.step x1, e2, fun φ2 v2 H2 x2 y2 => ?_⟩⟩
  have w1 := (y1.step x2.ext).view x2.sto
  have w2 := y2.view x2.sto
  split at e3
  · rename_i xs ys ev1 ev2
    split at e3
    · rename_i hz
      cases e3
      rw [ev1] at w1
      rw [ev2] at w2
      obtain ⟨a, vs, rfl, h1, h2⟩ := w1.lst
      obtain ⟨b, ws, rfl, k1, k2⟩ := w2.lst
      have l1 := h2.length
      have l2 := k2.length
      exact ⟨a, b, vs, ws, rfl, rfl, C.K ▸ h1, C.K ▸ k1, by omega, fun p hp => q φ2 _ p (.mk' (x1.trans x2) hp (h2.app k2))⟩
    · cases e3
  · cases e3
theorem sd_celld {pos : Pos} : PE X (.Dict [] [] pos) (rdE ε Γ .celld) := by
  refine PE.imp pe_dnewK fun σ H Q ⟨φ, ρ, μ, d, μ', R, e, q⟩ => ?_
  simp only [evE, Option.some.injEq, Prod.mk.injEq] at e
  obtain ⟨rfl, rfl⟩ := e
  intro p hp
  refine q _ _ _ (Res.new R.sto hp (.dic upd_same .nil)) (.ref ?_)
  rw [← R.sto.len]; simp

/-! ### slices -/
def rdP (ε : Ev) (Γ : Env2) (o : IO) : TO := fun σ H Q => ∃ φ ρ μ d μ', Rel ε φ ρ μ σ H ∧ evO Γ o ρ μ = some (d, μ') ∧ ∀ φ' H', Res ε φ H φ' μ' H' → Q d H'
theorem PO.imp {e : Option Expr} {t t' : TO} (h : PO X e t) (k : ∀ σ H Q, t' σ H Q → t σ H Q) : PO X e t' := ⟨fun pins s σ H Q I q => h.run pins s σ H Q I (k σ H Q q)⟩
theorem so_no : PO X none (rdP ε Γ .no) := PO.imp po_none fun σ H Q ⟨φ, ρ, μ, d, μ', R, e, q⟩ => by cases e; exact q φ H (.refl R.sto)
theorem so_som {e : Expr} {ie : IE} (h : PE X e (rdE ε Γ ie)) : PO X (some e) (rdP ε Γ (.som ie)) := PO.imp (po_some h) fun σ H Q ⟨φ, ρ, μ, d, μ', R, e, q⟩ => by
  simp only [evO, Option.bind_eq_some_iff] at e
  obtain ⟨⟨x, μ1⟩, e1, e2⟩ := e
  split at e2
  · rename_i i ei
    cases e2
    subst ei
    exact ⟨φ, ρ, μ, .int i, _, R, e1, fun φ1 v H1 x1 y1 => by cases y1; exact ⟨i, rfl, q φ1 H1 x1⟩⟩
  · cases e2
def rSlD (ε : Ev) : V → Option Int → Option Int → Hp → VK → Prop := fun x lo hi H Q =>
  (∃ z, x = .str z ∧ z.length ≤ sizeLine ∧ Q (.str (cutS z lo hi)) H) ∨ rSlA ε.K x lo hi H Q ∨ rSlL ε.K x lo hi H (fun v H' => ∃ p ys, v = .ref p ∧ H' p = some (.lst ys) ∧ ∀ o, Q v (upd H' p (.frz o (.lst ys))))
theorem SlR.frz {r : V → Option Int → Option Int → Hp → VK → Prop} (h : SlR X r) : SlR X (fun x lo hi H Q => r x lo hi H (fun v H' => ∃ p ys, v = .ref p ∧ H' p = some (.lst ys) ∧ ∀ o, Q v (upd H' p (.frz o (.lst ys))))) :=
  fun pins s σ H x v vl vu lo hi sl Q I rx hs pl pu q => by
    obtain ⟨T, id, h1, h2, h3⟩ := h pins s σ H x v vl vu lo hi sl _ I rx hs pl pu q
    exact ⟨T, id, h1, h2, thn h3 fun _ _ e => EP.frz e⟩
theorem sl_D (hK : ε.K = X.K) : SlR X (rSlD ε) := by
  have h := (sl_str (X := X)).or (sl_tupA.or (SlR.frz sl_list))
  unfold rSlD
  rw [hK]
  exact h
theorem EncL.cut {φ : List Addr} {H : Hp} {vs : List V} {ds : List D} (h : EncL ε φ H vs ds) (a b : Nat) : EncL ε φ H ((vs.drop a).take b) ((ds.drop a).take b) := (h.drop a).take b
theorem sd_slice (C : CxOk ε T Γ S X) {e : Expr} {lo hi : Option Expr} {ie : IE} {il ih : IO} {p2 pos : Pos} (he : PE X e (rdO ε Γ ie)) (hl : PO X lo (rdP ε Γ il)) (hh : PO X hi (rdP ε Γ ih)) :
    PE X (.Subscript e (.Slice lo hi none p2) pos) (rdE ε Γ (.slice ie il ih)) := by
  refine PE.imp (pe_slice (sl_D C.K) he hl hh) fun σ H Q ⟨φ, ρ, μ, d, μ', R, e, q⟩ => ?_
  simp only [evE, Option.bind_eq_some_iff] at e
  obtain ⟨⟨x, μ1⟩, e1, ⟨l, μ2⟩, e2, ⟨h, μ3⟩, e3, e4⟩ := e
  refine ⟨φ, ρ, μ, x, μ1, R, e1, fun φ1 v1 H1 x1 y1 => ⟨φ1, ρ, μ1, l, μ2, R.step x1, e2, fun φ2 H2 x2 => ⟨φ2, ρ, μ2, h, μ3, (R.step x1).step x2, e3, fun φ3 H3 x3 => ?_⟩⟩⟩
  have w := ((y1.step x2.ext).step x3.ext).view x3.sto
  have x := (x1.trans x2).trans x3
  split at e4
  · rename_i ds ev
    cases e4
    rw [ev] at w
    obtain ⟨a, vs, rfl, h1, h2⟩ := w.tup
    have l1 := h2.length
    refine .inr (.inl ⟨a, vs, rfl, h1, fun hw => ?_, fun hw p hp => ?_⟩)
    · have eq : (ds.drop (HT.sIx ds.length 0 l)).take (HT.sIx ds.length ds.length h - HT.sIx ds.length 0 l) = ds := by
        rw [l1] at hw
        rw [hw.1, hw.2]; simp
      rw [eq] at q
      exact q φ3 _ H3 x (.tup h1 h2)
    · have g : Ex H3 (upd H3 p (.tup (cutV vs l h))) := Ex.new hp
      have cu : EncL ε φ3 H3 (cutV vs l h) ((ds.drop (HT.sIx ds.length 0 l)).take (HT.sIx ds.length ds.length h - HT.sIx ds.length 0 l)) := by
        unfold cutV
        rw [l1]
        exact h2.cut _ _
      exact q φ3 _ _ (x.trans (.ex x.sto g)) (.tup (SqT.of upd_same) (cu.grow g.grow))
  · rename_i ds ev
    cases e4
    rw [ev] at w
    obtain ⟨a, vs, rfl, h1, h2⟩ := w.lst
    have l1 := h2.length
    refine .inr (.inr ⟨a, vs, rfl, C.K ▸ h1.sq, fun p hp => ⟨p, _, rfl, upd_same, fun o => ?_⟩⟩)
    have g : Ex H3 (upd (upd H3 p (.lst (cutV vs l h))) p (.frz o (.lst (cutV vs l h)))) := frz_new hp
    have cu : EncL ε φ3 H3 (cutV vs l h) ((ds.drop (HT.sIx ds.length 0 l)).take (HT.sIx ds.length ds.length h - HT.sIx ds.length 0 l)) := by
      unfold cutV
      rw [l1]
      exact h2.cut _ _
    exact q φ3 _ _ (x.trans (.ex x.sto g)) (.lst (.inl ⟨o, upd_same⟩) (cu.grow g.grow))
  · rename_i z ev
    split at e4
    · rename_i hz
      cases e4
      rw [ev] at w
      exact .inl ⟨z, w.str, hz, q φ3 _ H3 x (.str _)⟩
    · cases e4
  · cases e4
end
end FH
end
section
/-! FH6: calls, objects, dicts. -/
namespace FH
open PySem PySem.Spec PyProof.Rows L2
section
variable {ε : Ev} {T : Tab} {Γ : Env2} {S : SC} {X : Cx}
/-- a def runs -/
theorem runG {k f : Nat} {fa : Addr} {fd : FuncData} {ps : List Str} {sp : Sp} {pins : List (Addr × Obj)} {σ : L2.St} {H : Hp} {s : Shared} {Q : VK} {us : List Value} {vs : List V} (C : CxOk ε T Γ S X)
    (F : FnG X.prog X.w X.K X.mg X.base k fa fd ps sp) (hr : Room k X.A) (hb : Binds X.K fd ps []) (I : L2.Inv X pins σ H s) (r : Vals vs us) (h : sp vs H Q E0) :
    wpAny (model X.prog X.w) X.A (call (.ref fa) us) (EP X pins σ Q) X.xe s := by
  have hl : us.length = ps.length := by rw [← r.length]; exact F.len _ _ _ _ h
  have hb' := hb s us I.kIn (by simpa using hl)
  rw [List.append_nil] at hb'
  refine wpAny_call (codeAny_mono (F.run X.A X.stack s H ⟨us, []⟩ us vs Q hr C.gd I.env0 hb' r h) fun res s' hq => ?_)
  cases res with
  | error e => exact False.elim hq
  | ok fl => cases fl with
    | ret u => exact I.after hq
    | next => exact False.elim hq
    | brk => exact False.elim hq
    | cont => exact False.elim hq
/-- a def by its plain meaning, called -/
theorem callG (C : CxOk ε T Γ S X) {f : Nat} {pins : List (Addr × Obj)} {σ : L2.St} {H : Hp} {s : Shared} {Q : VK} {us : List Value} {vs : List V} {φ : List Addr} {ds : List D} {μ μ' : Store} {r : D}
    (I : L2.Inv X pins σ H s) (rv : Vals vs us) (hv : EncL ε φ H vs ds) (St : Sto ε φ μ H) (e : Γ.fns f ds μ = some (r, μ')) (q : ∀ φ' v H', Res ε φ H φ' μ' H' → Enc ε φ' H' v r → Q v H') :
    wpAny (model X.prog X.w) X.A (call (.ref (ε.fa f)) us) (EP X pins σ Q) X.xe s := by
  obtain ⟨k, hr, hf⟩ := C.fns
  obtain ⟨fd, ps, F, hb, hk⟩ := hf f ⟨ds, μ, _, e⟩
  exact runG (f := f) C F hr hb I rv ⟨φ, ds, μ, r, μ', hv, St, e, q⟩
theorem kpG (C : CxOk ε T Γ S X) {f : Nat} {ds : List D} {μ : Store} {r : D × Store} (e : Γ.fns f ds μ = some r) : PySem.W.keepIn X.K (.ref (ε.fa f)) = true := by
  obtain ⟨k, hr, hf⟩ := C.fns
  obtain ⟨fd, ps, F, hb, hk⟩ := hf f ⟨ds, μ, _, e⟩
  exact hk
theorem noDebug {x : Str} (hn : nameOk x = true) : (x == ("__debug__" : Str)) = false := by
  simp only [nameOk, Bool.and_eq_true, Bool.not_eq_true'] at hn
  exact hn.1.1
/-- what is wanted of the operands, from what is wanted of the call -/
theorem ev_call {f : Nat} {x : Str} {es : IEs} {ρ : Slots} {μ : Store} {r : D × Store} (h : evE Γ (.call x f es) ρ μ = some r) : ∃ ds μ1, evEs Γ es ρ μ = some (ds, μ1) ∧ Γ.fns f ds μ1 = some r := by
  simp only [evE, Option.bind_eq_some_iff] at h
  obtain ⟨⟨ds, μ1⟩, e1, e2⟩ := h
  exact ⟨ds, μ1, e1, e2⟩
theorem sd_call0 (C : CxOk ε T Γ S X) {x : Str} {f : Nat} {xp pos : Pos} (hg : glB S.sc x = true) (hn : nameOk x = true) (ht : T.look x = .fn f) :
    PE X (.Call (.Name x xp) [] [] pos) (rdE ε Γ (.call x f .nil)) := by
  have g := C.gl x
  rw [ht] at g
  refine ⟨fun pins s σ H Q I ⟨φ, ρ, μ, d, μ', R, e, q⟩ => ?_⟩
  obtain ⟨ds, μ1, e1, e2⟩ := ev_call e
  cases e1
  refine wpAny_Call_Name_kw (ld_glob I (glB_ok C hg) g ?_ (noDebug hn))
  exact PySem.W.callWith_K0 I.kIn (kpG C e2) (callG C I .nil .nil R.sto e2 q)
theorem sd_call (C : CxOk ε T Γ S X) {x : Str} {f : Nat} {e : Expr} {es : List Expr} {ies : IEs} {xp pos : Pos} (hg : glB S.sc x = true) (hn : nameOk x = true) (ht : T.look x = .fn f) (ha : PA X (e :: es) (rdA ε Γ ies)) (ok : (e :: es).all okE = true) :
    PE X (.Call (.Name x xp) (e :: es) [] pos) (rdE ε Γ (.call x f ies)) := by
  have g := C.gl x
  rw [ht] at g
  simp only [List.all_cons, Bool.and_eq_true] at ok
  refine ⟨fun pins s σ H Q I ⟨φ, ρ, μ, d, μ', R, e, q⟩ => ?_⟩
  obtain ⟨ds, μ1, e1, e2⟩ := ev_call e
  refine wpAny_Call_Name_kw (ld_glob I (glB_ok C hg) g ?_ (noDebug hn))
  refine PySem.W.callWith_K (h₀ := X.base) I.ok.mod.kin (kpG C e2) (thn (ha.run pos pins s σ H (fun vs H1 => ∃ φ1, Res ε φ H φ1 μ1 H1 ∧ EncL ε φ1 H1 vs ds) I ⟨φ, ρ, μ, ds, μ1, R, e1, fun φ1 vs H1 x1 y1 => ⟨φ1, x1, y1⟩⟩) fun us s1 ⟨vs, H1, I1, r, φ1, x1, y1⟩ => ⟨I1.kIn, ?_⟩) (star_cons ok.1) (star_plain ok.2)
  exact callG C I1 r y1 x1.sto e2 fun φ2 v H2 x2 y2 => q φ2 v H2 (x1.trans x2) y2
/-- a local name that holds a def, called -/
theorem sd_callv (C : CxOk ε T Γ S X) {i : Nat} {x : Str} {e : Expr} {es : List Expr} {ies : IEs} {xp pos : Pos} (h : S.N[i]? = some x) (hv : visB S.sc x = true) (hn : nameOk x = true) (ha : PA X (e :: es) (rdA ε Γ ies)) (ok : (e :: es).all okE = true) :
    PE X (.Call (.Name x xp) (e :: es) [] pos) (rdE ε Γ (.callv i ies)) := by
  simp only [List.all_cons, Bool.and_eq_true] at ok
  refine ⟨fun pins s σ H Q I ⟨φ, ρ, μ, d, μ', R, e, q⟩ => ?_⟩
  simp only [evE, Option.bind_eq_some_iff] at e
  obtain ⟨c, e0, e⟩ := e
  split at e
  · rename_i f
    simp only [Option.bind_eq_some_iff] at e
    obtain ⟨⟨ds, μ1⟩, e1, e2⟩ := e
    refine wpAny_Call_Name_kw (thn ((sd_var (Γ := Γ) C (pos := xp) h hv hn).run pins s σ H (fun v H' => ∃ φ', Res ε φ H φ' μ H' ∧ Enc ε φ' H' v (.fn f)) I ⟨φ, ρ, μ, .fn f, μ, R, by simp [evE, e0], fun φ1 v H1 x1 y1 => ⟨φ1, x1, y1⟩⟩) fun u s1 ⟨v, H1, I1, r1, φ1, x1, y1⟩ => ?_)
    cases y1
    cases r1
    refine PySem.W.callWith_K (h₀ := X.base) I.ok.mod.kin (kpG C e2) (thn (ha.run pos pins s1 σ H1 (fun vs H2 => ∃ φ2, Res ε φ H φ2 μ1 H2 ∧ EncL ε φ2 H2 vs ds) I1 ⟨φ1, ρ, μ, ds, μ1, R.step x1, e1, fun φ2 vs H2 x2 y2 => ⟨φ2, x1.trans x2, y2⟩⟩) fun us s2 ⟨vs, H2, I2, r, φ2, x2, y2⟩ => ⟨I2.kIn, ?_⟩) (star_cons ok.1) (star_plain ok.2)
    exact callG C I2 r y2 x2.sto e2 fun φ3 v H3 x3 y3 => q φ3 v H3 (x2.trans x3) y3
  · cases e

/-! ### objects -/
/-- what a field is read of here -/
def objB : Expr → Bool
  | .Name .. => true | .Attribute .. => true | .Subscript .. => true | .Constant .. => true | .JoinedStr .. => true | _ => false
theorem base_ok {o : Expr} {f : Str} {env : Env} (h : objB o = true) : attributeBase o f env (eval o env) = eval o env := by
  cases o <;> first | rfl | (simp [objB] at h)
theorem EncK.look {φ : List Addr} {H : Hp} {f : Str} {d : D} : ∀ {fs : List (Str × V)} {ds : List (Str × D)}, EncK ε φ H fs ds → ds.lookup f = some d → ∃ v, fs.lookup f = some v ∧ Enc ε φ H v d
  | _, _, .nil, e => by simp at e
  | (g, v) :: fs, (_, c) :: ds, .cons ⟨rfl, h⟩ t, e => by
    simp only [List.lookup_cons] at e ⊢
    cases hg : f == g with
    | true => simp only [hg] at e ⊢; cases e; exact ⟨v, rfl, h⟩
    | false => simp only [hg] at e ⊢; exact EncK.look t e
theorem EncK.no {φ : List Addr} {H : Hp} {f : Str} : ∀ {fs : List (Str × V)} {ds : List (Str × D)}, EncK ε φ H fs ds → ds.lookup f = none → fs.lookup f = none
  | _, _, .nil, e => by simp
  | (g, v) :: fs, (_, c) :: ds, .cons ⟨rfl, h⟩ t, e => by
    simp only [List.lookup_cons] at e ⊢
    cases hg : f == g with
    | true => simp only [hg] at e; cases e
    | false => simp only [hg] at e ⊢; exact EncK.no t e
theorem EncK.put {φ : List Addr} {H : Hp} {f : Str} {v : V} {d : D} (hd : Enc ε φ H v d) : ∀ {fs : List (Str × V)} {ds : List (Str × D)}, EncK ε φ H fs ds → EncK ε φ H (putF f v fs) (putD f d ds)
  | _, _, .nil => .cons ⟨rfl, hd⟩ .nil
  | (g, w) :: fs, (_, c) :: ds, .cons ⟨rfl, h⟩ t => by
    unfold putF putD
    by_cases hg : g = f
    · simp only [hg, if_true]; exact .cons ⟨rfl, hd⟩ t
    · simp only [hg, if_false]; exact .cons ⟨rfl, h⟩ (EncK.put hd t)
theorem EncK.len {κ : Type} {φ : List Addr} {H : Hp} {fs : List (κ × V)} {ds : List (κ × D)} (h : EncK ε φ H fs ds) : fs.length = ds.length := Paired.length h
/-- which classes have which fields: told by the table -/
def fldB (T : Tab) (f : Str) : Bool := T.c.all fun I => I.flds.contains f
theorem ins_cls (C : CxOk ε T Γ S X) {φ : List Addr} {H : Hp} {n : Nat} {μ : Store} {c : Nat} {fs : List (Str × D)} (St : Sto ε φ μ H) (e : μ[n]? = some (.ins c fs)) :
    ∃ a dx vs, φ[n]? = some a ∧ H a = some (.ins (ε.ca c) dx vs) ∧ EncK ε φ H vs fs := by
  obtain ⟨a, h1, h2⟩ := St.get e
  cases h2 with
  | ins q r => exact ⟨a, _, _, h1, q, r⟩
theorem sd_attr (C : CxOk ε T Γ S X) {o : Expr} {io : IE} {c : Nat} {f : Str} {I0 : CI} {pos : Pos} (ok : objB o = true) (hc : T.c[c]? = some I0) (hf : I0.flds.contains f = true) (ho : PE X o (rdE ε Γ io)) : PE X (.Attribute o f pos) (rdE ε Γ (.attr c io f)) := by
  refine PE.imp (pe_fld ho (base_ok ok)) fun σ H Q ⟨φ, ρ, μ, d, μ', R, e, q⟩ => ?_
  simp only [evE, Option.bind_eq_some_iff] at e
  obtain ⟨⟨x, μ1⟩, e1, e2⟩ := e
  refine ⟨φ, ρ, μ, x, μ1, R, e1, fun φ1 v H1 x1 y1 => ?_⟩
  split at e2
  · rename_i n hx
    obtain rfl : x = .ref n := hx
    split at e2
    · rename_i c' fs en
      split at e2
      · rename_i hcc
        subst hcc
        simp only [Option.map_eq_some_iff] at e2
        obtain ⟨d', e3, e4⟩ := e2
        cases e4
        cases y1 with
        | ref hn =>
          obtain ⟨a, dx, vs, h1, h2, h3⟩ := ins_cls C x1.sto en
          rw [hn] at h1; cases h1
          obtain ⟨w, h4, h5⟩ := h3.look e3
          have K := C.cls _ _ hc
          exact ⟨_, _, dx, vs, w, rfl, h2, K.cl, K.fld f hf, h4, q φ1 w H1 x1 h5⟩
      · cases e2
    · cases e2
  · cases e2
theorem few_ok {args : List Expr} {env : Env} {pos : Pos} (ok : args.all okE = true) (hl : args.length < 30) : methodCallForm (args.length + ([] : List Keyword).length) (backTo pos (starEach args env)) (backToKw pos (keywordEach [] env)) = true := by
  have h := star_plain (env := env) (pos := pos) ok
  unfold methodCallForm
  have h2 : (backTo pos (starEach args env)).all (fun x => !x.1) = true := by
    rw [List.all_eq_true]
    intro x hx
    cases e : x.1 with
    | false => rfl
    | true =>
      have : (backTo pos (starEach args env)).any (·.1) = true := List.any_eq_true.mpr ⟨x, hx, e⟩
      rw [h] at this; cases this
  rw [h2]
  have e0 : backToKw pos (keywordEach ([] : List Keyword) env) = [] := rfl
  rw [e0]
  simpa using hl
theorem eval_meth {o : Expr} {m : Str} {apos pos : Pos} {args : List Expr} {env : Env} (h : objB o = true) (ok : args.all okE = true) (hl : args.length < 30) (line : (apos.endLine == pos.line) = true) :
    eval (.Call (.Attribute o m apos) args [] pos) env = (do
      let ov ← eval o env
      standAt apos.atName
      let (f, first) ← holding [ov] (getMethod ov m (do return (← importBound o env).getD true))
      callWith pos f first (backTo pos (starEach args env)) (backToKw pos (keywordEach [] env))) := by
  have e1 : eval (.Call (.Attribute o m apos) args [] pos) env = (do
      let ov ← attributeBase o m env (eval o env)
      standAt apos.atName
      methodCall o m apos pos env ov (args.length + ([] : List Keyword).length) (backTo pos (starEach args env)) (backToKw pos (keywordEach [] env))) := rfl
  rw [e1, base_ok h]
  unfold methodCall calleeOf methodCallPos
  rw [few_ok ok hl, line]
  rfl
theorem sd_mcall (C : CxOk ε T Γ S X) {o : Expr} {io : IE} {c f : Nat} {m : Str} {I0 : CI} {es : List Expr} {ies : IEs} {apos pos : Pos} (ok : objB o = true) (hc : T.c[c]? = some I0) (hm : I0.meths.lookup m = some f) (ho : PE X o (rdE ε Γ io))
    (ha : PA X es (rdA ε Γ ies)) (oks : es.all okE = true) (hl : es.length < 30) (line : (apos.endLine == pos.line) = true) (hn : es = [] → ies = .nil) : PE X (.Call (.Attribute o m apos) es [] pos) (rdE ε Γ (.mcall c m f io ies)) := by
  have ht := eval_meth (m := m) (apos := apos) (pos := pos) (args := es) (env := X.env) ok oks hl line
  have K := C.cls _ _ hc
  have M := K.meth m f hm
  refine ⟨fun pins s σ H Q I ⟨φ, ρ, μ, d, μ', R, e, q⟩ => ?_⟩
  simp only [evE, Option.bind_eq_some_iff] at e
  obtain ⟨⟨x, μ1⟩, e1, e2⟩ := e
  refine PySem.W.methodCall_KW (thn (ho.run pins s σ H (fun v H1 => ∃ φ1, Res ε φ H φ1 μ1 H1 ∧ Enc ε φ1 H1 v x) I ⟨φ, ρ, μ, x, μ1, R, e1, fun φ1 v H1 x1 y1 => ⟨φ1, x1, y1⟩⟩) fun u s1 ⟨v, H1, I1, rx, φ1, x1, y1⟩ => ?_) ht
  split at e2
  · rename_i n hx
    obtain rfl : x = .ref n := hx
    split at e2
    · rename_i c' fs en
      split at e2
      · rename_i hcc
        obtain ⟨rfl, hno⟩ := hcc
        simp only [Option.bind_eq_some_iff] at e2
        obtain ⟨⟨ds, μ2⟩, e3, e4⟩ := e2
        cases y1 with
        | ref hn1 =>
          rename_i a
          obtain ⟨a', dx, vs, h1, h2, h3⟩ := ins_cls C x1.sto en
          rw [hn1] at h1; cases h1
          obtain rfl : u = Value.ref a := rx
          refine getmeth_ok I1 h2 K.cl M (h3.no hno) ?_
          have fin : ∀ {s2 : Shared} {us : List Value} {ws : List V} {φ2 : List Addr} {H2 : Hp}, L2.Inv X pins σ H2 s2 → Vals ws us → Res ε φ1 H1 φ2 μ2 H2 → EncL ε φ2 H2 ws ds → wpAny (model X.prog X.w) X.A (call (.ref (ε.fa f)) (.ref a :: us)) (EP X pins σ Q) X.xe s2 :=
            fun I2 r x2 y2 => callG C I2 (.cons (show L2.RelV (.ref a) (.ref a) from rfl) r) (.cons (x2.ext.enc (.ref hn1)) y2) x2.sto e4 fun φ3 v H3 x3 y3 => q φ3 v H3 ((x1.trans x2).trans x3) y3
          cases es with
          | nil =>
            rw [hn rfl] at e3
            cases e3
            exact PySem.W.callWith_K0 (first := [.ref a]) I1.kIn M.kp (fin I1 .nil (.refl x1.sto) .nil)
          | cons b bs =>
            simp only [List.all_cons, Bool.and_eq_true] at oks
            exact PySem.W.callWith_K (first := [.ref a]) (h₀ := X.base) I.ok.mod.kin M.kp (thn (ha.run pos pins s1 σ H1 (fun ws H2 => ∃ φ2, Res ε φ1 H1 φ2 μ2 H2 ∧ EncL ε φ2 H2 ws ds) I1 ⟨φ1, ρ, μ1, ds, μ2, R.step x1, e3, fun φ2 ws H2 x2 y2 => ⟨φ2, x2, y2⟩⟩) fun us s2 ⟨ws, H2, I2, r, φ2, x2, y2⟩ => ⟨I2.kIn, fin I2 r x2 y2⟩) (star_cons oks.1) (star_plain oks.2)
      · cases e2
    · cases e2
  · cases e2
/-- C(..) -/
theorem makeG (C : CxOk ε T Γ S X) {c f : Nat} {I0 : CI} (hc : T.c[c]? = some I0) (hi : I0.init = some f) {pins : List (Addr × Obj)} {σ : L2.St} {H : Hp} {s : Shared} {Q : VK} {us : List Value} {vs : List V} {φ : List Addr} {ds : List D} {μ μ' : Store}
    (I : L2.Inv X pins σ H s) (rv : Vals vs us) (hv : EncL ε φ H vs ds) (St : Sto ε φ μ H) (e : Γ.inits f (.ref μ.length :: ds) (μ ++ [.ins c []]) = some (.non, μ'))
    (q : ∀ φ' v H', Res ε φ H φ' μ' H' → Enc ε φ' H' v (.ref μ.length) → Q v H') : wpAny (model X.prog X.w) X.A (call (.ref (ε.ca c)) us) (EP X pins σ Q) X.xe s := by
  have K := C.cls _ _ hc
  have M := K.made f hi
  obtain ⟨k, ⟨hr, hf⟩ | hno⟩ := C.inits
  · obtain ⟨fd, ps, F, hb, hk⟩ := hf f ⟨_, _, _, e⟩
    have hx : H (s.heap.objs.size + 1) = none := I.hok.fresh (Nat.le_succ _)
    have hdx : H s.heap.objs.size = none := I.hok.fresh (Nat.le_refl _)
    have ne : s.heap.objs.size ≠ s.heap.objs.size + 1 := Nat.ne_of_lt (Nat.lt_succ_self _)
    have I2 := Inv.made (C := ε.ca c) I
    have g1 : Ex H (upd H s.heap.objs.size (.own (s.heap.objs.size + 1))) := Ex.new hdx
    have hx1 : (upd H s.heap.objs.size (.own (s.heap.objs.size + 1))) (s.heap.objs.size + 1) = none := by rw [upd_ne (Ne.symm ne)]; exact hx
    have x1 : Res ε φ H φ μ (upd H s.heap.objs.size (.own (s.heap.objs.size + 1))) := .ex St g1
    have x2 : Res ε φ H (φ ++ [s.heap.objs.size + 1]) (μ ++ [.ins c []]) (upd (upd H s.heap.objs.size (.own (s.heap.objs.size + 1))) (s.heap.objs.size + 1) (.ins (ε.ca c) s.heap.objs.size [])) := x1.trans (Res.new x1.sto hx1 (.ins upd_same .nil))
    have r2 : Vals (V.ref (s.heap.objs.size + 1) :: vs) (Value.ref (s.heap.objs.size + 1) :: us) := .cons rfl rv
    have self : (φ ++ [s.heap.objs.size + 1])[μ.length]? = some (s.heap.objs.size + 1) := by rw [← St.len]; simp
    have hsp : spOf ε (Γ.inits f) (V.ref (s.heap.objs.size + 1) :: vs) (upd (upd H s.heap.objs.size (.own (s.heap.objs.size + 1))) (s.heap.objs.size + 1) (.ins (ε.ca c) s.heap.objs.size [])) (fun v H2 => v = .non ∧ Q (.ref (s.heap.objs.size + 1)) H2) E0 :=
      ⟨_, _, _, .non, μ', .cons (.ref self) (x2.ext.encL hv), x2.sto, e, fun φ3 v H3 x3 y3 => by
        cases y3
        refine ⟨rfl, q φ3 _ H3 (x2.trans x3) (.ref ?_)⟩
        obtain ⟨p3, rfl, _⟩ := x3.ext.more
        exact get_app self⟩
    have hl : (Value.ref (s.heap.objs.size + 1) :: us).length = ps.length := by rw [← r2.length]; exact F.len _ _ _ _ hsp
    have hb' := hb _ (Value.ref (s.heap.objs.size + 1) :: us) I2.kIn (by simpa using hl)
    rw [List.append_nil] at hb'
    have hgd : (X.A.under (.builtin "type.__call__" ⟨.ref (ε.ca c) :: us, []⟩)).guards = some [] := by
      have := C.gd
      simp [Around.under, Code.guards, pushGuards, this, Code.isGuard, guardIds]
    refine wpAny_call (make_map (f := ε.fa f) I.kIn M.makes M.init (beq_iff_eq.mp M.fn) (codeAny_mono (F.run _ X.stack _ _ ⟨Value.ref (s.heap.objs.size + 1) :: us, []⟩ _ _ _ (hr.make _ us []) hgd (I2.env0.make _ us []) hb' r2 hsp) fun res s' hq' => ?_))
    cases res with
    | error e => exact False.elim hq'
    | ok fl => cases fl with
      | ret u =>
        obtain ⟨v, H', I3, rv, ev, q3⟩ := I2.after hq'
        subst ev
        exact ⟨rv, ⟨V.ref (s.heap.objs.size + 1), H', I3, rfl, q3⟩⟩
      | next => exact False.elim hq'
      | brk => exact False.elim hq'
      | cont => exact False.elim hq'
  · rw [hno] at e; cases e
theorem sd_make (C : CxOk ε T Γ S X) {x : Str} {c f : Nat} {I0 : CI} {es : List Expr} {ies : IEs} {xp pos : Pos} (hg : glB S.sc x = true) (hn : nameOk x = true) (ht : T.look x = .cls c) (hc : T.c[c]? = some I0) (hi : I0.init = some f)
    (ha : PA X es (rdA ε Γ ies)) (oks : es.all okE = true) (hnil : es = [] → ies = .nil) : PE X (.Call (.Name x xp) es [] pos) (rdE ε Γ (.make x c f ies)) := by
  have g := C.gl x
  rw [ht] at g
  have M := (C.cls _ _ hc).made f hi
  refine ⟨fun pins s σ H Q I ⟨φ, ρ, μ, d, μ', R, e, q⟩ => ?_⟩
  simp only [evE, Option.bind_eq_some_iff] at e
  obtain ⟨⟨ds, μ1⟩, e1, ⟨z, μ2⟩, e2, e3⟩ := e
  split at e3
  · rename_i hz
    cases e3
    obtain rfl : z = .non := hz
    refine wpAny_Call_Name_kw (ld_glob I (glB_ok C hg) g ?_ (noDebug hn))
    have fin : ∀ {s1 : Shared} {us : List Value} {vs : List V} {φ1 : List Addr} {H1 : Hp}, L2.Inv X pins σ H1 s1 → Vals vs us → Res ε φ H φ1 μ1 H1 → EncL ε φ1 H1 vs ds → wpAny (model X.prog X.w) X.A (call (.ref (ε.ca c)) us) (EP X pins σ Q) X.xe s1 :=
      fun I1 r x1 y1 => makeG C hc hi I1 r y1 x1.sto e2 fun φ2 v H2 x2 y2 => q φ2 v H2 (x1.trans x2) y2
    cases es with
    | nil =>
      rw [hnil rfl] at e1
      cases e1
      exact PySem.W.callWith_K0 I.kIn M.kp (fin I .nil (.refl R.sto) .nil)
    | cons b bs =>
      simp only [List.all_cons, Bool.and_eq_true] at oks
      exact PySem.W.callWith_K (h₀ := X.base) I.ok.mod.kin M.kp (thn (ha.run pos pins s σ H (fun ws H2 => ∃ φ2, Res ε φ H φ2 μ1 H2 ∧ EncL ε φ2 H2 ws ds) I ⟨φ, ρ, μ, ds, μ1, R, e1, fun φ2 ws H2 x2 y2 => ⟨φ2, x2, y2⟩⟩) fun us s2 ⟨ws, H2, I2, r, φ2, x2, y2⟩ => ⟨I2.kIn, fin I2 r x2 y2⟩) (star_cons oks.1) (star_plain oks.2)
  · cases e3

/-! ### dicts -/
theorem keyD_ok {φ : List Addr} {H : Hp} {v : V} {d : D} {k : Key} (h : Enc ε φ H v d) (e : keyD d = some k) : v = kV k := by
  cases d <;> (first | (simp [keyD] at e; done) | skip) <;> (cases e; cases h; rfl)
theorem EncK.val {φ : List Addr} {H : Hp} {k : Key} : ∀ {ks : List (Key × V)} {ds : List (Key × D)}, EncK ε φ H ks ds → match getK ds k with
    | some d => ∃ v, valV ks k = some v ∧ Enc ε φ H v d
    | none => valV ks k = none
  | _, _, .nil => rfl
  | (g, v) :: ks, (_, c) :: ds, .cons ⟨rfl, h⟩ t => by
    have ih := EncK.val (k := k) t
    unfold getK valV at ih ⊢
    by_cases hg : g = k
    · simp only [List.find?_cons, hg, decide_true, Option.map_some]
      exact ⟨v, rfl, h⟩
    · simp only [List.find?_cons, hg, decide_false]
      exact ih
theorem EncK.any {φ : List Addr} {H : Hp} {k : Key} : ∀ {ks : List (Key × V)} {ds : List (Key × D)}, EncK ε φ H ks ds → (ks.any fun kv => decide (kv.1 = k)) = ds.any fun kv => decide (kv.1 = k)
  | _, _, .nil => rfl
  | (g, v) :: ks, (_, c) :: ds, .cons ⟨rfl, h⟩ t => by simp only [List.any_cons, EncK.any t]
theorem EncK.repl {φ : List Addr} {H : Hp} {k : Key} {v : V} {d : D} (hd : Enc ε φ H v d) : ∀ {ks : List (Key × V)} {ds : List (Key × D)}, EncK ε φ H ks ds →
    EncK ε φ H (ks.map fun kv => if kv.1 = k then (kv.1, v) else kv) (ds.map fun kv => if kv.1 = k then (kv.1, d) else kv)
  | _, _, .nil => .nil
  | (g, w) :: ks, (_, c) :: ds, .cons ⟨rfl, h⟩ t => by
    simp only [List.map_cons]
    refine .cons ?_ (EncK.repl hd t)
    by_cases hg : g = k
    · simp only [hg, if_true]; exact ⟨trivial, hd⟩
    · simp only [hg, if_false]; exact ⟨trivial, h⟩
theorem EncK.app {κ : Type} {φ : List Addr} {H : Hp} {ks ls : List (κ × V)} {ds es : List (κ × D)} (h : EncK ε φ H ks ds) (t : EncK ε φ H ls es) : EncK ε φ H (ks ++ ls) (ds ++ es) := by
  induction h with
  | nil => exact t
  | cons q _ ih => exact .cons q ih
theorem EncK.setK {φ : List Addr} {H : Hp} {k : Key} {v : V} {d : D} {ks : List (Key × V)} {ds : List (Key × D)} (h : EncK ε φ H ks ds) (hd : Enc ε φ H v d) : EncK ε φ H (putK ks k v) (FH.setK ds k d) := by
  unfold putK FH.setK
  rw [h.any]
  split
  · exact h.repl hd
  · exact h.app (.cons ⟨rfl, hd⟩ .nil)
theorem dic_at {φ : List Addr} {H : Hp} {μ : Store} {n : Nat} {a : Addr} {kvs : List (Key × D)} (St : Sto ε φ μ H) (ha : φ[n]? = some a) (e : μ[n]? = some (.dic kvs)) : ∃ ks, H a = some (.dK ks) ∧ EncK ε φ H ks kvs := by
  have h := St.at_ n a _ ha e
  cases h with
  | dic q r => exact ⟨_, q, r⟩
theorem dhas_key {neg : Bool} {ii io : IE} {σ : L2.St} {H : Hp} {Q : VK} (h : rdE ε Γ (.dhas neg ii io) σ H Q) : rdE ε Γ ii σ H fun y H1 => rdE ε Γ io σ H1 fun x H2 => ∃ a o, x = .ref a ∧ DGet H2 a y o ∧ Q (.bl (if neg then !o.isSome else o.isSome)) H2 := by
  obtain ⟨φ, ρ, μ, d, μ', R, e, q⟩ := h
  simp only [evE, Option.bind_eq_some_iff] at e
  obtain ⟨⟨y, μ1⟩, e1, ⟨x, μ2⟩, e2, e3⟩ := e
  refine ⟨φ, ρ, μ, y, μ1, R, e1, fun φ1 v1 H1 x1 y1 => ⟨φ1, ρ, μ1, x, μ2, R.step x1, e2, fun φ2 v2 H2 x2 y2 => ?_⟩⟩
  split at e3
  · rename_i n hx
    obtain rfl : x = .ref n := hx
    split at e3
    · rename_i kvs en
      simp only [Option.map_eq_some_iff] at e3
      obtain ⟨k, ek, e4⟩ := e3
      cases e4
      cases y2 with
      | ref hn =>
        obtain ⟨ks, h1, h2⟩ := dic_at x2.sto hn en
        rw [keyD_ok (x2.ext.enc y1) ek]
        have hv := h2.val (k := k)
        refine ⟨_, _, rfl, DGet.k h1, ?_⟩
        cases eg : getK kvs k with
        | none =>
          rw [eg] at hv q
          rw [hv]
          exact q φ2 _ H2 (x1.trans x2) (.bl _)
        | some dd =>
          rw [eg] at hv q
          obtain ⟨w, hw, _⟩ := hv
          rw [hw]
          exact q φ2 _ H2 (x1.trans x2) (.bl _)
    · cases e3
  · cases e3
theorem sd_dhas (C : CxOk ε T Γ S X) {neg : Bool} {i o : Expr} {ii io : IE} {pos : Pos} (ok : okE o = true) (hi : PE X i (rdE ε Γ ii)) (ho : PE X o (rdE ε Γ io)) : PE X (.Compare i [if neg then .NotIn else .In] [o] pos) (rdE ε Γ (.dhas neg ii io)) := by
  have hu : X.A.units + 1 < cLine := by have := C.hu; omega
  cases neg with
  | true => exact PE.imp (pe_cmp (pc_dnotin hu hi ho) (mark_ok ok)) fun σ H Q h => dhas_key h
  | false => exact PE.imp (pe_cmp (pc_din hu hi ho) (mark_ok ok)) fun σ H Q h => dhas_key h
theorem dhas_bl {neg : Bool} {ii io : IE} {ρ : Slots} {μ μ' : Store} {d : D} (h : evE Γ (.dhas neg ii io) ρ μ = some (d, μ')) : ∃ b, d = .bl b := by
  simp only [evE, Option.bind_eq_some_iff] at h
  obtain ⟨⟨y, μ1⟩, e1, ⟨x, μ2⟩, e2, e3⟩ := h
  split at e3
  · split at e3
    · simp only [Option.map_eq_some_iff] at e3
      obtain ⟨k, ek, e4⟩ := e3
      cases e4; exact ⟨_, rfl⟩
    · cases e3
  · cases e3
theorem st_dhas (C : CxOk ε T Γ S X) {neg : Bool} {i o : Expr} {ii io : IE} {pos : Pos} (ok : okE o = true) (hi : PE X i (rdE ε Γ ii)) (ho : PE X o (rdE ε Γ io)) : PT X (.Compare i [if neg then .NotIn else .In] [o] pos) (rdT ε Γ (.dhas neg ii io)) := by
  have hu : X.A.units + 1 < cLine := by have := C.hu; omega
  have key : ∀ {σ : L2.St} {H : Hp} {Q : Bool → Hp → Prop}, rdT ε Γ (.dhas neg ii io) σ H Q → rdE ε Γ (.dhas neg ii io) σ H fun x H1 => ∃ c, x = .bl c ∧ Q c H1 := fun {σ H Q} ⟨φ, ρ, μ, d, μ', k, R, e, et, q⟩ => by
    refine ⟨φ, ρ, μ, d, μ', R, e, fun φ1 v H1 x1 y1 => ?_⟩
    obtain ⟨b, rfl⟩ := dhas_bl e
    cases y1
    cases et
    exact ⟨_, rfl, q φ1 H1 x1⟩
  cases neg with
  | true => exact PT.imp (pt_cmp (pc_dnotin hu hi ho) (mark_ok ok)) fun σ H Q h => dhas_key (key h)
  | false => exact PT.imp (pt_cmp (pc_din hu hi ho) (mark_ok ok)) fun σ H Q h => dhas_key (key h)
theorem sd_dget (C : CxOk ε T Γ S X) {i o : Expr} {ii io : IE} {pos : Pos} (ok : okE i = true) (ho : PE X o (rdE ε Γ io)) (hi : PE X i (rdE ε Γ ii)) : PE X (.Subscript o i pos) (rdE ε Γ (.dget io ii)) := by
  refine PE.imp (pe_dget (by have := C.hu; omega) ho hi (plain_ix ok)) fun σ H Q ⟨φ, ρ, μ, d, μ', R, e, q⟩ => ?_
  simp only [evE, Option.bind_eq_some_iff] at e
  obtain ⟨⟨x, μ1⟩, e1, ⟨y, μ2⟩, e2, e3⟩ := e
  refine ⟨φ, ρ, μ, x, μ1, R, e1, fun φ1 v1 H1 x1 y1 => ⟨φ1, ρ, μ1, y, μ2, R.step x1, e2, fun φ2 v2 H2 x2 y2 => ?_⟩⟩
  split at e3
  · rename_i n hx
    obtain rfl : x = .ref n := hx
    split at e3
    · rename_i kvs en
      simp only [Option.bind_eq_some_iff, Option.map_eq_some_iff] at e3
      obtain ⟨k, ek, dd, eg, e4⟩ := e3
      cases e4
      cases x2.ext.enc y1 with
      | ref hn =>
        obtain ⟨ks, h1, h2⟩ := dic_at x2.sto hn en
        rw [keyD_ok y2 ek]
        have hv := h2.val (k := k)
        rw [eg] at hv
        obtain ⟨w, hw, hd⟩ := hv
        exact ⟨_, w, rfl, by rw [← hw]; exact DGet.k h1, q φ2 w H2 (x1.trans x2) hd⟩
    · cases e3
  · cases e3
theorem m2_ok {o e f : Expr} {m : Str} {apos cpos : Pos} (ho : objB o = true) (he : okE e = true) (hf : okE f = true) (hl : (apos.endLine == cpos.line) = true) : M2 X o m apos e f cpos := by
  have h1 := star_cons (es := [f]) (env := X.env) he
  have h2 := star_cons (es := []) (env := X.env) hf
  have h3 : starEach ([] : List Expr) X.env = [] := rfl
  refine ⟨base_ok ho, ?_, hl, ?_⟩
  · rw [h1, h2, h3]; rfl
  · rw [h1, h2, h3]; rfl
theorem sd_dgetD (C : CxOk ε T Γ S X) {o i z : Expr} {io ii iz : IE} {apos cpos : Pos} (okO : objB o = true) (oki : okE i = true) (okz : okE z = true) (hl : (apos.endLine == cpos.line) = true) (ho : PE X o (rdE ε Γ io)) (hi : PE X i (rdE ε Γ ii)) (hz : PE X z (rdE ε Γ iz)) :
    PE X (.Call (.Attribute o "get" apos) [i, z] [] cpos) (rdE ε Γ (.dgetD io ii iz)) := by
  refine PE.imp (pe_dget2 (by have := C.hu; omega) ho hi hz (m2_ok okO oki okz hl)) fun σ H Q ⟨φ, ρ, μ, d, μ', R, e, q⟩ => ?_
  simp only [evE, Option.bind_eq_some_iff] at e
  obtain ⟨⟨x, μ1⟩, e1, e2⟩ := e
  refine ⟨φ, ρ, μ, x, μ1, R, e1, fun φ1 v1 H1 x1 y1 => ?_⟩
  split at e2
  · rename_i n hx
    obtain rfl : x = .ref n := hx
    split at e2
    · rename_i kvs0 en0
      simp only [Option.bind_eq_some_iff] at e2
      obtain ⟨⟨y, μ2⟩, e3, ⟨w, μ3⟩, e4, e5⟩ := e2
      have y1' := y1
      cases y1 with
      | ref hn =>
        obtain ⟨ks0, h0, _⟩ := dic_at x1.sto hn en0
        refine ⟨_, rfl, .inl ⟨ks0, .inl h0⟩, φ1, ρ, μ1, y, μ2, R.step x1, e3, fun φ2 v2 H2 x2 y2 => ⟨φ2, ρ, μ2, w, μ3, (R.step x1).step x2, e4, fun φ3 v3 H3 x3 y3 => ?_⟩⟩
        split at e5
        · rename_i kvs en
          simp only [Option.map_eq_some_iff] at e5
          obtain ⟨k, ek, e6⟩ := e5
          cases e6
          cases x3.ext.enc (x2.ext.enc y1') with
          | ref hn3 =>
            obtain ⟨ks, h1, h2⟩ := dic_at x3.sto hn3 en
            rw [keyD_ok (x3.ext.enc y2) ek]
            have hv := h2.val (k := k)
            refine ⟨_, DGet.k h1, ?_⟩
            have xx := (x1.trans x2).trans x3
            cases eg : getK kvs k with
            | none =>
              rw [eg] at hv q
              rw [hv]
              exact q φ3 _ H3 xx y3
            | some dd =>
              rw [eg] at hv q
              obtain ⟨u, hu, hd⟩ := hv
              rw [hu]
              exact q φ3 _ H3 xx hd
        · cases e5
    · cases e2
  · cases e2
theorem sd_dsetd (C : CxOk ε T Γ S X) {o i z : Expr} {io ii iz : IE} {apos cpos : Pos} (okO : objB o = true) (oki : okE i = true) (okz : okE z = true) (hl : (apos.endLine == cpos.line) = true) (ho : PE X o (rdE ε Γ io)) (hi : PE X i (rdE ε Γ ii)) (hz : PE X z (rdE ε Γ iz)) :
    PE X (.Call (.Attribute o "setdefault" apos) [i, z] [] cpos) (rdE ε Γ (.dsetd io ii iz)) := by
  refine PE.imp (pe_dsetd ho hi hz (m2_ok okO oki okz hl)) fun σ H Q ⟨φ, ρ, μ, d, μ', R, e, q⟩ => ?_
  simp only [evE, Option.bind_eq_some_iff] at e
  obtain ⟨⟨x, μ1⟩, e1, e2⟩ := e
  refine ⟨φ, ρ, μ, x, μ1, R, e1, fun φ1 v1 H1 x1 y1 => ?_⟩
  split at e2
  · rename_i n hx
    obtain rfl : x = .ref n := hx
    split at e2
    · rename_i kvs0 en0
      simp only [Option.bind_eq_some_iff] at e2
      obtain ⟨⟨y, μ2⟩, e3, ⟨w, μ3⟩, e4, e5⟩ := e2
      have y1' := y1
      cases y1 with
      | ref hn =>
        obtain ⟨ks0, h0, _⟩ := dic_at x1.sto hn en0
        refine ⟨_, rfl, .inl ⟨ks0, .inl h0⟩, φ1, ρ, μ1, y, μ2, R.step x1, e3, fun φ2 v2 H2 x2 y2 => ⟨φ2, ρ, μ2, w, μ3, (R.step x1).step x2, e4, fun φ3 v3 H3 x3 y3 => ?_⟩⟩
        split at e5
        · rename_i kvs en
          split at e5
          · rename_i hlen
            simp only [Option.map_eq_some_iff] at e5
            obtain ⟨k, ek, e6⟩ := e5
            cases x3.ext.enc (x2.ext.enc y1') with
            | ref hn3 =>
              obtain ⟨ks, h1, h2⟩ := dic_at x3.sto hn3 en
              have hk := keyD_ok (x3.ext.enc y2) ek
              have hv := h2.val (k := k)
              have xx := (x1.trans x2).trans x3
              refine ⟨ks, k, h1, hk, by rw [h2.len]; exact hlen, fun v ev => ?_, fun ev => ?_⟩
              · cases eg : getK kvs k with
                | none => rw [eg] at hv; rw [hv] at ev; cases ev
                | some dd =>
                  rw [eg] at hv e6
                  cases e6
                  obtain ⟨u, hu, hd⟩ := hv
                  rw [hu] at ev; cases ev
                  exact q φ3 _ H3 xx hd
              · cases eg : getK kvs k with
                | some dd => rw [eg] at hv; obtain ⟨u, hu, hd⟩ := hv; rw [hu] at ev; cases ev
                | none =>
                  rw [eg] at e6
                  cases e6
                  have c0 := x3.sto.at_ n _ _ hn3 en
                  have g : Grow H3 (upd H3 _ (.dK (putK ks k v3))) := ⟨fun b xs e => by rw [upd_ne (fun z => by rw [z] at e; exact dk_noT h1 _ e)]; exact e, fun b p u e => by rw [upd_ne (fun z => by rw [z] at e; exact dk_noF h1 _ _ e)]; exact e⟩
                  have hp : putK ks k v3 = ks ++ [(k, v3)] := putK_new _ ev
                  have x4 : Res ε φ3 H3 φ3 (μ3.set n (.dic (kvs ++ [(k, _)]))) (upd H3 _ (.dK (putK ks k v3))) := Res.set x3.sto hn3 (dk_noT h1) (dk_noF h1) (.dic upd_same (by
                    have c1 : EncK ε φ3 H3 [(k, v3)] [(k, d)] := .cons ⟨rfl, y3⟩ .nil
                    have m := (h2.app c1).mono [] g
                    rw [List.append_nil, ← hp] at m
                    exact m))
                  exact q φ3 _ _ (xx.trans x4) (x4.ext.enc y3)
          · cases e5
        · cases e5
    · cases e2
  · cases e2
theorem sd_dcopy (C : CxOk ε T Γ S X) {a : Expr} {ia : IE} {xp pos : Pos} (hg : glB S.sc "dict" = true) (ht : T.look "dict" = .no) (ha : PE X a (rdE ε Γ ia)) (ok : okE a = true) : PE X (.Call (.Name "dict" xp) [a] [] pos) (rdE ε Γ (.dcopy ia)) := by
  have g := C.gl "dict"
  rw [ht] at g
  have rule : CallR X (.type "dict") (fun xs H Q => ∃ p ks, xs = [.ref p] ∧ H p = some (.dK ks) ∧ ∀ l, H l = none → Q (.ref l) (upd H l (.dK ks))) := by
    intro pins s σ H xs us Q I r ⟨p, ks, e, hp, q⟩
    subst e
    obtain ⟨u, rfl, ru⟩ := vals1 r
    cases ru
    exact d_copyOf I (.inl hp) fun l s' hl I' => ⟨.ref l, _, I', rfl, q l hl⟩
  refine PE.imp (pe_callTy rule (glB_ok C hg) g (by decide +kernel) (pa_cons ha pa_nil (star_cons ok)) (by decide +kernel) (by decide +kernel) (star_cons ok) rfl) fun σ H Q ⟨φ, ρ, μ, d, μ', R, e, q⟩ => ?_
  simp only [evE, Option.bind_eq_some_iff] at e
  obtain ⟨⟨x, μ1⟩, e1, e2⟩ := e
  refine ⟨φ, ρ, μ, x, μ1, R, e1, fun φ1 v H1 x1 y1 => ?_⟩
  split at e2
  · rename_i n hx
    obtain rfl : x = .ref n := hx
    split at e2
    · rename_i kvs en
      cases e2
      cases y1 with
      | ref hn =>
        obtain ⟨ks, h1, h2⟩ := dic_at x1.sto hn en
        refine ⟨_, ks, rfl, h1, fun l hl => ?_⟩
        have x2 : Res ε φ1 H1 (φ1 ++ [l]) (μ1 ++ [.dic kvs]) (upd H1 l (.dK ks)) := Res.new x1.sto hl (.dic upd_same (h2.mono [l] (Ex.new hl).grow))
        exact q _ _ _ (x1.trans x2) (.ref (by rw [← x1.sto.len]; simp))
    · cases e2
  · cases e2
end
end FH
end
section
/-! FH7: targets, what is walked, comprehensions. -/
namespace FH
open PySem PySem.Spec PyProof.Rows L2
section
variable {ε : Ev} {T : Tab} {Γ : Env2} {S : SC} {X : Cx} {φ : List Addr} {H : Hp} {μ : Store} {ρ : Slots} {σ : L2.St}

/-! ### names changed -/
theorem ownA_sub {s : Slot} {o : Option V} : (ownA ρ σ).Sublist (ownA (s :: ρ) (o :: σ)) := by
  cases s <;> cases o <;> (try (rename_i v; cases v)) <;> (first | exact List.Sublist.refl _ | exact List.sublist_cons_self _ _ | skip)
  all_goals (first | (rename_i w _; cases w <;> first | exact List.Sublist.refl _ | exact List.sublist_cons_self _ _) | skip)
theorem ownA_skip {s : Slot} {o : Option V} (h : ∀ c, s ≠ .own c) : ownA (s :: ρ) (o :: σ) = ownA ρ σ := by
  cases s with
  | own c => exact absurd rfl (h c)
  | emp => rfl
  | val d => rfl
theorem mem_ownA_cons {s : Slot} {o : Option V} {b : Addr} (h : b ∈ ownA (s :: ρ) (o :: σ)) : b ∈ ownA ρ σ ∨ ∃ c, s = .own c ∧ o = some (.ref b) := by
  cases s with
  | emp => exact .inl h
  | val d => exact .inl h
  | own c =>
    cases o with
    | none => exact .inl h
    | some v =>
      cases v with
      | ref a =>
        simp only [ownA, List.mem_cons] at h
        rcases h with rfl | h
        · exact .inr ⟨c, rfl, rfl⟩
        · exact .inl h
      | _ => exact .inl h
theorem mem_ownA_set {s : Slot} {o : Option V} {b : Addr} : ∀ {ρ : Slots} {σ : L2.St} {i : Nat}, b ∈ ownA (ρ.set i s) (σ.set i o) → b ∈ ownA ρ σ ∨ ∃ c, s = .own c ∧ o = some (.ref b)
  | [], σ, i, h => by simp [ownA] at h
  | s0 :: ρ, [], i, h => by cases i <;> simp [ownA] at h
  | s0 :: ρ, o0 :: σ, 0, h => by
    rcases mem_ownA_cons (ρ := ρ) (σ := σ) h with h | h
    · exact .inl (ownA_cons h)
    · exact .inr h
  | s0 :: ρ, o0 :: σ, i + 1, h => by
    rcases mem_ownA_cons (ρ := ρ.set i s) (σ := σ.set i o) h with h | ⟨c, rfl, rfl⟩
    · rcases mem_ownA_set h with h | h
      · exact .inl (ownA_cons h)
      · exact .inr h
    · exact .inl (by simp [ownA])
theorem nodup_ownA_set {s : Slot} {o : Option V} (h : ∀ c a, s = .own c → o = some (.ref a) → a ∉ ownA ρ σ) : ∀ {i : Nat}, (ownA ρ σ).Nodup → (ownA (ρ.set i s) (σ.set i o)).Nodup := by
  induction ρ generalizing σ with
  | nil => intro i _; simp [ownA]
  | cons s0 ρ ih =>
    cases σ with
    | nil => intro i _; cases i <;> simp [ownA]
    | cons o0 σ =>
      intro i nd
      have nd' : (ownA ρ σ).Nodup := nd.sublist ownA_sub
      have h' : ∀ c a, s = .own c → o = some (.ref a) → a ∉ ownA ρ σ := fun c a e1 e2 z => h c a e1 e2 (ownA_cons z)
      cases i with
      | zero =>
        show (ownA (s :: ρ) (o :: σ)).Nodup
        cases s with
        | emp => exact nd'
        | val d => exact nd'
        | own c =>
          cases o with
          | none => exact nd'
          | some v =>
            cases v with
            | ref a => exact List.nodup_cons.mpr ⟨h' c a rfl rfl, nd'⟩
            | _ => exact nd'
      | succ i =>
        show (ownA (s0 :: ρ.set i s) (o0 :: σ.set i o)).Nodup
        have r := ih h' (i := i) nd'
        cases s0 with
        | emp => exact r
        | val d => exact r
        | own c0 =>
          cases o0 with
          | none => exact r
          | some v =>
            cases v with
            | ref a =>
              refine List.nodup_cons.mpr ⟨fun z => ?_, r⟩
              rcases mem_ownA_set z with z | ⟨c, e1, e2⟩
              · exact (List.nodup_cons.mp (show (a :: ownA ρ σ).Nodup from nd)).1 z
              · exact h c a e1 e2 (by simp [ownA])
            | _ => exact r
theorem Paired.put {α β : Type} {F : α → β → Prop} {a : α} {b : β} (h : F a b) : ∀ {l : List α} {m : List β} {i : Nat}, Paired F l m → Paired F (l.set i a) (m.set i b)
  | _, _, _, .nil => .nil
  | _, _, 0, .cons _ t => .cons h t
  | _, _, i + 1, .cons q t => .cons q (Paired.put h t)
theorem Rel.put {s : Slot} {o : Option V} {i : Nat} (R : Rel ε φ ρ μ σ H) (h : SlotOk ε φ H s o) (n : ∀ c a, s = .own c → o = some (.ref a) → a ∉ ownA ρ σ ∧ a ∉ φ) : Rel ε φ (ρ.set i s) μ (σ.set i o) H := by
  refine ⟨R.sto, Paired.put h R.slots, nodup_ownA_set (fun c a e1 e2 => (n c a e1 e2).1) R.nd, fun a ha => ?_⟩
  rcases mem_ownA_set ha with ha | ⟨c, e1, e2⟩
  · exact R.dj a ha
  · exact (n c a e1 e2).2
theorem Rel.val {v : V} {d : D} {i : Nat} (R : Rel ε φ ρ μ σ H) (h : Enc ε φ H v d) : Rel ε φ (ρ.set i (.val d)) μ (σ.set i (some v)) H := R.put ⟨v, rfl, h⟩ fun _ _ e => nomatch e
theorem Rel.emp {i : Nat} {o : Option V} (R : Rel ε φ ρ μ σ H) : Rel ε φ (ρ.set i .emp) μ (σ.set i o) H := R.put trivial fun _ _ e => nomatch e
theorem Rel.wipe (R : Rel ε φ ρ μ σ H) : ∀ vs : List Nat, Rel ε φ (wipeS ρ vs) μ (L2.wipe σ vs) H
  | [] => R
  | v :: vs => (Rel.wipe R vs).emp
theorem Rel.len (R : Rel ε φ ρ μ σ H) : ρ.length = σ.length := Paired.length R.slots

/-! ### targets -/
mutual
def tgI : Tg → List Nat
  | .nm i => [i]
  | .tp ts => tgsI ts
def tgsI : Tgs → List Nat
  | .nil => []
  | .cons t ts => tgI t ++ tgsI ts
end
structure Out (is : List Nat) (σ σ' : L2.St) : Prop where
  len : σ'.length = σ.length
  out : ∀ i, i ∉ is → σ'[i]? = σ[i]?
theorem Out.refl {is : List Nat} : Out is σ σ := ⟨rfl, fun _ _ => rfl⟩
theorem Out.trans {is js : List Nat} {σ1 σ2 : L2.St} (a : Out is σ σ1) (b : Out js σ1 σ2) : Out (is ++ js) σ σ2 := ⟨b.len.trans a.len, fun i h => by
  simp only [List.mem_append, not_or] at h
  rw [b.out i h.2, a.out i h.1]⟩
def OwnLe (ρ : Slots) (σ : L2.St) (ρ' : Slots) (σ' : L2.St) : Prop := ∀ a ∈ ownA ρ' σ', a ∈ ownA ρ σ
def rdG (ε : Ev) (g : Tg) : TG := fun v σ H Q => ∃ φ ρ μ d ρ', Rel ε φ ρ μ σ H ∧ Enc ε φ H v d ∧ asgT g d ρ = some ρ' ∧ ∀ σ', Rel ε φ ρ' μ σ' H → Out (tgI g) σ σ' → OwnLe ρ σ ρ' σ' → Q σ' H
def rdGs (ε : Ev) (g : Tgs) : TGs := fun vs σ H Q => ∃ φ ρ μ ds ρ', Rel ε φ ρ μ σ H ∧ EncL ε φ H vs ds ∧ asgTs g ds ρ = some ρ' ∧ ∀ σ', Rel ε φ ρ' μ σ' H → Out (tgsI g) σ σ' → OwnLe ρ σ ρ' σ' → Q σ' H
theorem PG.imp {e : Expr} {t t' : TG} (h : PG X e t) (k : ∀ v σ H Q, t' v σ H Q → t v σ H Q) : PG X e t' := ⟨fun pins s σ H v u Q I r q => h.run pins s σ H v u Q I r (k v σ H Q q)⟩
theorem PGs.imp {e : List Expr} {t t' : TGs} (h : PGs X e t) (k : ∀ v σ H Q, t' v σ H Q → t v σ H Q) : PGs X e t' := ⟨fun pins s σ H v u Q I r q => h.run pins s σ H v u Q I r (k v σ H Q q)⟩
theorem out_set {i : Nat} {o : Option V} : Out [i] σ (σ.set i o) := ⟨by simp, fun j h => by
  rw [List.getElem?_set_ne (fun e => h (by simp [e]))]⟩
theorem own_set {s : Slot} {o : Option V} {i : Nat} (n : ∀ c, s ≠ .own c) : OwnLe ρ σ (ρ.set i s) (σ.set i o) := fun a h => by
  rcases mem_ownA_set h with h | ⟨c, e, _⟩
  · exact h
  · exact absurd e (n c)
def locB (S : SC) (x : Str) : Bool := match S.sc.names.lookup x with
  | some .local => true | some .cell => (match S.bs with | none => true | some sc => sc.names.lookup x == some .cell) | _ => false
theorem locB_ok (C : CxOk ε T Γ S X) {x : Str} (h : locB S x = true) : L2.Loc X.env.scope x ∧ (X.fn x = true ∨ X.env.scope.names.lookup x = some .local) := by
  unfold locB at h
  rw [C.sc]
  unfold L2.Loc
  split at h
  · rename_i e; exact ⟨.inl e, .inr e⟩
  · rename_i e
    refine ⟨.inr e, .inl ?_⟩
    have q := C.fn x
    split at h
    · rename_i eb; rw [eb] at q; exact q
    · rename_i sc eb
      rw [eb] at q
      rw [q]; exact h
  · cases h
theorem sg_nm (C : CxOk ε T Γ S X) {i : Nat} {x : Str} {pos : Pos} (h : S.N[i]? = some x) (hl : locB S x = true) : PG X (.Name x pos) (rdG ε (.nm i)) := by
  obtain ⟨h1, h2⟩ := locB_ok C hl
  refine PG.imp (pg_name (i := i) (by rw [C.N]; exact C.nd) (by rw [C.N]; exact h) h1 h2) fun v σ H Q ⟨φ, ρ, μ, d, ρ', R, hv, e, q⟩ => ?_
  unfold asgT at e
  split at e
  · cases e
    exact q _ (R.val hv) out_set (own_set fun _ z => nomatch z)
  · cases e
theorem sgs_nil : PGs X [] (rdGs ε .nil) := by
  refine PGs.imp pgs_nil fun vs σ H Q ⟨φ, ρ, μ, ds, ρ', R, hv, e, q⟩ => ?_
  cases ds with
  | nil => cases hv; cases e; exact ⟨rfl, q σ R .refl fun _ z => z⟩
  | cons d ds => cases e
def tgE : Expr → Bool
  | .Name .. => true | .Tuple .. => true | _ => false
theorem each_cons {e : Expr} {es : List Expr} {env : Env} (h : tgE e = true) : (assignEach (e :: es) env).map (·.2) = assign e env :: (assignEach es env).map (·.2) := by
  cases e <;> first | rfl | (simp [tgE] at h)
theorem each_len : ∀ {es : List Expr} {env : Env}, es.all tgE = true → (assignEach es env).length = es.length ∧ (assignEach es env).findIdx? (·.1) = none
  | [], env, _ => ⟨rfl, rfl⟩
  | e :: es, env, h => by
    simp only [List.all_cons, Bool.and_eq_true] at h
    obtain ⟨h1, h2⟩ := each_len (env := env) h.2
    have key : assignEach (e :: es) env = (false, assign e env) :: assignEach es env := by
      cases e <;> first | rfl | (simp [tgE] at h)
    rw [key]
    refine ⟨by simp [h1], ?_⟩
    simp [List.findIdx?_cons, h2]
theorem sgs_cons {e : Expr} {es : List Expr} {t : Tg} {ts : Tgs} (ht : tgE e = true) (h1 : PG X e (rdG ε t)) (h2 : PGs X es (rdGs ε ts)) : PGs X (e :: es) (rdGs ε (.cons t ts)) := by
  refine PGs.imp (pgs_cons h1 h2 (each_cons ht)) fun vs σ H Q ⟨φ, ρ, μ, ds, ρ', R, hv, e, q⟩ => ?_
  cases ds with
  | nil => cases e
  | cons d ds =>
    cases hv with
    | cons hv1 hv2 =>
      simp only [asgTs, Option.bind_eq_some_iff] at e
      obtain ⟨ρ1, e1, e2⟩ := e
      refine ⟨_, _, rfl, φ, ρ, μ, d, ρ1, R, hv1, e1, fun σ1 R1 o1 w1 => ⟨φ, ρ1, μ, ds, ρ', R1, hv2, e2, fun σ2 R2 o2 w2 => ?_⟩⟩
      exact q σ2 R2 (o1.trans o2) fun a h => w1 a (w2 a h)
theorem asgTs_len : ∀ {ts : Tgs} {ds : List D} {ρ ρ' : Slots} {n : Nat} (es : List Expr), asgTs ts ds ρ = some ρ' → (∀ _ : True, True) → True
  | _, _, _, _, _, _, _, _ => trivial
def tgsN : Tgs → Nat
  | .nil => 0
  | .cons _ ts => tgsN ts + 1
theorem asgTs_n : ∀ {ts : Tgs} {ds : List D} {ρ ρ' : Slots}, asgTs ts ds ρ = some ρ' → ds.length = tgsN ts
  | .nil, [], _, _, _ => rfl
  | .nil, _ :: _, _, _, h => by cases h
  | .cons _ _, [], _, _, h => by cases h
  | .cons t ts, d :: ds, _, _, h => by
    simp only [asgTs, Option.bind_eq_some_iff] at h
    obtain ⟨_, _, h⟩ := h
    simp [tgsN, asgTs_n h]
theorem sg_tp (C : CxOk ε T Γ S X) {es : List Expr} {ts : Tgs} {j : Nat} {pos : Pos} (hn : es.length = tgsN ts) (ht : es.all tgE = true) (h : PGs X es (rdGs ε ts)) : PG X (.Tuple es j pos) (rdG ε (.tp ts)) := by
  obtain ⟨l1, l2⟩ := each_len (env := X.env) ht
  refine PG.imp (pg_tup C.calm h l1 l2) fun v σ H Q ⟨φ, ρ, μ, d, ρ', R, hv, e, q⟩ => ?_
  cases d <;> (first | (exfalso; simp [asgT] at e; done) | skip)
  rename_i ds
  simp only [asgT] at e
  cases hv with
  | tup h1 h2 => exact ⟨_, _, rfl, by rw [← C.K]; exact h1, by rw [h2.length, asgTs_n e, hn], φ, ρ, μ, ds, ρ', R, h2, e, q⟩

/-! ### what is walked -/
/-- the iterator yields these, whatever else happens meanwhile -/
structure ItOk (ε : Ev) (φ : List Addr) (H : Hp) (ds : List D) (J : It) : Prop where
  go : ∀ H1, Grow H H1 → ∀ (i : Nat) (d : D), ds[i]? = some d → J.go i H1 ∧ ∀ x H2, J.yld i H1 x H2 → Ex H1 H2 ∧ Enc ε φ H2 x d
  stop : ∀ H1, Grow H H1 → J.stop ds.length H1
def SrOk (ε : Ev) (φ : List Addr) (H : Hp) : Sr → It → Prop
  | .items ds, J => ItOk ε φ H ds J
  | .cel n, J => ∃ a, φ[n]? = some a ∧ J = Itl ε.K a
def rdS (ε : Ev) (Γ : Env2) (s : Src) : TI := fun σ H R => ∃ φ ρ μ sr μ', Rel ε φ ρ μ σ H ∧ evSrc Γ s ρ μ = some (sr, μ') ∧ ∀ φ' J H', Res ε φ H φ' μ' H' → SrOk ε φ' H' sr J → R J H'
theorem PI.imp {tg e : Expr} {t t' : TI} (h : PI X tg e t) (k : ∀ σ H Q, t' σ H Q → t σ H Q) : PI X tg e t' := ⟨fun pins s σ H Q I q => h.run pins s σ H Q I (k σ H Q q)⟩
theorem PI.or {tg e : Expr} {t t' : TI} (h : PI X tg e t) (k : PI X tg e t') : PI X tg e (fun σ H Q => t σ H Q ∨ t' σ H Q) := ⟨fun pins s σ H Q I q => q.elim (fun q => h.run pins s σ H Q I q) fun q => k.run pins s σ H Q I q⟩
theorem it_list {a : Addr} {vs : List V} {ds : List D} (h : FzL ε.K H a vs) (hl : EncL ε φ H vs ds) : ItOk ε φ H ds (Itl ε.K a) := by
  refine ⟨fun H1 g i d e => ?_, fun H1 g => ⟨vs, (FzL.grow g h).rd.sq, by rw [hl.length]; exact Nat.le_refl _⟩⟩
  have hl1 := hl.grow g
  obtain ⟨v, h1, h2⟩ := hl1.get e
  have q : SqL ε.K H1 a vs := (FzL.grow g h).rd.sq
  refine ⟨⟨vs, v, q, h1⟩, fun x H2 ⟨e2, y⟩ => ?_⟩
  subst e2
  have := y vs q
  rw [h1] at this; cases this
  exact ⟨.refl, h2⟩
theorem it_tup {a : Addr} {vs : List V} {ds : List D} (h : SqT ε.K H a vs) (hl : EncL ε φ H vs ds) : ItOk ε φ H ds (Itt ε.K a) := by
  refine ⟨fun H1 g i d e => ?_, fun H1 g => ⟨vs, SqT.grow g h, by rw [hl.length]; exact Nat.le_refl _⟩⟩
  have hl1 := hl.grow g
  obtain ⟨v, h1, h2⟩ := hl1.get e
  have q := SqT.grow g h
  refine ⟨⟨vs, v, q, h1⟩, fun x H2 ⟨e2, y⟩ => ?_⟩
  subst e2
  have := y vs q
  rw [h1] at this; cases this
  exact ⟨.refl, h2⟩
theorem it_str {z : Str} : ItOk ε φ H (z.cps.toList.map fun c => D.str ⟨#[c]⟩) (Its z) := by
  refine ⟨fun H1 g i d e => ?_, fun H1 g => by show z.cps.size ≤ _; simp⟩
  rw [List.getElem?_map] at e
  cases ec : z.cps.toList[i]? with
  | none => rw [ec] at e; cases e
  | some c =>
    rw [ec] at e; cases e
    have hi := (List.getElem?_eq_some_iff.mp ec).1
    refine ⟨by show i < z.cps.size; simpa using hi, fun x H2 ⟨e2, c', e3, e4⟩ => ?_⟩
    subst e2; subst e4
    have : z.cps[i]? = some c := by simpa using ec
    rw [this] at e3; cases e3
    exact ⟨.refl, .str _⟩
theorem it_range {lo : Int} {n : Nat} : ItOk ε φ H (rangeD lo n) (Itr lo n) := by
  refine ⟨fun H1 g i d e => ?_, fun H1 g => by show n ≤ _; simp [rangeD]⟩
  unfold rangeD at e
  rw [List.getElem?_map] at e
  cases ec : (List.range n)[i]? with
  | none => rw [ec] at e; cases e
  | some k =>
    rw [ec] at e; cases e
    have hi := (List.getElem?_eq_some_iff.mp ec).1
    rw [List.length_range] at hi
    have hk : k = i := by
      rw [List.getElem?_range hi] at ec; cases ec; rfl
    subst hk
    refine ⟨hi, fun x H2 ⟨e2, e3⟩ => ?_⟩
    subst e2; subst e3
    exact ⟨.refl, .int _⟩
theorem ss_it (C : CxOk ε T Γ S X) {tg e : Expr} {ie : IE} (h : PE X e (rdE ε Γ ie)) : PI X tg e (rdS ε Γ (.it ie)) := by
  refine PI.imp (FH.PI.or (pi_list h) (FH.PI.or (pi_tup h) (pi_str h))) fun σ H R ⟨φ, ρ, μ, sr, μ', Rl, e, q⟩ => ?_
  simp only [evSrc, Option.bind_eq_some_iff, Option.map_eq_some_iff] at e
  obtain ⟨⟨x, μ1⟩, e1, ds, e2, e3⟩ := e
  cases e3
  cases x <;> (first | (exfalso; simp [itemsD] at e2; done) | skip)
  · cases e2
    exact .inr (.inr ⟨φ, ρ, μ, _, _, Rl, e1, fun φ1 v H1 x1 y1 => by cases y1; exact ⟨_, rfl, q φ1 _ H1 x1 it_str⟩⟩)
  · cases e2
    refine .inr (.inl ⟨φ, ρ, μ, _, _, Rl, e1, fun φ1 v H1 x1 y1 => ?_⟩)
    cases y1 with
    | tup h1 h2 => exact ⟨_, rfl, ⟨_, by rw [← C.K]; exact h1⟩, q φ1 _ H1 x1 (by rw [← C.K]; exact it_tup h1 h2)⟩
  · cases e2
    refine .inl ⟨φ, ρ, μ, _, _, Rl, e1, fun φ1 v H1 x1 y1 => ?_⟩
    cases y1 with
    | lst h1 h2 => exact ⟨_, rfl, ⟨_, (C.K ▸ h1.rd.sq)⟩, q φ1 _ H1 x1 (by rw [← C.K]; exact it_list h1 h2)⟩
theorem ss_cel (C : CxOk ε T Γ S X) {tg e : Expr} {ie : IE} (h : PE X e (rdE ε Γ ie)) : PI X tg e (rdS ε Γ (.cel ie)) := by
  refine PI.imp (pi_list h) fun σ H R ⟨φ, ρ, μ, sr, μ', Rl, e, q⟩ => ?_
  simp only [evSrc, Option.bind_eq_some_iff] at e
  obtain ⟨⟨x, μ1⟩, e1, e2⟩ := e
  refine ⟨φ, ρ, μ, x, μ1, Rl, e1, fun φ1 v H1 x1 y1 => ?_⟩
  split at e2
  · rename_i n hx
    obtain rfl : x = .ref n := hx
    split at e2
    · rename_i ds en
      cases e2
      cases y1 with
      | ref hn =>
        have c := x1.sto.at_ n _ _ hn en
        cases c with
        | lst c1 c2 => exact ⟨_, rfl, ⟨_, SqL.of c1⟩, q φ1 _ H1 x1 (by rw [← C.K]; exact ⟨_, hn, rfl⟩)⟩
    · cases e2
  · cases e2
theorem ss_range1 (C : CxOk ε T Γ S X) {tg a : Expr} {ia : IE} {xp pos : Pos} (hg : glB S.sc "range" = true) (ht : T.look "range" = .no) (ha : PE X a (rdE ε Γ ia)) (ok : okE a = true) : PI X tg (.Call (.Name "range" xp) [a] [] pos) (rdS ε Γ (.range1 ia)) := by
  have g := C.gl "range"
  rw [ht] at g
  refine PI.imp (pi_range1 (glB_ok C hg) g (pa_cons ha pa_nil (star_cons ok)) (star_cons ok)) fun σ H R ⟨φ, ρ, μ, sr, μ', Rl, e, q⟩ => ?_
  simp only [evSrc, Option.bind_eq_some_iff] at e
  obtain ⟨⟨x, μ1⟩, e1, e2⟩ := e
  refine ⟨φ, ρ, μ, x, μ1, Rl, e1, fun φ1 v H1 x1 y1 => ?_⟩
  split at e2
  · rename_i j hx
    obtain rfl : x = .int j := hx
    split at e2
    · rename_i hz
      cases e2
      cases y1
      exact ⟨j, rfl, hz.1, hz.2, q φ1 _ H1 x1 it_range⟩
    · cases e2
  · cases e2
theorem ss_range2 (C : CxOk ε T Γ S X) {tg a b : Expr} {ia ib : IE} {xp pos : Pos} (hg : glB S.sc "range" = true) (ht : T.look "range" = .no) (ha : PE X a (rdE ε Γ ia)) (hb : PE X b (rdE ε Γ ib)) (ok : okE a = true) (ok2 : okE b = true) :
    PI X tg (.Call (.Name "range" xp) [a, b] [] pos) (rdS ε Γ (.range2 ia ib)) := by
  have g := C.gl "range"
  rw [ht] at g
  have st2 : starEach [b] X.env = [(false, eval b X.env)] := star_cons ok2
  have st1 : starEach [a, b] X.env = [(false, eval a X.env), (false, eval b X.env)] := by rw [star_cons ok, st2]
  refine PI.imp (pi_range2 (glB_ok C hg) g (pa_cons ha (pa_cons hb pa_nil (star_cons ok2)) (star_cons ok)) st1 st2) fun σ H R ⟨φ, ρ, μ, sr, μ', Rl, e, q⟩ => ?_
  simp only [evSrc, Option.bind_eq_some_iff] at e
  obtain ⟨⟨x, μ1⟩, e1, ⟨y, μ2⟩, e2, e3⟩ := e
  refine ⟨φ, ρ, μ, x, μ1, Rl, e1, fun φ1 v H1 x1 y1 => ⟨φ1, ρ, μ1, y, μ2, Rl.step x1, e2, fun φ2 w H2 x2 y2 => ?_⟩⟩
  split at e3
  · rename_i i j hx hy
    obtain rfl : x = .int i := hx
    obtain rfl : y = .int j := hy
    split at e3
    · rename_i hz
      cases e3
      cases y1
      cases y2
      exact ⟨i, j, rfl, hz, q φ2 _ H2 (x1.trans x2) it_range⟩
    · cases e3
  · cases e3
theorem ss_enum (C : CxOk ε T Γ S X) {a : Expr} {ia : IE} {xp pos tpos : Pos} {elts : List Expr} {kk : Nat} (hg : glB S.sc "enumerate" = true) (ht : T.look "enumerate" = .no) (ha : PE X a (rdE ε Γ ia)) (ok : okE a = true) :
    PI X (.Tuple elts kk tpos) (.Call (.Name "enumerate" xp) [a] [] pos) (rdS ε Γ (.enum ia)) := by
  have g := C.gl "enumerate"
  rw [ht] at g
  refine PI.imp (pi_enum (glB_ok C hg) g (pa_cons ha pa_nil (star_cons ok)) (star_cons ok)) fun σ H R ⟨φ, ρ, μ, sr, μ', Rl, e, q⟩ => ?_
  simp only [evSrc, Option.bind_eq_some_iff] at e
  obtain ⟨⟨x, μ1⟩, e1, e2⟩ := e
  refine ⟨φ, ρ, μ, x, μ1, Rl, e1, fun φ1 v H1 x1 y1 => ?_⟩
  split at e2
  · rename_i ds hx
    obtain rfl : x = .lst ds := hx
    cases e2
    cases y1 with
    | lst h1 h2 =>
      rename_i a vs
      refine ⟨_, vs, rfl, (C.K ▸ h1.rd.sq), q φ1 _ H1 x1 ?_⟩
      refine ⟨fun H2 gr i d e => ?_, fun H2 gr => ⟨vs, (C.K ▸ (FzL.grow gr h1).rd.sq), by simp [h2.length]⟩⟩
      rw [List.getElem?_map, List.getElem?_zipIdx] at e
      cases ed : ds[i]? with
      | none => rw [ed] at e; cases e
      | some c =>
        rw [ed] at e
        simp at e
        subst e
        obtain ⟨w, hw1, hw2⟩ := (h2.grow gr).get ed
        have hq : SqL X.K H2 a vs := (C.K ▸ (FzL.grow gr h1).rd.sq)
        refine ⟨⟨vs, w, hq, hw1⟩, fun z H3 ⟨p, y, e1, e2, e3, e4⟩ => ?_⟩
        subst e1; subst e3
        have := e4 vs hq
        rw [hw1] at this; cases this
        have gx : Ex H2 (upd H2 p (.tup [.int (i : Nat), w])) := Ex.new e2
        exact ⟨gx, .tup (SqT.of upd_same) (.cons (.int _) (.cons (hw2.grow gx.grow) .nil))⟩
  · cases e2
theorem zip2_get : ∀ {xs ys : List D} {i : Nat} {d : D}, (zip2 xs ys)[i]? = some d → ∃ x y, xs[i]? = some x ∧ ys[i]? = some y ∧ d = .tup [x, y]
  | [], _, i, d, h => by simp [zip2] at h
  | _ :: _, [], i, d, h => by simp [zip2] at h
  | x :: xs, y :: ys, 0, d, h => by simp [zip2] at h; exact ⟨x, y, rfl, rfl, h.symm⟩
  | x :: xs, y :: ys, i + 1, d, h => by
    simp only [zip2, List.getElem?_cons_succ] at h ⊢
    exact zip2_get h
theorem zip2_end : ∀ {xs ys : List D}, xs[(zip2 xs ys).length]? = none ∨ ys[(zip2 xs ys).length]? = none
  | [], _ => .inl (by simp [zip2])
  | _ :: _, [] => .inr (by simp [zip2])
  | x :: xs, y :: ys => by
    simp only [zip2, List.length_cons, List.getElem?_cons_succ]
    exact zip2_end
theorem zip3_get : ∀ {xs ys zs : List D} {i : Nat} {d : D}, (zip3 xs ys zs)[i]? = some d → ∃ x y z, xs[i]? = some x ∧ ys[i]? = some y ∧ zs[i]? = some z ∧ d = .tup [x, y, z]
  | [], _, _, i, d, h => by simp [zip3] at h
  | _ :: _, [], _, i, d, h => by simp [zip3] at h
  | _ :: _, _ :: _, [], i, d, h => by simp [zip3] at h
  | x :: xs, y :: ys, z :: zs, 0, d, h => by simp [zip3] at h; exact ⟨x, y, z, rfl, rfl, rfl, h.symm⟩
  | x :: xs, y :: ys, z :: zs, i + 1, d, h => by
    simp only [zip3, List.getElem?_cons_succ] at h ⊢
    exact zip3_get h
theorem zip3_end : ∀ {xs ys zs : List D}, xs[(zip3 xs ys zs).length]? = none ∨ ys[(zip3 xs ys zs).length]? = none ∨ zs[(zip3 xs ys zs).length]? = none
  | [], _, _ => .inl (by simp [zip3])
  | _ :: _, [], _ => .inr (.inl (by simp [zip3]))
  | _ :: _, _ :: _, [] => .inr (.inr (by simp [zip3]))
  | x :: xs, y :: ys, z :: zs => by
    simp only [zip3, List.length_cons, List.getElem?_cons_succ]
    exact zip3_end
theorem seqD_sq {φ : List Addr} {H : Hp} {d : D} {v : V} {ds : List D} (h : Enc ε φ H v d) (e : seqD d = some ds) :
    ∃ (s : Bool × Addr) (vs : List V), v = .ref s.2 ∧ EncL ε φ H vs ds ∧ ∀ H1, Grow H H1 → Zp.SqB ε.K H1 s vs := by
  cases h with
  | tup h1 h2 => cases e; exact ⟨(false, _), _, rfl, h2, fun H1 g => SqT.grow g h1⟩
  | lst h1 h2 => cases e; exact ⟨(true, _), _, rfl, h2, fun H1 g => (FzL.grow g h1).rd.sq⟩
  | _ => cases e
theorem ss_zip (C : CxOk ε T Γ S X) {a b : Expr} {es : List Expr} {ies : IEs} {xp pos tpos : Pos} {elts : List Expr} {kk : Nat} (hg : glB S.sc "zip" = true) (ht : T.look "zip" = .no) (ha : PA X (a :: b :: es) (rdA ε Γ ies)) (ok : okE a = true) (ok2 : (b :: es).all okE = true) :
    PI X (.Tuple elts kk tpos) (.Call (.Name "zip" xp) (a :: b :: es) [] pos) (rdS ε Γ (.zip ies)) := by
  have g := C.gl "zip"
  rw [ht] at g
  refine PI.imp (Zp.pi_zipN (glB_ok C hg) g ha (star_cons ok) (star_plain ok2)) fun σ H R ⟨φ, ρ, μ, sr, μ', Rl, e, q⟩ => ?_
  simp only [evSrc, Option.bind_eq_some_iff, Option.map_eq_some_iff] at e
  obtain ⟨⟨xs, μ1⟩, e1, ds, e2, e3⟩ := e
  cases e3
  refine ⟨φ, ρ, μ, xs, _, Rl, e1, fun φ1 vs H1 x1 y1 => ?_⟩
  change zipD xs = some ds at e2
  unfold zipD at e2
  split at e2
  · split at e2
    · rename_i ds1 ds2 h1 h2
      cases e2
      cases y1 with
      | cons k1 t =>
        cases t with
        | cons k2 t =>
          cases t
          obtain ⟨s1, vs1, rfl, l1, m1⟩ := seqD_sq k1 h1
          obtain ⟨s2, vs2, rfl, l2, m2⟩ := seqD_sq k2 h2
          rw [C.K] at m1 m2
          refine ⟨[s1, s2], [vs1, vs2], rfl, .inl rfl, .cons (m1 _ .refl) (.cons (m2 _ .refl) .nil), q φ1 _ H1 x1 ⟨fun H2 gr i d e => ?_, fun H2 gr => ⟨[vs1, vs2], .cons (C.K ▸ m1 _ gr) (.cons (C.K ▸ m2 _ gr) .nil), ?_⟩⟩⟩
          · obtain ⟨x, y, hx, hy, rfl⟩ := zip2_get e
            obtain ⟨w1, a1, a2⟩ := (l1.grow gr).get hx
            obtain ⟨w2, b1, b2⟩ := (l2.grow gr).get hy
            have hX : Zp.SqBs X.K H2 [s1, s2] [vs1, vs2] := .cons (m1 _ gr) (.cons (m2 _ gr) .nil)
            refine ⟨⟨[vs1, vs2], [w1, w2], hX, by simp [a1, b1]⟩, fun z H4 ⟨T, ys, e1, e2, e3, e4⟩ => ?_⟩
            have := e4 _ hX
            simp only [List.map_cons, List.map_nil, a1, b1] at this
            have hys : ys = [w1, w2] := by
              match ys, this with
              | [u1, u2], this => simp at this; rw [this.1, this.2]
            subst hys; subst e1; subst e3
            have gx : Ex H2 (upd H2 T (.tup [w1, w2])) := Ex.new e2
            exact ⟨gx, .tup (SqT.of upd_same) (.cons (a2.grow gx.grow) (.cons (b2.grow gx.grow) .nil))⟩
          · rcases zip2_end (xs := ds1) (ys := ds2) with h | h
            · exact ⟨vs1, by simp, by rw [List.getElem?_eq_none_iff] at h ⊢; rw [l1.length]; exact h⟩
            · exact ⟨vs2, by simp, by rw [List.getElem?_eq_none_iff] at h ⊢; rw [l2.length]; exact h⟩
    · cases e2
  · split at e2
    · rename_i ds1 ds2 ds3 h1 h2 h3
      cases e2
      cases y1 with
      | cons k1 t =>
        cases t with
        | cons k2 t =>
          cases t with
          | cons k3 t =>
            cases t
            obtain ⟨s1, vs1, rfl, l1, m1⟩ := seqD_sq k1 h1
            obtain ⟨s2, vs2, rfl, l2, m2⟩ := seqD_sq k2 h2
            obtain ⟨s3, vs3, rfl, l3, m3⟩ := seqD_sq k3 h3
            rw [C.K] at m1 m2 m3
            refine ⟨[s1, s2, s3], [vs1, vs2, vs3], rfl, .inr rfl, .cons (m1 _ .refl) (.cons (m2 _ .refl) (.cons (m3 _ .refl) .nil)), q φ1 _ H1 x1 ⟨fun H2 gr i d e => ?_, fun H2 gr => ⟨[vs1, vs2, vs3], .cons (C.K ▸ m1 _ gr) (.cons (C.K ▸ m2 _ gr) (.cons (C.K ▸ m3 _ gr) .nil)), ?_⟩⟩⟩
            · obtain ⟨x, y, z, hx, hy, hz, rfl⟩ := zip3_get e
              obtain ⟨w1, a1, a2⟩ := (l1.grow gr).get hx
              obtain ⟨w2, b1, b2⟩ := (l2.grow gr).get hy
              obtain ⟨w3, c1, c2⟩ := (l3.grow gr).get hz
              have hX : Zp.SqBs X.K H2 [s1, s2, s3] [vs1, vs2, vs3] := .cons (m1 _ gr) (.cons (m2 _ gr) (.cons (m3 _ gr) .nil))
              refine ⟨⟨[vs1, vs2, vs3], [w1, w2, w3], hX, by simp [a1, b1, c1]⟩, fun z H4 ⟨T, ys, e1, e2, e3, e4⟩ => ?_⟩
              have := e4 _ hX
              simp only [List.map_cons, List.map_nil, a1, b1, c1] at this
              have hys : ys = [w1, w2, w3] := by
                match ys, this with
                | [u1, u2, u3], this => simp at this; rw [this.1, this.2.1, this.2.2]
              subst hys; subst e1; subst e3
              have gx : Ex H2 (upd H2 T (.tup [w1, w2, w3])) := Ex.new e2
              exact ⟨gx, .tup (SqT.of upd_same) (.cons (a2.grow gx.grow) (.cons (b2.grow gx.grow) (.cons (c2.grow gx.grow) .nil)))⟩
            · rcases zip3_end (xs := ds1) (ys := ds2) (zs := ds3) with h | h | h
              · exact ⟨vs1, by simp, by rw [List.getElem?_eq_none_iff] at h ⊢; rw [l1.length]; exact h⟩
              · exact ⟨vs2, by simp, by rw [List.getElem?_eq_none_iff] at h ⊢; rw [l2.length]; exact h⟩
              · exact ⟨vs3, by simp, by rw [List.getElem?_eq_none_iff] at h ⊢; rw [l3.length]; exact h⟩
    · cases e2
  · cases e2
end
end FH
end
section
/-! FH8: comprehensions. -/
namespace FH
open PySem PySem.Spec PyProof.Rows L2
section
variable {ε : Ev} {T : Tab} {Γ : Env2} {S : SC} {X : Cx}
theorem wipe_get {σ : L2.St} {i : Nat} : ∀ {vs : List Nat}, (L2.wipe σ vs)[i]? = if i ∈ vs then (if i < σ.length then some none else none) else σ[i]?
  | [] => by simp [L2.wipe]
  | v :: vs => by
    have ih := @wipe_get σ i vs
    unfold L2.wipe
    by_cases h : v = i
    · subst h
      rw [List.getElem?_set_self']
      rw [if_pos List.mem_cons_self]
      have hl := L2.wipe_length σ vs
      by_cases hv : v < σ.length
      · rw [if_pos hv]
        have : v < (L2.wipe σ vs).length := by omega
        simp [this]
      · rw [if_neg hv]
        simp; omega
    · rw [List.getElem?_set_ne h, ih]
      by_cases hm : i ∈ vs
      · rw [if_pos hm, if_pos (List.mem_cons_of_mem _ hm)]
      · rw [if_neg hm, if_neg (by simp only [List.mem_cons, not_or]; exact ⟨fun e => h e.symm, hm⟩)]
theorem wipe_out {σ σ' : L2.St} {is vs : List Nat} (h : Out is (L2.wipe σ vs) σ') (sub : ∀ i ∈ is, i ∈ vs) : L2.wipe σ' vs = L2.wipe σ vs := by
  apply List.ext_getElem?
  intro i
  have hl := h.len
  rw [L2.wipe_length] at hl
  rw [wipe_get, wipe_get, hl]
  by_cases hm : i ∈ vs
  · rw [if_pos hm, if_pos hm]
  · rw [if_neg hm, if_neg hm, h.out i (fun z => hm (sub i z)), wipe_get, if_neg hm]
def rdC (ε : Ev) (Γ : Env2) (c : IO) : TT := fun σ H Q => ∃ φ ρ μ k μ', Rel ε φ ρ μ σ H ∧ evC Γ c ρ μ = some (k, μ') ∧ ∀ φ' H', Res ε φ H φ' μ' H' → Q k H'
theorem PTs.imp {e : List Expr} {t t' : TT} (h : PTs X e t) (k : ∀ σ H Q, t' σ H Q → t σ H Q) : PTs X e t' := ⟨fun pins s σ H Q I q => h.run pins s σ H Q I (k σ H Q q)⟩
theorem sc_no : PTs X [] (rdC ε Γ .no) := PTs.imp pts_nil fun σ H Q ⟨φ, ρ, μ, k, μ', R, e, q⟩ => by cases e; exact q φ H (.refl R.sto)
theorem sc_som {e : Expr} {ie : IE} (h : PT X e (rdT ε Γ ie)) : PTs X [e] (rdC ε Γ (.som ie)) := PTs.imp (pts_one h) fun σ H Q ⟨φ, ρ, μ, k, μ', R, e, q⟩ => by
  simp only [evC, Option.bind_eq_some_iff, Option.map_eq_some_iff] at e
  obtain ⟨⟨d, μ1⟩, e1, b, e2, e3⟩ := e
  cases e3
  exact ⟨φ, ρ, μ, d, _, k, R, e1, e2, q⟩
/-- the list that grows is written -/
theorem grow_lst {H : Hp} {D : Addr} {xs ys : List V} (h : H D = some (.lst xs)) : Grow H (upd H D (.lst ys)) :=
  ⟨fun b zs e => by rw [upd_ne (fun z => by rw [z, h] at e; cases e)]; exact e, fun b q u e => by rw [upd_ne (fun z => by rw [z, h] at e; cases e)]; exact e⟩
theorem Res.upd {φ φ' : List Addr} {H H' : Hp} {μ' : Store} {D : Addr} {xs ys : List V} (x : Res ε φ H φ' μ' H') (h : H' D = some (.lst xs)) (out : D ∉ φ') (free : H D = none) : Res ε φ H φ' μ' (L2.upd H' D (.lst ys)) := by
  have ne : ∀ b u, H b = some u → b ≠ D := fun b u e z => by rw [z, free] at e; cases e
  have g := grow_lst (ys := ys) h
  obtain ⟨⟨⟨p2, e2, f2⟩, gr, kp, th⟩, S⟩ := x
  refine ⟨⟨⟨p2, e2, f2⟩, gr.trans g, fun b u e nb => ?_, fun b e z => ?_⟩, ⟨S.len, S.nd, fun m a c e1 e2 => ?_⟩⟩
  · rw [upd_ne (ne b u e)]; exact kp b u e nb
  · by_cases hb : b = D
    · rw [hb, upd_same] at z; cases z
    · rw [upd_ne hb] at z; exact th b e z
  · have q := (S.at_ m a c e1 e2).mono [] g fun u e => by rw [upd_ne (fun z => out (by rw [← z]; exact List.mem_of_getElem? e1))]; exact e
    rwa [List.append_nil] at q
theorem Res.outs {φ φ' : List Addr} {H H' : Hp} {μ' : Store} {D : Addr} {o : HO} (x : Res ε φ H φ' μ' H') (h : H D = some o) (out : D ∉ φ) : D ∉ φ' ∧ H' D = some o := by
  refine ⟨fun z => ?_, x.ext.keep D o h out⟩
  obtain ⟨p2, rfl, f2⟩ := x.ext.more
  rcases List.mem_append.mp z with z | z
  · exact out z
  · rw [f2 D z] at h; cases h
def consO : Option D → List D → List D
  | some y, zs => y :: zs
  | none, zs => zs
def snocO : Option D → List D → List D
  | some y, a => a ++ [y]
  | none, a => a
/-- one turn of a comprehension -/
def turnC (Γ : Env2) (g : Tg) (ρ0 : Slots) (c : IO) (e : IE) : D → Store → Option (Option D × Store) := fun x μ => (asgT g x ρ0).bind fun ρ' => (evC Γ c ρ' μ).bind fun k =>
  if k.1 then (evE Γ e ρ' k.2).map fun q => (some q.1, q.2) else some (none, k.2)
theorem turn_read {g : Tg} {own : List (Str × Nat)} {c : IO} {e : IE} (sub : ∀ i ∈ tgI g, i ∈ own.map (·.2)) {φ φi : List Addr} {H Hi H' : Hp} {ρ : Slots} {μ μi μ2 : Store} {σ : L2.St} {d : D} {o : Option D} {x : V} {D : Addr} {accV : List V} {accD : List FH.D} {Nx : Hp → Prop}
    (R : Rel ε φ ρ μ σ H) (xi : Res ε φ H φi μi Hi) (free : H D = none) (hD : Hi D = some (.lst accV)) (out : D ∉ φi) (hacc : EncL ε φi Hi accV accD) (hl : accD.length < sizeLine) (hx : Ex Hi H') (hv : Enc ε φi H' x d)
    (ht : turnC Γ g (wipeS ρ (own.map (·.2))) c e d μi = some (o, μ2))
    (nx : ∀ φ4 H4 accV4, Res ε φ H φ4 μ2 H4 → Grow Hi H4 → H4 D = some (.lst accV4) → D ∉ φ4 → (∃ p2, φ4 = φi ++ p2) → EncL ε φ4 H4 accV4 (snocO o accD) → Nx H4) :
    rdG ε g x (L2.wipe σ (own.map (·.2))) H' fun σ2 H2 => L2.wipe σ2 (own.map (·.2)) = L2.wipe σ (own.map (·.2)) ∧ rdC ε Γ c σ2 H2 fun b H3 =>
      if b = true then rdE ε Γ e σ2 H3 fun y H4 => ∃ acc, H4 D = some (.lst acc) ∧ acc.length < sizeLine ∧ Nx (upd H4 D (.lst (acc ++ [y]))) else Nx H3 := by
  unfold turnC at ht
  simp only [Option.bind_eq_some_iff] at ht
  obtain ⟨ρ', e1, ⟨k, μ3⟩, e2, e3⟩ := ht
  have x0 : Res ε φi Hi φi μi H' := .ex xi.sto hx
  refine ⟨φi, _, μi, d, ρ', ((R.step xi).step x0).wipe _, hv, e1, fun σ2 R2 o2 w2 => ⟨wipe_out o2 sub, φi, ρ', μi, k, μ3, R2, e2, fun φ3 H3 x3 => ?_⟩⟩
  have hD' : H' D = some (.lst accV) := hx D _ hD
  obtain ⟨out3, hD3⟩ := x3.outs hD' out
  have xx := (xi.trans x0).trans x3
  have g3 : Grow Hi H3 := hx.grow.trans x3.ext.grow
  cases k with
  | false =>
    simp at e3
    obtain ⟨rfl, rfl⟩ := e3
    simp only [Bool.false_eq_true, if_false]
    exact nx φ3 H3 accV xx g3 hD3 out3 (x3.ext.more.imp fun _ h => h.1) ((x0.trans x3).ext.encL hacc)
  | true =>
    simp only [if_true, Option.map_eq_some_iff] at e3
    obtain ⟨⟨y, μ4⟩, e4, e5⟩ := e3
    cases e5
    simp only [if_true]
    refine ⟨φ3, ρ', μ3, y, _, R2.step x3, e4, fun φ4 v H4 x4 y4 => ⟨accV, ?_, ?_, ?_⟩⟩
    · exact (x4.outs hD3 out3).2
    · rw [hacc.length]; exact hl
    · obtain ⟨out4, hD4⟩ := x4.outs hD3 out3
      have g4 := grow_lst (ys := accV ++ [v]) hD4
      have ha : EncL ε φ4 H4 (accV ++ [v]) (accD ++ [y]) := ((x0.trans x3).trans x4).ext.encL hacc |>.app (.cons y4 .nil)
      exact nx φ4 _ _ ((xx.trans x4).upd hD4 out4 free) ((g3.trans x4.ext.grow).trans g4) upd_same out4 (by
        obtain ⟨p3, rfl, _⟩ := x3.ext.more
        obtain ⟨p4, rfl, _⟩ := x4.ext.more
        exact ⟨p3 ++ p4, by rw [List.append_assoc]⟩) (ha.grow g4)
theorem loopC_cons {f : D → Store → Option (Option D × Store)} {x : D} {xs ys : List D} {μ μ' : Store} (h : loopC f (x :: xs) μ = some (ys, μ')) :
    ∃ o μ1 zs, f x μ = some (o, μ1) ∧ loopC f xs μ1 = some (zs, μ') ∧ ys = consO o zs := by
  simp only [loopC, Option.bind_eq_some_iff] at h
  obtain ⟨⟨o, μ1⟩, e1, ⟨zs, μ2⟩, e2, e3⟩ := h
  cases e3
  exact ⟨o, μ1, zs, e1, e2, by cases o <;> rfl⟩
theorem acc_next {o : Option D} {a zs ds ys : List D} (h : a ++ ys = ds) (hy : ys = consO o zs) : snocO o a ++ zs = ds := by
  subst hy
  cases o with
  | none => exact h
  | some y => simpa [snocO, consO] using h
theorem acc_len {o : Option D} {a : List D} {i : Nat} (h : a.length ≤ i) : (snocO o a).length ≤ i + 1 := by
  cases o with
  | none => exact Nat.le_succ_of_le h
  | some y => simpa [snocO] using h
theorem comp_read {g : Tg} {own : List (Str × Nat)} {s : Src} {c : IO} {e : IE} (sub : ∀ i ∈ tgI g, i ∈ own.map (·.2)) {σ : L2.St} {H : Hp} {Q : VK} (h : rdF ε Γ (.comp g own s c e) σ H Q) :
    tLc (rdS ε Γ s) (rdG ε g) (rdC ε Γ c) (rdE ε Γ e) (own.map (·.2)) σ H Q := by
  obtain ⟨φ, ρ, μ, ds, μ', R, ev, q⟩ := h
  simp only [evF, Option.bind_eq_some_iff] at ev
  obtain ⟨⟨sr, μ1⟩, e1, e2⟩ := ev
  refine ⟨φ, ρ, μ, sr, μ1, R, e1, fun φ1 J H1 x1 hJ D hD => ?_⟩
  have free : H D = none := by
    cases ed : H D with
    | none => rfl
    | some o => exact absurd hD (x1.ext.there D (by rw [ed]; simp))
  have out1 : D ∉ φ1 := fun z => by
    obtain ⟨o, eo⟩ := x1.sto.there z
    rw [hD] at eo; cases eo
  have g0 : Ex H1 (upd H1 D (.lst [])) := Ex.new hD
  cases sr with
  | items its =>
    simp only at e2
    split at e2
    · rename_i hz
      have e2 : loopC (turnC Γ g (wipeS ρ (own.map (·.2))) c e) its μ1 = some (ds, μ') := e2
      refine ⟨fun i m Hi => m = its.length - i ∧ i ≤ its.length ∧ ∃ φi μi accV accD restD, loopC (turnC Γ g (wipeS ρ (own.map (·.2))) c e) (its.drop i) μi = some (restD, μ') ∧ accD ++ restD = ds ∧ accD.length ≤ i ∧
        Res ε φ H φi μi Hi ∧ Grow H1 Hi ∧ Hi D = some (.lst accV) ∧ D ∉ φi ∧ EncL ε φi Hi accV accD ∧ ∃ p2, φi = φ1 ++ p2,
        ⟨its.length, by simp, Nat.zero_le _, φ1, μ1, [], [], ds, by simpa using e2, rfl, Nat.le_refl _, x1.trans (.ex x1.sto g0), g0.grow, upd_same, out1, .nil, [], by simp⟩, ?_⟩
      rintro i m Hi ⟨rfl, hi, φi, μi, accV, accD, restD, el, ea, hl, xi, gi, hDi, oi, hacc, p2, hp⟩
      by_cases hlt : i < its.length
      · obtain ⟨d, ed⟩ : ∃ d, its[i]? = some d := ⟨its[i], by simp [hlt]⟩
        obtain ⟨hgo, hy⟩ := hJ.go Hi gi i d ed
        have edrop : its.drop i = d :: its.drop (i + 1) := by
          rw [List.drop_eq_getElem_cons hlt]
          have : its[i] = d := by simpa [hlt] using ed
          rw [this]
        rw [edrop] at el
        obtain ⟨o, μ2, zs, f1, f2, f3⟩ := loopC_cons el
        refine .inr ⟨hgo, fun H' => its.length - (i + 1) = its.length - (i + 1) ∧ i + 1 ≤ its.length ∧ ∃ φi μi accV accD restD, loopC (turnC Γ g (wipeS ρ (own.map (·.2))) c e) (its.drop (i + 1)) μi = some (restD, μ') ∧ accD ++ restD = ds ∧ accD.length ≤ i + 1 ∧
          Res ε φ H φi μi H' ∧ Grow H1 H' ∧ H' D = some (.lst accV) ∧ D ∉ φi ∧ EncL ε φi H' accV accD ∧ ∃ p2, φi = φ1 ++ p2, fun H' w => ⟨_, by omega, w⟩, fun x H' yl => ?_⟩
        obtain ⟨hx, hv⟩ := hy x H' yl
        refine turn_read sub R xi free hDi oi hacc (by omega) hx (by rw [hp]; exact hv.mono p2 .refl) f1 fun φ4 H4 accV4 x4 g4 hD4 o4 hp4 ha4 => ?_
        obtain ⟨p4, hp4⟩ := hp4
        exact ⟨rfl, hlt, φ4, μ2, accV4, _, zs, f2, acc_next ea f3, acc_len hl, x4, gi.trans g4, hD4, o4, ha4, p2 ++ p4, by rw [hp4, hp, List.append_assoc]⟩
      · have hi' : i = its.length := by omega
        subst hi'
        rw [List.drop_length] at el
        cases el
        rw [List.append_nil] at ea
        subst ea
        exact .inl ⟨hJ.stop Hi gi, q φi Hi D ⟨xi, free, oi, accV, hDi, hacc⟩⟩
    · cases e2
  | cel n =>
    have e2 : loopCC (turnC Γ g (wipeS ρ (own.map (·.2))) c e) n sizeLine 0 μ1 = some (ds, μ') := e2
    obtain ⟨a, hn, rfl⟩ := hJ
    refine ⟨fun i m Hi => m = sizeLine - i ∧ ∃ φi μi accV accD restD, loopCC (turnC Γ g (wipeS ρ (own.map (·.2))) c e) n (sizeLine - i) i μi = some (restD, μ') ∧ accD ++ restD = ds ∧ accD.length ≤ i ∧
      Res ε φ H φi μi Hi ∧ Hi D = some (.lst accV) ∧ D ∉ φi ∧ EncL ε φi Hi accV accD ∧ ∃ p2, φi = φ1 ++ p2,
      ⟨sizeLine, by simp, φ1, μ1, [], [], ds, by simpa using e2, rfl, Nat.le_refl _, x1.trans (.ex x1.sto g0), upd_same, out1, .nil, [], by simp⟩, ?_⟩
    rintro i m Hi ⟨rfl, φi, μi, accV, accD, restD, el, ea, hl, xi, hDi, oi, hacc, p2, hp⟩
    have hni : φi[n]? = some a := by rw [hp]; exact get_app hn
    cases hk : sizeLine - i with
    | zero => rw [hk] at el; cases el
    | succ k =>
      rw [hk] at el
      simp only [loopCC] at el
      split at el
      · rename_i es en
        have cel := xi.sto.at_ n a _ hni en
        cases cel with
        | lst c1 c2 =>
          rename_i vs
          split at el
          · rename_i ed
            cases el
            rw [List.append_nil] at ea
            subst ea
            have hv : vs[i]? = none := by
              have l := c2.length
              rw [List.getElem?_eq_none_iff] at ed ⊢
              omega
            exact .inl ⟨⟨vs, SqL.of c1, by rw [List.getElem?_eq_none_iff] at hv; exact hv⟩, q φi Hi D ⟨xi, free, oi, accV, hDi, hacc⟩⟩
          · rename_i d ed
            simp only [Option.bind_eq_some_iff] at el
            obtain ⟨⟨o, μ2⟩, f1, ⟨zs, μ3⟩, f2, f3⟩ := el
            obtain ⟨f5, f6⟩ := Prod.mk.inj (Option.some.inj f3)
            have f6 : μ3 = μ' := f6
            subst f6
            have f7 : restD = consO o zs := by rw [← f5]; cases o <;> rfl
            obtain ⟨v, hv, hvd⟩ := c2.get ed
            have hsk : sizeLine - (i + 1) = k := by omega
            refine .inr ⟨⟨vs, v, SqL.of c1, hv⟩, fun H' => k = sizeLine - (i + 1) ∧ ∃ φi μi accV accD restD, loopCC (turnC Γ g (wipeS ρ (own.map (·.2))) c e) n (sizeLine - (i + 1)) (i + 1) μi = some (restD, μ3) ∧ accD ++ restD = ds ∧ accD.length ≤ i + 1 ∧
              Res ε φ H φi μi H' ∧ H' D = some (.lst accV) ∧ D ∉ φi ∧ EncL ε φi H' accV accD ∧ ∃ p2, φi = φ1 ++ p2, fun H' w => ⟨_, by omega, w⟩, fun x H' yl => ?_⟩
            obtain ⟨rfl, yl⟩ := yl
            have hx := yl vs (SqL.of c1)
            rw [hv] at hx; cases hx
            refine turn_read sub R xi free hDi oi hacc (by omega) Ex.refl hvd f1 fun φ4 H4 accV4 x4 g4 hD4 o4 hp4 ha4 => ?_
            obtain ⟨p4, hp4⟩ := hp4
            exact ⟨hsk.symm, φ4, _, accV4, _, zs, by rw [hsk]; exact f2, acc_next ea f7, acc_len hl, x4, hD4, o4, ha4, p2 ++ p4, by rw [hp4, hp, List.append_assoc]⟩
      · cases el
def setB : Expr → Bool
  | .Set .. => false | _ => true
theorem folded_ok {e : Expr} {env : Env} (h : setB e = true) : ∀ x, foldedSetIterable e env x = pure x := fun x => by
  cases e <;> first | rfl | (simp [setB] at h)
/-- a block's names -/
def SC.inner (S : SC) (scope : Scope) : SC := ⟨S.N, relS scope S.sc, some scope⟩
theorem CxOk.inner (C : CxOk ε T Γ S X) (scope : Scope) (s : Shared) (H : Hp) (CC : Addr) (cl : List (Str × Addr)) (fp : List Addr) : CxOk ε T Γ (S.inner scope) (X.blk s H scope (compEnvC scope cl CC X.env) fp) where
  K := C.K
  P := C.P
  w := C.w
  N := C.N
  nd := C.nd
  sc := by
    show relS scope X.env.scope = relS scope S.sc
    rw [C.sc]
  calm := C.calm
  xe := rfl
  gd := C.gd
  hu := C.hu
  fn := fun x => rfl
  gl := C.gl
  fns := C.fns
  inits := C.inits
  cls := fun c I h => ⟨(C.cls c I h).cl, (C.cls c I h).meth, (C.cls c I h).fld, (C.cls c I h).made⟩
theorem sf_comp (C : CxOk ε T Γ S X) {elt tg iter : Expr} {ifs : List Expr} {scope : Scope} {own : List (Str × Nat)} {pos : Pos} {g : Tg} {s : Src} {c : IO} {e : IE} (hi : PI X tg iter (rdS ε Γ s)) (ok : blkC S.N S.sc scope own = true)
    (hg : ∀ Y, CxOk ε T Γ (S.inner scope) Y → PG Y tg (rdG ε g)) (ht : ∀ Y, CxOk ε T Γ (S.inner scope) Y → PTs Y ifs (rdC ε Γ c)) (he : ∀ Y, CxOk ε T Γ (S.inner scope) Y → PE Y elt (rdE ε Γ e))
    (sub : ∀ i ∈ tgI g, i ∈ own.map (·.2)) (hs : setB iter = true) : PE X (.ListComp elt [⟨tg, iter, ifs, 0⟩] scope pos) (rdF ε Γ (.comp g own s c e)) :=
  PE.imp (pe_lc C.calm (by rw [C.N]; exact C.nd) hi (by rw [C.N, C.sc]; exact blkOk_by ok) (fun s H CC cl fp => hg _ (C.inner scope s H CC cl fp)) (fun s H CC cl fp => ht _ (C.inner scope s H CC cl fp)) (fun s H CC cl fp => he _ (C.inner scope s H CC cl fp)) (folded_ok hs)) fun σ H Q h => comp_read sub h
end
end FH
end
section
/-! FH9: statements. -/
namespace FH
open PySem PySem.Spec PyProof.Rows L2
section
variable {ε : Ev} {T : Tab} {Γ : Env2} {S : SC} {X : Cx} {φ φ' φ'' : List Addr} {H H' H'' : Hp} {μ μ' μ'' : Store} {ρ ρ' ρ'' : Slots} {σ σ' σ'' : L2.St}
/-- how a statement leaves things -/
structure StP (ε : Ev) (φ : List Addr) (ρ : Slots) (σ : L2.St) (H : Hp) (φ' : List Addr) (ρ' : Slots) (μ' : Store) (σ' : L2.St) (H' : Hp) : Prop where
  rel : Rel ε φ' ρ' μ' σ' H'
  more : ∃ φ2, φ' = φ ++ φ2 ∧ ∀ b ∈ φ2, H b = none
  grow : Grow H H'
  there : ∀ b, H b ≠ none → H' b ≠ none
  keep : ∀ b o, H b = some o → b ∉ φ → b ∉ ownA ρ σ → H' b = some o
  own : ∀ a ∈ ownA ρ' σ', a ∈ ownA ρ σ ∨ H a = none
theorem StP.of (R : Rel ε φ ρ μ σ H) (x : Res ε φ H φ' μ' H') : StP ε φ ρ σ H φ' ρ μ' σ H' :=
  ⟨R.step x, x.ext.more, x.ext.grow, x.ext.there, fun b o e n _ => x.ext.keep b o e n, fun _ h => .inl h⟩
theorem StP.refl (R : Rel ε φ ρ μ σ H) : StP ε φ ρ σ H φ ρ μ σ H := .of R (.refl R.sto)
theorem StP.trans {ρ1 : Slots} {σ1 : L2.St} (a : StP ε φ ρ σ H φ' ρ1 μ' σ1 H') (b : StP ε φ' ρ1 σ1 H' φ'' ρ'' μ'' σ'' H'') : StP ε φ ρ σ H φ'' ρ'' μ'' σ'' H'' := by
  obtain ⟨p2, rfl, f2⟩ := a.more
  obtain ⟨p3, rfl, f3⟩ := b.more
  have fr : ∀ c, H' c = none → H c = none := fun c hc => by
    cases e : H c with
    | none => rfl
    | some o => exact absurd hc (a.there c (by rw [e]; simp))
  refine ⟨b.rel, ⟨p2 ++ p3, by simp, fun c hc => ?_⟩, a.grow.trans b.grow, fun c e => b.there c (a.there c e), fun c o e n m => ?_, fun c hc => ?_⟩
  · rcases List.mem_append.mp hc with h | h
    · exact f2 c h
    · exact fr c (f3 c h)
  · refine b.keep c o (a.keep c o e n m) (fun z => ?_) fun z => ?_
    · rcases List.mem_append.mp z with z | z
      · exact n z
      · rw [f2 c z] at e; cases e
    · rcases a.own c z with z | z
      · exact m z
      · rw [z] at e; cases e
  · rcases b.own c hc with h | h
    · exact a.own c h
    · exact .inr (fr c h)
theorem StP.slots {ρ1 : Slots} {σ1 : L2.St} (a : StP ε φ ρ σ H φ' ρ1 μ' σ1 H') (R : Rel ε φ' ρ' μ' σ' H') (w : OwnLe ρ1 σ1 ρ' σ') : StP ε φ ρ σ H φ' ρ' μ' σ' H' :=
  ⟨R, a.more, a.grow, a.there, a.keep, fun c hc => a.own c (w c hc)⟩
theorem StP.enc (x : StP ε φ ρ σ H φ' ρ' μ' σ' H') {v : V} {d : D} (h : Enc ε φ H v d) : Enc ε φ' H' v d := by
  obtain ⟨p2, rfl, _⟩ := x.more
  exact h.mono p2 x.grow
theorem StP.pre {φ' φ'' : List Addr} {μ' μ'' : Store} (R : Rel ε φ ρ μ σ H) (x : Res ε φ H φ' μ' H') (b : StP ε φ' ρ σ H' φ'' ρ'' μ'' σ'' H'') : StP ε φ ρ σ H φ'' ρ'' μ'' σ'' H'' := (StP.of R x).trans b

/-- what is wanted behind it -/
def EndP (ε : Ev) (φ : List Addr) (ρ : Slots) (σ : L2.St) (H : Hp) (D : Ends) (fl : Fl) (ρ' : Slots) (μ' : Store) : Prop :=
  ∀ φ' σ' H', StP ε φ ρ σ H φ' ρ' μ' σ' H' → match fl with
    | .nx => D.nx σ' H'
    | .brk => D.bk σ' H'
    | .ct => D.ct σ' H'
    | .ret d => ∀ v, Enc ε φ' H' v d → D.rt v H'
def rdSt (ε : Ev) (Γ : Env2) (i : IS) : TS := fun D σ H => ∃ φ ρ μ fl ρ' μ', Rel ε φ ρ μ σ H ∧ evS Γ i ρ μ = some (fl, ρ', μ') ∧ EndP ε φ ρ σ H D fl ρ' μ'
def rdSs (ε : Ev) (Γ : Env2) (i : ISs) : TS := fun D σ H => ∃ φ ρ μ fl ρ' μ', Rel ε φ ρ μ σ H ∧ evSs Γ i ρ μ = some (fl, ρ', μ') ∧ EndP ε φ ρ σ H D fl ρ' μ'
theorem EndP.pre {ρ1 : Slots} {μ1 : Store} {σ1 : L2.St} {D : Ends} {fl : Fl} (q : EndP ε φ ρ σ H D fl ρ' μ') (x : StP ε φ ρ σ H φ' ρ1 μ1 σ1 H') : EndP ε φ' ρ1 σ1 H' D fl ρ' μ' := by
  intro φ2 σ2 H2 y
  exact q φ2 σ2 H2 (x.trans y)
theorem PS.imp {e : Stmt} {t t' : TS} (h : PS X e t) (k : ∀ D σ H, t' D σ H → t D σ H) : PS X e t' := ⟨fun pins s σ H D I q => h.run pins s σ H D I (k D σ H q)⟩
theorem PSs.imp {e : List Stmt} {t t' : TS} (h : PSs X e t) (k : ∀ D σ H, t' D σ H → t D σ H) : PSs X e t' := ⟨fun pins s σ H D I q => h.run pins s σ H D I (k D σ H q)⟩
theorem ss_nil : PSs X [] (rdSs ε Γ .nil) := PSs.imp pss_nil fun D σ H ⟨φ, ρ, μ, fl, ρ', μ', R, e, q⟩ => by
  cases e; exact q φ σ H (.refl R)
theorem ss_cons {st : Stmt} {sts : List Stmt} {i : IS} {is : ISs} (h1 : PS X st (rdSt ε Γ i)) (h2 : PSs X sts (rdSs ε Γ is)) : PSs X (st :: sts) (rdSs ε Γ (.cons i is)) := by
  refine PSs.imp (pss_cons h1 h2) fun D σ H ⟨φ, ρ, μ, fl, ρ', μ', R, e, q⟩ => ?_
  simp only [evSs, Option.bind_eq_some_iff] at e
  obtain ⟨⟨fl1, ρ1, μ1⟩, e1, e2⟩ := e
  refine ⟨φ, ρ, μ, fl1, ρ1, μ1, R, e1, fun φ1 σ1 H1 x1 => ?_⟩
  cases fl1 with
  | nx => exact ⟨φ1, ρ1, μ1, fl, ρ', μ', x1.rel, e2, q.pre x1⟩
  | brk => cases e2; exact q φ1 σ1 H1 x1
  | ct => cases e2; exact q φ1 σ1 H1 x1
  | ret d => cases e2; exact q φ1 σ1 H1 x1
theorem st_pass {pos : Pos} : PS X (.Pass pos) (rdSt ε Γ .pass) := PS.imp ps_pass fun D σ H ⟨φ, ρ, μ, fl, ρ', μ', R, e, q⟩ => by cases e; exact q φ σ H (.refl R)
theorem st_brk {pos : Pos} : PS X (.Break pos) (rdSt ε Γ .brk) := PS.imp ps_break fun D σ H ⟨φ, ρ, μ, fl, ρ', μ', R, e, q⟩ => by cases e; exact q φ σ H (.refl R)
theorem st_cnt {pos : Pos} : PS X (.Continue pos) (rdSt ε Γ .cnt) := PS.imp ps_continue fun D σ H ⟨φ, ρ, μ, fl, ρ', μ', R, e, q⟩ => by cases e; exact q φ σ H (.refl R)
theorem st_retN {pos : Pos} : PS X (.Return none pos) (rdSt ε Γ .retN) := PS.imp ps_retN fun D σ H ⟨φ, ρ, μ, fl, ρ', μ', R, e, q⟩ => by cases e; exact q φ σ H (.refl R) _ .non
def notComp : Expr → Bool
  | .ListComp .. => false | .SetComp .. => false | .DictComp .. => false | _ => true
theorem swap_no {e : Expr} {t : Option Expr} {l : Nat} {env : Env} (h : notComp e = true) : swapsWith e t l env = pure false := by
  cases e <;> first | rfl | (simp [notComp] at h)
theorem st_expr {e : Expr} {ie : IE} {pos : Pos} (nc : notComp e = true) (h : PE X e (rdE ε Γ ie)) : PS X (.Expr e pos) (rdSt ε Γ (.expr ie)) := by
  refine PS.imp (ps_expr h (swap_no nc)) fun D σ H ⟨φ, ρ, μ, fl, ρ', μ', R, e, q⟩ => ?_
  simp only [evS, Option.map_eq_some_iff] at e
  obtain ⟨⟨d, μ1⟩, e1, e2⟩ := e
  cases e2
  exact ⟨φ, ρ, μ, d, _, R, e1, fun φ1 v H1 x1 y1 => q φ1 σ H1 (.of R x1)⟩
theorem st_ret {e : Expr} {ie : IE} {pos : Pos} (h : PE X e (rdE ε Γ ie)) : PS X (.Return (some e) pos) (rdSt ε Γ (.ret ie)) := by
  refine PS.imp (ps_ret h) fun D σ H ⟨φ, ρ, μ, fl, ρ', μ', R, e, q⟩ => ?_
  simp only [evS, Option.map_eq_some_iff] at e
  obtain ⟨⟨d, μ1⟩, e1, e2⟩ := e
  cases e2
  exact ⟨φ, ρ, μ, d, _, R, e1, fun φ1 v H1 x1 y1 => q φ1 σ H1 (.of R x1) v y1⟩
theorem setS_ok {i : Nat} {s : Slot} (h : setS ρ i s = some ρ') : ρ' = ρ.set i s ∧ i < ρ.length := by
  unfold setS at h
  split at h
  · rename_i hi; cases h; exact ⟨rfl, hi⟩
  · cases h
theorem StP.val {v : V} {d : D} {i : Nat} (x : StP ε φ ρ σ H φ' ρ' μ' σ' H') (y : Enc ε φ' H' v d) : StP ε φ ρ σ H φ' (ρ'.set i (.val d)) μ' (σ'.set i (some v)) H' :=
  x.slots (x.rel.val y) (own_set fun _ z => nomatch z)
theorem st_set (C : CxOk ε T Γ S X) {i : Nat} {x : Str} {e : Expr} {ie : IE} {pos pos' : Pos} (nc : notComp e = true) (h : S.N[i]? = some x) (hl : locB S x = true) (he : PE X e (rdE ε Γ ie)) : PS X (.Assign [.Name x pos'] e pos) (rdSt ε Γ (.set i ie)) := by
  obtain ⟨h1, h2⟩ := locB_ok C hl
  refine PS.imp (ps_set (i := i) (by rw [C.N]; exact C.nd) (by rw [C.N]; exact h) h1 he (swap_no nc) h2) fun D σ H ⟨φ, ρ, μ, fl, ρ', μ', R, e, q⟩ => ?_
  simp only [evS, Option.bind_eq_some_iff, Option.map_eq_some_iff] at e
  obtain ⟨⟨d, μ1⟩, e1, ρ1, e2, e3⟩ := e
  cases e3
  obtain ⟨rfl, _⟩ := setS_ok e2
  exact ⟨φ, ρ, μ, d, _, R, e1, fun φ1 v H1 x1 y1 => q φ1 _ H1 ((StP.of R x1).val y1)⟩
/-- a name is given a new list -/
def PSF (ε : Ev) (Γ : Env2) (X : Cx) (st : Stmt) (i : Nat) (f : FE) : Prop := PS X st (tAsg (rdF ε Γ f) (gName i))
theorem psf_set (C : CxOk ε T Γ S X) {i : Nat} {x : Str} {e : Expr} {f : FE} {pos pos' : Pos} (nc : notComp e = true) (h : S.N[i]? = some x) (hl : locB S x = true) (he : PE X e (rdF ε Γ f)) : PSF ε Γ X (.Assign [.Name x pos'] e pos) i f := by
  obtain ⟨h1, h2⟩ := locB_ok C hl
  exact ps_set (i := i) (by rw [C.N]; exact C.nd) (by rw [C.N]; exact h) h1 he (swap_no nc) h2
theorem sw_cell {e : Expr} {elt : Expr} {gs : List Comprehension} {scope : Scope} {pos py : Pos} {y : Str} {l : Nat} {env : Env} (he : e = .ListComp elt gs scope pos) (hy : env.scope.names.lookup y = some .cell) : swapsWith e (some (.Name y py)) l env = pure false := by
  subst he
  have ky : env.kindOf y = some .cell := hy
  unfold swapsWith
  simp only [ky]
  have : ((some NameKind.cell == some NameKind.local) = false) := by decide
  simp [this]
theorem psf_cell (C : CxOk ε T Γ S X) {i : Nat} {x : Str} {e elt : Expr} {gs : List Comprehension} {scope : Scope} {f : FE} {p pos pos' : Pos} (ec : e = .ListComp elt gs scope p) (h : S.N[i]? = some x) (hy : S.sc.names.lookup x = some .cell) (hl : locB S x = true) (he : PE X e (rdF ε Γ f)) : PSF ε Γ X (.Assign [.Name x pos'] e pos) i f := by
  obtain ⟨h1, h2⟩ := locB_ok C hl
  exact ps_set (i := i) (by rw [C.N]; exact C.nd) (by rw [C.N]; exact h) h1 he (sw_cell ec (by rw [C.sc]; exact hy)) h2
def lineB (p q : Pos) : Bool := p.line == q.line
theorem psf_comp (C : CxOk ε T Γ S X) {i : Nat} {y : Str} {elt tg iter : Expr} {ifs : List Expr} {scope : Scope} {own : List (Str × Nat)} {pos py spos : Pos} {g : Tg} {s : Src} {c : IO} {e : IE} (hk : S.sc.kind = .function) (h : S.N[i]? = some y) (hy : S.sc.names.lookup y = some .local)
    (hl : lineB py pos = true) (ha : (scope.names.any fun p => p.1 == y && (p.2 == .local || p.2 == .cell)) = false)
    (hi : PI X tg iter (rdS ε Γ s)) (ok : blkC S.N S.sc scope own = true)
    (hg : ∀ Y, CxOk ε T Γ (S.inner scope) Y → PG Y tg (rdG ε g)) (ht : ∀ Y, CxOk ε T Γ (S.inner scope) Y → PTs Y ifs (rdC ε Γ c)) (he : ∀ Y, CxOk ε T Γ (S.inner scope) Y → PE Y elt (rdE ε Γ e))
    (sub : ∀ i ∈ tgI g, i ∈ own.map (·.2)) (hs : setB iter = true) : PSF ε Γ X (.Assign [.Name y py] (.ListComp elt [⟨tg, iter, ifs, 0⟩] scope pos) spos) i (.comp g own s c e) :=
  PS.imp (ps_setLc C.calm (by rw [C.N]; exact C.nd) (by rw [C.N]; exact h) (by rw [C.sc]; exact hy) (sw_true (by rw [C.sc]; exact hk) (by rw [C.sc]; exact hy) hl ha) hi (by rw [C.N, C.sc]; exact blkOk_by ok)
    (fun s H CC cl fp => hg _ (C.inner scope s H CC cl fp)) (fun s H CC cl fp => ht _ (C.inner scope s H CC cl fp)) (fun s H CC cl fp => he _ (C.inner scope s H CC cl fp)) (folded_ok hs)) fun D σ H q => comp_read sub q
theorem StP.ownl {p : Addr} {ds : List D} {i : Nat} (R : Rel ε φ ρ μ σ H) (n : NewL ε φ H φ' μ' H' p ds) : StP ε φ ρ σ H φ' (ρ.set i (.own (.lst ds))) μ' (σ.set i (some (.ref p))) H' := by
  have x := StP.of R n.res
  obtain ⟨vs, h1, h2⟩ := n.it
  have np : p ∉ ownA ρ σ := fun z => by
    obtain ⟨o, e⟩ := ownA_there R.slots p z
    rw [n.free] at e; cases e
  refine ⟨x.rel.put ⟨p, rfl, .lst h1 h2⟩ fun c a e1 e2 => ?_, x.more, x.grow, x.there, x.keep, fun a ha => ?_⟩
  · cases e2; exact ⟨np, n.out⟩
  · rcases mem_ownA_set ha with ha | ⟨c, e1, e2⟩
    · exact .inl ha
    · cases e2; exact .inr n.free
theorem st_setOwn {st : Stmt} {i : Nat} {f : FE} (h : PSF ε Γ X st i f) : PS X st (rdSt ε Γ (.setOwn i f)) := by
  refine PS.imp h fun D σ H ⟨φ, ρ, μ, fl, ρ', μ', R, e, q⟩ => ?_
  simp only [evS, Option.bind_eq_some_iff, Option.map_eq_some_iff] at e
  obtain ⟨⟨ds, μ1⟩, e1, ρ1, e2, e3⟩ := e
  cases e3
  obtain ⟨rfl, _⟩ := setS_ok e2
  exact ⟨φ, ρ, μ, ds, _, R, e1, fun φ1 H1 p n => q φ1 _ H1 (.ownl R n)⟩
theorem st_setCell {st : Stmt} {i : Nat} {f : FE} (h : PSF ε Γ X st i f) : PS X st (rdSt ε Γ (.set i (.cell f))) := by
  refine PS.imp h fun D σ H ⟨φ, ρ, μ, fl, ρ', μ', R, e, q⟩ => ?_
  simp only [evS, evE, Option.bind_eq_some_iff, Option.map_eq_some_iff] at e
  obtain ⟨⟨d, μ1⟩, ⟨⟨ds, μ2⟩, e1, e0⟩, ρ1, e2, e3⟩ := e
  cases e0
  cases e3
  obtain ⟨rfl, _⟩ := setS_ok e2
  exact ⟨φ, ρ, μ, ds, _, R, e1, fun φ1 H1 p n => q _ _ H1 ((StP.of R n.cell.1).val n.cell.2)⟩
theorem st_setFrz {st : Stmt} {i : Nat} {f : FE} (h : PSF ε Γ X st i f) : PS X st (rdSt ε Γ (.set i (.frz f))) := by
  refine ⟨fun pins s σ H D I ⟨φ, ρ, μ, fl, ρ', μ', R, e, q⟩ => ?_⟩
  simp only [evS, evE, Option.bind_eq_some_iff, Option.map_eq_some_iff] at e
  obtain ⟨⟨d, μ1⟩, ⟨⟨ds, μ2⟩, e1, e0⟩, ρ1, e2, e3⟩ := e
  cases e0
  cases e3
  obtain ⟨rfl, _⟩ := setS_ok e2
  refine thn (h.run pins s σ H ⟨fun σ' H' => ∃ φ' p, NewL ε φ H φ' μ2 H' p ds ∧ σ' = σ.set i (some (.ref p)), D.rt, D.bk, D.ct⟩ I ⟨φ, ρ, μ, ds, _, R, e1, fun φ1 H1 p n => ⟨φ1, p, n, rfl⟩⟩) fun f s1 z => ?_
  cases f with
  | next =>
    obtain ⟨σ1, H1, I1, φ1, p, n, rfl⟩ := z
    obtain ⟨ys, hp, k⟩ := n.frz
    obtain ⟨od, I2⟩ := I1.lock hp trivial
    obtain ⟨x, y⟩ := k od
    exact ⟨_, _, I2, q φ1 _ _ ((StP.of R x).val y)⟩
  | ret v => exact z
  | brk => exact z
  | cont => exact z
theorem st_unp {tg e : Expr} {g : Tg} {ie : IE} {pos : Pos} (hw : swappedStores [tg] e X.env = pure none) (nc : notComp e = true) (ht : tgE tg = true) (hg : PG X tg (rdG ε g)) (he : PE X e (rdE ε Γ ie)) : PS X (.Assign [tg] e pos) (rdSt ε Γ (.unp g ie)) := by
  refine PS.imp (ps_asg he hg (swap_no nc) hw (each_cons ht)) fun D σ H ⟨φ, ρ, μ, fl, ρ', μ', R, e, q⟩ => ?_
  simp only [evS, Option.bind_eq_some_iff, Option.map_eq_some_iff] at e
  obtain ⟨⟨d, μ1⟩, e1, ρ1, e2, e3⟩ := e
  cases e3
  exact ⟨φ, ρ, μ, d, _, R, e1, fun φ1 v H1 x1 y1 => ⟨φ1, ρ, _, d, _, R.step x1, y1, e2, fun σ2 R2 o2 w2 => q φ1 σ2 H1 ((StP.of R x1).slots R2 w2)⟩⟩
theorem st_ifs {c : Expr} {a b : List Stmt} {ic : IE} {ia ib : ISs} {pos : Pos} (hc : PT X c (rdT ε Γ ic)) (ha : PSs X a (rdSs ε Γ ia)) (hb : PSs X b (rdSs ε Γ ib)) : PS X (.If c a b pos) (rdSt ε Γ (.ifs ic ia ib)) := by
  refine PS.imp (ps_if hc ha hb) fun D σ H ⟨φ, ρ, μ, fl, ρ', μ', R, e, q⟩ => ?_
  simp only [evS, Option.bind_eq_some_iff] at e
  obtain ⟨⟨d, μ1⟩, e1, k, e2, e3⟩ := e
  refine ⟨φ, ρ, μ, d, μ1, k, R, e1, e2, fun φ1 H1 x1 => ?_⟩
  cases k with
  | true => exact ⟨φ1, ρ, μ1, fl, ρ', μ', R.step x1, by simpa using e3, q.pre (.of R x1)⟩
  | false => exact ⟨φ1, ρ, μ1, fl, ρ', μ', R.step x1, by simpa using e3, q.pre (.of R x1)⟩
end
end FH
end
section
/-! FH10: statements: loops. -/
namespace FH
open PySem PySem.Spec PyProof.Rows L2
section
variable {ε : Ev} {T : Tab} {Γ : Env2} {S : SC} {X : Cx}
theorem own_passes (C : CxOk ε T Γ S X) : PassesOwn (model X.prog X.w) X.A X.env X.xe := by
  rw [C.xe]; exact PassesOwn.never
theorem st_fors (C : CxOk ε T Γ S X) {tg iter : Expr} {body : List Stmt} {g : Tg} {s : Src} {b : ISs} {pos : Pos} (hi : PI X tg iter (rdS ε Γ s)) (hg : PG X tg (rdG ε g)) (hb : PSs X body (rdSs ε Γ b)) (hs : setB iter = true) :
    PS X (.For tg iter body [] pos) (rdSt ε Γ (.fors g s b)) := by
  refine PS.imp (ps_for (own_passes C) C.calm hi hg hb (folded_ok hs)) fun D σ H ⟨φ, ρ, μ, fl, ρ', μ', R, e, q⟩ => ?_
  simp only [evS, Option.bind_eq_some_iff] at e
  obtain ⟨⟨sr, μ1⟩, e1, e2⟩ := e
  refine ⟨φ, ρ, μ, sr, μ1, R, e1, fun φ1 J H1 x1 hJ => ?_⟩
  cases sr with
  | cel n => cases e2
  | items ds =>
    have e2 : loopF (fun x ρ μ => (asgT g x ρ).bind fun ρ' => evSs Γ b ρ' μ) ds ρ μ1 = some (fl, ρ', μ') := e2
    have hJ : ItOk ε φ1 H1 ds J := hJ
    refine ⟨fun i m σi Hi => m = ds.length - i ∧ i ≤ ds.length ∧ ∃ φi ρi μi, StP ε φ ρ σ H φi ρi μi σi Hi ∧ Grow H1 Hi ∧ (∃ p2, φi = φ1 ++ p2) ∧
      loopF (fun x ρ μ => (asgT g x ρ).bind fun ρ' => evSs Γ b ρ' μ) (ds.drop i) ρi μi = some (fl, ρ', μ'), ⟨ds.length, by simp, Nat.zero_le _, φ1, ρ, μ1, .of R x1, .refl, ⟨[], by simp⟩, by simpa using e2⟩, ?_⟩
    rintro i m σi Hi ⟨rfl, hi, φi, ρi, μi, xi, gi, ⟨p2, hp⟩, el⟩
    by_cases hlt : i < ds.length
    · obtain ⟨d, ed⟩ : ∃ d, ds[i]? = some d := ⟨ds[i], by simp [hlt]⟩
      obtain ⟨hgo, hy⟩ := hJ.go Hi gi i d ed
      have edrop : ds.drop i = d :: ds.drop (i + 1) := by
        rw [List.drop_eq_getElem_cons hlt]
        have : ds[i] = d := by simpa [hlt] using ed
        rw [this]
      rw [edrop] at el
      simp only [loopF, Option.bind_eq_some_iff] at el
      obtain ⟨⟨f2, ρ2, μ2⟩, ⟨ρ1, f0, f1⟩, f3⟩ := el
      refine .inr ⟨hgo, fun σn Hn => ∃ φi ρi μi, StP ε φ ρ σ H φi ρi μi σn Hn ∧ Grow H1 Hn ∧ (∃ p2, φi = φ1 ++ p2) ∧
        loopF (fun x ρ μ => (asgT g x ρ).bind fun ρ' => evSs Γ b ρ' μ) (ds.drop (i + 1)) ρi μi = some (fl, ρ', μ'), fun σn Hn w => ⟨ds.length - (i + 1), by omega, rfl, hlt, w⟩, fun x H' yl => ?_⟩
      obtain ⟨hx, hv⟩ := hy x H' yl
      have hv' : Enc ε φi H' x d := by rw [hp]; exact hv.mono p2 .refl
      have x0 : Res ε φi Hi φi μi H' := .ex xi.rel.sto hx
      have Ri := xi.rel.step x0
      have xi' := xi.trans (.of xi.rel x0)
      refine ⟨φi, ρi, μi, d, ρ1, Ri, hv', f0, fun σ2 R2 o2 w2 => ?_⟩
      have x2 := xi'.slots R2 w2
      refine ⟨φi, ρ1, μi, f2, ρ2, μ2, R2, f1, fun φ3 σ3 H3 x3 => ?_⟩
      have x4 := x2.trans x3
      have again : ∀ f', (f' = loopF (fun x ρ μ => (asgT g x ρ).bind fun ρ' => evSs Γ b ρ' μ) (ds.drop (i + 1)) ρ2 μ2) → f' = some (fl, ρ', μ') → ∃ φi ρi μi, StP ε φ ρ σ H φi ρi μi σ3 H3 ∧ Grow H1 H3 ∧ (∃ p2, φi = φ1 ++ p2) ∧
        loopF (fun x ρ μ => (asgT g x ρ).bind fun ρ' => evSs Γ b ρ' μ) (ds.drop (i + 1)) ρi μi = some (fl, ρ', μ') := fun f' e5 e6 => by
        obtain ⟨p3, hp3, _⟩ := x3.more
        exact ⟨φ3, ρ2, μ2, x4, (gi.trans hx.grow).trans x3.grow, ⟨p2 ++ p3, by rw [hp3, hp, List.append_assoc]⟩, by rw [← e5]; exact e6⟩
      cases f2 with
      | nx => exact again _ rfl f3
      | ct => exact again _ rfl f3
      | brk => cases f3; exact q φ3 σ3 H3 x4
      | ret d => cases f3; exact q φ3 σ3 H3 x4
    · have hi' : i = ds.length := by omega
      subst hi'
      rw [List.drop_length] at el
      cases el
      exact .inl ⟨hJ.stop Hi gi, q φi σi Hi xi⟩
theorem st_whil (C : CxOk ε T Γ S X) {c : Expr} {body : List Stmt} {ic : IE} {b : ISs} {pos : Pos} (hc : PT X c (rdT ε Γ ic)) (hb : PSs X body (rdSs ε Γ b)) : PS X (.While c body [] pos) (rdSt ε Γ (.whil ic b)) := by
  refine PS.imp (ps_while (own_passes C) hc hb) fun D σ H ⟨φ, ρ, μ, fl, ρ', μ', R, e, q⟩ => ?_
  simp only [evS] at e
  refine ⟨fun m σi Hi => ∃ φi ρi μi, StP ε φ ρ σ H φi ρi μi σi Hi ∧ loopW (fun ρ μ => (evE Γ ic ρ μ).bind fun r => (truD (viewD r.2 r.1)).map fun k => (k, r.2)) (fun ρ μ => evSs Γ b ρ μ) m ρi μi = some (fl, ρ', μ'), ⟨fuelW, φ, ρ, μ, .refl R, e⟩, ?_⟩
  rintro m σi Hi ⟨φi, ρi, μi, xi, el⟩
  cases m with
  | zero => cases el
  | succ m =>
    simp only [loopW, Option.bind_eq_some_iff, Option.map_eq_some_iff] at el
    obtain ⟨⟨k, μ1⟩, ⟨⟨d, μ2⟩, e1, k', e2, e3⟩, e4⟩ := el
    cases e3
    refine ⟨φi, ρi, μi, d, _, k, xi.rel, e1, e2, fun φ1 H1 x1 => ?_⟩
    have y1 := xi.trans (.of xi.rel x1)
    cases k with
    | false =>
      simp at e4
      obtain ⟨rfl, rfl, rfl⟩ := e4
      simp only [Bool.false_eq_true, if_false]
      exact q φ1 σi H1 y1
    | true =>
      simp only [if_true, Option.bind_eq_some_iff] at e4 ⊢
      obtain ⟨⟨f2, ρ2, μ3⟩, f1, f3⟩ := e4
      refine ⟨fun σn Hn => ∃ φi ρi μi, StP ε φ ρ σ H φi ρi μi σn Hn ∧ loopW (fun ρ μ => (evE Γ ic ρ μ).bind fun r => (truD (viewD r.2 r.1)).map fun k => (k, r.2)) (fun ρ μ => evSs Γ b ρ μ) m ρi μi = some (fl, ρ', μ'), fun σn Hn w => ⟨m, Nat.lt_succ_self m, w⟩, ?_⟩
      refine ⟨φ1, ρi, _, f2, ρ2, μ3, y1.rel, f1, fun φ3 σ3 H3 x3 => ?_⟩
      have x4 := y1.trans x3
      cases f2 with
      | nx => exact ⟨φ3, ρ2, μ3, x4, f3⟩
      | ct => exact ⟨φ3, ρ2, μ3, x4, f3⟩
      | brk => cases f3; exact q φ3 σ3 H3 x4
      | ret d => cases f3; exact q φ3 σ3 H3 x4
end
end FH
end
section
/-! FH11: statements: what is changed. -/
namespace FH
open PySem PySem.Spec PyProof.Rows L2
section
variable {ε : Ev} {T : Tab} {Γ : Env2} {S : SC} {X : Cx} {φ φ' : List Addr} {H H' : Hp} {μ μ' : Store} {ρ ρ' : Slots} {σ σ' : L2.St}
theorem lstAt_ok {d : D} {n : Nat} {ds : List D} (h : lstAt μ d = some (n, ds)) : d = .ref n ∧ μ[n]? = some (.lst ds) := by
  unfold lstAt at h
  split at h
  · split at h
    · rename_i e; cases h; exact ⟨rfl, e⟩
    · cases h
  · cases h
theorem insAt_ok {d : D} {n c : Nat} {fs : List (Str × D)} (h : insAt μ c d = some (n, fs)) : d = .ref n ∧ μ[n]? = some (.ins c fs) := by
  unfold insAt at h
  split at h
  · split at h
    · rename_i e
      split at h
      · rename_i hc; cases h; subst hc; exact ⟨rfl, e⟩
      · cases h
    · cases h
  · cases h
theorem lst_at {v : V} {d : D} {n : Nat} {ds : List D} (St : Sto ε φ μ H) (y : Enc ε φ H v d) (h : lstAt μ d = some (n, ds)) : ∃ a vs, v = .ref a ∧ φ[n]? = some a ∧ H a = some (.lst vs) ∧ EncL ε φ H vs ds := by
  obtain ⟨rfl, e⟩ := lstAt_ok h
  cases y with
  | ref hn =>
    rename_i a
    have c := St.at_ n _ _ hn e
    cases c with
    | lst c1 c2 => exact ⟨a, _, rfl, hn, c1, c2⟩
theorem ins_at {v : V} {d : D} {n c : Nat} {ds : List (Str × D)} (St : Sto ε φ μ H) (y : Enc ε φ H v d) (h : insAt μ c d = some (n, ds)) : ∃ a dx fs, v = .ref a ∧ φ[n]? = some a ∧ H a = some (.ins (ε.ca c) dx fs) ∧ EncK ε φ H fs ds := by
  obtain ⟨rfl, e⟩ := insAt_ok h
  cases y with
  | ref hn =>
    rename_i a
    have c := St.at_ n _ _ hn e
    cases c with
    | ins c1 c2 => exact ⟨a, _, _, rfl, hn, c1, c2⟩
theorem grow_upd {a : Addr} {o : HO} (nt : ∀ xs, H a ≠ some (.tup xs)) (nf : ∀ q u, H a ≠ some (.frz q u)) : Grow H (upd H a o) :=
  ⟨fun b xs e => by rw [upd_ne (fun z => by rw [z] at e; exact nt _ e)]; exact e, fun b q u e => by rw [upd_ne (fun z => by rw [z] at e; exact nf _ _ e)]; exact e⟩
theorem no_t {a : Addr} {vs : List V} (h : H a = some (.lst vs)) : ∀ xs, H a ≠ some (.tup xs) := fun xs e => by rw [h] at e; cases e
theorem no_f {a : Addr} {vs : List V} (h : H a = some (.lst vs)) : ∀ q u, H a ≠ some (.frz q u) := fun q u e => by rw [h] at e; cases e
/-- a list that may change is given other items -/
theorem Res.lset {n : Nat} {a : Addr} {vs ws : List V} {ds : List D} (St : Sto ε φ μ H) (hn : φ[n]? = some a) (h : H a = some (.lst vs)) (y : EncL ε φ H ws ds) : Res ε φ H φ (μ.set n (.lst ds)) (L2.upd H a (.lst ws)) :=
  Res.set St hn (no_t h) (no_f h) (.lst upd_same (y.grow (grow_upd (no_t h) (no_f h))))
theorem Sto.out {a : Addr} {o : HO} (St : Sto ε φ μ H) (na : a ∉ φ) (g : Grow H (upd H a o)) : Sto ε φ μ (upd H a o) := ⟨St.len, St.nd, fun m b c e1 e2 => by
  have q := (St.at_ m b c e1 e2).mono [] g fun u e => by rw [upd_ne (fun z => na (by rw [← z]; exact List.mem_of_getElem? e1))]; exact e
  rwa [List.append_nil] at q⟩
theorem slots_other {a : Addr} {o : HO} (g : Grow H (upd H a o)) : ∀ {ρ : Slots} {σ : L2.St}, Paired (SlotOk ε φ H) ρ σ → a ∉ ownA ρ σ → Paired (SlotOk ε φ (upd H a o)) ρ σ
  | _, _, .nil, _ => .nil
  | s :: ρ, u :: σ, .cons q r, h => by
    refine .cons ?_ (slots_other g r fun z => h (ownA_cons z))
    cases s with
    | emp => trivial
    | val d => obtain ⟨v, rfl, e⟩ := q; exact ⟨v, rfl, e.grow g⟩
    | own c =>
      obtain ⟨b, rfl, e⟩ := q
      have hb : b ≠ a := by rintro rfl; exact h (by simp [ownA])
      have e' := e.mono [] g fun u z => by rw [upd_ne hb]; exact z
      rw [List.append_nil] at e'
      exact ⟨b, rfl, e'⟩
theorem slots_at {a : Addr} {o : HO} {s : Slot} {c0 : Cell} (g : Grow H (upd H a o)) (hs : SlotOk ε φ (upd H a o) s (some (.ref a))) : ∀ {ρ : Slots} {σ : L2.St} {i : Nat}, Paired (SlotOk ε φ H) ρ σ → ρ[i]? = some (.own c0) → σ[i]? = some (some (.ref a)) → (ownA ρ σ).Nodup →
    Paired (SlotOk ε φ (upd H a o)) (ρ.set i s) σ
  | [], _, i, .nil, h, _, _ => by simp at h
  | s0 :: ρ, u :: σ, 0, .cons q r, h, k, nd => by
    simp at h k
    subst h; subst k
    refine .cons hs (slots_other g r ?_)
    simp only [ownA, List.nodup_cons] at nd
    exact nd.1
  | s0 :: ρ, u :: σ, i + 1, .cons q r, h, k, nd => by
    have h' : ρ[i]? = some (.own c0) := by simpa using h
    have k' : σ[i]? = some (some (.ref a)) := by simpa using k
    refine .cons ?_ (slots_at g hs r h' k' (nd.sublist ownA_sub))
    cases s0 with
    | emp => trivial
    | val d => obtain ⟨v, rfl, e⟩ := q; exact ⟨v, rfl, e.grow g⟩
    | own c =>
      obtain ⟨b, rfl, e⟩ := q
      have m := ownA_get h' k'
      simp only [ownA, List.nodup_cons] at nd
      have hb : b ≠ a := by rintro rfl; exact nd.1 m
      have e' := e.mono [] g fun u z => by rw [upd_ne hb]; exact z
      rw [List.append_nil] at e'
      exact ⟨b, rfl, e'⟩
theorem ownA_repl {c0 c : Cell} : ∀ {ρ : Slots} {σ : L2.St} {i : Nat}, ρ[i]? = some (.own c0) → ownA (ρ.set i (.own c)) σ = ownA ρ σ
  | [], _, _, h => by simp at h
  | s0 :: ρ, [], i, h => by cases i <;> simp [ownA]
  | s0 :: ρ, u :: σ, 0, h => by
    simp at h; subst h
    cases u with
    | none => rfl
    | some v => cases v <;> rfl
  | s0 :: ρ, u :: σ, i + 1, h => by
    have ih := @ownA_repl c0 c ρ σ i (by simpa using h)
    cases s0 with
    | emp => exact ih
    | val d => exact ih
    | own c1 =>
      cases u with
      | none => exact ih
      | some v => cases v <;> first | exact ih | (show _ :: _ = _ :: _; rw [ih])
/-- a list that a name alone holds is given other items -/
theorem StP.oset {i : Nat} {a : Addr} {vs ws : List V} {c0 : Cell} {ds : List D} (R : Rel ε φ ρ μ σ H) (hi : ρ[i]? = some (.own c0)) (hs : σ[i]? = some (some (.ref a))) (h : H a = some (.lst vs)) (y : EncL ε φ H ws ds) :
    StP ε φ ρ σ H φ (ρ.set i (.own (.lst ds))) μ σ (upd H a (.lst ws)) := by
  have g : Grow H (upd H a (.lst ws)) := grow_upd (no_t h) (no_f h)
  have m := ownA_get hi hs
  have er : ownA (ρ.set i (.own (.lst ds))) σ = ownA ρ σ := ownA_repl hi
  refine ⟨⟨R.sto.out (R.dj a m) g, slots_at (s := .own (.lst ds)) g ⟨a, rfl, .lst upd_same (y.grow g)⟩ R.slots hi hs R.nd, by rw [er]; exact R.nd, by rw [er]; exact R.dj⟩, ⟨[], by simp, fun _ h => by simp at h⟩, g, fun b e z => ?_, fun b o e n1 n2 => ?_, fun b hb => .inl (by rw [er] at hb; exact hb)⟩
  · by_cases hb : b = a
    · rw [hb, upd_same] at z; cases z
    · rw [upd_ne hb] at z; exact e z
  · rw [upd_ne (fun z => n2 (by rw [z]; exact m))]; exact e
theorem StP.ofrz {i : Nat} {a : Addr} {vs : List V} {c0 : Cell} {od : Obj} {ds : List D} (R : Rel ε φ ρ μ σ H) (hi : ρ[i]? = some (.own c0)) (hs : σ[i]? = some (some (.ref a))) (h : H a = some (.lst vs)) (y : EncL ε φ H vs ds) :
    StP ε φ ρ σ H φ (ρ.set i (.val (.lst ds))) μ σ (upd H a (.frz od (.lst vs))) := by
  have g : Grow H (upd H a (.frz od (.lst vs))) := grow_upd (no_t h) (no_f h)
  have m := ownA_get hi hs
  have es : σ.set i (some (.ref a)) = σ := by
    apply List.ext_getElem?
    intro k
    by_cases hk : i = k
    · subst hk
      rw [List.getElem?_set_self (List.getElem?_eq_some_iff.mp hs).1, hs]
    · rw [List.getElem?_set_ne hk]
  have sub : ∀ b ∈ ownA (ρ.set i (.val (.lst ds))) σ, b ∈ ownA ρ σ := fun b hb => by
    rw [← es] at hb
    exact own_set (s := .val (.lst ds)) (fun _ z => nomatch z) b hb
  have nd : (ownA (ρ.set i (.val (.lst ds))) σ).Nodup := by
    rw [← es]
    exact nodup_ownA_set (s := .val (.lst ds)) (fun _ _ z => nomatch z) R.nd
  refine ⟨⟨R.sto.out (R.dj a m) g, slots_at (s := .val (.lst ds)) g ⟨.ref a, rfl, .lst (.inl ⟨od, upd_same⟩) (y.grow g)⟩ R.slots hi hs R.nd, nd, fun b hb => R.dj b (sub b hb)⟩, ⟨[], by simp, fun _ h => by simp at h⟩, g, fun b e z => ?_, fun b o e n1 n2 => ?_, fun b hb => .inl (sub b hb)⟩
  · by_cases hb : b = a
    · rw [hb, upd_same] at z; cases z
    · rw [upd_ne hb] at z; exact e z
  · rw [upd_ne (fun z => n2 (by rw [z]; exact m))]; exact e
theorem ownS_ok {i : Nat} {ds : List D} (h : ownS ρ i = some ds) : ρ[i]? = some (.own (.lst ds)) := by
  unfold ownS at h
  split at h
  · rename_i e; cases h; exact e
  · cases h
theorem st_freeze {st : Stmt} {i : Nat} {is : IS} (h : PS X st (rdSt ε Γ is)) : PS X st (rdSt ε Γ (.freeze i is)) := by
  refine ⟨fun pins s σ H D I ⟨φ, ρ, μ, fl, ρ', μ', R, e, q⟩ => ?_⟩
  simp only [evS, Option.bind_eq_some_iff] at e
  obtain ⟨ds, e1, e2⟩ := e
  have hi := ownS_ok e1
  obtain ⟨a, hs, hc, _, _⟩ := R.own hi
  cases hc with
  | lst h1 h2 =>
    obtain ⟨od, I1⟩ := I.lock h1 trivial
    have x := StP.ofrz (od := od) R hi hs h1 h2
    exact h.run pins s σ _ D I1 ⟨φ, _, μ, fl, ρ', μ', x.rel, e2, q.pre x⟩

/-! ### o[i] = e and kin -/
theorem st_setIx {o i e : Expr} {io ii ie : IE} {pos pos' : Pos} (nc : notComp e = true) (ok : okE i = true) (ho : PE X o (rdE ε Γ io)) (hi : PE X i (rdE ε Γ ii)) (he : PE X e (rdE ε Γ ie)) :
    PS X (.Assign [.Subscript o i pos'] e pos) (rdSt ε Γ (.setIx io ii ie)) := by
  have ha : ∀ v, assign (.Subscript o i pos') X.env v = (do
      let ov ← holding [v] (eval o X.env)
      let iv ← holding [v, ov] (eval i X.env)
      standAt pos'
      holding [v, ov, iv] (setItem ov iv v)
      release [v, ov, iv] []) := fun v => by cases i <;> first | rfl | (simp [okE] at ok)
  have sw : swapsWithSole [.Subscript o i pos'] e pos.line X.env = pure false := by
    show swapsWith e (some (.Subscript o i pos')) pos.line X.env = pure false
    exact swap_no nc
  refine PS.imp (ps_asg he (pg_sub ho hi set_list ha) sw) fun D σ H ⟨φ, ρ, μ, fl, ρ', μ', R, e, q⟩ => ?_
  simp only [evS, Option.bind_eq_some_iff] at e
  obtain ⟨⟨d, μ1⟩, e1, ⟨r, μ2⟩, e2, ⟨k, μ3⟩, e3, e4⟩ := e
  refine ⟨φ, ρ, μ, d, μ1, R, e1, fun φ1 v1 H1 x1 y1 => ⟨φ1, ρ, μ1, r, μ2, R.step x1, e2, fun φ2 v2 H2 x2 y2 => ⟨φ2, ρ, μ2, k, μ3, (R.step x1).step x2, e3, fun φ3 v3 H3 x3 y3 => ?_⟩⟩⟩
  split at e4
  · rename_i n ds m hl hk
    obtain rfl : k = .int m := hk
    simp only [Option.map_eq_some_iff] at e4
    obtain ⟨j, ej, e5⟩ := e4
    cases e5
    cases y3
    obtain ⟨a, vs, rfl, hn, h1, h2⟩ := lst_at x3.sto (x3.ext.enc y2) hl
    refine ⟨a, vs, m, j, rfl, rfl, h1, by rw [h2.length]; exact ej, ?_⟩
    have x4 := Res.lset x3.sto hn h1 (EncL.set j h2 ((x2.trans x3).ext.enc y1))
    exact q φ3 σ _ (.of R (((x1.trans x2).trans x3).trans x4))
  · cases e4
theorem st_setKy (C : CxOk ε T Γ S X) {o i e : Expr} {io ii ie : IE} {pos pos' : Pos} (nc : notComp e = true) (ho : PE X o (rdE ε Γ io)) (hi : PE X i (rdE ε Γ ii)) (he : PE X e (rdE ε Γ ie)) :
    PS X (.Assign [.Subscript o i pos'] e pos) (rdSt ε Γ (.setKy io ii ie)) := by
  refine PS.imp (ps_dput (by have := C.hu; omega) ho hi he (swap_no nc)) fun D σ H ⟨φ, ρ, μ, fl, ρ', μ', R, e, q⟩ => ?_
  simp only [evS, Option.bind_eq_some_iff] at e
  obtain ⟨⟨d, μ1⟩, e1, ⟨r, μ2⟩, e2, ⟨k, μ3⟩, e3, e4⟩ := e
  refine ⟨φ, ρ, μ, d, μ1, R, e1, fun φ1 v1 H1 x1 y1 => ⟨φ1, ρ, μ1, r, μ2, R.step x1, e2, fun φ2 v2 H2 x2 y2 => ⟨φ2, ρ, μ2, k, μ3, (R.step x1).step x2, e3, fun φ3 v3 H3 x3 y3 => ?_⟩⟩⟩
  split at e4
  · rename_i n hk
    obtain rfl : r = .ref n := hk
    split at e4
    · rename_i kvs en
      split at e4
      · rename_i hz
        simp only [Option.map_eq_some_iff] at e4
        obtain ⟨y, ek, e5⟩ := e4
        cases e5
        cases x3.ext.enc y2 with
        | ref hn =>
          rename_i a
          obtain ⟨ks, h1, h2⟩ := dic_at x3.sto hn en
          rw [keyD_ok y3 ek]
          refine ⟨a, _, rfl, DPut.k h1 (by rw [h2.len]; exact hz), ?_⟩
          have nt : ∀ xs, H3 a ≠ some (.tup xs) := fun xs e => by rw [h1] at e; cases e
          have nf : ∀ q u, H3 a ≠ some (.frz q u) := fun q u e => by rw [h1] at e; cases e
          have x4 : Res ε φ3 H3 φ3 (μ3.set n (.dic (FH.setK kvs y d))) (upd H3 a (.dK (putK ks y v1))) := Res.set x3.sto hn nt nf (.dic upd_same (by
            have z := (h2.setK (k := y) ((x2.trans x3).ext.enc y1)).mono [] (grow_upd (o := .dK (putK ks y v1)) nt nf)
            rwa [List.append_nil] at z))
          exact q φ3 σ _ (.of R (((x1.trans x2).trans x3).trans x4))
      · cases e4
    · cases e4
  · cases e4
end
end FH
end
section
/-! FH12: statements: more of what is changed. -/
namespace FH
open PySem PySem.Spec PyProof.Rows L2
section
variable {ε : Ev} {T : Tab} {Γ : Env2} {S : SC} {X : Cx} {φ φ' : List Addr} {H H' : Hp} {μ μ' : Store} {ρ ρ' : Slots} {σ σ' : L2.St}
/-- an item of a tracked list, by values -/
def rGetL : V → V → Hp → VK → Prop := fun o i H Q => ∃ p xs k v, o = .ref p ∧ i = .int k ∧ H p = some (.lst xs) ∧ atI xs k = some v ∧ Q v H
theorem get_list : PGet X rGetL := by
  intro pins s σ H o i ov iv Q I ro ri ⟨p, xs, k, v, e1, e2, hp, hv, q⟩
  subst e1; subst e2
  cases ro
  obtain ⟨t, rfl⟩ := ri
  obtain ⟨its, n, r, ho, hz⟩ := I.lst hp
  obtain ⟨j, h1, h2, h3, h4, h5⟩ := atI_get hv
  have hl := r.length
  have hn := line63
  obtain ⟨u, hu, ru⟩ := r.get h2
  have hlist : s.heap.IsList p its.toArray := ⟨_, ho, rfl, _, rfl⟩
  by_cases h0 : 0 ≤ k
  · have hk : k.toNat = j := by
      rw [seqIndex_of h0 h5] at h1
      exact Option.some.inj h1
    exact wpAny_getItem_list (x := u) hlist h0 (by omega) (by rw [hk]; simpa using hu) ⟨v, H, I, ru, q⟩
  · have hk : (k + (its.toArray.size : Int)).toNat = j := by
      rw [seqIndex_neg (by omega) h4] at h1
      rw [List.size_toArray, ← hl]
      exact Option.some.inj h1
    exact wpAny_getItem_list_neg (x := u) hlist (by omega) (by rw [List.size_toArray, ← hl]; exact h4) (by omega) (by rw [hk]; simpa using hu) ⟨v, H, I, ru, q⟩
theorem EncL.atI {vs : List V} {ds : List D} {i : Int} {d : D} (h : EncL ε φ H vs ds) (e : L2.atI ds i = some d) : ∃ v, L2.atI vs i = some v ∧ Enc ε φ H v d := by
  unfold L2.atI at e ⊢
  rw [h.length]
  cases ej : ixN ds.length i with
  | none => rw [ej] at e; cases e
  | some j => rw [ej] at e; exact h.get e
theorem st_augIx {o i e : Expr} {io ii ie : IE} {op : Operator} {pos tpos : Pos} (ok : okE i = true) (hop : op = .Add) (ho : PE X o (rdE ε Γ io)) (hi : PE X i (rdE ε Γ ii)) (he : PE X e (rdE ε Γ ie)) :
    PS X (.AugAssign (.Subscript o i tpos) op e pos) (rdSt ε Γ (.augIx op io ii ie)) := by
  subst hop
  have ha : ∀ ov iv new, augStore i ov iv new = (do holding [new, ov, iv] (setItem ov iv new); release [new, ov, iv] []; pure .next) := fun ov iv new => by cases i <;> first | rfl | (simp [okE] at ok)
  refine PS.imp (ps_augS ho hi get_list he ip_add set_list ha) fun D σ H ⟨φ, ρ, μ, fl, ρ', μ', R, e, q⟩ => ?_
  simp only [evS, Option.bind_eq_some_iff] at e
  obtain ⟨⟨r, μ1⟩, e1, ⟨k, μ2⟩, e2, e3⟩ := e
  refine ⟨φ, ρ, μ, r, μ1, R, e1, fun φ1 v1 H1 x1 y1 => ⟨φ1, ρ, μ1, k, μ2, R.step x1, e2, fun φ2 v2 H2 x2 y2 => ?_⟩⟩
  split at e3
  · rename_i n0 ds0 m hl hk
    obtain rfl : k = .int m := hk
    simp only [Option.bind_eq_some_iff] at e3
    obtain ⟨v, ev, ⟨x, μ3⟩, e4, e5⟩ := e3
    obtain ⟨a, vs, rfl, hn, h1, h2⟩ := lst_at x2.sto (x2.ext.enc y1) hl
    obtain ⟨w, hw, yw⟩ := h2.atI ev
    cases y2
    refine ⟨a, vs, m, w, rfl, rfl, h1, hw, φ2, ρ, μ2, x, μ3, (R.step x1).step x2, e4, fun φ3 v3 H3 x3 y3 => ?_⟩
    have key : ∃ p b, v = .int p ∧ x = .int b := by cases v <;> cases x <;> first | exact ⟨_, _, rfl, rfl⟩ | (simp at e5)
    obtain ⟨p, b, rfl, rfl⟩ := key
    simp only at e5
    cases yw
    cases y3
    split at e5
    · rename_i n es hl2
      simp only [Option.map_eq_some_iff] at e5
      obtain ⟨j, ej, e6⟩ := e5
      cases e6
      obtain ⟨a', ws, ea, hn', k1, k2⟩ := lst_at x3.sto ((x2.trans x3).ext.enc y1) hl2
      cases ea
      refine ⟨p, b, rfl, rfl, a, ws, m, j, rfl, rfl, k1, by rw [k2.length]; exact ej, ?_⟩
      have x4 := Res.lset x3.sto hn' k1 (EncL.set j k2 (.int (p + b)))
      exact q φ3 σ _ (.of R (((x1.trans x2).trans x3).trans x4))
    · cases e5
  · cases e3
theorem st_aug (C : CxOk ε T Γ S X) {i : Nat} {x : Str} {e : Expr} {ie : IE} {op : Operator} {pos pos' : Pos} (hop : op = .Add) (h : S.N[i]? = some x) (hl : locB S x = true) (he : PE X e (rdE ε Γ ie)) : PS X (.AugAssign (.Name x pos') op e pos) (rdSt ε Γ (.aug op i ie)) := by
  subst hop
  obtain ⟨h1, h2⟩ := locB_ok C hl
  refine PS.imp (ps_aug (i := i) (by rw [C.N]; exact C.nd) (by rw [C.N]; exact h) h1 he ip_add h2) fun D σ H ⟨φ, ρ, μ, fl, ρ', μ', R, e, q⟩ => ?_
  simp only [evS, Option.bind_eq_some_iff] at e
  obtain ⟨v, e1, ⟨x, μ1⟩, e2, e3⟩ := e
  obtain ⟨w, hw, yw⟩ := R.slot e1
  refine ⟨w, hw, φ, ρ, μ, x, μ1, R, e2, fun φ1 v1 H1 x1 y1 => ?_⟩
  have key : ∃ p b, v = .int p ∧ x = .int b := by cases v <;> cases x <;> first | exact ⟨_, _, rfl, rfl⟩ | (simp at e3)
  obtain ⟨p, b, rfl, rfl⟩ := key
  simp only at e3
  cases e3
  cases yw
  cases y1
  exact ⟨p, b, rfl, rfl, q φ1 _ H1 ((StP.of R x1).val (.int (p + b)))⟩

/-! ### fields -/
theorem Res.ins {n c : Nat} {a dx : Addr} {fs gs : List (Str × V)} {ds : List (Str × D)} (St : Sto ε φ μ H) (hn : φ[n]? = some a) (h : H a = some (.ins (ε.ca c) dx fs)) (y : EncK ε φ H gs ds) :
    Res ε φ H φ (μ.set n (.ins c ds)) (L2.upd H a (.ins (ε.ca c) dx gs)) := by
  have nt : ∀ xs, H a ≠ some (.tup xs) := fun xs e => by rw [h] at e; cases e
  have nf : ∀ q u, H a ≠ some (.frz q u) := fun q u e => by rw [h] at e; cases e
  refine Res.set St hn nt nf (.ins upd_same ?_)
  have z := y.mono [] (grow_upd (o := .ins (ε.ca c) dx gs) nt nf)
  rwa [List.append_nil] at z
theorem st_setAt (C : CxOk ε T Γ S X) {o e : Expr} {f : Str} {io ie : IE} {c : Nat} {I0 : CI} {pos pos' : Pos} (nc : notComp e = true) (hc : T.c[c]? = some I0) (hf : I0.flds.contains f = true) (ho : PE X o (rdE ε Γ io)) (he : PE X e (rdE ε Γ ie)) :
    PS X (.Assign [.Attribute o f pos'] e pos) (rdSt ε Γ (.setAt c io f ie)) := by
  have K := C.cls c I0 hc
  refine PS.imp (ps_fld ho he (swap_no nc)) fun D σ H ⟨φ, ρ, μ, fl, ρ', μ', R, e, q⟩ => ?_
  simp only [evS, Option.bind_eq_some_iff] at e
  obtain ⟨⟨x, μ1⟩, e1, ⟨r, μ2⟩, e2, ⟨n, fs⟩, e3, e4⟩ := e
  refine ⟨φ, ρ, μ, x, μ1, R, e1, fun φ1 v1 H1 x1 y1 => ⟨φ1, ρ, μ1, r, μ2, R.step x1, e2, fun φ2 v2 H2 x2 y2 => ?_⟩⟩
  obtain ⟨a, dx, gs, rfl, hn, h1, h2⟩ := ins_at x2.sto y2 e3
  split at e4
  · rename_i hz
    cases e4
    refine ⟨a, _, dx, gs, rfl, h1, K.cl, K.fld f hf, by rw [h2.len]; exact hz, ?_⟩
    exact q φ2 σ _ (.of R ((x1.trans x2).trans (Res.ins x2.sto hn h1 (h2.put (x2.ext.enc y1)))))
  · cases e4
/-- o.f = .. as one of several targets -/
def gAttr (K : PySem.W.Frag) (to : TE) (f : Str) : TG := fun v σ H Q => to σ H fun x H1 => ∃ a C dx fs, x = .ref a ∧ H1 a = some (.ins C dx fs) ∧ Cls K C ∧ NoAttr K C f ∧ fs.length < 1000 ∧ Q σ (upd H1 a (.ins C dx (putF f v fs)))
theorem pg_attr {o : Expr} {f : Str} {pos : Pos} {to : TE} (ho : PE X o to) : PG X (.Attribute o f pos) (gAttr X.K to f) := by
  refine ⟨fun pins s σ H v u Q I r h => ?_⟩
  show wpAny _ _ (do let ov ← holding [u] (eval o X.env); standAt pos.atName; holding [u, ov] (setAttr ov f u); release [u, ov] []) _ _ _
  refine wpAny_bind (wpAny_holding (thn (ho.run pins s σ H _ I h) fun ov s1 ⟨x, H1, I1, r1, a, C, dx, fs, ex, ea, c, n, l, q⟩ => ?_))
  subst ex
  obtain rfl : ov = Value.ref a := r1
  exact wpAny_bind (wpAny_standAt (wpAny_bind (wpAny_holding (setattr_ok I1 ea c n l r fun s2 I2 => wpAny_release ⟨σ, _, I2, q⟩))))
end
end FH
end
section
/-! FH13: statements: the rest. -/
namespace FH
open PySem PySem.Spec PyProof.Rows L2
section
variable {ε : Ev} {T : Tab} {Γ : Env2} {S : SC} {X : Cx} {φ φ' : List Addr} {H H' : Hp} {μ μ' : Store} {ρ ρ' : Slots} {σ σ' : L2.St}
def nameB : Expr → Bool
  | .Name .. => true | _ => false
def nmL (env : Env) (line : Nat) : Expr → Option Str
  | .Name id pos => if env.kindOf id == some .local && pos.line == line then some id else none
  | _ => none
theorem not_name {e : Expr} (h : nameB e = false) {env : Env} {line : Nat} : nmL env line e = none := by
  cases e <;> first | rfl | (simp [nameB] at h)
/-- stores that are not swapped -/
def noSwap : Expr → Expr → Bool
  | .Tuple ts _ _, .Tuple vs _ _ => !(ts.length == 2 || ts.length == 3) || vs.length != ts.length || ts.any fun t => !nameB t
  | .List .., _ => false
  | _, _ => true
theorem names_lt {ts : List Expr} {env : Env} {line : Nat} (h : (ts.any fun t => !nameB t) = true) : (ts.filterMap (nmL env line)).length < ts.length := by
  induction ts with
  | nil => cases h
  | cons t ts ih =>
    have le : (ts.filterMap (nmL env line)).length ≤ ts.length := List.length_filterMap_le _ _
    rw [List.any_cons] at h
    rw [List.filterMap_cons]
    cases ht : nameB t with
    | false =>
      rw [not_name ht]
      simp only [List.length_cons]
      omega
    | true =>
      rw [ht] at h
      have := ih (by simpa using h)
      split <;> simp only [List.length_cons] <;> omega
theorem noSwap_tup {ts vs : List Expr} {kt kv : Nat} {pt pv : Pos} {env : Env} (h : noSwap (.Tuple ts kt pt) (.Tuple vs kv pv) = true) : swappedStores [.Tuple ts kt pt] (.Tuple vs kv pv) env = pure none := by
  unfold swappedStores
  have h : (!(ts.length == 2 || ts.length == 3) || vs.length != ts.length || ts.any fun t => !nameB t) = true := h
  simp only [Bool.or_eq_true] at h
  show (if !(ts.length == 2 || ts.length == 3) || vs.length != ts.length || env.blockKind != .function then _ else _) = _
  split
  · rfl
  · rename_i hn
    simp only [Bool.or_eq_true, not_or] at hn
    have h3 : (ts.any fun t => !nameB t) = true := h.elim (fun h => h.elim (fun h => absurd h (by simpa using hn.1.1)) fun h => absurd h (by simpa using hn.1.2)) id
    split
    · rfl
    · have hl := names_lt (env := env) (line := (ts.head?.map (·.pos.line)).getD 0) h3
      show (if ((ts.filterMap (nmL env ((ts.head?.map (·.pos.line)).getD 0))).length != ts.length || _) = true then _ else _) = _
      rw [if_pos]
      simp only [Bool.or_eq_true, bne_iff_ne, ne_eq]
      left; omega
theorem noSwap_ok {t e : Expr} {env : Env} (h : noSwap t e = true) : swappedStores [t] e env = pure none := by
  cases t with
  | Tuple ts kt pt =>
    cases e with
    | Tuple vs kv pv => exact noSwap_tup h
    | _ => rfl
  | List ts pt => cases h
  | _ => rfl
/-- a pair of names stored from the right -/
def starB : Expr → Bool
  | .Starred .. => true | _ => false
def folds (a b : Expr) : Bool := (foldedForSure 8 a && foldedForSure 8 b) || (constantsAlone 8 a && constantsAlone 8 b)
theorem swap2 {x y : Str} {px py pt pt2 : Pos} {kt k2 : Nat} {a b : Expr} {env : Env} (hk : env.scope.kind = .function) (hx : env.scope.names.lookup x = some .local) (hy : env.scope.names.lookup y = some .local) (hl : lineB py px = true) (hxy : x ≠ y) (ha : starB a = false) (hb : starB b = false)
    (hf : folds a b = false) : swappedStores [.Tuple [.Name x px, .Name y py] kt pt] (.Tuple [a, b] k2 pt2) env = pure (some [x, y]) := by
  have kx : env.kindOf x = some .local := hx
  have ky : env.kindOf y = some .local := hy
  have kb : env.blockKind = .function := by unfold Env.blockKind; rw [hk]; rfl
  unfold folds at hf
  simp only [Bool.or_eq_false_iff] at hf
  unfold swappedStores
  show (if !(true || _) || _ || env.blockKind != .function then _ else _) = _
  rw [kb]
  show (if ([a, b].any fun | .Starred .. => true | _ => false) then _ else _) = _
  have hs : ([a, b].any fun | .Starred .. => true | _ => false) = false := by
    have k : [a, b].any starB = false := by simp [ha, hb]
    have e : (fun | .Starred .. => true | _ => false : Expr → Bool) = starB := by funext z; cases z <;> rfl
    rw [e]; exact k
  rw [hs]
  have hn : ([Expr.Name x px, Expr.Name y py].filterMap (nmL env px.line)) = [x, y] := by
    have hl' : (py.line == px.line) = true := hl
    simp [nmL, kx, ky, hl']
  show (if (([Expr.Name x px, Expr.Name y py].filterMap (nmL env px.line)).length != 2 || ([Expr.Name x px, Expr.Name y py].filterMap (nmL env px.line)).eraseDups.length != ([Expr.Name x px, Expr.Name y py].filterMap (nmL env px.line)).length) = true then _ else _) = _
  rw [hn]
  have he : [x, y].eraseDups = [x, y] := by
    rw [List.eraseDups_cons]
    have h1 : (y == x) = false := by simpa using fun e => hxy e.symm
    have h2 : (List.filter (fun b => !b == x) [y]) = [y] := by rw [List.filter_cons]; simp [h1]
    rw [h2]; rfl
  rw [he]
  show (if [a, b].all (foldedForSure 8) then _ else _) = _
  have h1 : [a, b].all (foldedForSure 8) = false := by simpa using hf.1
  have h2 : [a, b].all (constantsAlone 8) = false := by simpa using hf.2
  rw [h1]
  show (if [a, b].all (constantsAlone 8) then _ else _) = _
  rw [h2]
  show (pure (some ([Expr.Name x px, Expr.Name y py].filterMap (nmL env px.line))) : Sem (Option (List Str))) = _
  rw [hn]
theorem swap3 {x y z : Str} {px py pz pt pt2 : Pos} {kt k2 : Nat} {a b c : Expr} {env : Env} (hk : env.scope.kind = .function) (hx : env.scope.names.lookup x = some .local) (hy : env.scope.names.lookup y = some .local) (hz : env.scope.names.lookup z = some .local) (hl : lineB py px = true) (hl2 : lineB pz px = true)
    (hxy : x ≠ y) (hxz : x ≠ z) (hyz : y ≠ z) (ha : starB a = false) (hb : starB b = false) (hc : starB c = false)
    (hf : ([a, b, c].all (foldedForSure 8) || [a, b, c].all (constantsAlone 8)) = false) : swappedStores [.Tuple [.Name x px, .Name y py, .Name z pz] kt pt] (.Tuple [a, b, c] k2 pt2) env = pure (some [x, y, z]) := by
  have kx : env.kindOf x = some .local := hx
  have ky : env.kindOf y = some .local := hy
  have kz : env.kindOf z = some .local := hz
  have kb : env.blockKind = .function := by unfold Env.blockKind; rw [hk]; rfl
  simp only [Bool.or_eq_false_iff] at hf
  unfold swappedStores
  show (if !(_ || true) || _ || env.blockKind != .function then _ else _) = _
  rw [kb]
  show (if ([a, b, c].any fun | .Starred .. => true | _ => false) then _ else _) = _
  have hs : ([a, b, c].any fun | .Starred .. => true | _ => false) = false := by
    have k : [a, b, c].any starB = false := by simp [ha, hb, hc]
    have e : (fun | .Starred .. => true | _ => false : Expr → Bool) = starB := by funext z; cases z <;> rfl
    rw [e]; exact k
  rw [hs]
  have hn : ([Expr.Name x px, Expr.Name y py, Expr.Name z pz].filterMap (nmL env px.line)) = [x, y, z] := by
    have hl' : (py.line == px.line) = true := hl
    have hl2' : (pz.line == px.line) = true := hl2
    simp [nmL, kx, ky, kz, hl', hl2']
  show (if (([Expr.Name x px, Expr.Name y py, Expr.Name z pz].filterMap (nmL env px.line)).length != 3 || ([Expr.Name x px, Expr.Name y py, Expr.Name z pz].filterMap (nmL env px.line)).eraseDups.length != ([Expr.Name x px, Expr.Name y py, Expr.Name z pz].filterMap (nmL env px.line)).length) = true then _ else _) = _
  rw [hn]
  have he : [x, y, z].eraseDups = [x, y, z] := by
    have h1 : (y == x) = false := by simpa using fun e => hxy e.symm
    have h2 : (z == x) = false := by simpa using fun e => hxz e.symm
    have h3 : (z == y) = false := by simpa using fun e => hyz e.symm
    rw [List.eraseDups_cons]
    have f1 : (List.filter (fun b => !b == x) [y, z]) = [y, z] := by simp [List.filter_cons, h1, h2]
    rw [f1, List.eraseDups_cons]
    have f2 : (List.filter (fun b => !b == y) [z]) = [z] := by simp [List.filter_cons, h3]
    rw [f2]; rfl
  rw [he]
  show (if [a, b, c].all (foldedForSure 8) then _ else _) = _
  rw [hf.1]
  show (if [a, b, c].all (constantsAlone 8) then _ else _) = _
  rw [hf.2]
  show (pure (some ([Expr.Name x px, Expr.Name y py, Expr.Name z pz].filterMap (nmL env px.line))) : Sem (Option (List Str))) = _
  rw [hn]
end
end FH
end
section
/-! FH14: statements: pairs, fields two at once, lists that grow. -/
namespace FH
open PySem PySem.Spec PyProof.Rows L2
section
variable {ε : Ev} {T : Tab} {Γ : Env2} {S : SC} {X : Cx} {φ φ' : List Addr} {H H' : Hp} {μ μ' : Store} {ρ ρ' : Slots} {σ σ' : L2.St}
/-- what a name is to be given, ready -/
def InOk (ε : Ev) (H0 : Hp) (φ : List Addr) (H : Hp) (v : V) : Slot → Prop
  | .val d => Enc ε φ H v d
  | .own (.lst ds) => ∃ p vs, v = .ref p ∧ H0 p = none ∧ p ∉ φ ∧ H p = some (.lst vs) ∧ EncL ε φ H vs ds
  | _ => False
def rdIn (ε : Ev) (Γ : Env2) (i : In) : TE := fun σ H Q => ∃ φ ρ μ s μ', Rel ε φ ρ μ σ H ∧ evIn Γ i ρ μ = some (s, μ') ∧ ∀ φ' v H', Res ε φ H φ' μ' H' → InOk ε H φ' H' v s → Q v H'
theorem in_v {e : Expr} {ie : IE} (h : PE X e (rdE ε Γ ie)) : PE X e (rdIn ε Γ (.v ie)) := PE.imp h fun σ H Q ⟨φ, ρ, μ, s, μ', R, e, q⟩ => by
  simp only [evIn, Option.map_eq_some_iff] at e
  obtain ⟨⟨d, μ1⟩, e1, e2⟩ := e
  cases e2
  exact ⟨φ, ρ, μ, d, _, R, e1, fun φ1 v H1 x y => q φ1 v H1 x y⟩
theorem in_o {e : Expr} {f : FE} (h : PE X e (rdF ε Γ f)) : PE X e (rdIn ε Γ (.o f)) := PE.imp h fun σ H Q ⟨φ, ρ, μ, s, μ', R, e, q⟩ => by
  simp only [evIn, Option.map_eq_some_iff] at e
  obtain ⟨⟨ds, μ1⟩, e1, e2⟩ := e
  cases e2
  refine ⟨φ, ρ, μ, ds, _, R, e1, fun φ1 H1 p n => ?_⟩
  obtain ⟨vs, h1, h2⟩ := n.it
  exact q φ1 _ H1 n.res ⟨p, vs, rfl, n.free, n.out, h1, h2⟩
theorem InOk.step {H0 : Hp} {v : V} {s : Slot} (x : Ext φ H φ' H') (h : InOk ε H0 φ H v s) : InOk ε H0 φ' H' v s := by
  cases s with
  | emp => exact h
  | val d => exact x.enc h
  | own c =>
    cases c with
    | dic _ => exact h
    | nd _ => exact h
    | tup _ => exact h
    | ins _ _ => exact h
    | lst ds =>
      obtain ⟨p, vs, e, f, o, h1, h2⟩ := h
      refine ⟨p, vs, e, f, fun z => ?_, x.keep p _ h1 o, x.encL h2⟩
      obtain ⟨p2, rfl, f2⟩ := x.more
      rcases List.mem_append.mp z with z | z
      · exact o z
      · rw [f2 p z] at h1; cases h1
theorem InOk.slot {H0 : Hp} {v : V} {s : Slot} (h : InOk ε H0 φ H v s) : SlotOk ε φ H s (some v) := by
  cases s with
  | emp => trivial
  | val d => exact ⟨v, rfl, h⟩
  | own c =>
    cases c with
    | dic _ => exact h.elim
    | nd _ => exact h.elim
    | tup _ => exact h.elim
    | ins _ _ => exact h.elim
    | lst ds =>
      obtain ⟨p, vs, rfl, f, o, h1, h2⟩ := h
      exact ⟨p, rfl, .lst h1 h2⟩
theorem InOk.free {H0 : Hp} {v : V} {c : Cell} {a : Addr} (h : InOk ε H0 φ H v (.own c)) (e : some v = some (.ref a)) : H0 a = none ∧ a ∉ φ ∧ ∃ o, H a = some o := by
  cases c with
  | dic _ => exact h.elim
  | nd _ => exact h.elim
  | tup _ => exact h.elim
  | ins _ _ => exact h.elim
  | lst ds =>
    obtain ⟨p, vs, rfl, f, o, h1, h2⟩ := h
    cases e
    exact ⟨f, o, _, h1⟩
theorem StP.two {φ1 φ2 : List Addr} {μ1 μ2 : Store} {H1 H2 : Hp} {i j : Nat} {s1 s2 : Slot} {v1 v2 : V} (R : Rel ε φ ρ μ σ H) (x1 : Res ε φ H φ1 μ1 H1) (y1 : InOk ε H φ1 H1 v1 s1) (x2 : Res ε φ1 H1 φ2 μ2 H2) (y2 : InOk ε H1 φ2 H2 v2 s2) :
    StP ε φ ρ σ H φ2 ((ρ.set i s1).set j s2) μ2 ((σ.set i (some v1)).set j (some v2)) H2 := by
  have x := x1.trans x2
  have z := StP.of R x
  have y1' := y1.step x2.ext
  have old : ∀ a ∈ ownA ρ σ, ∃ o, H a = some o := ownA_there R.slots
  have none1 : ∀ a, H1 a = none → H a = none := fun a ha => by
    cases e : H a with
    | none => rfl
    | some o => exact absurd ha (x1.ext.there a (by rw [e]; simp))
  have R1 : Rel ε φ2 (ρ.set i s1) μ2 (σ.set i (some v1)) H2 := z.rel.put y1'.slot fun c a e1 e2 => by
    subst e1
    obtain ⟨f, o, _⟩ := y1'.free e2
    refine ⟨fun m => ?_, o⟩
    obtain ⟨u, hu⟩ := old a m
    rw [f] at hu; cases hu
  refine ⟨R1.put y2.slot fun c a e1 e2 => ?_, z.more, z.grow, z.there, z.keep, fun a ha => ?_⟩
  · subst e1
    obtain ⟨f, o, _⟩ := y2.free e2
    refine ⟨fun m => ?_, o⟩
    rcases mem_ownA_set m with m | ⟨c', e3, e4⟩
    · obtain ⟨u, hu⟩ := old a m
      rw [none1 a f] at hu; cases hu
    · subst e3
      obtain ⟨_, _, u, hu⟩ := y1.free e4
      rw [f] at hu; cases hu
  · rcases mem_ownA_set ha with ha | ⟨c, e1, e2⟩
    · rcases mem_ownA_set ha with ha | ⟨c, e1, e2⟩
      · exact .inl ha
      · subst e1; exact .inr (y1.free e2).1
    · subst e1; exact .inr (none1 a (y2.free e2).1)
theorem st_par (C : CxOk ε T Γ S X) {i j : Nat} {x y : Str} {a b : Expr} {ia ib : In} {px py pt pos pt2 : Pos} {kt k2 : Nat} (hk : S.sc.kind = .function) (hi : S.N[i]? = some x) (hj : S.N[j]? = some y) (hij : i ≠ j) (hxy : x ≠ y) (hx : S.sc.names.lookup x = some .local) (hy : S.sc.names.lookup y = some .local)
    (hl : lineB py px = true) (oka : okE a = true) (okb : okE b = true) (hf : folds a b = false) (ha : PE X a (rdIn ε Γ ia)) (hb : PE X b (rdIn ε Γ ib)) :
    PS X (.Assign [.Tuple [.Name x px, .Name y py] kt pt] (.Tuple [a, b] k2 pt2) pos) (rdSt ε Γ (.par i j ia ib)) := by
  have sa : starB a = false := by cases a <;> first | rfl | (simp [okE] at oka)
  have sb : starB b = false := by cases b <;> first | rfl | (simp [okE] at okb)
  refine PS.imp (ps_par C.calm (by rw [C.N]; exact C.nd) (by rw [C.N]; exact hi) (by rw [C.N]; exact hj) hij (by rw [C.sc]; exact hx) (by rw [C.sc]; exact hy) (pa_cons ha (pa_cons hb pa_nil (star_cons okb)) (star_cons oka))
    (swap2 (by rw [C.sc]; exact hk) (by rw [C.sc]; exact hx) (by rw [C.sc]; exact hy) hl hxy sa sb hf)) fun D σ H ⟨φ, ρ, μ, fl, ρ', μ', R, e, q⟩ => ?_
  simp only [evS, Option.bind_eq_some_iff, Option.map_eq_some_iff] at e
  obtain ⟨⟨s1, μ1⟩, e1, ⟨s2, μ2⟩, e2, ρ1, e3, ρ2, e4, e5⟩ := e
  cases e5
  obtain ⟨rfl, _⟩ := setS_ok e3
  obtain ⟨rfl, _⟩ := setS_ok e4
  refine ⟨φ, ρ, μ, s1, μ1, R, e1, fun φ1 v1 H1 x1 y1 => ⟨φ1, ρ, μ1, s2, _, R.step x1, e2, fun φ2 v2 H2 x2 y2 => ⟨v1, v2, rfl, ?_⟩⟩⟩
  exact q φ2 _ H2 (.two R x1 y1 x2 y2)

/-! ### two fields at once -/
theorem putD_len (f : Str) (d : D) : ∀ fs : List (Str × D), (putD f d fs).length ≤ fs.length + 1
  | [] => Nat.le_refl _
  | (g, w) :: r => by
    have := putD_len f d r
    unfold putD
    split <;> simp only [List.length_cons] <;> omega
theorem st_setAt2 (C : CxOk ε T Γ S X) {x : Str} {f g : Str} {a b : Expr} {ia ib : IE} {i c : Nat} {I0 : CI} {p1 p2 p3 p4 pt pt2 pos : Pos} {kt k2 : Nat} (h : S.N[i]? = some x) (hv : visB S.sc x = true) (hn : nameOk x = true) (hc : T.c[c]? = some I0) (hf : I0.flds.contains f = true) (hg : I0.flds.contains g = true)
    (oka : okE a = true) (okb : okE b = true) (ha : PE X a (rdE ε Γ ia)) (hb : PE X b (rdE ε Γ ib)) :
    PS X (.Assign [.Tuple [.Attribute (.Name x p1) f p2, .Attribute (.Name x p3) g p4] kt pt] (.Tuple [a, b] k2 pt2) pos) (rdSt ε Γ (.setAt2 c i f g ia ib)) := by
  simp only [nameOk, Bool.and_eq_true, Bool.not_eq_true'] at hn
  have K := C.cls c I0 hc
  have vx : ∀ p, PE X (.Name x p) (tVar i) := fun p => pe_var (i := i) (by rw [C.N]; exact h) (by rw [C.sc]; exact visB_ok hv) hn.1.1 hn.1.2
  have sw : swappedStores [.Tuple [.Attribute (.Name x p1) f p2, .Attribute (.Name x p3) g p4] kt pt] (.Tuple [a, b] k2 pt2) X.env = pure none := noSwap_ok rfl
  refine PS.imp (ps_asg (pe_tup (pa_cons ha (pa_cons hb pa_nil (star_cons okb)) (star_cons oka))) (pg_tup (n := 2) C.calm (pgs_cons (pg_attr (f := f) (pos := p2) (vx p1)) (pgs_cons (pg_attr (f := g) (pos := p4) (vx p3)) pgs_nil))) (by rfl) sw) fun D σ H ⟨φ, ρ, μ, fl, ρ', μ', R, e, q⟩ => ?_
  simp only [evS, Option.bind_eq_some_iff] at e
  obtain ⟨⟨d1, μ1⟩, e1, ⟨d2, μ2⟩, e2, d, e3, ⟨n, fs⟩, e4, e5⟩ := e
  refine ⟨φ, ρ, μ, d1, μ1, R, e1, fun φ1 v1 H1 x1 y1 => ⟨φ1, ρ, μ1, d2, μ2, R.step x1, e2, fun φ2 v2 H2 x2 y2 => ?_⟩⟩
  split at e5
  · rename_i hz
    cases e5
    refine ⟨show 2 ≤ sizeLine by decide, fun p hp => ?_⟩
    have x3 : Res ε φ2 H2 φ2 μ2 (L2.upd H2 p (.tup [v1, v2])) := .ex x2.sto (Ex.new hp)
    have R3 := ((R.step x1).step x2).step x3
    obtain ⟨w, hw, yw⟩ := R3.slot e3
    obtain ⟨o, dx, gs, rfl, hn2, h1, h2⟩ := ins_at x3.sto yw e4
    have k1 := x3.ext.enc (x2.ext.enc y1)
    have k2 := x3.ext.enc y2
    have x4 := Res.ins x3.sto hn2 h1 (h2.put (f := f) k1)
    have h2' : EncK ε φ2 (L2.upd (L2.upd H2 p (.tup [v1, v2])) o (.ins (ε.ca c) dx (putF f v1 gs))) (putF f v1 gs) (putD f d1 fs) := by
      have z := (h2.put (f := f) k1).mono [] x4.ext.grow
      rwa [List.append_nil] at z
    have x5 := Res.ins (n := n) x4.sto hn2 upd_same (h2'.put (f := g) (x4.ext.enc k2))
    have hl := h2.len
    have hz : fs.length < 999 := hz
    refine ⟨p, [v1, v2], rfl, SqT.of upd_same, rfl, v1, [v2], rfl, .ref o, hw, o, _, dx, gs, rfl, h1, K.cl, K.fld f hf, by omega, v2, [], rfl, .ref o, hw, o, _, dx, _, rfl, upd_same, K.cl, K.fld g hg, ?_, rfl, ?_⟩
    · have := (h2.put (f := f) k1).len
      have l2 := putD_len f d1 fs
      omega
    · exact q φ2 σ _ (.of R ((((x1.trans x2).trans x3).trans x4).trans x5))
  · cases e5

/-! ### o.append(e), x.extend(..) -/
theorem bm1 {o e : Expr} {m : Str} {T : String} {id : String} {r : V → List V → Hp → VK → Prop} {to te : TE} {apos cpos : Pos} (pa : PlainAttrs T) (slot : PySem.Slot T m id) (hty : typeOf (.builtin id) = pure (.type "method_descriptor")) (hm : MtR X id r) (okO : objB o = true) (ok : okE e = true) (hl : (apos.endLine == cpos.line) = true)
    (ho : PE X o to) (he : PE X e te) : PE X (.Call (.Attribute o m apos) [e] [] cpos) (tBM X.K T r to (tCons te tNil)) := by
  have h1 := star_cons (es := []) (env := X.env) ok
  have h3 : starEach ([] : List Expr) X.env = [] := rfl
  exact pe_bm pa slot hty hm ho (pa_cons he pa_nil h1) (base_ok okO) (by rw [h1, h3]; rfl) hl h1 (by rw [h3]; rfl)
theorem tyV_lst {K : PySem.W.Frag} {a : Addr} {vs : List V} (h : H a = some (.lst vs)) : tyV K "list" (.ref a) H := .inl ⟨rfl, vs, SqL.of h⟩
theorem st_app {o e : Expr} {io ie : IE} {apos cpos pos : Pos} (okO : objB o = true) (ok : okE e = true) (hl : (apos.endLine == cpos.line) = true) (ho : PE X o (rdE ε Γ io)) (he : PE X e (rdE ε Γ ie)) :
    PS X (.Expr (.Call (.Attribute o "append" apos) [e] [] cpos) pos) (rdSt ε Γ (.app io ie)) := by
  refine PS.imp (ps_expr (bm1 PySem.F.plainAttrs_list PySem.F.slot_list_append PySem.F.type_list_append mt_append okO ok hl ho he)) fun D σ H ⟨φ, ρ, μ, fl, ρ', μ', R, e, q⟩ => ?_
  simp only [evS, Option.bind_eq_some_iff] at e
  obtain ⟨⟨r, μ1⟩, e1, ⟨n0, ds0⟩, e2, ⟨x, μ2⟩, e3, ⟨n, ds⟩, e4, e5⟩ := e
  refine ⟨φ, ρ, μ, r, μ1, R, e1, fun φ1 v1 H1 x1 y1 => ?_⟩
  obtain ⟨a0, vs0, rfl, _, g1, _⟩ := lst_at x1.sto y1 e2
  refine ⟨tyV_lst g1, φ1, ρ, μ1, x, μ2, R.step x1, e3, fun φ2 v2 H2 x2 y2 => ?_⟩
  obtain ⟨a, vs, ea, hn, h1, h2⟩ := lst_at x2.sto (x2.ext.enc y1) e4
  cases ea
  split at e5
  · rename_i hz
    cases e5
    refine ⟨a0, vs, v2, rfl, rfl, h1, by rw [h2.length]; exact hz, ?_⟩
    exact q φ2 σ _ (.of R ((x1.trans x2).trans (Res.lset x2.sto hn h1 (h2.app (.cons y2 .nil)))))
  · cases e5
theorem st_appOwn (C : CxOk ε T Γ S X) {x : Str} {e : Expr} {i : Nat} {ie : IE} {xp apos cpos pos : Pos} (h : S.N[i]? = some x) (hv : visB S.sc x = true) (hn : nameOk x = true) (ok : okE e = true) (hl : (apos.endLine == cpos.line) = true) (he : PE X e (rdE ε Γ ie)) :
    PS X (.Expr (.Call (.Attribute (.Name x xp) "append" apos) [e] [] cpos) pos) (rdSt ε Γ (.appOwn i ie)) := by
  simp only [nameOk, Bool.and_eq_true, Bool.not_eq_true'] at hn
  have vx : PE X (.Name x xp) (tVar i) := pe_var (i := i) (by rw [C.N]; exact h) (by rw [C.sc]; exact visB_ok hv) hn.1.1 hn.1.2
  refine PS.imp (ps_expr (bm1 PySem.F.plainAttrs_list PySem.F.slot_list_append PySem.F.type_list_append mt_append rfl ok hl vx he)) fun D σ H ⟨φ, ρ, μ, fl, ρ', μ', R, e, q⟩ => ?_
  simp only [evS, Option.bind_eq_some_iff] at e
  obtain ⟨ds, e1, ⟨x, μ1⟩, e2, e3⟩ := e
  have hi := ownS_ok e1
  obtain ⟨a, hs, hc, na, _⟩ := R.own hi
  cases hc with
  | lst c1 c2 =>
    rename_i vs
    refine ⟨_, hs, tyV_lst c1, φ, ρ, μ, x, μ1, R, e2, fun φ1 v1 H1 x1 y1 => ?_⟩
    split at e3
    · rename_i hz
      cases e3
      obtain ⟨_, k1⟩ := x1.outs c1 na
      refine ⟨a, vs, v1, rfl, rfl, k1, by rw [c2.length]; exact hz, ?_⟩
      exact q φ1 σ _ ((StP.of R x1).trans (.oset (R.step x1) hi hs k1 ((x1.ext.encL c2).app (.cons y1 .nil))))
    · cases e3
theorem st_extOwn (C : CxOk ε T Γ S X) {x : Str} {e : Expr} {i : Nat} {f : FE} {xp apos cpos pos : Pos} (h : S.N[i]? = some x) (hv : visB S.sc x = true) (hn : nameOk x = true) (ok : okE e = true) (hl : (apos.endLine == cpos.line) = true) (he : PE X e (rdF ε Γ f)) :
    PS X (.Expr (.Call (.Attribute (.Name x xp) "extend" apos) [e] [] cpos) pos) (rdSt ε Γ (.extOwn i f)) := by
  simp only [nameOk, Bool.and_eq_true, Bool.not_eq_true'] at hn
  have vx : PE X (.Name x xp) (tVar i) := pe_var (i := i) (by rw [C.N]; exact h) (by rw [C.sc]; exact visB_ok hv) hn.1.1 hn.1.2
  refine PS.imp (ps_expr (bm1 PySem.F.plainAttrs_list PySem.F.slot_list_extend PySem.F.type_list_extend mt_extend rfl ok hl vx he)) fun D σ H ⟨φ, ρ, μ, fl, ρ', μ', R, e, q⟩ => ?_
  simp only [evS, Option.bind_eq_some_iff] at e
  obtain ⟨ds, e1, ⟨es, μ1⟩, e2, e3⟩ := e
  have hi := ownS_ok e1
  obtain ⟨a, hs, hc, na, _⟩ := R.own hi
  cases hc with
  | lst c1 c2 =>
    rename_i vs
    refine ⟨_, hs, tyV_lst c1, φ, ρ, μ, es, μ1, R, e2, fun φ1 H1 p n => ?_⟩
    split at e3
    · rename_i hz
      cases e3
      obtain ⟨_, k1⟩ := n.res.outs c1 na
      obtain ⟨ws, n1, n2⟩ := n.it
      refine ⟨a, p, vs, ws, rfl, rfl, k1, n1, by rw [c2.length, n2.length]; exact hz, ?_⟩
      exact q φ1 σ _ ((StP.of R n.res).trans (.oset (R.step n.res) hi hs k1 ((n.res.ext.encL c2).app n2)))
    · cases e3
end
end FH
end
section
/-! FH15: methods of texts and tuples, a dict that the top wrote. -/
namespace FH
open PySem PySem.Spec PyProof.Rows L2
section
variable {ε : Ev} {T : Tab} {Γ : Env2} {S : SC} {X : Cx} {φ φ' : List Addr} {H H' : Hp} {μ' : Store} {ρ : Slots} {μ : Store} {σ : L2.St}
theorem strsD_ok : ∀ {ds : List D} {ys : List Str} {vs : List V}, EncL ε φ H vs ds → strsD ds = some ys → vs = ys.map V.str
  | [], _, _, h, e => by cases h; cases e; rfl
  | d :: ds, _, _, h, e => by
    cases h with
    | cons q r =>
      cases d <;> (first | (exfalso; simp [strsD] at e; done) | skip)
      simp only [strsD, Option.map_eq_some_iff] at e
      obtain ⟨zs, e1, rfl⟩ := e
      cases q
      rw [strsD_ok r e1]; rfl
theorem findI_ok {z : Str} : ∀ {ys : List Str} {j : Nat}, findI z ys = some j → ys[j]? = some z ∧ ∀ m, m < j → ys[m]? ≠ some z
  | [], _, h => by cases h
  | y :: ys, j, h => by
    unfold findI at h
    split at h
    · rename_i e; cases h; exact ⟨by rw [e]; rfl, fun m hm => absurd hm (Nat.not_lt_zero m)⟩
    · rename_i e
      simp only [Option.map_eq_some_iff] at h
      obtain ⟨i, hi, rfl⟩ := h
      obtain ⟨h1, h2⟩ := findI_ok hi
      refine ⟨by simpa using h1, fun m hm => ?_⟩
      cases m with
      | zero => simpa using e
      | succ m => simpa using h2 m (by omega)
/-- the name, the receiver's type, the function's id -/
def mthOf : M → String × String × String
  | .sindex => ("index", "str", "str.index") | .join => ("join", "str", "str.join")
def rM (ε : Ev) (m : M) : V → List V → Hp → VK → Prop := fun x vs H Q => ∃ φ d ds z, Enc ε φ H x d ∧ VwL ε φ H vs ds ∧ methD m d ds = some z ∧ ∀ v H', Ex H H' → Enc ε φ H' v z → Q v H'
theorem MtR.imp {id : String} {r r' : V → List V → Hp → VK → Prop} (h : MtR X id r) (k : ∀ x xs H Q, r' x xs H Q → r x xs H Q) : MtR X id r' := fun pins s σ H x xs v us Q I rx rs q => h pins s σ H x xs v us Q I rx rs (k x xs H Q q)
theorem mt_sindexD : MtR X "str.index" (rM ε .sindex) := by
  refine MtR.imp mt_sindex fun x xs H Q ⟨φ, d, ds, z, h1, h2, e, q⟩ => ?_
  unfold methD at e
  split at e <;> (first | (cases e; done) | skip)
  · cases h2 with
    | cons g1 g2 =>
      cases g2
      split at e
      · rename_i i rest ho
        cases e
        cases h1
        exact ⟨_, _, i, rest, rfl, by rw [g1.str], ho, q _ _ .refl (.int _)⟩
      · cases e
  · exact nomatch ‹M.sindex = M.join›
theorem mt_joinD (hK : ε.K = X.K) : MtR X "str.join" (rM ε .join) := by
  refine MtR.imp mt_join fun x xs H Q ⟨φ, d, ds, z, h1, h2, e, q⟩ => ?_
  unfold methD at e
  split at e <;> (first | (cases e; done) | skip)
  · exact nomatch ‹M.join = M.sindex›
  · cases h2 with
    | cons g1 g2 =>
      cases g2
      simp only [Option.bind_eq_some_iff] at e
      obtain ⟨ys, e1, e2⟩ := e
      split at e2
      · rename_i hz
        cases e2
        cases h1
        obtain ⟨a, vs, rfl, k1, k2⟩ := g1.lst
        rw [strsD_ok k2 e1] at k1
        exact ⟨_, a, ys, rfl, rfl, .inl (hK ▸ k1.sq), hz, q _ _ .refl (.str _)⟩
      · cases e2
theorem methD_ty {m : M} {d : D} {ds : List D} {z : D} {v : V} {K : PySem.W.Frag} (h : methD m d ds = some z) (y : Enc ε φ H v d) : tyV K "str" v H := by
  unfold methD at h
  split at h <;> (first | (cases h; done) | (cases y; rfl))
theorem bmS {o e : Expr} {m : Str} {T : String} {id : String} {r : V → List V → Hp → VK → Prop} {to : TE} {ta : TA} {apos cpos : Pos} (pa : PlainAttrs T) (slot : PySem.Slot T m id) (hty : typeOf (.builtin id) = pure (.type "method_descriptor")) (hm : MtR X id r) (okO : objB o = true) (ok : okE e = true) (hl : (apos.endLine == cpos.line) = true)
    (ho : PE X o to) (he : PA X [e] ta) : PE X (.Call (.Attribute o m apos) [e] [] cpos) (tBM X.K T r to ta) := by
  have h1 := star_cons (es := []) (env := X.env) ok
  have h3 : starEach ([] : List Expr) X.env = [] := rfl
  exact pe_bm pa slot hty hm ho he (base_ok okO) (by rw [h1, h3]; rfl) hl h1 (by rw [h3]; rfl)
theorem meth_read {m : M} {io ie : IE} {σ : L2.St} {H : Hp} {Q : VK} (h : rdE ε Γ (.meth m io (.cons ie .nil)) σ H Q) : tBM X.K "str" (rM ε m) (rdE ε Γ io) (rdAO ε Γ (.cons ie .nil)) σ H Q := by
  obtain ⟨φ, ρ, μ, d, μ', R, e, q⟩ := h
  simp only [evE, Option.bind_eq_some_iff, Option.map_eq_some_iff] at e
  obtain ⟨⟨x, μ1⟩, e1, ⟨ds, μ2⟩, e2, z, e3, e4⟩ := e
  cases e4
  refine ⟨φ, ρ, μ, x, μ1, R, e1, fun φ1 v H1 x1 y1 => ⟨methD_ty e3 y1, φ1, ρ, μ1, ds, _, R.step x1, e2, fun φ2 vs H2 x2 y2 => ?_⟩⟩
  exact ⟨φ2, x, _, _, x2.ext.enc y1, y2.view x2.sto, e3, fin_ex (ρ := ρ) (x1.trans x2) q⟩
theorem sd_sindex {o e : Expr} {io ie : IE} {apos cpos : Pos} (okO : objB o = true) (ok : okE e = true) (hl : (apos.endLine == cpos.line) = true) (ho : PE X o (rdE ε Γ io)) (he : PE X e (rdO ε Γ ie)) :
    PE X (.Call (.Attribute o "index" apos) [e] [] cpos) (rdE ε Γ (.meth .sindex io (.cons ie .nil))) :=
  PE.imp (bmS PySem.F.plainAttrs_str PySem.F.slot_str_index PySem.F.type_str_index (mt_sindexD (ε := ε)) okO ok hl ho (so_cons he so_nil ok)) fun σ H Q h => meth_read h
theorem sd_join (C : CxOk ε T Γ S X) {o e : Expr} {io ie : IE} {apos cpos : Pos} (okO : objB o = true) (ok : okE e = true) (hl : (apos.endLine == cpos.line) = true) (ho : PE X o (rdE ε Γ io)) (he : PE X e (rdO ε Γ ie)) :
    PE X (.Call (.Attribute o "join" apos) [e] [] cpos) (rdE ε Γ (.meth .join io (.cons ie .nil))) :=
  PE.imp (bmS PySem.F.plainAttrs_str PySem.F.slot_str_join PySem.F.type_str_join (mt_joinD C.K) okO ok hl ho (so_cons he so_nil ok)) fun σ H Q h => meth_read h

/-! ### a display whose tuple is known to the object -/
def tTupX (t : TA) : TE := fun σ H Q => t σ H fun xs H1 => xs.length ≤ sizeLine ∧ ∀ (p : Addr) (o : Obj), H1 p = none → o.cls = .type "tuple" → o.dict = none → Q (.ref p) (upd H1 p (.frz o (.tup xs)))
theorem pe_tupX {es : List Expr} {t : TA} {j : Nat} {pos : Pos} (h : PA X es t) : PE X (.Tuple es j pos) (tTupX t) := by
  refine ⟨fun pins s σ H Q I hq => ?_⟩
  refine wpAny_Tuple_spliced (thn (h.run pos pins s σ H _ I hq) fun us s1 ⟨xs, H1, I1, rel, hz, q⟩ => ⟨by rw [← rel.length]; exact hz, ?_⟩)
  have new : H1 s1.heap.objs.size = none := I1.hok.fresh (Nat.le_refl _)
  have at_ := Heap.get?_push_size s1.heap (o := { cls := .type "tuple", data := .seq us.toArray }) rfl
  refine ⟨.ref s1.heap.objs.size, L2.upd H1 s1.heap.objs.size (.frz { cls := .type "tuple", data := .seq us.toArray } (.tup xs)), I1.laid (t' := s1.toks) (fun b u e => Heap.get?_push_of_some _ e) (Nat.le_refl _) ?_, rfl, q _ _ new rfl rfl⟩
  exact ⟨at_, hz, us, rel, _, at_, rfl, _, rfl⟩
theorem st_setTup (C : CxOk ε T Γ S X) {i : Nat} {x : Str} {es : List Expr} {ies : IEs} {j : Nat} {p2 pos pos' : Pos} (h : S.N[i]? = some x) (hl : locB S x = true) (he : PA X es (rdA ε Γ ies)) : PS X (.Assign [.Name x pos'] (.Tuple es j p2) pos) (rdSt ε Γ (.setTup i ies)) := by
  obtain ⟨h1, h2⟩ := locB_ok C hl
  refine PS.imp (ps_set (i := i) (by rw [C.N]; exact C.nd) (by rw [C.N]; exact h) h1 (pe_tupX he) (swap_no rfl) h2) fun D σ H ⟨φ, ρ, μ, fl, ρ', μ', R, e, q⟩ => ?_
  simp only [evS, Option.bind_eq_some_iff] at e
  obtain ⟨⟨ds, μ1⟩, e1, e2⟩ := e
  refine ⟨φ, ρ, μ, ds, μ1, R, e1, fun φ1 vs H1 x1 y1 => ?_⟩
  split at e2
  · rename_i hz
    have hz : ds.length ≤ sizeLine := hz
    simp only [Option.map_eq_some_iff] at e2
    obtain ⟨ρ1, e3, e4⟩ := e2
    cases e4
    have e4' := (setS_ok e3).1
    subst e4'
    refine ⟨by rw [y1.length]; exact hz, fun p o hp hc hd => ?_⟩
    have g : Ex H1 (L2.upd H1 p (.frz o (.tup vs))) := Ex.new hp
    have x2 := x1.trans (Res.ex x1.sto g)
    have free : H p = none := by
      cases e : H p with
      | none => rfl
      | some u => exact absurd hp (x1.ext.there p (by rw [e]; simp))
    have z := StP.of R x2
    have np : p ∉ ownA ρ σ := fun m => by
      obtain ⟨u, e⟩ := ownA_there R.slots p m
      rw [free] at e; cases e
    have np2 : p ∉ φ1 := fun m => by
      obtain ⟨u, e⟩ := x1.sto.there m
      rw [hp] at e; cases e
    refine q φ1 _ _ ⟨z.rel.put (s := .own (.tup ds)) (o := some (.ref p)) ⟨p, rfl, .tup upd_same hc hd (y1.grow g.grow)⟩ fun c a e5 e6 => ?_, z.more, z.grow, z.there, z.keep, fun a ha => ?_⟩
    · cases e6; exact ⟨np, np2⟩
    · rcases mem_ownA_set ha with ha | ⟨c, e5, e6⟩
      · exact .inl ha
      · cases e6; exact .inr free
  · cases e2
theorem tupS_ok {i : Nat} {ds : List D} (h : tupS ρ i = some ds) : ρ[i]? = some (.own (.tup ds)) := by
  unfold tupS at h
  split at h
  · rename_i e; cases h; exact e
  · cases h
theorem sd_tindex (C : CxOk ε T Γ S X) {i : Nat} {x : Str} {e : Expr} {ie : IE} {xp apos cpos : Pos} (h : S.N[i]? = some x) (hv : visB S.sc x = true) (hn : nameOk x = true) (ok : okE e = true) (hl : (apos.endLine == cpos.line) = true) (he : PE X e (rdE ε Γ ie)) :
    PE X (.Call (.Attribute (.Name x xp) "index" apos) [e] [] cpos) (rdE ε Γ (.tindex i ie)) := by
  simp only [nameOk, Bool.and_eq_true, Bool.not_eq_true'] at hn
  have vx : PE X (.Name x xp) (tVar i) := pe_var (i := i) (by rw [C.N]; exact h) (by rw [C.sc]; exact visB_ok hv) hn.1.1 hn.1.2
  have h1 := star_cons (es := []) (env := X.env) ok
  have h3 : starEach ([] : List Expr) X.env = [] := rfl
  refine ⟨fun pins s σ H Q I ⟨φ, ρ, μ, d, μ', R, ev, q⟩ => ?_⟩
  simp only [evE, Option.bind_eq_some_iff] at ev
  obtain ⟨ds, e1, ⟨z0, μ1⟩, e2, e3⟩ := ev
  split at e3
  · rename_i z hz
    obtain rfl : z0 = .str z := hz
    simp only [Option.bind_eq_some_iff, Option.map_eq_some_iff] at e3
    obtain ⟨ys, e4, k, e5, e6⟩ := e3
    cases e6
    have hi := tupS_ok e1
    obtain ⟨a, hs, hc, na, _⟩ := R.own hi
    cases hc with
    | tup c1 c2 c3 c4 =>
      rename_i o vs
      refine wpAny_Call_method_late (base_ok rfl) (by rw [h1, h3]; rfl) hl rfl (thn (vx.run pins s σ H (fun v H1 => v = .ref a ∧ H1 = H) I ⟨_, hs, rfl, rfl⟩) fun u s1 ⟨v, H1, I1, r1, w1, w2⟩ => ?_)
      subst w1; subst w2
      obtain rfl : u = Value.ref a := r1
      obtain ⟨g1, _⟩ := I1.hok a _ c1
      refine ⟨"tuple", "tuple.index", PySem.F.plainAttrs_tuple, PySem.F.slot_tuple_index, PySem.F.type_tuple_index, ⟨o, g1, c2⟩, fun b e => by cases e; exact ⟨o, g1, c3⟩, ?_⟩
      have hA := (pa_cons he pa_nil h1).run cpos pins s1 σ _ _ I1 (show tCons (rdE ε Γ ie) tNil σ _ (fun vs1 H2 => vs1 = [.str z] ∧ ∃ φ2, Res ε φ _ φ2 _ H2) from
        ⟨φ, ρ, μ, .str z, _, R, e2, fun φ2 v2 H2 x2 y2 => by cases y2; exact ⟨rfl, φ2, x2⟩⟩)
      rw [h1] at hA ⊢
      refine Calls.callWith_builtin (by show (false || (backTo cpos (starEach ([] : List Expr) X.env)).any (·.1)) = false; rw [h3]; rfl) (Calls.evalArgs_plain ?_)
      refine thn hA fun us s2 ⟨vs2, H2, I2, r2, w3, φ2, x2⟩ => ?_
      subst w3
      obtain ⟨f1, f2⟩ := findI_ok e5
      obtain ⟨_, k1⟩ := x2.outs c1 na
      have hq : SqT X.K H2 a (ys.map V.str) := by rw [← strsD_ok c4 e4]; exact .inl (.inr ⟨_, k1⟩)
      exact mt_tup_index pins s2 σ H2 (.ref a) [.str z] (.ref a) us Q I2 rfl r2 ⟨a, ys, z, k, rfl, rfl, hq, f1, f2, q φ2 _ H2 x2 (.int _)⟩
  · cases e3
/-! ### a dict that the top wrote, texts its keys -/
theorem sd_gdget (C : CxOk ε T Γ S X) {x : Str} {kvs : List (Str × D)} {k : Expr} {ik : IE} {xp pos : Pos} (hg : glB S.sc x = true) (hn : nameOk x = true) (ht : T.look x = .dct kvs) (ok : okE k = true) (hk : PE X k (rdE ε Γ ik)) : PE X (.Subscript (.Name x xp) k pos) (rdE ε Γ (.gdget x kvs ik)) := by
  simp only [nameOk, Bool.and_eq_true, Bool.not_eq_true'] at hn
  have g := C.gl x
  rw [ht] at g
  obtain ⟨a, g1, g2⟩ := g
  refine PE.imp (pe_ix ix_kdict (pe_glob (v := .ref a) (glB_ok C hg) g1 rfl hn.1.1) hk (plain_ix ok)) fun σ H Q ⟨φ, ρ, μ, d, μ', R, e, q⟩ => ?_
  simp only [evE, Option.bind_eq_some_iff] at e
  obtain ⟨⟨z0, μ1⟩, e1, e2⟩ := e
  refine ⟨φ, ρ, μ, z0, μ1, R, e1, fun φ1 v H1 x1 y1 => ?_⟩
  split at e2
  · rename_i z hz
    obtain rfl : z0 = .str z := hz
    simp only [Option.map_eq_some_iff] at e2
    obtain ⟨d1, e3, e4⟩ := e2
    cases e4
    cases y1
    obtain ⟨w, w1, w2⟩ := g2 z _ e3
    exact ⟨a, z, w, rfl, rfl, w1, q φ1 w H1 x1 (w2 φ1 H1)⟩
  · cases e2
/-- len(d) -/
theorem sd_dlen (C : CxOk ε T Γ S X) {a : Expr} {ia : IE} {xp pos : Pos} (hg : glB S.sc "len" = true) (ht : T.look "len" = .no) (ha : PE X a (rdE ε Γ ia)) (ok : okE a = true) : PE X (.Call (.Name "len" xp) [a] [] pos) (rdE ε Γ (.dlen ia)) := by
  have g := C.gl "len"
  rw [ht] at g
  refine PE.imp (pe_callB L2.call_lenD (glB_ok C hg) g (by decide +kernel) (pa_cons ha pa_nil (star_cons ok)) (by decide +kernel) (by decide +kernel) (star_cons ok) rfl) fun σ H Q ⟨φ, ρ, μ, d, μ', R, e, q⟩ => ?_
  simp only [evE, Option.bind_eq_some_iff] at e
  obtain ⟨⟨x, μ1⟩, e1, e2⟩ := e
  refine ⟨φ, ρ, μ, x, μ1, R, e1, fun φ1 v H1 x1 y1 => ?_⟩
  split at e2
  · rename_i n hx
    obtain rfl : x = .ref n := hx
    split at e2
    · rename_i kvs en
      cases e2
      cases y1 with
      | ref hn =>
        obtain ⟨ks, h1, h2⟩ := dic_at x1.sto hn en
        exact ⟨_, ks, rfl, h1, by rw [h2.len]; exact q φ1 _ H1 x1 (.int _)⟩
    · cases e2
  · cases e2
/-- isinstance(x, T), x a dict perhaps -/
theorem isi_view {φ : List Addr} {H : Hp} {vs : List V} {ds : List D} {z : D} {Q : VK} (hK : ε.K = X.K) (hs : VwL ε φ H vs ds) (e : primD .isi ds = some z) (q : ∀ v, Enc ε φ H v z → Q v H) : rIsi X.K vs H Q := by
  obtain ⟨c, T, b, rfl, eb, rfl⟩ := inv_isi e
  obtain ⟨x, y, rfl, hx, hy⟩ := hs.two
  rw [hy.ty]
  obtain ⟨t, h1, h2⟩ := hx.tyX eb
  exact ⟨x, .ty T, t, .type T, b, rfl, .ty T, by rw [← hK]; exact h1, by rw [← hK]; exact h2, q _ (.bl _)⟩
theorem sd_isir (C : CxOk ε T Γ S X) {e : Expr} {es : List Expr} {ies : IEs} {xp pos : Pos} (hg : glB S.sc "isinstance" = true) (ht : T.look "isinstance" = .no) (ha : PA X (e :: es) (rdAO ε Γ ies)) (ok : (e :: es).all okE = true) :
    PE X (.Call (.Name "isinstance" xp) (e :: es) [] pos) (rdE ε Γ (.isir ies)) := by
  have g := C.gl "isinstance"
  rw [ht] at g
  simp only [List.all_cons, Bool.and_eq_true] at ok
  refine PE.imp (pe_callB L2.call_isi (glB_ok C hg) g (by decide +kernel) ha (by decide +kernel) (by decide +kernel) (star_cons (es := es) (env := X.env) ok.1) (star_plain (env := X.env) (pos := pos) ok.2)) fun σ H Q ⟨φ, ρ, μ, d, μ', R, e, q⟩ => ?_
  simp only [evE, Option.bind_eq_some_iff] at e
  obtain ⟨⟨ds, μ1⟩, e1, e2⟩ := e
  refine ⟨φ, ρ, μ, ds, μ1, R, e1, fun φ1 vs H1 x1 y1 => ?_⟩
  have w := y1.view x1.sto
  have plain : (primD .isi (ds.map (viewD μ1))).map (fun d => (d, μ1)) = some (d, μ') → rIsi X.K vs H1 Q := fun e3 => by
    obtain ⟨z, e4, e5⟩ := Option.map_eq_some_iff.mp e3
    cases e5
    exact isi_view C.K w e4 fun v hv => q φ1 _ H1 x1 hv
  split at e2
  · rename_i n T' hx
    obtain rfl : ds = [.ref n, .ty T'] := hx
    split at e2
    · rename_i kvs en
      split at e2
      · rename_i hT
        cases e2
        have en' : μ1[n]? = some (.dic kvs) := en
        simp only [List.map_cons, List.map_nil, viewD, en'] at w
        obtain ⟨x, y, rfl, hx, hy⟩ := w.two
        rw [hy.ty]
        have hx := hx.enc fun ds z => nomatch z
        cases hx with
        | ref hn =>
          obtain ⟨ks, h1, h2⟩ := dic_at x1.sto hn en'
          refine ⟨_, .ty T', .type "dict", .type T', false, rfl, .ty T', .base (.dK h1), kit_ty ?_, q φ1 _ H1 x1 (.bl _)⟩
          rcases hT with rfl | rfl | rfl | rfl <;> decide +kernel
      · cases e2
    · exact plain e2
  · exact plain e2
/-- x.split(y): a new list -/
theorem sf_split {o e : Expr} {io ie : IE} {apos cpos : Pos} (okO : objB o = true) (ok : okE e = true) (hl : (apos.endLine == cpos.line) = true) (ho : PE X o (rdE ε Γ io)) (he : PE X e (rdE ε Γ ie)) :
    PE X (.Call (.Attribute o "split" apos) [e] [] cpos) (rdF ε Γ (.split io ie)) := by
  refine PE.imp (bmS PySem.F.plainAttrs_str PySem.F.slot_str_split PySem.F.type_str_split mt_split okO ok hl ho (sa_cons he sa_nil ok)) fun σ H Q ⟨φ, ρ, μ, ds, μ', R, e, q⟩ => ?_
  simp only [evF, Option.bind_eq_some_iff] at e
  obtain ⟨⟨x, μ1⟩, e1, ⟨y, μ2⟩, e2, e3⟩ := e
  split at e3
  · rename_i z w hz hw
    obtain rfl : x = .str z := hz
    obtain rfl : y = .str w := hw
    split at e3
    · rename_i hc
      cases e3
      refine ⟨φ, ρ, μ, .str z, μ1, R, e1, fun φ1 v H1 x1 y1 => ?_⟩
      cases y1
      refine ⟨rfl, φ1, ρ, μ1, [.str w], μ2, R.step x1, by simp only [evEs, Option.bind_eq_some_iff, Option.map_eq_some_iff]; exact ⟨_, e2, _, rfl, rfl⟩, fun φ2 vs H2 x2 y2 => ?_⟩
      cases y2 with
      | cons h1 h2 =>
        cases h1; cases h2
        refine ⟨z, w, rfl, rfl, by simpa using hc.1, hc.2, fun p hp => q φ2 _ p (.mk' (x1.trans x2) hp ?_)⟩
        have all : ∀ l : List Str, EncL ε φ2 H2 (l.map V.str) (l.map D.str) := fun l => by
          induction l with
          | nil => exact .nil
          | cons a l ih => exact .cons (.str a) ih
        exact all _
    · cases e3
  · cases e3
theorem st_par3 (C : CxOk ε T Γ S X) {i j l : Nat} {x y z : Str} {a b c : Expr} {ies : IEs} {px py pz pt pos pt2 : Pos} {kt k2 : Nat} (hk : S.sc.kind = .function) (hi : S.N[i]? = some x) (hj : S.N[j]? = some y) (hl : S.N[l]? = some z) (hij : i ≠ j) (hil : i ≠ l) (hjl : j ≠ l)
    (hxy : x ≠ y) (hxz : x ≠ z) (hyz : y ≠ z) (lx : S.sc.names.lookup x = some .local) (ly : S.sc.names.lookup y = some .local) (lz : S.sc.names.lookup z = some .local) (h1 : lineB py px = true) (h2 : lineB pz px = true) (oka : okE a = true) (okb : okE b = true) (okc : okE c = true)
    (hf : ([a, b, c].all (foldedForSure 8) || [a, b, c].all (constantsAlone 8)) = false) (ha : PA X [a, b, c] (rdA ε Γ ies)) :
    PS X (.Assign [.Tuple [.Name x px, .Name y py, .Name z pz] kt pt] (.Tuple [a, b, c] k2 pt2) pos) (rdSt ε Γ (.par3 i j l ies)) := by
  have sa : ∀ {a}, okE a = true → starB a = false := fun {a} h => by cases a <;> first | rfl | (simp [okE] at h)
  refine PS.imp (ps_par3 C.calm (by rw [C.N]; exact C.nd) (by rw [C.N]; exact hi) (by rw [C.N]; exact hj) (by rw [C.N]; exact hl) hij hil hjl (by rw [C.sc]; exact lx) (by rw [C.sc]; exact ly) (by rw [C.sc]; exact lz) ha
    (swap3 (by rw [C.sc]; exact hk) (by rw [C.sc]; exact lx) (by rw [C.sc]; exact ly) (by rw [C.sc]; exact lz) h1 h2 hxy hxz hyz (sa oka) (sa okb) (sa okc) hf)) fun D σ H ⟨φ, ρ, μ, fl, ρ', μ', R, e, q⟩ => ?_
  simp only [evS, Option.bind_eq_some_iff] at e
  obtain ⟨⟨ds, μ1⟩, e1, e2⟩ := e
  refine ⟨φ, ρ, μ, ds, μ1, R, e1, fun φ1 vs H1 x1 y1 => ?_⟩
  split at e2
  · rename_i u v w hd
    obtain rfl : ds = [u, v, w] := hd
    simp only [Option.bind_eq_some_iff, Option.map_eq_some_iff] at e2
    obtain ⟨ρ1, e3, ρ2, e4, ρ3, e5, e6⟩ := e2
    cases e6
    obtain ⟨rfl, _⟩ := setS_ok e3
    obtain ⟨rfl, _⟩ := setS_ok e4
    obtain ⟨rfl, _⟩ := setS_ok e5
    cases y1 with
    | cons k1 t =>
      cases t with
      | cons k2 t =>
        cases t with
        | cons k3 t =>
          cases t
          exact ⟨_, _, _, rfl, q φ1 _ H1 ((((StP.of R x1).val k1).val k2).val k3)⟩
  · cases e2
/-! f'..' -/
def partB : IE → Expr → Bool
  | .lit (.str _), .Constant (.str _) _ _ => true
  | _, .FormattedValue _ c none _ => decide (c = -1)
  | _, _ => false
def unF : Expr → Expr
  | .FormattedValue e _ _ _ => e
  | e => e
def partsB : IEs → List Expr → Bool
  | .nil, [] => true
  | .cons i is, e :: es => partB i e && partsB is es
  | _, _ => false
inductive AllPV (ε : Ev) (Γ : Env2) (X : Cx) : IEs → List Expr → Prop
  | nil : AllPV ε Γ X .nil []
  | cons {i : IE} {is : IEs} {e : Expr} {es : List Expr} : PE X e (rdE ε Γ i) → AllPV ε Γ X is es → AllPV ε Γ X (.cons i is) (e :: es)
theorem part_read {p : Expr} {i : IE} (hp : partB i p = true) (h : PE X (unF p) (rdE ε Γ i)) : ∃ t, PE X p t ∧ ∀ φ ρ μ d μ' y σ H (Q : VK), Rel ε φ ρ μ σ H → evE Γ i ρ μ = some (d, μ') → txtD d = some y → (∀ φ' H', Res ε φ H φ' μ' H' → Q (.str y) H') → t σ H Q := by
  cases p with
  | FormattedValue e c sp pos =>
    cases sp with
    | none =>
      have hc : c = -1 := by cases i <;> simpa [partB] using hp
      subst hc
      refine ⟨_, pe_fmt h, fun φ ρ μ d μ' y σ H Q R e ht q => ⟨φ, ρ, μ, d, μ', R, e, fun φ' v H' x y' => ?_⟩⟩
      cases d <;> simp only [txtD, reduceCtorEq] at ht
      · split at ht
        · cases ht; cases y'; exact .inr ⟨_, rfl, by assumption, q φ' H' x⟩
        · cases ht
      · split at ht
        · cases ht; cases y'; exact .inl ⟨_, rfl, by assumption, q φ' H' x⟩
        · cases ht
    | some _ => cases i <;> simp [partB] at hp
  | Constant k a b =>
    have hk : (∃ z, k = .str z) ∧ ∃ z, i = .lit (.str z) := by
      cases i <;> first | (simp [partB] at hp; done) | skip
      rename_i d
      cases d <;> first | (simp [partB] at hp; done) | skip
      cases k <;> first | (simp [partB] at hp; done) | skip
      exact ⟨⟨_, rfl⟩, _, rfl⟩
    obtain ⟨⟨z, rfl⟩, z', rfl⟩ := hk
    refine ⟨rdE ε Γ _, h, fun φ ρ μ d μ' y σ H Q R e ht q => ⟨φ, ρ, μ, d, μ', R, e, fun φ' v H' x y' => ?_⟩⟩
    simp only [evE, Option.some.injEq, Prod.mk.injEq] at e
    obtain ⟨rfl, rfl⟩ := e
    simp only [txtD] at ht
    split at ht
    · cases ht; cases y'; exact q φ' H' x
    · cases ht
  | _ => cases i <;> first | (simp [partB] at hp; done) | (rename_i d; cases d <;> simp [partB] at hp)
theorem parts_read : ∀ {ps : List Expr} {is : IEs}, partsB is ps = true → AllPV ε Γ X is (ps.map unF) → ∃ ts, PJ X ps ts ∧ ∀ φ ρ μ ds μ' acc z σ H (Q : Str → Hp → Prop), Rel ε φ ρ μ σ H → evEs Γ is ρ μ = some (ds, μ') → fstD acc ds = some z → (∀ φ' H', Res ε φ H φ' μ' H' → Q z H') → tJs ts acc σ H Q
  | [], is, hp, h => by
    cases h
    refine ⟨[], .nil, fun φ ρ μ ds μ' acc z σ H Q R e hf q => ?_⟩
    cases e; cases hf
    exact q φ H (.refl R.sto)
  | p :: ps, is, hp, h => by
    cases h with
    | @cons i is _ _ h1 h2 =>
      simp only [partsB, Bool.and_eq_true] at hp
      obtain ⟨t, ht, rt⟩ := part_read hp.1 h1
      obtain ⟨ts, hts, rts⟩ := parts_read hp.2 h2
      refine ⟨t :: ts, .cons ht hts, fun φ ρ μ ds μ' acc z σ H Q R e hf q => ?_⟩
      simp only [evEs, Option.bind_eq_some_iff, Option.map_eq_some_iff] at e
      obtain ⟨⟨d, μ1⟩, e1, ⟨ds', μ2⟩, e2, e3⟩ := e
      cases e3
      simp only [fstD, Option.bind_eq_some_iff] at hf
      obtain ⟨y, hy, hf⟩ := hf
      split at hf
      · refine rt φ ρ μ d μ1 y σ H _ R e1 hy fun φ' H' x => ⟨y, rfl, by assumption, ?_⟩
        exact rts φ' ρ μ1 ds' _ _ z σ H' Q (R.step x) e2 hf fun φ2 H2 x2 => q φ2 H2 (x.trans x2)
      · cases hf
theorem empty_add (y : Str) : Str.empty ++ y = y := by
  cases y with
  | mk c => show Str.mk (#[] ++ c) = _; simp
theorem sd_fstr {p : Expr} {ps : List Expr} {is : IEs} {pos : Pos} (hp : partsB is (p :: ps) = true) (h : AllPV ε Γ X is ((p :: ps).map unF)) : PE X (.JoinedStr (p :: ps) pos) (rdE ε Γ (.fstr is)) := by
  have rd : ∀ σ H Q, rdE ε Γ (.fstr is) σ H Q → ∃ φ ρ μ ds μ' z, Rel ε φ ρ μ σ H ∧ evEs Γ is ρ μ = some (ds, μ') ∧ fstD Str.empty ds = some z ∧ ∀ φ' H', Res ε φ H φ' μ' H' → Q (.str z) H' := by
    intro σ H Q ⟨φ, ρ, μ, d, μ', R, e, q⟩
    simp only [evE, Option.bind_eq_some_iff, Option.map_eq_some_iff] at e
    obtain ⟨⟨ds, μ1⟩, e1, z, e2, e3⟩ := e
    cases e3
    exact ⟨φ, ρ, μ, ds, _, z, R, e1, e2, fun φ' H' x => q φ' _ H' x (.str z)⟩
  cases ps with
  | cons p2 ps =>
    obtain ⟨ts, hts, r⟩ := parts_read hp h
    refine PE.imp (pe_joined hts) fun σ H Q q => ?_
    obtain ⟨φ, ρ, μ, ds, μ', z, R, e1, e2, q⟩ := rd σ H Q q
    exact r φ ρ μ ds μ' _ z σ H _ R e1 e2 q
  | nil =>
    cases h with
    | @cons i is _ _ h1 h2 =>
      cases h2
      simp only [partsB, Bool.and_true] at hp
      obtain ⟨t, ht, rt⟩ := part_read hp h1
      refine PE.imp (pe_joined1 ht) fun σ H Q q => ?_
      obtain ⟨φ, ρ, μ, ds, μ', z, R, e1, e2, q⟩ := rd σ H Q q
      simp only [evEs, Option.bind_eq_some_iff, Option.map_eq_some_iff] at e1
      obtain ⟨⟨d, μ1⟩, f1, ⟨ds', μ2⟩, f2, f3⟩ := e1
      cases f2; cases f3
      simp only [fstD, Option.bind_eq_some_iff] at e2
      obtain ⟨y, hy, e2⟩ := e2
      split at e2
      · cases e2
        rw [empty_add] at q
        exact rt φ ρ μ d _ y σ H Q R f1 hy q
      · cases e2
end
end FH
end
section
/-! FH15d: sorted(set(texts)); dicts with None among their keys, that one name alone holds. -/
namespace FH
open PySem PySem.Spec PyProof.Rows L2
section
variable {ε : Ev} {T : Tab} {Γ : Env2} {S : SC} {X : Cx}
theorem enc_strs {φ : List Addr} {H : Hp} : ∀ ys : List Str, EncL ε φ H (ys.map V.str) (ys.map D.str)
  | [] => .nil
  | y :: ys => .cons (.str y) (enc_strs ys)
theorem sf_sortset (C : CxOk ε T Γ S X) {a : Expr} {ia : IE} {xp xq pos pos2 : Pos} (hg : glB S.sc "sorted" = true) (ht : T.look "sorted" = .no) (hg2 : glB S.sc "set" = true) (ht2 : T.look "set" = .no) (ha : PE X a (rdO ε Γ ia)) (ok : okE a = true) :
    PE X (.Call (.Name "sorted" xp) [.Call (.Name "set" xq) [a] [] pos2] [] pos) (rdF ε Γ (.sortset ia)) := by
  have g := C.gl "sorted"
  rw [ht] at g
  have g2 := C.gl "set"
  rw [ht2] at g2
  have hu := C.hu
  have inner := pe_callTy (pos := pos2) (cr_setS C.calm) (glB_ok C hg2) g2 (by decide +kernel) (pa_cons ha pa_nil (star_cons ok)) (by decide +kernel) (by decide +kernel) (star_cons ok) rfl (p := xq) (e := a) (es := [])
  refine PE.imp (pe_callB (cr_sortSS C.calm (by omega)) (glB_ok C hg) g (by decide +kernel) (pa_cons inner pa_nil (star_cons rfl)) (by decide +kernel) (by decide +kernel) (star_cons rfl) rfl) fun σ H Q ⟨φ, ρ, μ, ds, μ', R, e, q⟩ => ?_
  simp only [evF, Option.bind_eq_some_iff] at e
  obtain ⟨⟨x, μ1⟩, e1, e2⟩ := e
  refine ⟨φ, ρ, μ, x, μ1, R, e1, fun φ1 v H1 x1 y1 => ?_⟩
  have w := y1.view x1.sto
  split at e2
  · rename_i es ev
    simp only [Option.bind_eq_some_iff] at e2
    obtain ⟨ys, e3, e4⟩ := e2
    split at e4
    · rename_i hz
      cases e4
      rw [ev] at w
      obtain ⟨a, vs, rfl, h1, h2⟩ := w.lst
      have hv := strsD_ok h2 e3
      subst hv
      refine ⟨a, ys, rfl, C.K ▸ h1.sq, hz, fun p hp => ⟨p, setS' ys, rfl, upd_same, ?_, fun p2 hp2 => ?_⟩⟩
      · have := setS_le ys []
        have := sizeLine_eq
        unfold setS'
        unfold scanBound at hz
        simp at *
        omega
      · have x2 := x1.trans (.ex x1.sto (Ex.new (o := SetSO X.w p (setS' ys)) hp))
        rw [sortS_ms] at q
        exact q φ1 _ p2 (.mk' x2 hp2 (enc_strs _))
    · cases e4
  · cases e2
/-! ### dicts of None, ints and texts -/
theorem ndS_inv {ρ : Slots} {i : Nat} {kvs : List (NK × D)} (h : ndS ρ i = some kvs) : ρ[i]? = some (.own (.nd kvs)) := by
  unfold ndS at h
  split at h
  · cases h; assumption
  · cases h
theorem EncK.lenN {φ : List Addr} {H : Hp} {fs : List (NK × V)} {ds : List (NK × D)} (h : EncK ε φ H fs ds) : fs.length = ds.length := Paired.length h
theorem EncK.getN {φ : List Addr} {H : Hp} : ∀ {fs : List (NK × V)} {ds : List (NK × D)} (k : NK), EncK ε φ H fs ds → (valV fs k).isSome = (FH.getN ds k).isSome
  | _, _, k, .nil => rfl
  | p :: ps, q :: qs, k, .cons h t => by
    have ih := EncK.getN k t
    unfold FH.getN at ih ⊢
    by_cases e : p.1 = k
    · have e' : q.1 = k := h.1 ▸ e
      rw [valV_pos e, List.find?_cons]
      simp [e']
    · have e' : ¬ q.1 = k := h.1 ▸ e
      rw [valV_neg e, List.find?_cons]
      simp [e', ih]
theorem nkD_ok {φ : List Addr} {H : Hp} {v : V} {d : D} {k : NK} (h : Enc ε φ H v d) (e : nkD d = some k) : v = nV k := by
  cases d <;> simp only [nkD, Option.some.injEq, reduceCtorEq] at e
  all_goals (subst e; cases h; rfl)
theorem sd_ndlen (C : CxOk ε T Γ S X) {i : Nat} {x : Str} {xp pos2 pos : Pos} (hg : glB S.sc "len" = true) (ht : T.look "len" = .no) (h : S.N[i]? = some x) (hv : visB S.sc x = true) (hn : nameOk x = true) :
    PE X (.Call (.Name "len" xp) [.Name x pos2] [] pos) (rdE ε Γ (.ndlen i)) := by
  have g := C.gl "len"
  rw [ht] at g
  simp only [nameOk, Bool.and_eq_true, Bool.not_eq_true'] at hn
  have nm := pe_var (X := X) (i := i) (x := x) (pos := pos2) (by rw [C.N]; exact h) (by rw [C.sc]; exact visB_ok hv) hn.1.1 hn.1.2
  refine PE.imp (pe_callB cr_lenN (glB_ok C hg) g (by decide +kernel) (pa_cons nm pa_nil (star_cons rfl)) (by decide +kernel) (by decide +kernel) (star_cons rfl) rfl) fun σ H Q ⟨φ, ρ, μ, d, μ', R, e, q⟩ => ?_
  simp only [evE, Option.map_eq_some_iff] at e
  obtain ⟨kvs, e1, e2⟩ := e
  cases e2
  obtain ⟨a, h1, h2, h3, h4⟩ := R.own (ndS_inv e1)
  cases h2 with
  | nd n1 n2 =>
    rw [C.P, C.w] at n1
    exact ⟨_, h1, a, _, rfl, n1, by rw [n2.lenN]; exact q φ _ H (.refl R.sto) (.int _)⟩
theorem ndhas_read (C : CxOk ε T Γ S X) {neg : Bool} {i : Nat} {ik : IE} {σ : L2.St} {H : Hp} {Q : VK} (h : rdE ε Γ (.ndhas neg ik i) σ H Q) :
    tOp (rInN X.prog X.w neg) (rdE ε Γ ik) (fun σ H Q => ∃ v, σ[i]? = some (some v) ∧ Q v H) σ H Q := by
  obtain ⟨φ, ρ, μ, d, μ', R, e, q⟩ := h
  simp only [evE, Option.bind_eq_some_iff, Option.map_eq_some_iff] at e
  obtain ⟨⟨x, μ1⟩, e1, kvs, e2, k, e3, e4⟩ := e
  cases e4
  refine ⟨φ, ρ, μ, x, _, R, e1, fun φ1 v H1 x1 y1 => ?_⟩
  obtain ⟨a, h1, h2, h3, h4⟩ := (R.step x1).own (ndS_inv e2)
  cases h2 with
  | nd n1 n2 =>
    rw [C.P, C.w] at n1
    exact ⟨_, h1, a, _, k, rfl, nkD_ok y1 e3, n1, by rw [n2.getN]; exact q φ1 _ H1 x1 (.bl _)⟩
theorem sd_ndhas (C : CxOk ε T Γ S X) {neg : Bool} {k : Expr} {ik : IE} {i : Nat} {x : Str} {pos2 pos : Pos} (h : S.N[i]? = some x) (hv : visB S.sc x = true) (hn : nameOk x = true) (hk : PE X k (rdE ε Γ ik)) :
    PE X (.Compare k [if neg then .NotIn else .In] [.Name x pos2] pos) (rdE ε Γ (.ndhas neg ik i)) ∧ PT X (.Compare k [if neg then .NotIn else .In] [.Name x pos2] pos) (rdT ε Γ (.ndhas neg ik i)) := by
  simp only [nameOk, Bool.and_eq_true, Bool.not_eq_true'] at hn
  have nm := pe_var (X := X) (i := i) (x := x) (pos := pos2) (by rw [C.N]; exact h) (by rw [C.sc]; exact visB_ok hv) hn.1.1 hn.1.2
  have key : ∀ {σ : L2.St} {H : Hp} {Q : Bool → Hp → Prop}, rdT ε Γ (.ndhas neg ik i) σ H Q → rdE ε Γ (.ndhas neg ik i) σ H fun x H1 => ∃ c, x = .bl c ∧ Q c H1 := fun {σ H Q} ⟨φ, ρ, μ, d, μ', k, R, e, et, q⟩ => by
    refine ⟨φ, ρ, μ, d, μ', R, e, fun φ1 v H1 x1 y1 => ?_⟩
    simp only [evE, Option.bind_eq_some_iff, Option.map_eq_some_iff] at e
    obtain ⟨_, _, _, _, _, _, e4⟩ := e
    cases e4
    cases y1
    cases et
    exact ⟨_, rfl, q φ1 H1 x1⟩
  cases neg with
  | true => exact ⟨PE.imp (pe_cmpR op_notInN hk nm (mark_ok rfl)) fun σ H Q h => ndhas_read C h, PT.imp (pt_cmpR op_notInN hk nm (mark_ok rfl)) fun σ H Q h => ndhas_read C (key h)⟩
  | false => exact ⟨PE.imp (pe_cmpR op_inN hk nm (mark_ok rfl)) fun σ H Q h => ndhas_read C h, PT.imp (pt_cmpR op_inN hk nm (mark_ok rfl)) fun σ H Q h => ndhas_read C (key h)⟩

/-! ### the comprehension -/
theorem Res.updG {φ φ' : List Addr} {H H' : Hp} {μ' : Store} {D : Addr} {o : HO} (x : Res ε φ H φ' μ' H') (nt : ∀ xs, H' D ≠ some (.tup xs)) (nf : ∀ q u, H' D ≠ some (.frz q u)) (there : H' D ≠ none) (out : D ∉ φ') (free : H D = none) :
    Res ε φ H φ' μ' (L2.upd H' D o) ∧ Grow H' (L2.upd H' D o) := by
  have ne : ∀ b u, H b = some u → b ≠ D := fun b u e z => by rw [z, free] at e; cases e
  have g : Grow H' (L2.upd H' D o) := ⟨fun b zs e => by rw [upd_ne (fun z => by rw [z] at e; exact nt _ e)]; exact e, fun b q u e => by rw [upd_ne (fun z => by rw [z] at e; exact nf _ _ e)]; exact e⟩
  refine ⟨?_, g⟩
  obtain ⟨⟨⟨p2, e2, f2⟩, gr, kp, th⟩, S⟩ := x
  refine ⟨⟨⟨p2, e2, f2⟩, gr.trans g, fun b u e nb => ?_, fun b e z => ?_⟩, ⟨S.len, S.nd, fun m a c e1 e2 => ?_⟩⟩
  · rw [upd_ne (ne b u e)]; exact kp b u e nb
  · by_cases hb : b = D
    · rw [hb, upd_same] at z; cases z
    · rw [upd_ne hb] at z; exact th b e z
  · have q := (S.at_ m a c e1 e2).mono [] g fun u e => by rw [upd_ne (fun z => out (by rw [← z]; exact List.mem_of_getElem? e1))]; exact e
    rwa [List.append_nil] at q
theorem extK {κ : Type} {φ φ' : List Addr} {H H' : Hp} {ks : List (κ × V)} {ds : List (κ × D)} (x : Ext φ H φ' H') (h : EncK ε φ H ks ds) : EncK ε φ' H' ks ds := by
  obtain ⟨p2, rfl, _⟩ := x.more
  exact EncK.mono p2 x.grow h
theorem growK {κ : Type} {φ : List Addr} {H H' : Hp} {ks : List (κ × V)} {ds : List (κ × D)} (g : Grow H H') (h : EncK ε φ H ks ds) : EncK ε φ H' ks ds := by
  have q := EncK.mono [] g h
  rwa [List.append_nil] at q
/-- one turn -/
def turnD (Γ : Env2) (g : Tg) (ρ0 : Slots) (c : IO) (k v : IE) : D → Store → Option (Option (NK × D) × Store) := fun x μ => (asgT g x ρ0).bind fun ρ' => (evC Γ c ρ' μ).bind fun b =>
  if b.1 then (evE Γ k ρ' b.2).bind fun kd => (evE Γ v ρ' kd.2).bind fun q => (nkD kd.1).map fun kk => (some (kk, q.1), q.2) else some (none, b.2)
theorem EncK.anyN {φ : List Addr} {H : Hp} : ∀ {fs : List (NK × V)} {ds : List (NK × D)} (k : NK), EncK ε φ H fs ds → (fs.any fun kv => decide (kv.1 = k)) = ds.any fun kv => decide (kv.1 = k)
  | _, _, k, .nil => rfl
  | p :: ps, q :: qs, k, .cons h t => by
    rw [List.any_cons, List.any_cons, EncK.anyN k t, h.1]
theorem EncK.mapN {φ : List Addr} {H : Hp} {v : V} {d : D} (hv : Enc ε φ H v d) : ∀ {fs : List (NK × V)} {ds : List (NK × D)} (k : NK), EncK ε φ H fs ds →
    EncK ε φ H (fs.map fun kv => if kv.1 = k then (kv.1, v) else kv) (ds.map fun kv => if kv.1 = k then (kv.1, d) else kv)
  | _, _, k, .nil => .nil
  | p :: ps, q :: qs, k, .cons h t => by
    refine .cons ?_ (EncK.mapN hv k t)
    by_cases e : p.1 = k
    · have e' : q.1 = k := h.1 ▸ e
      dsimp only
      rw [if_pos e, if_pos e']
      exact ⟨h.1, hv⟩
    · have e' : ¬ q.1 = k := h.1 ▸ e
      dsimp only
      rw [if_neg e, if_neg e']
      exact h
theorem EncK.putN {φ : List Addr} {H : Hp} {v : V} {d : D} (hv : Enc ε φ H v d) {fs : List (NK × V)} {ds : List (NK × D)} (k : NK) (h : EncK ε φ H fs ds) : EncK ε φ H (putK fs k v) (setN ds k d) := by
  unfold putK setN
  rw [EncK.anyN k h]
  by_cases e : (ds.any fun kv => decide (kv.1 = k)) = true
  · rw [if_pos e, if_pos e]; exact EncK.mapN hv k h
  · rw [if_neg e, if_neg e]; exact Paired.snoc h ⟨rfl, hv⟩
theorem setN_len (kvs : List (NK × D)) (k : NK) (v : D) : (setN kvs k v).length ≤ kvs.length + 1 := by
  unfold setN; split <;> simp
theorem st_setDc (C : CxOk ε T Γ S X) {i : Nat} {y : Str} {kx vx tg iter : Expr} {ifs : List Expr} {scope : Scope} {own : List (Str × Nat)} {pos py spos : Pos} {g : Tg} {s : Src} {c : IO} {k v : IE} (hkd : S.sc.kind = .function) (h : S.N[i]? = some y) (hy : S.sc.names.lookup y = some .local)
    (hl : lineB py pos = true) (ha : (scope.names.any fun p => p.1 == y && (p.2 == .local || p.2 == .cell)) = false)
    (hi : PI X tg iter (rdS ε Γ s)) (ok : blkC S.N S.sc scope own = true)
    (hg : ∀ Y, CxOk ε T Γ (S.inner scope) Y → PG Y tg (rdG ε g)) (ht : ∀ Y, CxOk ε T Γ (S.inner scope) Y → PTs Y ifs (rdC ε Γ c)) (hk : ∀ Y, CxOk ε T Γ (S.inner scope) Y → PE Y kx (rdE ε Γ k)) (he : ∀ Y, CxOk ε T Γ (S.inner scope) Y → PE Y vx (rdE ε Γ v))
    (sub : ∀ i ∈ tgI g, i ∈ own.map (·.2)) (hs : setB iter = true) : PS X (.Assign [.Name y py] (.DictComp kx vx [⟨tg, iter, ifs, 0⟩] scope pos) spos) (rdSt ε Γ (.setDc i g own s c k v)) := by
  refine PS.imp (ps_setDg dst_n C.calm (by rw [C.N]; exact C.nd) (by rw [C.N]; exact h) (by rw [C.sc]; exact hy) (swd_true (by rw [C.sc]; exact hkd) (by rw [C.sc]; exact hy) hl ha) hi (by rw [C.N, C.sc]; exact blkOk_by ok)
    (fun s H CC cl fp => hg _ (C.inner scope s H CC cl fp)) (fun s H CC cl fp => ht _ (C.inner scope s H CC cl fp)) (fun s H CC cl fp => hk _ (C.inner scope s H CC cl fp)) (fun s H CC cl fp => he _ (C.inner scope s H CC cl fp)) (folded_ok hs)) fun D σ H ⟨φ, ρ, μ, fl, ρ', μ', R, ev, q⟩ => ?_
  simp only [evS, Option.bind_eq_some_iff] at ev
  obtain ⟨⟨sr, μ1⟩, e1, e2⟩ := ev
  split at e2
  case h_2 => cases e2
  rename_i its hsr
  obtain rfl : sr = .items its := hsr
  simp only [Option.bind_eq_some_iff, Option.map_eq_some_iff] at e2
  obtain ⟨⟨kvs, μ2⟩, e2, ρ1, e3, e4⟩ := e2
  cases e4
  have e2 : loopD (turnD Γ g (wipeS ρ (own.map (·.2))) c k v) its [] μ1 = some (kvs, μ2) := e2
  obtain ⟨rfl, hil⟩ := setS_ok e3
  refine ⟨φ, ρ, μ, _, μ1, R, e1, fun φ1 J H1 x1 hJ D' hD => ?_⟩
  have free : H D' = none := by
    cases ed : H D' with
    | none => rfl
    | some o => exact absurd hD (x1.ext.there D' (by rw [ed]; simp))
  have out1 : D' ∉ φ1 := fun z => by
    obtain ⟨o, eo⟩ := x1.sto.there z
    rw [hD] at eo; cases eo
  have g0 : Ex H1 (upd H1 D' (DnO X.prog X.w D' [])) := Ex.new hD
  refine ⟨fun i m Hi => m = its.length - i ∧ i ≤ its.length ∧ ∃ φi μi accV accD, loopD (turnD Γ g (wipeS ρ (own.map (·.2))) c k v) (its.drop i) accD μi = some (kvs, μ2) ∧
    Res ε φ H φi μi Hi ∧ Grow H1 Hi ∧ Hi D' = some (DnO X.prog X.w D' accV) ∧ D' ∉ φi ∧ EncK ε φi Hi accV accD ∧ ∃ p2, φi = φ1 ++ p2,
    ⟨its.length, by simp, Nat.zero_le _, φ1, μ1, [], [], by simpa using e2, x1.trans (.ex x1.sto g0), g0.grow, upd_same, out1, .nil, [], by simp⟩, ?_⟩
  rintro i m Hi ⟨rfl, hi, φi, μi, accV, accD, el, xi, gi, hDi, oi, hacc, p2, hp⟩
  by_cases hlt : i < its.length
  · obtain ⟨d, ed⟩ : ∃ d, its[i]? = some d := ⟨its[i], by simp [hlt]⟩
    obtain ⟨hgo, hyl⟩ := hJ.go Hi gi i d ed
    have edrop : its.drop i = d :: its.drop (i + 1) := by
      rw [List.drop_eq_getElem_cons hlt]
      have : its[i] = d := by simpa [hlt] using ed
      rw [this]
    rw [edrop] at el
    simp only [loopD, Option.bind_eq_some_iff] at el
    obtain ⟨⟨o, μ3⟩, f1, f2⟩ := el
    refine .inr ⟨hgo, fun H' => its.length - (i + 1) = its.length - (i + 1) ∧ i + 1 ≤ its.length ∧ ∃ φi μi accV accD, loopD (turnD Γ g (wipeS ρ (own.map (·.2))) c k v) (its.drop (i + 1)) accD μi = some (kvs, μ2) ∧
      Res ε φ H φi μi H' ∧ Grow H1 H' ∧ H' D' = some (DnO X.prog X.w D' accV) ∧ D' ∉ φi ∧ EncK ε φi H' accV accD ∧ ∃ p2, φi = φ1 ++ p2, fun H' w => ⟨_, by omega, w⟩, fun x H' yl => ?_⟩
    obtain ⟨hx, hv⟩ := hyl x H' yl
    have hv : Enc ε φi H' x d := by rw [hp]; exact hv.mono p2 .refl
    unfold turnD at f1
    simp only [Option.bind_eq_some_iff] at f1
    obtain ⟨ρ', t1, ⟨b, μ4⟩, t2, t3⟩ := f1
    have x0 : Res ε φi Hi φi μi H' := .ex xi.sto hx
    refine ⟨φi, _, μi, d, ρ', ((R.step xi).step x0).wipe _, hv, t1, fun σ2 R2 o2 w2 => ⟨wipe_out o2 sub, φi, ρ', μi, b, μ4, R2, t2, fun φ3 H3 x3 => ?_⟩⟩
    have hD' : H' D' = some (DnO X.prog X.w D' accV) := hx D' _ hDi
    obtain ⟨out3, hD3⟩ := x3.outs hD' oi
    have xx := (xi.trans x0).trans x3
    have g3 : Grow Hi H3 := hx.grow.trans x3.ext.grow
    have mo3 : ∃ p3, φ3 = φ1 ++ p3 := by
      obtain ⟨p3, e, _⟩ := x3.ext.more
      exact ⟨p2 ++ p3, by rw [e, hp, List.append_assoc]⟩
    cases b with
    | false =>
      simp at t3
      obtain ⟨rfl, rfl⟩ := t3
      simp only [Bool.false_eq_true, if_false]
      exact ⟨by first | rfl | trivial, hlt, φ3, _, accV, accD, f2, xx, gi.trans g3, hD3, out3, extK (x0.trans x3).ext hacc, mo3⟩
    | true =>
      simp only [if_true, Option.bind_eq_some_iff, Option.map_eq_some_iff] at t3
      obtain ⟨⟨kd, μ5⟩, t4, ⟨vd, μ6⟩, t5, kk, t6, t7⟩ := t3
      cases t7
      simp only [if_true]
      refine ⟨φ3, ρ', μ4, kd, _, R2.step x3, t4, fun φ4 v4 H4 x4 y4 => ⟨φ4, ρ', μ5, vd, _, (R2.step x3).step x4, t5, fun φ5 v5 H5 x5 y5 => ?_⟩⟩
      obtain ⟨out4, hD4⟩ := x4.outs hD3 out3
      obtain ⟨out5, hD5⟩ := x5.outs hD4 out4
      simp only at f2
      split at f2
      case isFalse => cases f2
      rename_i hz
      have hlen := hacc.lenN
      refine ⟨accV, kk, nkD_ok y4 t6, hD5, by omega, ?_⟩
      have xxx := (xx.trans x4).trans x5
      obtain ⟨r1, r2⟩ := xxx.updG (o := DnO X.prog X.w D' (putK accV kk v5)) (fun xs z => by rw [hD5] at z; cases z) (fun a b z => by rw [hD5] at z; cases z) (by rw [hD5]; simp) out5 free
      have hac := EncK.putN y5 kk (extK (((x0.trans x3).trans x4).trans x5).ext hacc)
      have mo5 : ∃ p3, φ5 = φ1 ++ p3 := by
        obtain ⟨p3, rfl⟩ := mo3
        obtain ⟨p4, e4, _⟩ := x4.ext.more
        obtain ⟨p5, e5, _⟩ := x5.ext.more
        exact ⟨p3 ++ (p4 ++ p5), by rw [e5, e4, List.append_assoc, List.append_assoc]⟩
      exact ⟨by first | rfl | trivial, hlt, φ5, _, _, _, f2, r1, ((gi.trans g3).trans (x4.ext.grow.trans x5.ext.grow)).trans r2, upd_same, out5, growK r2 hac, mo5⟩
  · have hi' : i = its.length := by omega
    subst hi'
    rw [List.drop_length] at el
    cases el
    refine .inl ⟨hJ.stop Hi gi, q φi _ Hi ?_⟩
    have x := StP.of R xi
    have np : D' ∉ ownA ρ σ := fun z => by
      obtain ⟨o, e⟩ := ownA_there R.slots D' z
      rw [free] at e; cases e
    refine ⟨x.rel.put ⟨D', rfl, .nd (by rw [C.P, C.w]; exact hDi) hacc⟩ fun c a e1 e2 => ?_, x.more, x.grow, x.there, x.keep, fun a ha => ?_⟩
    · cases e2; exact ⟨np, oi⟩
    · rcases mem_ownA_set ha with ha | ⟨c, e1, e2⟩
      · exact .inl ha
      · cases e2; exact .inr free
/-! ### extend by a list that is there -/
def rExtV (K : PySem.W.Frag) : V → List V → Hp → VK → Prop := fun x vs H Q => ∃ l b xs zs, x = V.ref l ∧ vs = [V.ref b] ∧ H l = some (.lst xs) ∧ RdL K H b zs ∧ xs.length + zs.length ≤ sizeLine ∧ Q .non (upd H l (.lst (xs ++ zs)))
theorem mt_extV : MtM X "list.extend" (rExtV X.K) := by
  intro pins s σ H x vs v us Q I rx rv h
  obtain ⟨l, b, xs, zs, rfl, rfl, hH, hB, hz, q⟩ := h
  cases rx
  obtain ⟨u, rfl, ru⟩ := rv.one
  cases ru
  obtain ⟨z, its, n, r, hl, e⟩ := I.lstM hH
  obtain ⟨its2, n2, z2, r2, e2⟩ := hB.at_ I
  have hl2 := r2.length
  have hsz : its.toArray.size + its2.toArray.size ≤ sizeLine := by rw [List.size_toArray, List.size_toArray]; omega
  have hlong : ¬ (!its.toArray.isEmpty && Builtin.List.listTooLong (its.toArray.size + its2.toArray.size)) = true := by
    rw [notLongL hsz, Bool.and_false]
    exact Bool.false_ne_true
  refine call_meets PySem.F.slot_list_extend ⟨_, e, rfl⟩ PySem.F.entry_list_extend (PySem.F.args_list_extend_2 _ _)
    (AutoSeq1.list_extend_list_list_0 l its.toArray n b its2.toArray n2 hlong (by rw [List.size_toArray]; omega) (by omega)) ⟨e, e2, ?_⟩
  exact ⟨.non, _, I.lset (its' := its ++ its2) hH e (by simp) (r.append r2) (by rw [List.length_append]; omega), rfl, q⟩
theorem st_extV (C : CxOk ε T Γ S X) {x : Str} {e : Expr} {i : Nat} {ie : IE} {xp apos cpos pos : Pos} (h : S.N[i]? = some x) (hv : visB S.sc x = true) (hn : nameOk x = true) (ok : okE e = true) (hl : (apos.endLine == cpos.line) = true) (he : PE X e (rdE ε Γ ie)) :
    PS X (.Expr (.Call (.Attribute (.Name x xp) "extend" apos) [e] [] cpos) pos) (rdSt ε Γ (.extV i ie)) := by
  simp only [nameOk, Bool.and_eq_true, Bool.not_eq_true'] at hn
  have vx : PE X (.Name x xp) (tVar i) := pe_var (i := i) (by rw [C.N]; exact h) (by rw [C.sc]; exact visB_ok hv) hn.1.1 hn.1.2
  refine PS.imp (ps_expr (bm1 PySem.F.plainAttrs_list PySem.F.slot_list_extend PySem.F.type_list_extend mt_extV rfl ok hl vx he)) fun D σ H ⟨φ, ρ, μ, fl, ρ', μ', R, e, q⟩ => ?_
  simp only [evS, Option.bind_eq_some_iff] at e
  obtain ⟨ds, e1, ⟨x, μ1⟩, e2, e3⟩ := e
  have hi := ownS_ok e1
  obtain ⟨a, hs, hc, na, _⟩ := R.own hi
  cases hc with
  | lst c1 c2 =>
    rename_i vs
    refine ⟨_, hs, tyV_lst c1, φ, ρ, μ, x, μ1, R, e2, fun φ1 v1 H1 x1 y1 => ?_⟩
    have w := ArgOk.view x1.sto (.inl y1)
    split at e3
    · rename_i es ev
      split at e3
      · rename_i hz
        cases e3
        rw [ev] at w
        obtain ⟨b, ws, rfl, n1, n2⟩ := w.lst
        obtain ⟨_, k1⟩ := x1.outs c1 na
        refine ⟨a, b, vs, ws, rfl, rfl, k1, C.K ▸ n1, by rw [c2.length, n2.length]; exact hz, ?_⟩
        exact q φ1 σ _ ((StP.of R x1).trans (.oset (R.step x1) hi hs k1 ((x1.ext.encL c2).app n2)))
      · cases e3
    · cases e3
end
end FH
end
section
/-! FH16: the look that ties a term to a piece of the text. -/
namespace FH
open PySem PySem.Spec PyProof.Rows L2
mutual
def D.same : D → D → Bool
  | .non, .non => true
  | .bl a, .bl b => a == b
  | .int a, .int b => decide (a = b)
  | .str a, .str b => decide (a = b)
  | .tup a, .tup b => sameL a b
  | .lst a, .lst b => sameL a b
  | .fn a, .fn b => decide (a = b)
  | .ref a, .ref b => decide (a = b)
  | .ty a, .ty b => decide (a = b)
  | _, _ => false
def sameL : List D → List D → Bool
  | [], [] => true
  | a :: as, b :: bs => a.same b && sameL as bs
  | _, _ => false
end
mutual
theorem same_ok : ∀ {a b : D}, D.same a b = true → a = b
  | a, b, h => by
    cases a <;> cases b <;> simp only [D.same, beq_iff_eq, decide_eq_true_eq, Bool.false_eq_true] at h <;> (first | rfl | (rw [h]; done) | (rw [sameL_ok h]; done))
theorem sameL_ok : ∀ {a b : List D}, sameL a b = true → a = b
  | [], [], _ => rfl
  | [], _ :: _, h => by simp [sameL] at h
  | _ :: _, [], h => by simp [sameL] at h
  | a :: as, b :: bs, h => by
    simp only [sameL, Bool.and_eq_true] at h
    rw [same_ok h.1, sameL_ok h.2]
end
def sameKv : List (Str × D) → List (Str × D) → Bool
  | [], [] => true
  | a :: as, b :: bs => decide (a.1 = b.1) && a.2.same b.2 && sameKv as bs
  | _, _ => false
theorem sameKv_ok : ∀ {a b : List (Str × D)}, sameKv a b = true → a = b
  | [], [], _ => rfl
  | [], _ :: _, h => by simp [sameKv] at h
  | _ :: _, [], h => by simp [sameKv] at h
  | (a, c) :: as, (b, d) :: bs, h => by
    simp only [sameKv, Bool.and_eq_true, decide_eq_true_eq] at h
    rw [h.1.1, same_ok h.1.2, sameKv_ok h.2]
def noG : G → Bool
  | .no => true | _ => false
def conG (d : D) : G → Bool
  | .con e => e.same d | _ => false
def fnG (f : Nat) : G → Bool
  | .fn g => decide (g = f) | _ => false
def clsG (c : Nat) : G → Bool
  | .cls d => decide (d = c) | _ => false
def dctG (k : List (Str × D)) : G → Bool
  | .dct d => sameKv d k | _ => false
theorem noG_ok {g : G} (h : noG g = true) : g = .no := by cases g <;> first | rfl | (simp [noG] at h)
theorem conG_ok {g : G} {d : D} (h : conG d g = true) : g = .con d := by cases g <;> simp only [conG, Bool.false_eq_true] at h; rw [same_ok h]
theorem fnG_ok {g : G} {d : Nat} (h : fnG d g = true) : g = .fn d := by cases g <;> simp only [fnG, Bool.false_eq_true, decide_eq_true_eq] at h; rw [h]
theorem clsG_ok {g : G} {d : Nat} (h : clsG d g = true) : g = .cls d := by cases g <;> simp only [clsG, Bool.false_eq_true, decide_eq_true_eq] at h; rw [h]
theorem dctG_ok {g : G} {d : List (Str × D)} (h : dctG d g = true) : g = .dct d := by cases g <;> simp only [dctG, Bool.false_eq_true] at h; rw [sameKv_ok h]
def litB : D → Expr → Bool
  | .int i, .Constant (.int j) _ _ => decide (i = j)
  | .str i, .Constant (.str j) _ _ => decide (i = j)
  | .bl i, .Constant (.bool j) _ _ => i == j
  | .non, .Constant .none _ _ => true
  | _, _ => false
def nmB (S : SC) (i : Nat) : Expr → Bool
  | .Name x _ => decide (S.N[i]? = some x) && visB S.sc x && nameOk x
  | _ => false
/-- a name of the module that is read as a value -/
def globB (T : Tab) (S : SC) (x : Str) (d : D) : Expr → Bool
  | .Name y _ => decide (y = x) && glB S.sc x && nameOk x && (conG d (T.look x) || (match d with
    | .fn f => fnG f (T.look x)
    | .ty n => noG (T.look x) && decide (bootBuiltins x = some (.type n))
    | _ => false))
  | _ => false
/-- an operation's operands -/
def shapeP (T : Tab) (S : SC) : P → Expr → Option (List Expr)
  | .bin op, .BinOp a op' b _ => if op = op' then some [a, b] else none
  | .cmp op, .Compare a [op'] [b] _ => if op = op' then some [a, b] else none
  | .ix, .Subscript a b _ => some [a, b]
  | .neg, .UnaryOp .USub a _ => some [a]
  | p, .Call (.Name x _) (e :: es) [] _ => match bltOf p with
    | some (n, _) => if x = (n : Str) ∧ glB S.sc x = true ∧ noG (T.look x) = true then some (e :: es) else none
    | none => none
  | _, _ => none
def restB (op : BoolOp) (y : Expr) (rest : List Expr) (pos : Pos) : Expr := match rest with
  | [] => y
  | z :: zs => .BoolOp op (y :: z :: zs) pos
def fldC (T : Tab) (c : Nat) (f : Str) : Bool := match T.c[c]? with
  | some I => I.flds.contains f | none => false
def mthC (T : Tab) (c : Nat) (m : Str) (f : Nat) : Bool := match T.c[c]? with
  | some I => decide (I.meths.lookup m = some f) | none => false
def iniC (T : Tab) (c : Nat) (f : Nat) : Bool := match T.c[c]? with
  | some I => decide (I.init = some f) | none => false
/-- o.m(a ..): the receiver, the arguments -/
def shapeM (m : Str) : Expr → Option (Expr × List Expr)
  | .Call (.Attribute o n apos) l [] cpos => if n = m ∧ objB o = true ∧ (apos.endLine == cpos.line) = true then some (o, l) else none
  | _ => none
def shapeN (m : Str) : Expr → Option (List Expr)
  | .Call (.Name x _) l [] _ => if x = m then some l else none
  | _ => none
def mthName : M → Str
  | .sindex => "index" | .join => "join"
mutual
def chkTg : Tg → SC → Expr → Bool
  | .nm i, S, .Name x _ => decide (S.N[i]? = some x) && locB S x
  | .tp ts, S, .Tuple es _ _ => decide (es.length = tgsN ts) && es.all tgE && chkTgs ts S es
  | _, _, _ => false
def chkTgs : Tgs → SC → List Expr → Bool
  | .nil, _, [] => true
  | .cons t ts, S, e :: es => chkTg t S e && chkTgs ts S es
  | _, _, _ => false
end
mutual
def chkE (T : Tab) : IE → Bool → SC → Expr → Bool
  | .lit d, _, _, e => litB d e
  | .var i, _, S, e => nmB S i e
  | .own i, o, S, e => o && nmB S i e
  | .glob x d, _, S, e => globB T S x d e
  | .prim p es, _, S, e => match shapeP T S p e with
    | some l => chkEs T es true S l
    | none => false
  | .tindex i a, _, S, e => match shapeM "index" e with
    | some (x, [z]) => nmB S i x && okE z && chkE T a false S z
    | _ => false
  | .meth m a es, _, S, e => match shapeM (mthName m) e with
    | some (x, [z]) => chkE T a false S x && chkEs T es true S [z]
    | _ => false
  | .gdget x kvs k, _, S, e => match e with
    | .Subscript (.Name y _) z _ => decide (y = x) && glB S.sc x && nameOk x && dctG kvs (T.look x) && okE z && chkE T k false S z
    | _ => false
  | .fstr es, _, S, e => match e with
    | .JoinedStr (p :: ps) _ => partsB es (p :: ps) && chkEs T es false S ((p :: ps).map unF)
    | _ => false
  | .slice a lo hi, _, S, e => match e with
    | .Subscript x (.Slice l h none _) _ => chkE T a true S x && chkO T lo S l && chkO T hi S h
    | _ => false
  | .nott a, _, S, e => match e with
    | .UnaryOp .Not x _ => chkE T a false S x
    | _ => false
  | .andd a b, _, S, e => match e with
    | .BoolOp .And (x :: y :: rest) pos => chkE T a false S x && chkE T b false S (restB .And y rest pos)
    | _ => false
  | .orr a b, _, S, e => match e with
    | .BoolOp .Or (x :: y :: rest) pos => chkE T a false S x && chkE T b false S (restB .Or y rest pos)
    | _ => false
  | .cond c a b, _, S, e => match e with
    | .IfExp x y z _ => chkE T c false S x && chkE T a false S y && chkE T b false S z
    | _ => false
  | .cmp2 o1 o2 a b c, _, S, e => match e with
    | .Compare x [p1, p2] [y, z] _ => decide (p1 = o1) && decide (p2 = o2) && okE z && chkE T a true S x && chkE T b true S y && chkE T c true S z
    | _ => false
  | .tup es, _, S, e => match e with
    | .Tuple l _ _ => chkEs T es false S l
    | _ => false
  | .frz f, _, S, e => chkF T f S e
  | .cell f, _, S, e => chkF T f S e
  | .celld, _, _, e => match e with
    | .Dict [] [] _ => true
    | _ => false
  | .dcopy a, _, S, e => match shapeN "dict" e with
    | some [z] => glB S.sc "dict" && noG (T.look "dict") && okE z && chkE T a false S z
    | _ => false
  | .dlen a, _, S, e => match shapeN "len" e with
    | some [z] => glB S.sc "len" && noG (T.look "len") && okE z && chkE T a false S z
    | _ => false
  | .ndlen i, _, S, e => match shapeN "len" e with
    | some [z] => glB S.sc "len" && noG (T.look "len") && nmB S i z
    | _ => false
  | .ndhas neg k i, _, S, e => match e with
    | .Compare x [op] [y] _ => decide (op = if neg then .NotIn else .In) && nmB S i y && chkE T k false S x
    | _ => false
  | .isir es, _, S, e => match shapeN "isinstance" e with
    | some (x :: l) => glB S.sc "isinstance" && noG (T.look "isinstance") && (x :: l).all okE && chkEs T es true S (x :: l)
    | _ => false
  | .call x f es, _, S, e => match shapeN x e with
    | some l => glB S.sc x && nameOk x && fnG f (T.look x) && chkEs T es false S l
    | none => false
  | .callv i es, _, S, e => match e with
    | .Call (.Name y _) (z :: l) [] _ => decide (S.N[i]? = some y) && visB S.sc y && nameOk y && chkEs T es false S (z :: l)
    | _ => false
  | .attr c a f, _, S, e => match e with
    | .Attribute x g _ => decide (g = f) && objB x && fldC T c f && chkE T a false S x
    | _ => false
  | .mcall c m f a es, _, S, e => match shapeM m e with
    | some (x, l) => mthC T c m f && decide (l.length < 30) && chkE T a false S x && chkEs T es false S l
    | none => false
  | .make x c f es, _, S, e => match shapeN x e with
    | some l => glB S.sc x && nameOk x && clsG c (T.look x) && iniC T c f && chkEs T es false S l
    | none => false
  | .dhas neg k d, _, S, e => match e with
    | .Compare x [op] [y] _ => decide (op = if neg then .NotIn else .In) && okE y && chkE T k false S x && chkE T d false S y
    | _ => false
  | .dget d k, _, S, e => match e with
    | .Subscript x y _ => okE y && chkE T d false S x && chkE T k false S y
    | _ => false
  | .dgetD d k z, _, S, e => match shapeM "get" e with
    | some (x, [y, w]) => okE y && okE w && chkE T d false S x && chkE T k false S y && chkE T z false S w
    | _ => false
  | .dsetd d k z, _, S, e => match shapeM "setdefault" e with
    | some (x, [y, w]) => okE y && okE w && chkE T d false S x && chkE T k false S y && chkE T z false S w
    | _ => false
def chkEs (T : Tab) : IEs → Bool → SC → List Expr → Bool
  | .nil, _, _, [] => true
  | .cons i is, o, S, e :: es => okE e && chkE T i o S e && chkEs T is o S es
  | _, _, _, _ => false
def chkO (T : Tab) : IO → SC → Option Expr → Bool
  | .no, _, none => true
  | .som i, S, some e => chkE T i false S e
  | _, _, _ => false
def chkC (T : Tab) : IO → SC → List Expr → Bool
  | .no, _, [] => true
  | .som i, S, [e] => chkE T i false S e
  | _, _, _ => false
def chkF (T : Tab) : FE → SC → Expr → Bool
  | .disp es, S, e => match e with
    | .List l _ => chkEs T es false S l
    | _ => false
  | .list a, S, e => match shapeN "list" e with
    | some [z] => glB S.sc "list" && noG (T.look "list") && okE z && chkE T a true S z
    | _ => false
  | .sorted a, S, e => match shapeN "sorted" e with
    | some [z] => glB S.sc "sorted" && noG (T.look "sorted") && okE z && chkE T a true S z
    | _ => false
  | .sortset a, S, e => match shapeN "sorted" e with
    | some [z] => (match shapeN "set" z with
      | some [y] => glB S.sc "sorted" && noG (T.look "sorted") && glB S.sc "set" && noG (T.look "set") && okE y && chkE T a true S y
      | _ => false)
    | _ => false
  | .split a b, S, e => match shapeM "split" e with
    | some (x, [y]) => okE y && chkE T a false S x && chkE T b false S y
    | _ => false
  | .cat a b, S, e => match e with
    | .BinOp x .Add y _ => chkE T a true S x && chkE T b true S y
    | _ => false
  | .comp g own s c i, S, e => match e with
    | .ListComp elt [⟨tg, iter, ifs, z⟩] scope _ => decide (z = 0) && chkS T s S tg iter && blkC S.N S.sc scope own && chkTg g (S.inner scope) tg && chkC T c (S.inner scope) ifs && chkE T i false (S.inner scope) elt &&
        (tgI g).all (fun i => decide (i ∈ own.map (·.2))) && setB iter
    | _ => false
def chkS (T : Tab) : Src → SC → Expr → Expr → Bool
  | .it a, S, _, e => chkE T a false S e
  | .cel a, S, _, e => chkE T a false S e
  | .range1 a, S, _, e => match shapeN "range" e with
    | some [x] => glB S.sc "range" && noG (T.look "range") && okE x && chkE T a false S x
    | _ => false
  | .range2 a b, S, _, e => match shapeN "range" e with
    | some [x, y] => glB S.sc "range" && noG (T.look "range") && okE x && okE y && chkE T a false S x && chkE T b false S y
    | _ => false
  | .enum a, S, tg, e => match tg, shapeN "enumerate" e with
    | .Tuple _ _ _, some [x] => glB S.sc "enumerate" && noG (T.look "enumerate") && okE x && chkE T a false S x
    | _, _ => false
  | .zip es, S, tg, e => match tg, shapeN "zip" e with
    | .Tuple _ _ _, some (x :: y :: l) => glB S.sc "zip" && noG (T.look "zip") && chkEs T es false S (x :: y :: l)
    | _, _ => false
end
end FH
end
section
/-! FH17: the look is right, for expressions. -/
namespace FH
open PySem PySem.Spec PyProof.Rows L2
structure Okay (ε : Ev) (Γ : Env2) (X : Cx) (e : Expr) (ie : IE) : Prop where
  pe : PE X e (rdE ε Γ ie)
  pt : PT X e (rdT ε Γ ie)
  pw : ∀ op l pos, e = .BoolOp op l pos → PW X e (rdT ε Γ ie)
def ptB : Expr → Bool
  | .UnaryOp .Not _ _ => false
  | .BoolOp .. => false
  | .IfExp .. => false
  | .Compare .. => false
  | _ => true
theorem isT_plain {e : Expr} (h : ptB e = true) (env : Env) (whole : Sem Value) : isTrue e env whole = (do let v ← whole; standAt e.pos; holding [v] (truthy v)) := by
  cases e with
  | UnaryOp op _ _ => cases op <;> first | rfl | (simp [ptB] at h)
  | _ => first | rfl | (simp [ptB] at h)
section
variable {ε : Ev} {T : Tab} {Γ : Env2} {S : SC} {X : Cx}
theorem Okay.of (C : CxOk ε T Γ S X) {e : Expr} {ie : IE} (hp : ptB e = true) (h : PE X e (rdE ε Γ ie)) : Okay ε Γ X e ie :=
  ⟨h, sd_pt C h (isT_plain hp X.env), fun op l pos z => by rw [z] at hp; simp [ptB] at hp⟩
def rdB (ε : Ev) (Γ : Env2) : Bool → IE → TE
  | true, i => rdO ε Γ i
  | false, i => rdE ε Γ i
def AllPE (ε : Ev) (Γ : Env2) (X : Cx) (o : Bool) : IEs → List Expr → Prop
  | .nil, [] => True
  | .cons i is, e :: es => okE e = true ∧ PE X e (rdB ε Γ o i) ∧ AllPE ε Γ X o is es
  | _, _ => False
theorem AllPE.pa : ∀ {is : IEs} {es : List Expr}, AllPE ε Γ X false is es → PA X es (rdA ε Γ is)
  | .nil, [], _ => sa_nil
  | .cons _ _, _ :: _, h => sa_cons h.2.1 (AllPE.pa h.2.2) h.1
  | .nil, _ :: _, h => h.elim
  | .cons _ _, [], h => h.elim
theorem AllPE.po : ∀ {is : IEs} {es : List Expr}, AllPE ε Γ X true is es → PA X es (rdAO ε Γ is)
  | .nil, [], _ => so_nil
  | .cons _ _, _ :: _, h => so_cons h.2.1 (AllPE.po h.2.2) h.1
  | .nil, _ :: _, h => h.elim
  | .cons _ _, [], h => h.elim
theorem AllPE.ok {o : Bool} : ∀ {is : IEs} {es : List Expr}, AllPE ε Γ X o is es → es.all okE = true
  | .nil, [], _ => rfl
  | .cons _ _, _ :: _, h => by rw [List.all_cons, h.1, AllPE.ok h.2.2]; rfl
  | .nil, _ :: _, h => h.elim
  | .cons _ _, [], h => h.elim
theorem AllPE.none {o : Bool} {is : IEs} {es : List Expr} (h : AllPE ε Γ X o is es) (e : es = []) : is = .nil := by
  subst e
  cases is with
  | nil => rfl
  | cons _ _ => exact h.elim
theorem AllPE.one {o : Bool} {is : IEs} {e : Expr} (h : AllPE ε Γ X o is [e]) : ∃ i, is = .cons i .nil ∧ okE e = true ∧ PE X e (rdB ε Γ o i) := by
  cases is with
  | nil => exact h.elim
  | cons i is => exact ⟨i, by rw [AllPE.none h.2.2 rfl], h.1, h.2.1⟩
theorem AllPE.two {o : Bool} {is : IEs} {e f : Expr} (h : AllPE ε Γ X o is [e, f]) : ∃ i j, is = .cons i (.cons j .nil) ∧ okE e = true ∧ PE X e (rdB ε Γ o i) ∧ okE f = true ∧ PE X f (rdB ε Γ o j) := by
  cases is with
  | nil => exact h.elim
  | cons i is =>
    obtain ⟨j, rfl, h1, h2⟩ := AllPE.one h.2.2
    exact ⟨i, j, rfl, h.1, h.2.1, h1, h2⟩
def SndE (ε : Ev) (T : Tab) (Γ : Env2) (ie : IE) : Prop := ∀ (S : SC) (X : Cx) (e : Expr), CxOk ε T Γ S X → (chkE T ie false S e = true → Okay ε Γ X e ie) ∧ (chkE T ie true S e = true → PE X e (rdO ε Γ ie))
def SndEs (ε : Ev) (T : Tab) (Γ : Env2) (is : IEs) : Prop := ∀ (S : SC) (X : Cx) (es : List Expr) (o : Bool), CxOk ε T Γ S X → chkEs T is o S es = true → AllPE ε Γ X o is es
def SndO (ε : Ev) (T : Tab) (Γ : Env2) (i : IO) : Prop := (∀ (S : SC) (X : Cx) (e : Option Expr), CxOk ε T Γ S X → chkO T i S e = true → PO X e (rdP ε Γ i)) ∧ ∀ (S : SC) (X : Cx) (e : List Expr), CxOk ε T Γ S X → chkC T i S e = true → PTs X e (rdC ε Γ i)
def SndS (ε : Ev) (T : Tab) (Γ : Env2) (s : Src) : Prop := ∀ (S : SC) (X : Cx) (tg e : Expr), CxOk ε T Γ S X → chkS T s S tg e = true → PI X tg e (rdS ε Γ s)
/-- a name is given a new list on one line -/
def setLcB (S : SC) (i : Nat) (y : Str) (py : Pos) : Expr → Bool
  | .ListComp _ _ scope pos => (decide (S.sc.kind = .function) && decide (S.N[i]? = some y) && decide (S.sc.names.lookup y = some .local) && lineB py pos && !(scope.names.any fun p => p.1 == y && (p.2 == .local || p.2 == .cell))) ||
      (decide (S.N[i]? = some y) && decide (S.sc.names.lookup y = some .cell) && locB S y)
  | e => notComp e && decide (S.N[i]? = some y) && locB S y
def SndF (ε : Ev) (T : Tab) (Γ : Env2) (f : FE) : Prop := ∀ (S : SC) (X : Cx) (e : Expr), CxOk ε T Γ S X → chkF T f S e = true → PE X e (rdF ε Γ f) ∧ ∀ i y py spos, setLcB S i y py e = true → PSF ε Γ X (.Assign [.Name y py] e spos) i f
theorem sndE_of {ie : IE} (h : ∀ (S : SC) (X : Cx) (e : Expr), CxOk ε T Γ S X → chkE T ie false S e = true → Okay ε Γ X e ie) (hh : ∀ S e, chkE T ie true S e = chkE T ie false S e) : SndE ε T Γ ie :=
  fun S X e C => ⟨h S X e C, fun q => FH.PE.rdO (h S X e C ((hh S e).symm.trans q)).pe⟩
theorem SndE.v {ie : IE} (h : SndE ε T Γ ie) (C : CxOk ε T Γ S X) {e : Expr} (q : chkE T ie false S e = true) : PE X e (rdE ε Γ ie) := ((h S X e C).1 q).pe
theorem SndE.o {ie : IE} (h : SndE ε T Γ ie) (C : CxOk ε T Γ S X) {e : Expr} (q : chkE T ie true S e = true) : PE X e (rdO ε Γ ie) := (h S X e C).2 q
theorem SndE.t {ie : IE} (h : SndE ε T Γ ie) (C : CxOk ε T Γ S X) {e : Expr} (q : chkE T ie false S e = true) : PT X e (rdT ε Γ ie) := ((h S X e C).1 q).pt
theorem sndF_of {f : FE} (h : ∀ (S : SC) (X : Cx) (e : Expr), CxOk ε T Γ S X → chkF T f S e = true → notComp e = true ∧ PE X e (rdF ε Γ f)) : SndF ε T Γ f := fun S X e C q => by
  obtain ⟨h1, h2⟩ := h S X e C q
  refine ⟨h2, fun i y py spos z => ?_⟩
  have z' : (notComp e && decide (S.N[i]? = some y) && locB S y) = true := by
    cases e <;> first | exact z | (simp [notComp] at h1)
  simp only [Bool.and_eq_true, decide_eq_true_eq] at z'
  exact psf_set C h1 z'.1.2 z'.2 h2
/-! ### one lemma a term -/
theorem nmB_ok {i : Nat} {e : Expr} (h : nmB S i e = true) : ∃ x p, e = .Name x p ∧ S.N[i]? = some x ∧ visB S.sc x = true ∧ nameOk x = true := by
  unfold nmB at h
  split at h
  · rename_i x p
    simp only [Bool.and_eq_true, decide_eq_true_eq] at h
    exact ⟨x, p, rfl, h.1.1, h.1.2, h.2⟩
  · cases h
theorem s_lit {d : D} : SndE ε T Γ (.lit d) := sndE_of (fun S X e C h => by
  simp only [chkE] at h
  unfold litB at h
  split at h
  · rw [of_decide_eq_true h]; exact .of C rfl sd_int
  · rw [of_decide_eq_true h]; exact .of C rfl sd_str
  · rw [beq_iff_eq.mp h]; exact .of C rfl sd_bl
  · exact .of C rfl sd_non
  · cases h) fun _ _ => rfl
theorem s_var {i : Nat} : SndE ε T Γ (.var i) := sndE_of (fun S X e C h => by
  simp only [chkE] at h
  obtain ⟨x, p, rfl, h1, h2, h3⟩ := nmB_ok h
  exact .of C rfl (sd_var C h1 h2 h3)) fun _ _ => rfl
theorem s_own {i : Nat} : SndE ε T Γ (.own i) := fun S X e C => ⟨fun h => by simp [chkE] at h, fun h => by
  simp only [chkE, Bool.true_and] at h
  obtain ⟨x, p, rfl, h1, h2, h3⟩ := nmB_ok h
  exact sd_own C h1 h2 h3⟩
theorem s_glob {x : Str} {d : D} : SndE ε T Γ (.glob x d) := sndE_of (fun S X e C h => by
  simp only [chkE] at h
  unfold globB at h
  split at h
  · rename_i y p
    simp only [Bool.and_eq_true, decide_eq_true_eq, Bool.or_eq_true] at h
    obtain ⟨⟨⟨rfl, h1⟩, h2⟩, h3⟩ := h
    rcases h3 with h3 | h3
    · exact .of C rfl (sd_glob C h1 h2 (conG_ok h3))
    · split at h3
      · exact .of C rfl (sd_gfn C h1 h2 (fnG_ok h3))
      · simp only [Bool.and_eq_true, decide_eq_true_eq] at h3
        exact .of C rfl (sd_ty C h1 h2 (noG_ok h3.1) h3.2)
      · cases h3
  · cases h) fun _ _ => rfl
theorem s_prim {p : P} {es : IEs} (h : SndEs ε T Γ es) : SndE ε T Γ (.prim p es) := sndE_of (fun S X e C q => by
  simp only [chkE] at q
  split at q
  · rename_i l hl
    have a := h S X l true C q
    unfold shapeP at hl
    split at hl
    · split at hl
      · rename_i ho; cases hl; subst ho
        obtain ⟨i, j, rfl, _, h1, _, h2⟩ := a.two
        exact .of C rfl (sp_bin C h1 h2)
      · cases hl
    · split at hl
      · rename_i ho; cases hl; subst ho
        obtain ⟨i, j, rfl, _, h1, ok, h2⟩ := a.two
        exact ⟨sp_cmp C ok h1 h2, st_cmp C ok h1 h2, fun _ _ _ z => nomatch z⟩
      · cases hl
    · cases hl
      obtain ⟨i, j, rfl, _, h1, ok, h2⟩ := a.two
      exact .of C rfl (sp_ix C ok h1 h2)
    · cases hl
      obtain ⟨i, rfl, _, h1⟩ := a.one
      exact .of C rfl (sp_neg h1)
    · split at hl
      · rename_i n u hb
        split at hl
        · rename_i hc
          cases hl
          exact .of C rfl (sp_blt C hb hc.1 hc.2.1 (noG_ok hc.2.2) a.po a.ok)
        · cases hl
      · cases hl
    · cases hl
  · cases q) fun _ _ => rfl
theorem shapeM_ok {m : Str} {e o : Expr} {l : List Expr} (h : shapeM m e = some (o, l)) : ∃ apos cpos, e = .Call (.Attribute o m apos) l [] cpos ∧ objB o = true ∧ (apos.endLine == cpos.line) = true := by
  unfold shapeM at h
  split at h
  · split at h
    · rename_i hc; cases h; obtain ⟨rfl, h2, h3⟩ := hc; exact ⟨_, _, rfl, h2, h3⟩
    · cases h
  · cases h
theorem shapeN_ok {m : Str} {e : Expr} {l : List Expr} (h : shapeN m e = some l) : ∃ xp cpos, e = .Call (.Name m xp) l [] cpos := by
  unfold shapeN at h
  split at h
  · split at h
    · rename_i hc; cases h; subst hc; exact ⟨_, _, rfl⟩
    · cases h
  · cases h
theorem s_tindex {i : Nat} {a : IE} (h : SndE ε T Γ a) : SndE ε T Γ (.tindex i a) := sndE_of (fun S X e C q => by
  simp only [chkE] at q
  split at q
  · rename_i x z hs
    obtain ⟨apos, cpos, rfl, h1, h2⟩ := shapeM_ok hs
    simp only [Bool.and_eq_true] at q
    obtain ⟨y, p, rfl, g1, g2, g3⟩ := nmB_ok q.1.1
    exact .of C rfl (sd_tindex C g1 g2 g3 q.1.2 h2 (h.v C q.2))
  · cases q) fun _ _ => rfl
theorem s_meth {m : M} {a : IE} {es : IEs} (h : SndE ε T Γ a) (hs : SndEs ε T Γ es) : SndE ε T Γ (.meth m a es) := sndE_of (fun S X e C q => by
  simp only [chkE] at q
  split at q
  · rename_i x z hh
    obtain ⟨apos, cpos, rfl, h1, h2⟩ := shapeM_ok hh
    simp only [Bool.and_eq_true] at q
    obtain ⟨i, rfl, ok, g⟩ := (hs S X [z] true C q.2).one
    cases m with
    | sindex => exact .of C rfl (sd_sindex h1 ok h2 (h.v C q.1) g)
    | join => exact .of C rfl (sd_join C h1 ok h2 (h.v C q.1) g)
  · cases q) fun _ _ => rfl
theorem s_fstr {es : IEs} (hs : SndEs ε T Γ es) : SndE ε T Γ (.fstr es) := sndE_of (fun S X e C q => by
  simp only [chkE] at q
  split at q
  · simp only [Bool.and_eq_true] at q
    refine .of C rfl (sd_fstr q.1 ?_)
    have all := hs S X _ false C q.2
    have conv : ∀ {is : IEs} {l : List Expr}, AllPE ε Γ X false is l → AllPV ε Γ X is l := by
      intro is l h
      induction l generalizing is with
      | nil => cases is with
        | nil => exact .nil
        | cons _ _ => exact h.elim
      | cons a l ih => cases is with
        | nil => exact h.elim
        | cons i is => exact .cons h.2.1 (ih h.2.2)
    exact conv all
  · cases q) fun _ _ => rfl
theorem s_gdget {x : Str} {kvs : List (Str × D)} {a : IE} (h : SndE ε T Γ a) : SndE ε T Γ (.gdget x kvs a) := sndE_of (fun S X e C q => by
  simp only [chkE] at q
  split at q
  · simp only [Bool.and_eq_true, decide_eq_true_eq] at q
    obtain ⟨⟨⟨⟨⟨rfl, q1⟩, q2⟩, q3⟩, q4⟩, q5⟩ := q
    exact .of C rfl (sd_gdget C q1 q2 (dctG_ok q3) q4 (h.v C q5))
  · cases q) fun _ _ => rfl
theorem s_slice {a : IE} {lo hi : IO} (h : SndE ε T Γ a) (h1 : SndO ε T Γ lo) (h2 : SndO ε T Γ hi) : SndE ε T Γ (.slice a lo hi) := sndE_of (fun S X e C q => by
  simp only [chkE] at q
  split at q
  · simp only [Bool.and_eq_true] at q
    exact .of C rfl (sd_slice C (h.o C q.1.1) (h1.1 S X _ C q.1.2) (h2.1 S X _ C q.2))
  · cases q) fun _ _ => rfl
theorem s_nott {a : IE} (h : SndE ε T Γ a) : SndE ε T Γ (.nott a) := sndE_of (fun S X e C q => by
  simp only [chkE] at q
  split at q
  · exact ⟨sd_not C (h.v C q), st_not (h.t C q), fun _ _ _ z => nomatch z⟩
  · cases q) fun _ _ => rfl
theorem rest_and {y : Expr} {rest : List Expr} {pos : Pos} {b : IE} (h : Okay ε Γ X (restB .And y rest pos) b) : PE X (.BoolOp .And (y :: rest) pos) (rdE ε Γ b) ∧ PW X (.BoolOp .And (y :: rest) pos) (rdT ε Γ b) := by
  cases rest with
  | nil => exact ⟨pe_one h.pe, pw_and1 h.pt⟩
  | cons z zs => exact ⟨h.pe, h.pw _ _ _ rfl⟩
theorem rest_or {y : Expr} {rest : List Expr} {pos : Pos} {b : IE} (h : Okay ε Γ X (restB .Or y rest pos) b) : PE X (.BoolOp .Or (y :: rest) pos) (rdE ε Γ b) ∧ PW X (.BoolOp .Or (y :: rest) pos) (rdT ε Γ b) := by
  cases rest with
  | nil => exact ⟨pe_one h.pe, pw_or1 h.pt⟩
  | cons z zs => exact ⟨h.pe, h.pw _ _ _ rfl⟩
theorem s_andd {a b : IE} (h : SndE ε T Γ a) (h2 : SndE ε T Γ b) : SndE ε T Γ (.andd a b) := sndE_of (fun S X e C q => by
  simp only [chkE] at q
  split at q
  · simp only [Bool.and_eq_true] at q
    obtain ⟨r1, r2⟩ := rest_and ((h2 S X _ C).1 q.2)
    exact ⟨sd_and C (h.v C q.1) r1, (sw_and (h.t C q.1) r2).pt, fun _ _ _ _ => sw_and (h.t C q.1) r2⟩
  · cases q) fun _ _ => rfl
theorem s_orr {a b : IE} (h : SndE ε T Γ a) (h2 : SndE ε T Γ b) : SndE ε T Γ (.orr a b) := sndE_of (fun S X e C q => by
  simp only [chkE] at q
  split at q
  · simp only [Bool.and_eq_true] at q
    obtain ⟨r1, r2⟩ := rest_or ((h2 S X _ C).1 q.2)
    exact ⟨sd_or C (h.v C q.1) r1, (sw_or (h.t C q.1) r2).pt, fun _ _ _ _ => sw_or (h.t C q.1) r2⟩
  · cases q) fun _ _ => rfl
theorem s_cond {c a b : IE} (h : SndE ε T Γ c) (h1 : SndE ε T Γ a) (h2 : SndE ε T Γ b) : SndE ε T Γ (.cond c a b) := sndE_of (fun S X e C q => by
  simp only [chkE] at q
  split at q
  · simp only [Bool.and_eq_true] at q
    exact ⟨sd_cond (h.t C q.1.1) (h1.v C q.1.2) (h2.v C q.2), st_cond (h.t C q.1.1) (h1.t C q.1.2) (h2.t C q.2), fun _ _ _ z => nomatch z⟩
  · cases q) fun _ _ => rfl
theorem s_cmp2 {o1 o2 : CmpOp} {a b c : IE} (h : SndE ε T Γ a) (h1 : SndE ε T Γ b) (h2 : SndE ε T Γ c) : SndE ε T Γ (.cmp2 o1 o2 a b c) := sndE_of (fun S X e C q => by
  simp only [chkE] at q
  split at q
  · simp only [Bool.and_eq_true, decide_eq_true_eq] at q
    obtain ⟨⟨⟨⟨⟨rfl, rfl⟩, q3⟩, q4⟩, q5⟩, q6⟩ := q
    exact ⟨sd_chain C q3 (h.o C q4) (h1.o C q5) (h2.o C q6), st_chain C q3 (h.o C q4) (h1.o C q5) (h2.o C q6), fun _ _ _ z => nomatch z⟩
  · cases q) fun _ _ => rfl
theorem s_tup {es : IEs} (h : SndEs ε T Γ es) : SndE ε T Γ (.tup es) := sndE_of (fun S X e C q => by
  simp only [chkE] at q
  split at q
  · exact .of C rfl (sd_tup (h S X _ false C q).pa)
  · cases q) fun _ _ => rfl
theorem chkF_pt {f : FE} {e : Expr} (h : chkF T f S e = true) : ptB e = true := by
  cases f <;> simp only [chkF] at h <;> split at h <;> (first | (cases h; done) | rfl | skip)
  all_goals (first | (rename_i hs; obtain ⟨_, _, rfl⟩ := shapeN_ok hs; rfl) | (rename_i hs; obtain ⟨_, _, rfl, _⟩ := shapeM_ok hs; rfl))
theorem s_frz {f : FE} (h : SndF ε T Γ f) : SndE ε T Γ (.frz f) := sndE_of (fun S X e C q => by
  simp only [chkE] at q
  exact .of C (chkF_pt q) (sd_frz (h S X e C q).1)) fun _ _ => rfl
theorem s_cell {f : FE} (h : SndF ε T Γ f) : SndE ε T Γ (.cell f) := sndE_of (fun S X e C q => by
  simp only [chkE] at q
  exact .of C (chkF_pt q) (sd_cell (h S X e C q).1)) fun _ _ => rfl
theorem s_celld : SndE ε T Γ .celld := sndE_of (fun S X e C q => by
  simp only [chkE] at q
  split at q
  · exact .of C rfl sd_celld
  · cases q) fun _ _ => rfl
theorem s_dcopy {a : IE} (h : SndE ε T Γ a) : SndE ε T Γ (.dcopy a) := sndE_of (fun S X e C q => by
  simp only [chkE] at q
  split at q
  · rename_i hs
    obtain ⟨xp, cpos, rfl⟩ := shapeN_ok hs
    simp only [Bool.and_eq_true] at q
    exact .of C rfl (sd_dcopy C q.1.1.1 (noG_ok q.1.1.2) (h.v C q.2) q.1.2)
  · cases q) fun _ _ => rfl
theorem s_dlen {a : IE} (h : SndE ε T Γ a) : SndE ε T Γ (.dlen a) := sndE_of (fun S X e C q => by
  simp only [chkE] at q
  split at q
  · rename_i hs
    obtain ⟨xp, cpos, rfl⟩ := shapeN_ok hs
    simp only [Bool.and_eq_true] at q
    exact .of C rfl (sd_dlen C q.1.1.1 (noG_ok q.1.1.2) (h.v C q.2) q.1.2)
  · cases q) fun _ _ => rfl
theorem s_ndlen {i : Nat} : SndE ε T Γ (.ndlen i) := sndE_of (fun S X e C q => by
  simp only [chkE] at q
  split at q
  · rename_i hs
    obtain ⟨xp, cpos, rfl⟩ := shapeN_ok hs
    simp only [Bool.and_eq_true] at q
    obtain ⟨x, p, rfl, h1, h2, h3⟩ := nmB_ok q.2
    exact .of C rfl (sd_ndlen C q.1.1 (noG_ok q.1.2) h1 h2 h3)
  · cases q) fun _ _ => rfl
theorem s_ndhas {neg : Bool} {k : IE} {i : Nat} (h : SndE ε T Γ k) : SndE ε T Γ (.ndhas neg k i) := sndE_of (fun S X e C q => by
  simp only [chkE] at q
  split at q
  · simp only [Bool.and_eq_true, decide_eq_true_eq] at q
    obtain ⟨⟨rfl, q1⟩, q2⟩ := q
    obtain ⟨x, p, rfl, h1, h2, h3⟩ := nmB_ok q1
    exact ⟨(sd_ndhas (neg := neg) C h1 h2 h3 (h.v C q2)).1, (sd_ndhas (neg := neg) C h1 h2 h3 (h.v C q2)).2, fun _ _ _ z => nomatch z⟩
  · cases q) fun _ _ => rfl
theorem s_isir {es : IEs} (h : SndEs ε T Γ es) : SndE ε T Γ (.isir es) := sndE_of (fun S X e C q => by
  simp only [chkE] at q
  split at q
  · rename_i hs
    obtain ⟨xp, cpos, rfl⟩ := shapeN_ok hs
    simp only [Bool.and_eq_true] at q
    exact .of C rfl (sd_isir C q.1.1.1 (noG_ok q.1.1.2) (h S X _ true C q.2).po q.1.2)
  · cases q) fun _ _ => rfl
theorem s_call {x : Str} {f : Nat} {es : IEs} (h : SndEs ε T Γ es) : SndE ε T Γ (.call x f es) := sndE_of (fun S X e C q => by
  simp only [chkE] at q
  split at q
  · rename_i l hs
    obtain ⟨xp, cpos, rfl⟩ := shapeN_ok hs
    simp only [Bool.and_eq_true] at q
    have a := h S X l false C q.2
    cases l with
    | nil =>
      have := a.none rfl
      subst this
      exact .of C rfl (sd_call0 C q.1.1.1 q.1.1.2 (fnG_ok q.1.2))
    | cons y ys => exact .of C rfl (sd_call C q.1.1.1 q.1.1.2 (fnG_ok q.1.2) a.pa a.ok)
  · cases q) fun _ _ => rfl
theorem s_callv {i : Nat} {es : IEs} (h : SndEs ε T Γ es) : SndE ε T Γ (.callv i es) := sndE_of (fun S X e C q => by
  simp only [chkE] at q
  split at q
  · simp only [Bool.and_eq_true, decide_eq_true_eq] at q
    have a := h S X _ false C q.2
    exact .of C rfl (sd_callv C q.1.1.1 q.1.1.2 q.1.2 a.pa a.ok)
  · cases q) fun _ _ => rfl
theorem fldC_ok {c : Nat} {f : Str} (h : fldC T c f = true) : ∃ I, T.c[c]? = some I ∧ I.flds.contains f = true := by
  unfold fldC at h
  split at h
  · exact ⟨_, by assumption, h⟩
  · cases h
theorem mthC_ok {c f : Nat} {m : Str} (h : mthC T c m f = true) : ∃ I, T.c[c]? = some I ∧ I.meths.lookup m = some f := by
  unfold mthC at h
  split at h
  · exact ⟨_, by assumption, of_decide_eq_true h⟩
  · cases h
theorem iniC_ok {c f : Nat} (h : iniC T c f = true) : ∃ I, T.c[c]? = some I ∧ I.init = some f := by
  unfold iniC at h
  split at h
  · exact ⟨_, by assumption, of_decide_eq_true h⟩
  · cases h
theorem s_attr {c : Nat} {a : IE} {f : Str} (h : SndE ε T Γ a) : SndE ε T Γ (.attr c a f) := sndE_of (fun S X e C q => by
  simp only [chkE] at q
  split at q
  · simp only [Bool.and_eq_true, decide_eq_true_eq] at q
    obtain ⟨⟨⟨rfl, q1⟩, q2⟩, q3⟩ := q
    obtain ⟨I, i1, i2⟩ := fldC_ok q2
    exact .of C rfl (sd_attr C q1 i1 i2 (h.v C q3))
  · cases q) fun _ _ => rfl
theorem s_mcall {c f : Nat} {m : Str} {a : IE} {es : IEs} (h : SndE ε T Γ a) (hs : SndEs ε T Γ es) : SndE ε T Γ (.mcall c m f a es) := sndE_of (fun S X e C q => by
  simp only [chkE] at q
  split at q
  · rename_i x l hh
    obtain ⟨apos, cpos, rfl, h1, h2⟩ := shapeM_ok hh
    simp only [Bool.and_eq_true, decide_eq_true_eq] at q
    obtain ⟨I, i1, i2⟩ := mthC_ok q.1.1.1
    have b := hs S X l false C q.2
    exact .of C rfl (sd_mcall C h1 i1 i2 (h.v C q.1.2) b.pa b.ok q.1.1.2 h2 b.none)
  · cases q) fun _ _ => rfl
theorem s_make {x : Str} {c f : Nat} {es : IEs} (hs : SndEs ε T Γ es) : SndE ε T Γ (.make x c f es) := sndE_of (fun S X e C q => by
  simp only [chkE] at q
  split at q
  · rename_i l hh
    obtain ⟨xp, cpos, rfl⟩ := shapeN_ok hh
    simp only [Bool.and_eq_true] at q
    obtain ⟨I, i1, i2⟩ := iniC_ok q.1.2
    have b := hs S X l false C q.2
    exact .of C rfl (sd_make C q.1.1.1.1 q.1.1.1.2 (clsG_ok q.1.1.2) i1 i2 b.pa b.ok b.none)
  · cases q) fun _ _ => rfl
theorem s_dhas {neg : Bool} {k d : IE} (h : SndE ε T Γ k) (h2 : SndE ε T Γ d) : SndE ε T Γ (.dhas neg k d) := sndE_of (fun S X e C q => by
  simp only [chkE] at q
  split at q
  · simp only [Bool.and_eq_true, decide_eq_true_eq] at q
    obtain ⟨⟨⟨rfl, q1⟩, q2⟩, q3⟩ := q
    exact ⟨sd_dhas C q1 (h.v C q2) (h2.v C q3), st_dhas C q1 (h.v C q2) (h2.v C q3), fun _ _ _ z => nomatch z⟩
  · cases q) fun _ _ => rfl
theorem s_dget {d k : IE} (h : SndE ε T Γ d) (h2 : SndE ε T Γ k) : SndE ε T Γ (.dget d k) := sndE_of (fun S X e C q => by
  simp only [chkE] at q
  split at q
  · simp only [Bool.and_eq_true] at q
    exact .of C rfl (sd_dget C q.1.1 (h.v C q.1.2) (h2.v C q.2))
  · cases q) fun _ _ => rfl
theorem s_dgetD {d k z : IE} (h : SndE ε T Γ d) (h2 : SndE ε T Γ k) (h3 : SndE ε T Γ z) : SndE ε T Γ (.dgetD d k z) := sndE_of (fun S X e C q => by
  simp only [chkE] at q
  split at q
  · rename_i hh
    obtain ⟨apos, cpos, rfl, h1, hl⟩ := shapeM_ok hh
    simp only [Bool.and_eq_true] at q
    exact .of C rfl (sd_dgetD C h1 q.1.1.1.1 q.1.1.1.2 hl (h.v C q.1.1.2) (h2.v C q.1.2) (h3.v C q.2))
  · cases q) fun _ _ => rfl
theorem s_dsetd {d k z : IE} (h : SndE ε T Γ d) (h2 : SndE ε T Γ k) (h3 : SndE ε T Γ z) : SndE ε T Γ (.dsetd d k z) := sndE_of (fun S X e C q => by
  simp only [chkE] at q
  split at q
  · rename_i hh
    obtain ⟨apos, cpos, rfl, h1, hl⟩ := shapeM_ok hh
    simp only [Bool.and_eq_true] at q
    exact .of C rfl (sd_dsetd C h1 q.1.1.1.1 q.1.1.1.2 hl (h.v C q.1.1.2) (h2.v C q.1.2) (h3.v C q.2))
  · cases q) fun _ _ => rfl
end
end FH
end
section
/-! FH18: the look is right: lists, what is walked, all together. -/
namespace FH
open PySem PySem.Spec PyProof.Rows L2
section
variable {ε : Ev} {T : Tab} {Γ : Env2} {S : SC} {X : Cx}
mutual
theorem sndTg : ∀ {g : Tg} {S : SC} {X : Cx} {e : Expr}, CxOk ε T Γ S X → chkTg g S e = true → PG X e (rdG ε g) ∧ tgE e = true
  | .nm i, S, X, e, C, h => by
    cases e <;> (first | (simp [chkTg] at h; done) | skip)
    simp only [chkTg, Bool.and_eq_true, decide_eq_true_eq] at h
    exact ⟨sg_nm C h.1 h.2, rfl⟩
  | .tp ts, S, X, e, C, h => by
    cases e <;> (first | (simp [chkTg] at h; done) | skip)
    simp only [chkTg, Bool.and_eq_true, decide_eq_true_eq] at h
    exact ⟨sg_tp C h.1.1 h.1.2 (sndTgs C h.2), rfl⟩
theorem sndTgs : ∀ {g : Tgs} {S : SC} {X : Cx} {es : List Expr}, CxOk ε T Γ S X → chkTgs g S es = true → PGs X es (rdGs ε g)
  | .nil, S, X, es, C, h => by
    cases es with
    | nil => exact sgs_nil
    | cons _ _ => simp [chkTgs] at h
  | .cons t ts, S, X, es, C, h => by
    cases es with
    | nil => simp [chkTgs] at h
    | cons e es =>
      simp only [chkTgs, Bool.and_eq_true] at h
      obtain ⟨h1, h2⟩ := sndTg C h.1
      exact sgs_cons h2 h1 (sndTgs C h.2)
end
theorem s_nil : SndEs ε T Γ .nil := fun S X es o C h => by
  cases es with
  | nil => trivial
  | cons _ _ => simp [chkEs] at h
theorem s_cons {i : IE} {is : IEs} (h1 : SndE ε T Γ i) (h2 : SndEs ε T Γ is) : SndEs ε T Γ (.cons i is) := fun S X es o C h => by
  cases es with
  | nil => simp [chkEs] at h
  | cons e es =>
    simp only [chkEs, Bool.and_eq_true] at h
    refine ⟨h.1.1, ?_, h2 S X es o C h.2⟩
    cases o with
    | true => exact h1.o C h.1.2
    | false => exact h1.v C h.1.2
theorem s_no : SndO ε T Γ .no := ⟨fun S X e C h => by
  cases e with
  | none => exact so_no
  | some _ => simp [chkO] at h, fun S X e C h => by
  cases e with
  | nil => exact sc_no
  | cons _ _ => simp [chkC] at h⟩
theorem s_som {i : IE} (h1 : SndE ε T Γ i) : SndO ε T Γ (.som i) := ⟨fun S X e C h => by
  cases e with
  | none => simp [chkO] at h
  | some e => simp only [chkO] at h; exact so_som (h1.v C h), fun S X e C h => by
  cases e with
  | nil => simp [chkC] at h
  | cons e es =>
    cases es with
    | nil => simp only [chkC] at h; exact sc_som (h1.t C h)
    | cons _ _ => simp [chkC] at h⟩
theorem f_disp {es : IEs} (h : SndEs ε T Γ es) : SndF ε T Γ (.disp es) := sndF_of fun S X e C q => by
  simp only [chkF] at q
  split at q
  · exact ⟨rfl, sf_disp (h S X _ false C q).pa⟩
  · cases q
theorem f_list {a : IE} (h : SndE ε T Γ a) : SndF ε T Γ (.list a) := sndF_of fun S X e C q => by
  simp only [chkF] at q
  split at q
  · rename_i hs
    obtain ⟨xp, cpos, rfl⟩ := shapeN_ok hs
    simp only [Bool.and_eq_true] at q
    exact ⟨rfl, sf_list C q.1.1.1 (noG_ok q.1.1.2) (h.o C q.2) q.1.2⟩
  · cases q
theorem f_sorted {a : IE} (h : SndE ε T Γ a) : SndF ε T Γ (.sorted a) := sndF_of fun S X e C q => by
  simp only [chkF] at q
  split at q
  · rename_i hs
    obtain ⟨xp, cpos, rfl⟩ := shapeN_ok hs
    simp only [Bool.and_eq_true] at q
    exact ⟨rfl, sf_sorted C q.1.1.1 (noG_ok q.1.1.2) (h.o C q.2) q.1.2⟩
  · cases q
theorem f_sortset {a : IE} (h : SndE ε T Γ a) : SndF ε T Γ (.sortset a) := sndF_of fun S X e C q => by
  simp only [chkF] at q
  split at q
  · rename_i hs
    obtain ⟨xp, cpos, rfl⟩ := shapeN_ok hs
    split at q
    · rename_i hs2
      obtain ⟨xq, qpos, rfl⟩ := shapeN_ok hs2
      simp only [Bool.and_eq_true] at q
      obtain ⟨⟨⟨⟨⟨q1, q2⟩, q3⟩, q4⟩, q5⟩, q6⟩ := q
      exact ⟨rfl, sf_sortset C q1 (noG_ok q2) q3 (noG_ok q4) (h.o C q6) q5⟩
    · cases q
  · cases q
theorem f_split {a b : IE} (h : SndE ε T Γ a) (h2 : SndE ε T Γ b) : SndF ε T Γ (.split a b) := sndF_of fun S X e C q => by
  simp only [chkF] at q
  split at q
  · rename_i hs
    obtain ⟨apos, cpos, rfl, g1, g2⟩ := shapeM_ok hs
    simp only [Bool.and_eq_true] at q
    exact ⟨rfl, sf_split g1 q.1.1 g2 (h.v C q.1.2) (h2.v C q.2)⟩
  · cases q
theorem f_cat {a b : IE} (h : SndE ε T Γ a) (h2 : SndE ε T Γ b) : SndF ε T Γ (.cat a b) := sndF_of fun S X e C q => by
  simp only [chkF] at q
  split at q
  · simp only [Bool.and_eq_true] at q
    exact ⟨rfl, sf_cat C (h.o C q.1) (h2.o C q.2)⟩
  · cases q
theorem f_comp {g : Tg} {own : List (Str × Nat)} {s : Src} {c : IO} {i : IE} (hs : SndS ε T Γ s) (hc : SndO ε T Γ c) (hi : SndE ε T Γ i) : SndF ε T Γ (.comp g own s c i) := fun S X e C q => by
  simp only [chkF] at q
  split at q
  · rename_i elt tg iter ifs z scope pos
    simp only [Bool.and_eq_true, decide_eq_true_eq, List.all_eq_true] at q
    obtain ⟨⟨⟨⟨⟨⟨⟨rfl, q1⟩, q2⟩, q3⟩, q4⟩, q5⟩, q6⟩, q7⟩ := q
    have a1 := hs S X tg iter C q1
    have a2 : ∀ Y, CxOk ε T Γ (S.inner scope) Y → PG Y tg (rdG ε g) := fun Y D => (sndTg D q3).1
    have a3 : ∀ Y, CxOk ε T Γ (S.inner scope) Y → PTs Y ifs (rdC ε Γ c) := fun Y D => hc.2 _ Y ifs D q4
    have a4 : ∀ Y, CxOk ε T Γ (S.inner scope) Y → PE Y elt (rdE ε Γ i) := fun Y D => hi.v D q5
    refine ⟨sf_comp C a1 q2 a2 a3 a4 q6 q7, fun j y py spos w => ?_⟩
    simp only [setLcB, Bool.or_eq_true, Bool.and_eq_true, decide_eq_true_eq, Bool.not_eq_true'] at w
    rcases w with ⟨⟨⟨⟨w1, w2⟩, w3⟩, w4⟩, w5⟩ | ⟨⟨w1, w2⟩, w3⟩
    · exact psf_comp C w1 w2 w3 w4 w5 a1 q2 a2 a3 a4 q6 q7
    · exact psf_cell C rfl w1 w2 w3 (sf_comp C a1 q2 a2 a3 a4 q6 q7)
  · cases q
theorem k_it {a : IE} (h : SndE ε T Γ a) : SndS ε T Γ (.it a) := fun S X tg e C q => by
  simp only [chkS] at q
  exact ss_it C (h.v C q)
theorem k_cel {a : IE} (h : SndE ε T Γ a) : SndS ε T Γ (.cel a) := fun S X tg e C q => by
  simp only [chkS] at q
  exact ss_cel C (h.v C q)
theorem k_range1 {a : IE} (h : SndE ε T Γ a) : SndS ε T Γ (.range1 a) := fun S X tg e C q => by
  simp only [chkS] at q
  split at q
  · rename_i hs
    obtain ⟨xp, cpos, rfl⟩ := shapeN_ok hs
    simp only [Bool.and_eq_true] at q
    exact ss_range1 C q.1.1.1 (noG_ok q.1.1.2) (h.v C q.2) q.1.2
  · cases q
theorem k_range2 {a b : IE} (h : SndE ε T Γ a) (h2 : SndE ε T Γ b) : SndS ε T Γ (.range2 a b) := fun S X tg e C q => by
  simp only [chkS] at q
  split at q
  · rename_i hs
    obtain ⟨xp, cpos, rfl⟩ := shapeN_ok hs
    simp only [Bool.and_eq_true] at q
    obtain ⟨⟨⟨⟨⟨q1, q2⟩, q3⟩, q4⟩, q5⟩, q6⟩ := q
    exact ss_range2 C q1 (noG_ok q2) (h.v C q5) (h2.v C q6) q3 q4
  · cases q
theorem k_enum {a : IE} (h : SndE ε T Γ a) : SndS ε T Γ (.enum a) := fun S X tg e C q => by
  simp only [chkS] at q
  split at q
  · rename_i hs
    obtain ⟨xp, cpos, rfl⟩ := shapeN_ok hs
    simp only [Bool.and_eq_true] at q
    exact ss_enum C q.1.1.1 (noG_ok q.1.1.2) (h.v C q.2) q.1.2
  · cases q
theorem k_zip {es : IEs} (h : SndEs ε T Γ es) : SndS ε T Γ (.zip es) := fun S X tg e C q => by
  simp only [chkS] at q
  split at q
  · rename_i hs
    obtain ⟨xp, cpos, rfl⟩ := shapeN_ok hs
    simp only [Bool.and_eq_true] at q
    obtain ⟨⟨q1, q2⟩, q3⟩ := q
    have all := h S X _ false C q3
    have ok := all.ok
    rw [List.all_cons, Bool.and_eq_true] at ok
    exact ss_zip C q1 (noG_ok q2) all.pa ok.1 ok.2
  · cases q
mutual
theorem sndE : ∀ ie : IE, SndE ε T Γ ie
  | .lit _ => s_lit
  | .var _ => s_var
  | .own _ => s_own
  | .glob _ _ => s_glob
  | .prim _ es => s_prim (sndEs es)
  | .tindex _ a => s_tindex (sndE a)
  | .meth _ a es => s_meth (sndE a) (sndEs es)
  | .gdget _ _ a => s_gdget (sndE a)
  | .fstr es => s_fstr (sndEs es)
  | .slice a lo hi => s_slice (sndE a) (sndO lo) (sndO hi)
  | .nott a => s_nott (sndE a)
  | .andd a b => s_andd (sndE a) (sndE b)
  | .orr a b => s_orr (sndE a) (sndE b)
  | .cond c a b => s_cond (sndE c) (sndE a) (sndE b)
  | .cmp2 _ _ a b c => s_cmp2 (sndE a) (sndE b) (sndE c)
  | .tup es => s_tup (sndEs es)
  | .frz f => s_frz (sndF f)
  | .cell f => s_cell (sndF f)
  | .celld => s_celld
  | .dcopy a => s_dcopy (sndE a)
  | .dlen a => s_dlen (sndE a)
  | .isir es => s_isir (sndEs es)
  | .ndlen _ => s_ndlen
  | .ndhas _ k _ => s_ndhas (sndE k)
  | .call _ _ es => s_call (sndEs es)
  | .callv _ es => s_callv (sndEs es)
  | .attr _ a _ => s_attr (sndE a)
  | .mcall _ _ _ a es => s_mcall (sndE a) (sndEs es)
  | .make _ _ _ es => s_make (sndEs es)
  | .dhas _ k d => s_dhas (sndE k) (sndE d)
  | .dget d k => s_dget (sndE d) (sndE k)
  | .dgetD d k z => s_dgetD (sndE d) (sndE k) (sndE z)
  | .dsetd d k z => s_dsetd (sndE d) (sndE k) (sndE z)
theorem sndEs : ∀ is : IEs, SndEs ε T Γ is
  | .nil => s_nil
  | .cons i is => s_cons (sndE i) (sndEs is)
theorem sndO : ∀ i : IO, SndO ε T Γ i
  | .no => s_no
  | .som i => s_som (sndE i)
theorem sndF : ∀ f : FE, SndF ε T Γ f
  | .disp es => f_disp (sndEs es)
  | .list a => f_list (sndE a)
  | .sorted a => f_sorted (sndE a)
  | .sortset a => f_sortset (sndE a)
  | .split a b => f_split (sndE a) (sndE b)
  | .cat a b => f_cat (sndE a) (sndE b)
  | .comp _ _ s c i => f_comp (sndS s) (sndO c) (sndE i)
theorem sndS : ∀ s : Src, SndS ε T Γ s
  | .it a => k_it (sndE a)
  | .range1 a => k_range1 (sndE a)
  | .range2 a b => k_range2 (sndE a) (sndE b)
  | .enum a => k_enum (sndE a)
  | .zip es => k_zip (sndEs es)
  | .cel a => k_cel (sndE a)
end
end
end FH
end
section
/-! FH19: the look at statements, and that it is right. -/
namespace FH
open PySem PySem.Spec PyProof.Rows L2
def chkIn (T : Tab) (S : SC) : In → Expr → Bool
  | .v e, x => chkE T e false S x
  | .o f, x => chkF T f S x
def newB (T : Tab) (S : SC) (i : Nat) (y : Str) (py : Pos) (v : Expr) : IE → Bool
  | .frz f => chkF T f S v && setLcB S i y py v
  | .cell f => chkF T f S v && setLcB S i y py v
  | _ => false
mutual
def chkSt (T : Tab) (S : SC) : IS → Stmt → Bool
  | .expr e, st => match st with
    | .Expr x _ => notComp x && chkE T e false S x
    | _ => false
  | .ret e, st => match st with
    | .Return (some x) _ => chkE T e false S x
    | _ => false
  | .retN, st => match st with
    | .Return none _ => true
    | _ => false
  | .set i e, st => match st with
    | .Assign [.Name y py] v _ => newB T S i y py v e || (notComp v && decide (S.N[i]? = some y) && locB S y && chkE T e false S v)
    | _ => false
  | .unp g e, st => match st with
    | .Assign [tg] v _ => noSwap tg v && notComp v && chkTg g S tg && chkE T e false S v
    | _ => false
  | .par i j a b, st => match st with
    | .Assign [.Tuple [.Name x px, .Name y py] _ _] (.Tuple [u, v] _ _) _ => decide (S.sc.kind = .function) && decide (S.N[i]? = some x) && decide (S.N[j]? = some y) && decide (i ≠ j) && decide (x ≠ y) && decide (S.sc.names.lookup x = some .local) &&
        decide (S.sc.names.lookup y = some .local) && lineB py px && okE u && okE v && !folds u v && chkIn T S a u && chkIn T S b v
    | _ => false
  | .par3 i j l es, st => match st with
    | .Assign [.Tuple [.Name x px, .Name y py, .Name z pz] _ _] (.Tuple [u, v, w] _ _) _ => decide (S.sc.kind = .function) && decide (S.N[i]? = some x) && decide (S.N[j]? = some y) && decide (S.N[l]? = some z) && decide (i ≠ j ∧ i ≠ l ∧ j ≠ l) && decide (x ≠ y ∧ x ≠ z ∧ y ≠ z) && decide (S.sc.names.lookup x = some .local) &&
        decide (S.sc.names.lookup y = some .local) && decide (S.sc.names.lookup z = some .local) && lineB py px && lineB pz px && okE u && okE v && okE w && !([u, v, w].all (foldedForSure 8) || [u, v, w].all (constantsAlone 8)) && chkEs T es false S [u, v, w]
    | _ => false
  | .setOwn i f, st => match st with
    | .Assign [.Name y py] v _ => chkF T f S v && setLcB S i y py v
    | _ => false
  | .setTup i es, st => match st with
    | .Assign [.Name y _] (.Tuple l _ _) _ => decide (S.N[i]? = some y) && locB S y && chkEs T es false S l
    | _ => false
  | .setDc i g own s c k v, st => match st with
    | .Assign [.Name y py] (.DictComp kx vx [⟨tg, iter, ifs, z⟩] scope pos) _ => decide (z = 0) && decide (S.sc.kind = .function) && decide (S.N[i]? = some y) && decide (S.sc.names.lookup y = some .local) && lineB py pos && !(scope.names.any fun p => p.1 == y && (p.2 == .local || p.2 == .cell)) &&
        chkS T s S tg iter && blkC S.N S.sc scope own && chkTg g (S.inner scope) tg && chkC T c (S.inner scope) ifs && chkE T k false (S.inner scope) kx && chkE T v false (S.inner scope) vx && (tgI g).all (fun i => decide (i ∈ own.map (·.2))) && setB iter
    | _ => false
  | .freeze _ s, st => chkSt T S s st
  | .ifs c a b, st => match st with
    | .If x p q _ => chkE T c false S x && chkSs T S a p && chkSs T S b q
    | _ => false
  | .fors g s b, st => match st with
    | .For tg iter body [] _ => chkTg g S tg && chkS T s S tg iter && chkSs T S b body && setB iter
    | _ => false
  | .whil c b, st => match st with
    | .While x body [] _ => chkE T c false S x && chkSs T S b body
    | _ => false
  | .brk, st => match st with
    | .Break _ => true
    | _ => false
  | .cnt, st => match st with
    | .Continue _ => true
    | _ => false
  | .pass, st => match st with
    | .Pass _ => true
    | _ => false
  | .setIx o i e, st => match st with
    | .Assign [.Subscript x y _] v _ => notComp v && okE y && chkE T o false S x && chkE T i false S y && chkE T e false S v
    | _ => false
  | .setKy o i e, st => match st with
    | .Assign [.Subscript x y _] v _ => notComp v && chkE T o false S x && chkE T i false S y && chkE T e false S v
    | _ => false
  | .augIx op o i e, st => match st with
    | .AugAssign (.Subscript x y _) op' v _ => decide (op' = op) && decide (op = .Add) && okE y && chkE T o false S x && chkE T i false S y && chkE T e false S v
    | _ => false
  | .aug op i e, st => match st with
    | .AugAssign (.Name x _) op' v _ => decide (op' = op) && decide (op = .Add) && decide (S.N[i]? = some x) && locB S x && chkE T e false S v
    | _ => false
  | .setAt c o f e, st => match st with
    | .Assign [.Attribute x g _] v _ => decide (g = f) && notComp v && fldC T c f && chkE T o false S x && chkE T e false S v
    | _ => false
  | .setAt2 c i f g a b, st => match st with
    | .Assign [.Tuple [.Attribute (.Name x _) f' _, .Attribute (.Name y _) g' _] _ _] (.Tuple [u, v] _ _) _ => decide (y = x) && decide (f' = f) && decide (g' = g) && decide (S.N[i]? = some x) && visB S.sc x && nameOk x && fldC T c f && fldC T c g && okE u && okE v && chkE T a false S u && chkE T b false S v
    | _ => false
  | .app o e, st => match st with
    | .Expr x _ => (match shapeM "append" x with
      | some (z, [w]) => okE w && chkE T o false S z && chkE T e false S w
      | _ => false)
    | _ => false
  | .appOwn i e, st => match st with
    | .Expr x _ => (match shapeM "append" x with
      | some (z, [w]) => nmB S i z && okE w && chkE T e false S w
      | _ => false)
    | _ => false
  | .extOwn i f, st => match st with
    | .Expr x _ => (match shapeM "extend" x with
      | some (z, [w]) => nmB S i z && okE w && chkF T f S w
      | _ => false)
    | _ => false
  | .extV i e, st => match st with
    | .Expr x _ => (match shapeM "extend" x with
      | some (z, [w]) => nmB S i z && okE w && chkE T e false S w
      | _ => false)
    | _ => false
def chkSs (T : Tab) (S : SC) : ISs → List Stmt → Bool
  | .nil, [] => true
  | .cons i is, st :: sts => chkSt T S i st && chkSs T S is sts
  | _, _ => false
end
section
variable {ε : Ev} {T : Tab} {Γ : Env2} {S : SC} {X : Cx}
theorem inOk (C : CxOk ε T Γ S X) {i : In} {e : Expr} (h : chkIn T S i e = true) : PE X e (rdIn ε Γ i) := by
  cases i with
  | v a => exact in_v ((sndE a).v C h)
  | o f => exact in_o (sndF f S X e C h).1
theorem newOk (C : CxOk ε T Γ S X) {i : Nat} {y : Str} {py pos : Pos} {v : Expr} {e : IE} (h : newB T S i y py v e = true) : PS X (.Assign [.Name y py] v pos) (rdSt ε Γ (.set i e)) := by
  cases e <;> (first | (simp [newB] at h; done) | skip)
  · rename_i f
    simp only [newB, Bool.and_eq_true] at h
    exact st_setFrz ((sndF f S X v C h.1).2 i y py pos h.2)
  · rename_i f
    simp only [newB, Bool.and_eq_true] at h
    exact st_setCell ((sndF f S X v C h.1).2 i y py pos h.2)
mutual
theorem sndSt (C : CxOk ε T Γ S X) : ∀ (i : IS) (st : Stmt), chkSt T S i st = true → PS X st (rdSt ε Γ i)
  | .expr e, st, h => by
    simp only [chkSt] at h
    split at h
    · simp only [Bool.and_eq_true] at h
      exact st_expr h.1 ((sndE e).v C h.2)
    · cases h
  | .ret e, st, h => by
    simp only [chkSt] at h
    split at h
    · exact st_ret ((sndE e).v C h)
    · cases h
  | .retN, st, h => by
    simp only [chkSt] at h
    split at h
    · exact st_retN
    · cases h
  | .set i e, st, h => by
    simp only [chkSt] at h
    split at h
    · simp only [Bool.or_eq_true] at h
      rcases h with h | h
      · exact newOk C h
      · simp only [Bool.and_eq_true, decide_eq_true_eq] at h
        exact st_set C h.1.1.1 h.1.1.2 h.1.2 ((sndE e).v C h.2)
    · cases h
  | .unp g e, st, h => by
    simp only [chkSt] at h
    split at h
    · simp only [Bool.and_eq_true] at h
      obtain ⟨g1, g2⟩ := sndTg C h.1.2
      exact st_unp (noSwap_ok h.1.1.1) h.1.1.2 g2 g1 ((sndE e).v C h.2)
    · cases h
  | .par i j a b, st, h => by
    simp only [chkSt] at h
    split at h
    · simp only [Bool.and_eq_true, decide_eq_true_eq, Bool.not_eq_true'] at h
      obtain ⟨⟨⟨⟨⟨⟨⟨⟨⟨⟨⟨⟨h1, h2⟩, h3⟩, h4⟩, h5⟩, h6⟩, h7⟩, h8⟩, h9⟩, h10⟩, h11⟩, h12⟩, h13⟩ := h
      exact st_par C h1 h2 h3 h4 h5 h6 h7 h8 h9 h10 h11 (inOk C h12) (inOk C h13)
    · cases h
  | .par3 i j l es, st, h => by
    simp only [chkSt] at h
    split at h
    · simp only [Bool.and_eq_true, decide_eq_true_eq, Bool.not_eq_true'] at h
      obtain ⟨⟨⟨⟨⟨⟨⟨⟨⟨⟨⟨⟨⟨⟨⟨h1, h2⟩, h3⟩, h4⟩, h5⟩, h6⟩, h7⟩, h8⟩, h9⟩, h10⟩, h11⟩, h12⟩, h13⟩, h14⟩, h15⟩, h16⟩ := h
      exact st_par3 C h1 h2 h3 h4 h5.1 h5.2.1 h5.2.2 h6.1 h6.2.1 h6.2.2 h7 h8 h9 h10 h11 h12 h13 h14 h15 (sndEs es S X _ false C h16).pa
    · cases h
  | .setOwn i f, st, h => by
    simp only [chkSt] at h
    split at h
    · simp only [Bool.and_eq_true] at h
      exact st_setOwn ((sndF f S X _ C h.1).2 i _ _ _ h.2)
    · cases h
  | .setTup i es, st, h => by
    simp only [chkSt] at h
    split at h
    · simp only [Bool.and_eq_true, decide_eq_true_eq] at h
      exact st_setTup C h.1.1 h.1.2 (sndEs es S X _ false C h.2).pa
    · cases h
  | .setDc i g own s c k v, st, h => by
    simp only [chkSt] at h
    split at h
    · rename_i y py kx vx tg iter ifs z scope pos spos
      simp only [Bool.and_eq_true, decide_eq_true_eq, Bool.not_eq_true', List.all_eq_true] at h
      obtain ⟨⟨⟨⟨⟨⟨⟨⟨⟨⟨⟨⟨⟨rfl, h1⟩, h2⟩, h3⟩, h4⟩, h5⟩, h6⟩, h7⟩, h8⟩, h9⟩, h10⟩, h11⟩, h12⟩, h13⟩ := h
      exact st_setDc C h1 h2 h3 h4 h5 (sndS s S X tg iter C h6) h7 (fun Y D => (sndTg D h8).1) (fun Y D => (sndO c).2 _ Y ifs D h9) (fun Y D => (sndE k).v D h10) (fun Y D => (sndE v).v D h11) h12 h13
    · cases h
  | .freeze i s, st, h => by
    simp only [chkSt] at h
    exact st_freeze (sndSt C s st h)
  | .ifs c a b, st, h => by
    simp only [chkSt] at h
    split at h
    · simp only [Bool.and_eq_true] at h
      exact st_ifs ((sndE c).t C h.1.1) (sndSs C a _ h.1.2) (sndSs C b _ h.2)
    · cases h
  | .fors g s b, st, h => by
    simp only [chkSt] at h
    split at h
    · simp only [Bool.and_eq_true] at h
      exact st_fors C (sndS s S X _ _ C h.1.1.2) (sndTg C h.1.1.1).1 (sndSs C b _ h.1.2) h.2
    · cases h
  | .whil c b, st, h => by
    simp only [chkSt] at h
    split at h
    · simp only [Bool.and_eq_true] at h
      exact st_whil C ((sndE c).t C h.1) (sndSs C b _ h.2)
    · cases h
  | .brk, st, h => by
    simp only [chkSt] at h
    split at h
    · exact st_brk
    · cases h
  | .cnt, st, h => by
    simp only [chkSt] at h
    split at h
    · exact st_cnt
    · cases h
  | .pass, st, h => by
    simp only [chkSt] at h
    split at h
    · exact st_pass
    · cases h
  | .setIx o i e, st, h => by
    simp only [chkSt] at h
    split at h
    · simp only [Bool.and_eq_true] at h
      exact st_setIx h.1.1.1.1 h.1.1.1.2 ((sndE o).v C h.1.1.2) ((sndE i).v C h.1.2) ((sndE e).v C h.2)
    · cases h
  | .setKy o i e, st, h => by
    simp only [chkSt] at h
    split at h
    · simp only [Bool.and_eq_true] at h
      exact st_setKy C h.1.1.1 ((sndE o).v C h.1.1.2) ((sndE i).v C h.1.2) ((sndE e).v C h.2)
    · cases h
  | .augIx op o i e, st, h => by
    simp only [chkSt] at h
    split at h
    · simp only [Bool.and_eq_true, decide_eq_true_eq] at h
      obtain ⟨⟨⟨⟨⟨rfl, h2⟩, h3⟩, h4⟩, h5⟩, h6⟩ := h
      exact st_augIx h3 h2 ((sndE o).v C h4) ((sndE i).v C h5) ((sndE e).v C h6)
    · cases h
  | .aug op i e, st, h => by
    simp only [chkSt] at h
    split at h
    · simp only [Bool.and_eq_true, decide_eq_true_eq] at h
      obtain ⟨⟨⟨⟨rfl, h2⟩, h3⟩, h4⟩, h5⟩ := h
      exact st_aug C h2 h3 h4 ((sndE e).v C h5)
    · cases h
  | .setAt c o f e, st, h => by
    simp only [chkSt] at h
    split at h
    · simp only [Bool.and_eq_true, decide_eq_true_eq] at h
      obtain ⟨⟨⟨⟨rfl, h2⟩, h3⟩, h4⟩, h5⟩ := h
      obtain ⟨I, i1, i2⟩ := fldC_ok h3
      exact st_setAt C h2 i1 i2 ((sndE o).v C h4) ((sndE e).v C h5)
    · cases h
  | .setAt2 c i f g a b, st, h => by
    simp only [chkSt] at h
    split at h
    · simp only [Bool.and_eq_true, decide_eq_true_eq] at h
      obtain ⟨⟨⟨⟨⟨⟨⟨⟨⟨⟨⟨rfl, rfl⟩, rfl⟩, h4⟩, h5⟩, h6⟩, h7⟩, h8⟩, h9⟩, h10⟩, h11⟩, h12⟩ := h
      obtain ⟨I, i1, i2⟩ := fldC_ok h7
      obtain ⟨J, j1, j2⟩ := fldC_ok h8
      rw [i1] at j1; cases j1
      exact st_setAt2 C h4 h5 h6 i1 i2 j2 h9 h10 ((sndE a).v C h11) ((sndE b).v C h12)
    · cases h
  | .app o e, st, h => by
    simp only [chkSt] at h
    split at h
    · split at h
      · rename_i hs
        obtain ⟨apos, cpos, rfl, g1, g2⟩ := shapeM_ok hs
        simp only [Bool.and_eq_true] at h
        exact st_app g1 h.1.1 g2 ((sndE o).v C h.1.2) ((sndE e).v C h.2)
      · cases h
    · cases h
  | .appOwn i e, st, h => by
    simp only [chkSt] at h
    split at h
    · split at h
      · rename_i hs
        obtain ⟨apos, cpos, rfl, g1, g2⟩ := shapeM_ok hs
        simp only [Bool.and_eq_true] at h
        obtain ⟨x, p, rfl, n1, n2, n3⟩ := nmB_ok h.1.1
        exact st_appOwn C n1 n2 n3 h.1.2 g2 ((sndE e).v C h.2)
      · cases h
    · cases h
  | .extOwn i f, st, h => by
    simp only [chkSt] at h
    split at h
    · split at h
      · rename_i hs
        obtain ⟨apos, cpos, rfl, g1, g2⟩ := shapeM_ok hs
        simp only [Bool.and_eq_true] at h
        obtain ⟨x, p, rfl, n1, n2, n3⟩ := nmB_ok h.1.1
        exact st_extOwn C n1 n2 n3 h.1.2 g2 (sndF f S X _ C h.2).1
      · cases h
    · cases h
  | .extV i e, st, h => by
    simp only [chkSt] at h
    split at h
    · split at h
      · rename_i hs
        obtain ⟨apos, cpos, rfl, g1, g2⟩ := shapeM_ok hs
        simp only [Bool.and_eq_true] at h
        obtain ⟨x, p, rfl, n1, n2, n3⟩ := nmB_ok h.1.1
        exact st_extV C n1 n2 n3 h.1.2 g2 ((sndE e).v C h.2)
      · cases h
    · cases h
theorem sndSs (C : CxOk ε T Γ S X) : ∀ (is : ISs) (sts : List Stmt), chkSs T S is sts = true → PSs X sts (rdSs ε Γ is)
  | .nil, sts, h => by
    cases sts with
    | nil => exact ss_nil
    | cons _ _ => simp [chkSs] at h
  | .cons i is, sts, h => by
    cases sts with
    | nil => simp [chkSs] at h
    | cons st sts =>
      simp only [chkSs, Bool.and_eq_true] at h
      exact ss_cons (sndSt C i st h.1) (sndSs C is sts h.2)
end
end
end FH
end
section
/-! FH20: defs, and all defs together. -/
namespace FH
open PySem PySem.Spec PyProof.Rows L2
section
variable {ε : Ev} {P : Program} {w : World} {K : PySem.W.Frag} {mg : Str → Option Value} {base : Heap}
/-- a def by its body, where nothing is being shown -/
theorem fnG_by {x qual : Str} {st : Stmt} {f : Addr} {fd : FuncData} {N ps : List Str} {k : Nat} {sp : Sp} (F : Fun K x qual st f fd) (S : FnScope N ps (defScope st)) (hlen : ∀ vs H Q E, sp vs H Q E → vs.length = ps.length)
    (go : ∀ (cdv : Value) (A : Around) (outer : List Env) (s : Shared) (H : Hp) (vs : List V) (Q : VK), Room k (A.deeper (envOfC qual (defScope st) s.heap.objs.size f cdv)) → A.guards = some [] → sp vs H Q E0 →
      ∃ t : TS, PSs (cxOf CX0 P w K mg base N qual (defScope st) f cdv A outer s H E0).nox (defBody st) t ∧ t ⟨fun _ H' => Q .non H', Q, fun _ _ => False, fun _ _ => False⟩ (L2.start N vs) H) : FnG P w K mg base (k + 1) f fd ps sp := by
  obtain ⟨oc, od, kV, doc, pm, an, cdv, ct, osl, rfl, look, code⟩ := F.ex
  refine ⟨hlen, fun A outer s H args us vs Q room gd env bind rel hsp => ?_⟩
  have inK : K.In s.heap := env.mod.kin.keeps fun b o e => (env.bs b o e).1
  have free : s.heap.NoLimit := env.mod.nolimit.keeps fun b o e => (env.bs b o e).1
  have kinds : ∀ y ∈ ps.zip us, (defScope st).names.lookup y.1 = some .local ∨ ((defScope st).names.lookup y.1 = some .cell ∧ ((cellsFrom (s.heap.objs.size + 1) (defScope st).names []).lookup y.1).isSome = true) := by
    rintro ⟨n, v⟩ hy
    refine (S.par n (List.of_mem_zip hy).1).elim .inl fun q => .inr ⟨q, ?_⟩
    exact PySem.W.cellsFrom_some _ _ _ (.inl q)
  refine codeAny_call_function room.depth (inK _ _ look) rfl S.co S.gen rfl (PySem.W.codeRec_of inK code) (bind _ _ _ _ (wpAny_newFunctionEnv_cells S.kind kinds fun e he s1 x => ?_))
  subst he
  refine ⟨free.keeps x.toInCall.keep, codeAny_func ?_⟩
  obtain ⟨t, body, read⟩ := go cdv A outer s H vs Q (room.deeper _) gd hsp
  have start1 := inv_start (CX := CX0) (P := P) (w := w) (E := E0) (f := f) (cd := cdv) S room.hd env (hlen _ _ _ _ hsp) rel x
  refine wpAny_mono (body.nox.run [] s1 (L2.start N vs) H _ start1 read) (fun fl s2 hs => ?_) fun e s2 hs => hs
  cases fl with
  | ret u => obtain ⟨v, σ2, H2, J, r, q⟩ := hs; exact ⟨v, H2, J.os, J.bare, J.base, J.hok, r, q⟩
  | next => obtain ⟨σ2, H2, J, q⟩ := hs; exact ⟨.non, H2, J.os, J.bare, J.base, J.hok, rfl, q⟩
  | brk => obtain ⟨_, _, _, q⟩ := hs; exact q.elim
  | cont => obtain ⟨_, _, _, q⟩ := hs; exact q.elim
/-- a def of the program: its text and its term -/
structure FDef where
  at_ : Str × Option Str
  name : Str
  qual : Str
  st : Stmt
  ps : List Str
  N : List Str
  fn : FH.Fn
def scopeB (N ps : List Str) (sc : Scope) : Bool :=
  (match sc.kind with | .function => true | _ => false) && (!sc.isCoroutine && (!sc.isGenerator && (decide N.Nodup && (decide (N.take ps.length = ps) && (ps.all (fun x => match sc.names.lookup x with | some .local => true | some .cell => true | _ => false) &&
    sc.names.all fun y => match y.2 with | .free => false | _ => true)))))
theorem scopeB_ok {N ps : List Str} {sc : Scope} (h : scopeB N ps sc = true) : FnScope N ps sc := by
  simp only [scopeB, Bool.and_eq_true, Bool.not_eq_true', decide_eq_true_eq, List.all_eq_true] at h
  obtain ⟨h1, h2, h3, h4, h5, h6, h7⟩ := h
  refine ⟨?_, h2, h3, h4, h5, fun x hx => ?_, fun y hy e => ?_⟩
  · split at h1
    · assumption
    · cases h1
  · have q := h6 x hx
    split at q
    · exact .inl (by assumption)
    · exact .inr (by assumption)
    · cases q
  · have q := h7 y hy
    rw [e] at q; cases q
def FDef.ok (T : Tab) (F : FDef) : Bool :=
  scopeB F.N F.ps (defScope F.st) && decide (F.fn.np = F.ps.length) && decide (F.fn.size = F.N.length) && chkSs T ⟨F.N, defScope F.st, none⟩ F.fn.body (defBody F.st)
/-- what is known of the program behind its top -/
structure Mdl (ε : Ev) (T : Tab) (fs : List FDef) (P : Program) (w : World) (K : PySem.W.Frag) (mg : Str → Option Value) : Prop where
  k : ε.K = K
  p : ε.P = P
  wo : ε.w = w
  gl : ∀ X : Cx, X.K = K → X.w = w → X.mg = mg → ∀ x, GOk ε X x (T.look x)
  cls : ∀ X : Cx, X.K = K → ∀ (c : Nat) (I : CI), T.c[c]? = some I → ClOk ε X c I
  fn : ∀ (i : Nat) (F : FDef), fs[i]? = some F → ∃ fd, Fun K F.name F.qual F.st (ε.fa i) fd ∧ Binds K fd F.ps []
  ok : ∀ (i : Nat) (F : FDef), fs[i]? = some F → F.ok T = true
theorem own_none : ∀ (ds : List D) (n : Nat) (σ : L2.St), ownA (ds.map Slot.val ++ List.replicate n .emp) σ = []
  | [], 0, σ => by cases σ <;> rfl
  | [], n + 1, [] => rfl
  | [], n + 1, o :: σ => by
    have ih := own_none [] n σ
    simpa [List.replicate_succ, ownA] using ih
  | d :: ds, n, [] => by simp [ownA]
  | d :: ds, n, o :: σ => by
    have ih := own_none ds n σ
    simpa [ownA] using ih
theorem slots0 {φ : List Addr} {H : Hp} : ∀ {ds : List D} {vs : List V} (n : Nat), EncL ε φ H vs ds → Paired (SlotOk ε φ H) (ds.map Slot.val ++ List.replicate n .emp) (vs.map some ++ List.replicate n none)
  | [], _, 0, h => by cases h; exact .nil
  | [], _, n + 1, h => by
    have h0 := h
    cases h
    exact .cons trivial (slots0 n h0)
  | d :: ds, _, n, h => by
    cases h with
    | cons q r => exact .cons ⟨_, rfl, q⟩ (slots0 n r)
def fnsOf (fs : List FDef) : List FH.Fn := fs.map (·.fn)
/-- one def, if those that it calls keep theirs -/
theorem def_ok {T : Tab} {fs : List FDef} (M : Mdl ε T fs P w K mg) {k : Nat} {Γ : Env2} (hf : ∀ X : Cx, X.prog = P → X.w = w → X.K = K → X.mg = mg → X.base = base → ∀ f, FOk ε X k Γ.fns f)
    (hi : (∃ j, k = j + 1 ∧ ∀ X : Cx, X.prog = P → X.w = w → X.K = K → X.mg = mg → X.base = base → ∀ f, FOk ε X j Γ.inits f) ∨ ∀ f ds μ, Γ.inits f ds μ = none) (f : Nat) (some_ : ∃ ds μ r, callF (fnsOf fs) Γ f ds μ = some r) :
    ∃ fd ps, FnG P w K mg base (k + 1) (ε.fa f) fd ps (spOf ε (callF (fnsOf fs) Γ f)) ∧ Binds K fd ps [] ∧ PySem.W.keepIn K (.ref (ε.fa f)) = true := by
  obtain ⟨F, hF⟩ : ∃ F, fs[f]? = some F := by
    obtain ⟨ds, μ, r, e⟩ := some_
    unfold callF at e
    split at e
    · rename_i G hG
      simp only [fnsOf, List.getElem?_map, Option.map_eq_some_iff] at hG
      obtain ⟨F, hF, _⟩ := hG
      exact ⟨F, hF⟩
    · cases e
  have hG : (fnsOf fs)[f]? = some F.fn := by simp [fnsOf, hF]
  obtain ⟨fd, U, B⟩ := M.fn f F hF
  have ok := M.ok f F hF
  simp only [FDef.ok, Bool.and_eq_true, decide_eq_true_eq] at ok
  obtain ⟨⟨⟨k1, k2⟩, k3⟩, k4⟩ := ok
  have SC0 := scopeB_ok k1
  refine ⟨fd, F.ps, fnG_by U SC0 (fun vs H Q E h => ?_) (fun cdv A outer s H vs Q room gd h => ?_), B, U.kp⟩
  · obtain ⟨φ, ds, μ, r, μ', h1, h2, h3, h4⟩ := h
    unfold callF at h3
    rw [hG] at h3
    simp only at h3
    split at h3
    · rename_i hl; rw [h1.length, hl, k2]
    · cases h3
  · obtain ⟨φ, ds, μ, r, μ', h1, h2, h3, h4⟩ := h
    unfold callF at h3
    rw [hG] at h3
    simp only at h3
    split at h3
    · rename_i hl
      have C : CxOk ε T Γ ⟨F.N, defScope F.st, none⟩ (cxOf CX0 P w K mg base F.N F.qual (defScope F.st) (ε.fa f) cdv A outer s H E0).nox := {
        K := M.k
        P := M.p
        w := M.wo
        N := rfl
        nd := SC0.nd
        sc := rfl
        calm := rfl
        xe := rfl
        gd := gd
        hu := by
          have h := room.un
          show (A.deeper (envOfC F.qual (defScope F.st) s.heap.objs.size (ε.fa f) cdv)).units + 200 < cLine
          omega
        fn := fun _ => rfl
        gl := M.gl _ rfl rfl rfl
        fns := ⟨k, room, hf _ rfl rfl rfl rfl rfl⟩
        inits := by
          rcases hi with ⟨j, rfl, hi⟩ | hi
          · exact ⟨j, .inl ⟨room, hi _ rfl rfl rfl rfl rfl⟩⟩
          · exact ⟨0, .inr hi⟩
        cls := M.cls _ rfl }
      refine ⟨_, sndSs C F.fn.body _ k4, ?_⟩
      have hn : F.fn.size - ds.length = F.N.length - vs.length := by rw [k3, h1.length]
      have own0 : ∀ σ, ownA (start0 F.fn ds) σ = [] := fun σ => own_none ds _ σ
      have R : Rel ε φ (start0 F.fn ds) μ (L2.start F.N vs) H := ⟨h2, by unfold start0 L2.start; rw [hn]; exact slots0 _ h1, by rw [own0]; exact List.nodup_nil, fun a ha => by rw [own0] at ha; simp at ha⟩
      have fin : ∀ {φ2 : List Addr} {ρ2 : Slots} {μ2 : Store} {σ2 : L2.St} {H2 : Hp}, StP ε φ (start0 F.fn ds) (L2.start F.N vs) H φ2 ρ2 μ2 σ2 H2 → Res ε φ H φ2 μ2 H2 := fun x => ⟨⟨x.more, x.grow, fun b o e nb => x.keep b o e nb (by rw [own0]; simp), x.there⟩, x.rel.sto⟩
      split at h3
      · rename_i d ρ2 μ2 he
        cases h3
        exact ⟨φ, _, μ, _, _, _, R, he, fun φ2 σ2 H2 x v y => h4 φ2 v H2 (fin x) y⟩
      · rename_i ρ2 μ2 he
        cases h3
        exact ⟨φ, _, μ, _, _, _, R, he, fun φ2 σ2 H2 x => h4 φ2 .non H2 (fin x) .non⟩
      · cases h3
    · cases h3
/-- all defs, to any depth -/
theorem all_ok {T : Tab} {fs : List FDef} (M : Mdl ε T fs P w K mg) : ∀ k : Nat,
    (∀ X : Cx, X.prog = P → X.w = w → X.K = K → X.mg = mg → X.base = base → ∀ f, FOk ε X k (runP (fnsOf fs) k).1 f) ∧
    ((∃ j, k = j + 1 ∧ ∀ X : Cx, X.prog = P → X.w = w → X.K = K → X.mg = mg → X.base = base → ∀ f, FOk ε X j (runP (fnsOf fs) k).2 f) ∨ ∀ f ds μ, (runP (fnsOf fs) k).2 f ds μ = none)
  | 0 => ⟨fun X _ _ _ _ _ f ⟨ds, μ, r, e⟩ => (nomatch e), .inr fun _ _ _ => rfl⟩
  | k + 1 => by
    obtain ⟨h1, h2⟩ := all_ok M k
    refine ⟨fun X e1 e2 e3 e4 e5 f hs => ?_, .inl ⟨k, rfl, h1⟩⟩
    subst e1; subst e2; subst e3; subst e4; subst e5
    exact def_ok M (Γ := ⟨(runP (fnsOf fs) k).1, (runP (fnsOf fs) k).2⟩) h1 h2 f hs
end
end FH
end
section
/-! FH21: the law's own call. -/
namespace FH
open PySem PySem.Spec PyProof.Rows L2
section
variable {P : Program} {w : World} {K : PySem.W.Frag} {mg mb : Str → Option Value}
theorem enc_ints {ε : Ev} {φ : List Addr} {H : Hp} : ∀ ns : List Int, EncL ε φ H (ns.map V.int) (ns.map D.int)
  | [] => .nil
  | n :: ns => .cons (.int n) (enc_ints ns)
/-- what the caller wants of the law -/
def LawEnd (s : Shared) (r : Result) (s' : Shared) : Prop := r = .ok (.ret (.bool true)) ∧ OldK s.heap s'.heap ∧ s'.os = s.os ∧ AllBare s'.gens
/-- from an abstract heap that holds the script at most -/
theorem law_from {k : Nat} {fa a : Addr} {sp : Sp} {s : Shared} {vs : List Value} (inK : K.In s.heap) (names : s.heap.Ns mainGlobals mg) (builtins : s.heap.Ns builtinsNs mb) (bltOk : ∀ x : Str, x ≠ "__name__" → mb x = bootBuiltins x) (free : s.heap.NoLimit) (gens : s.gens = #[])
    (at_ : s.heap.get? a = some { cls := .type "list", data := .seq vs.toArray }) (room : Room k callerA) (F : ∀ base : Heap, ∃ fd ps, FnG P w K mg base k fa fd ps sp ∧ Binds K fd ps [])
    (H : Hp) (held : HOk P w H s.heap) (dom : ∀ b u, H b = some u → b = a ∧ K.lookup a = none ∧ ∃ o xs, u = .frz o (.lst xs)) (hsp : sp [.ref a] H (fun v _ => v = .bl true) E0) :
    codeAny (model P w) callerA (.call (.ref fa) ⟨[.ref a], []⟩) (LawEnd s) s := by
  have none_of : ∀ b, (b = a → K.lookup a ≠ none) → H b = none := fun b hb => by
    cases e : H b with
    | none => rfl
    | some u => obtain ⟨h1, h2, _⟩ := dom b u e; exact absurd h2 (hb h1)
  have base1 : K.In (hidT s.heap H) := fun b o e => hidT_get (inK b o e) (none_of b fun z h => by rw [← z, e] at h; cases h)
  have ns1 : ∀ {b : Addr} {m : Str → Option Value}, s.heap.Ns b m → (hidT s.heap H).Ns b m := by
    rintro b m ⟨o, es, ep, e, d, r⟩
    refine ⟨o, es, ep, hidT_get e ?_, d, r⟩
    cases q : H b with
    | none => rfl
    | some u =>
      obtain ⟨rfl, _⟩ := dom b u q
      rw [at_] at e; cases e
      exact absurd (show Data.seq vs.toArray _ = Data.dict es ep from d) (fun z => nomatch z)
  obtain ⟨mc, c1, c2⟩ := free
  have mod : Mod K mg (hidT s.heap H) := ⟨base1, ns1 names, ⟨mb, ns1 builtins, bltOk⟩, mc, ns1 c1, c2⟩
  have env : Env0 P w K mg (hidT s.heap H) callerA [] s H := {
    frames := rfl
    mod := mod
    bs := fun b o e => of_hidT e
    bsz := Nat.le_of_eq (hidT_size _ _)
    funs := trivial
    frf := fun b hb => nomatch (show b ∈ ([] : List Addr) from hb)
    hok := held
    bare := .of_eq gens }
  obtain ⟨fd, ps, prom, bnd⟩ := F (hidT s.heap H)
  have bind := bnd s [.ref a] inK (prom.len _ _ _ _ hsp)
  refine codeAny_mono (prom.run callerA [] s H ⟨[.ref a], []⟩ [.ref a] [.ref a] _ room rfl env bind (.cons rfl .nil) hsp) fun r s2 h => ?_
  cases r with
  | error e => exact False.elim h
  | ok fl =>
    cases fl with
    | ret u =>
      obtain ⟨v, H2, os, bare, un, held2, rel, rfl⟩ := h
      obtain rfl : u = Value.bool true := rel
      refine ⟨rfl, OldK.of_keep fun b o e => ?_, os, bare⟩
      cases q : H b with
      | none => exact un.keep b o e q (fun z => nomatch (show b ∈ ([] : List Addr) from z)) (by simp)
      | some u =>
        obtain ⟨_, _, ob, xs, rfl⟩ := dom b u q
        have q2 := un.frzs b ob _ q
        have g1 := (held b _ q).1
        have g2 := (held2 b _ q2).1
        rw [e] at g1; cases g1
        exact g2
    | next => exact False.elim h
    | brk => exact False.elim h
    | cont => exact False.elim h
theorem law_run {ε : Ev} {T : Tab} {fs : List FDef} {k i : Nat} {a : Addr} {s : Shared} {vs : List Value} {ns : List Int} {μ' : Store} (M : Mdl ε T fs P w K mg)
    (inK : K.In s.heap) (names : s.heap.Ns mainGlobals mg) (builtins : s.heap.Ns builtinsNs mb) (bltOk : ∀ x : Str, x ≠ "__name__" → mb x = bootBuiltins x) (free : s.heap.NoLimit) (gens : s.gens = #[])
    (at_ : s.heap.get? a = some { cls := .type "list", data := .seq vs.toArray }) (hi : IntsAre vs ns) (hl : ns.length ≤ sizeLine) (room : Room k callerA) (hrun : run (fnsOf fs) k i [.lst (ns.map .int)] [] = some (.bl true, μ')) :
    codeAny (model P w) callerA (.call (.ref (ε.fa i)) ⟨[.ref a], []⟩) (LawEnd s) s := by
  have rel := vals_ints hi
  have prom : ∀ base : Heap, ∃ fd ps, FnG P w K mg base k (ε.fa i) fd ps (spOf ε (run (fnsOf fs) k i)) ∧ Binds K fd ps [] := fun base => by
    obtain ⟨fd, ps, h1, h2, _⟩ := (all_ok (P := P) (base := base) M k).1 (cxOf CX0 P w K mg base [] "" ⟨.function, [], false, false, []⟩ 0 .none callerA [] s (fun _ => none) E0) rfl rfl rfl rfl rfl i ⟨_, _, _, hrun⟩
    exact ⟨fd, ps, h1, h2⟩
  have ready : ∀ H : Hp, FzL K H a (ns.map V.int) → spOf ε (run (fnsOf fs) k i) [.ref a] H (fun v _ => v = .bl true) E0 := fun H hz =>
    ⟨[], [.lst (ns.map .int)], [], .bl true, μ', .cons (.lst (by rw [M.k]; exact hz) (enc_ints ns)) .nil, ⟨rfl, List.nodup_nil, fun n b c e => by simp at e⟩, hrun, fun φ' v H' _ y => by cases y; rfl⟩
  cases hk : K.lookup a with
  | some o =>
    have e := inK a o hk
    rw [at_] at e
    cases e
    exact law_from inK names builtins bltOk free gens at_ room prom (fun _ => none) (fun b u z => nomatch (show (none : Option HO) = some u from z)) (fun b u z => nomatch (show (none : Option HO) = some u from z)) (ready _ (.inr ⟨vs, _, hk, by rw [List.length_map]; exact hl, rel⟩))
  | none =>
    refine law_from inK names builtins bltOk free gens at_ room prom (L2.upd (fun _ => none) a (.frz { cls := .type "list", data := .seq vs.toArray } (.lst (ns.map V.int)))) (fun b u z => ?_) (fun b u z => ?_) (ready _ (.inl ⟨_, upd_same⟩))
    · by_cases hb : b = a
      · subst hb
        rw [upd_same] at z; cases z
        exact ⟨at_, by rw [List.length_map]; exact hl, vs, _, rel, at_⟩
      · rw [upd_ne hb] at z; cases z
    · by_cases hb : b = a
      · subst hb
        rw [upd_same] at z; cases z
        exact ⟨rfl, hk, _, _, rfl⟩
      · rw [upd_ne hb] at z; cases z
/-- THE END: the law's walk, from its plain meaning -/
theorem walk_fh {l : PySem.W.OpenLaw} {n : Nat} {q : Program} {loose : List Str} {XP : (Str → Option Value) → Heap → Prop} {YP : World → Heap → Prop} {d : DefRec} (hn : l.most = some n) (hn2 : n ≤ sizeLine) (hdf : d.params.defaults = [])
    {T : Tab} {fs : List FDef} {k i : Nat} (room : Room k callerA)
    (F : ∀ (P : Program) (w : World) (mg : Str → Option Value) (fa : Addr) (h : Heap), YP w h → h.Ns mainGlobals mg → mg d.name = some (.ref fa) → ∃ (K : PySem.W.Frag) (ε : Ev), K.In h ∧ Mdl ε T fs P w K mg ∧ ε.fa i = fa)
    (law : ∀ ns : List Int, ns.length ≤ n → ∃ μ, run (fnsOf fs) k i [.lst (ns.map .int)] [] = some (.bl true, μ)) :
    PySem.W.WalkO q loose XP YP l.row.toRowW d [] (fun f vs => PySem.call f vs) := by
  refine Att.attach_call hn hdf fun w s₀ s₁ mg mb fa o pm cd doc a vs ns G Y ho hd hcd name obj its len gens => ?_
  obtain ⟨K, ε, inK, M, rfl⟩ := F _ w mg fa _ Y G.T.g name
  obtain ⟨μ, hrun⟩ := law ns len
  exact law_run M inK G.T.g G.T.b G.T.builtins G.T.nolimit gens obj its (Nat.le_trans len hn2) room hrun
end
end FH
end
section
/-! FH22: what the top has left, by names. -/
namespace FH
open PySem PySem.Spec PyProof.Rows L2
/-- a program: its names, its defs, its classes -/
structure Prg where
  T : Tab
  fs : List FDef
  cs : List Str
def gFa (x : Str) : G → List He.Fa
  | .no => [.free x]
  | .fn _ => [.glo x]
  | .cls _ => [.glo x]
  | .dct _ => [.glo x]
  | _ => []
def cFa (x : Str) (I : CI) : List He.Fa := .cls x :: ((match I.init with | some _ => [.mkr x] | none => []) ++ (I.flds.map (.noat x) ++ I.meths.map fun m => .meth x m.1))
def Prg.fa (P : Prg) : List He.Fa := (P.T.g.flatMap fun p => gFa p.1 p.2) ++ (P.cs.zip P.T.c).flatMap fun q => cFa q.1 q.2
def FDef.d (F : FDef) : He.DefD := ⟨F.at_, F.name, F.qual, defArgs F.st, defBody F.st, defScope F.st, [], []⟩
def Prg.fn (P : Prg) : List He.DefD := P.fs.map FDef.d
def Prg.ts (P : Prg) : List He.Tab := P.T.g.filterMap fun p => match p.2 with
  | .dct kvs => some (fun K => He.ga K p.1, kvs.map (·.1))
  | _ => none

mutual
def encB (K : PySem.W.Frag) : D → Value → Bool
  | .non, .none => true
  | .bl b, .bool c => b == c
  | .int i, .int j _ => decide (i = j)
  | .str x, .str y _ => decide (x = y)
  | .tup ds, .ref a => (match K.lookup a with
    | some ⟨.type c, _, .seq its _, _⟩ => decide (c = "tuple") && (decide (its.size ≤ sizeLine) && encBs K ds its.toList)
    | _ => false)
  | .lst ds, .ref a => (match K.lookup a with
    | some ⟨.type c, none, .seq its _, sl⟩ => decide (c = "list") && (sl.isEmpty && (decide (its.size ≤ sizeLine) && encBs K ds its.toList))
    | _ => false)
  | _, _ => false
def encBs (K : PySem.W.Frag) : List D → List Value → Bool
  | [], [] => true
  | d :: ds, u :: us => encB K d u && encBs K ds us
  | _, _ => false
end
def conB (K : PySem.W.Frag) (x : Str) (d : D) : Bool := match PySem.W.nsIn K mainGlobals x with
  | some (some u) => encB K d u
  | _ => false
def dctB (K : PySem.W.Frag) (x : Str) (kvs : List (Str × D)) : Bool := kvs.all fun q => match PySem.W.nsIn K (He.ga K x) q.1 with
  | some (some u) => encB K q.2 u
  | _ => false
def Prg.ex (P : Prg) (K : PySem.W.Frag) : Bool := P.T.g.all fun p => match p.2 with
  | .con d => conB K p.1 d
  | .dct kvs => dctB K p.1 kvs
  | _ => true
/-- where things stand, told by the tables alone -/
def Prg.atB (P : Prg) : Bool := (P.T.g.all fun p => match p.2 with
    | .fn f => decide ((P.fs[f]?).map (·.at_) = some (p.1, none))
    | .cls c => decide (P.cs[c]? = some p.1)
    | _ => true) && ((P.cs.zip P.T.c).all fun q => (match q.2.init with
    | some f => decide ((P.fs[f]?).map (·.at_) = some (q.1, some ("__init__" : Str)))
    | none => true) && q.2.meths.all fun m => decide ((P.fs[m.2]?).map (·.at_) = some (q.1, some m.1))) && decide (P.cs.length = P.T.c.length)
def Prg.okB (P : Prg) : Bool := P.fs.all (·.ok P.T)
/-- how a def's parameters bind -/
def FDef.BindsF (F : FDef) : Prop := ∀ (kV doc pm : Value) (an : Option Addr) (cdv ct : Value) (us : List Value), us.length = F.ps.length →
  bindArgs (PySem.W.fnOf F.name F.qual (defArgs F.st) (defBody F.st) (defScope F.st) .none kV doc pm an cdv ct) ⟨us, []⟩ = pure (F.ps.zip us)
def AllB : List FDef → Prop
  | [] => True
  | F :: r => F.BindsF ∧ AllB r
theorem AllB.at : ∀ {fs : List FDef} {i : Nat} {F : FDef}, AllB fs → fs[i]? = some F → F.BindsF
  | _ :: _, 0, F, h, e => by simp at e; subst e; exact h.1
  | _ :: _, i + 1, F, h, e => AllB.at h.2 (by simpa using e)
  | [], _, _, _, e => by simp at e
def Prg.ev (P : Prg) (K : PySem.W.Frag) (pr : Program) (w : World) : Ev where
  K := K
  P := pr
  w := w
  fa := fun i => match P.fs[i]? with | some F => He.fAd K F.at_ | none => 0
  ca := fun c => match P.cs[c]? with | some x => He.ga K x | none => 0
section
variable {K : PySem.W.Frag}
mutual
theorem encB_ok : ∀ {d : D} {u : Value}, encB K d u = true → ∃ v, RelV v u ∧ ∀ (ε : Ev) (φ : List Addr) (H : Hp), ε.K = K → Enc ε φ H v d
  | .non, u, h => by cases u <;> (first | (simp [encB] at h; done) | exact ⟨.non, rfl, fun _ _ _ _ => .non⟩)
  | .bl b, u, h => by
    cases u <;> (first | (simp [encB] at h; done) | skip)
    have e := beq_iff_eq.mp (show (b == _) = true by simpa only [encB] using h)
    subst e
    exact ⟨.bl b, rfl, fun _ _ _ _ => .bl b⟩
  | .int b, u, h => by
    cases u <;> (first | (simp [encB] at h; done) | skip)
    simp only [encB, decide_eq_true_eq] at h
    subst h
    exact ⟨.int b, ⟨_, rfl⟩, fun _ _ _ _ => .int b⟩
  | .str b, u, h => by
    cases u <;> (first | (simp [encB] at h; done) | skip)
    simp only [encB, decide_eq_true_eq] at h
    subst h
    exact ⟨.str b, ⟨_, rfl⟩, fun _ _ _ _ => .str b⟩
  | .tup ds, u, h => by
    cases u <;> (first | (simp [encB] at h; done) | skip)
    rename_i a
    simp only [encB] at h
    split at h
    · rename_i c od its n sl e
      simp only [Bool.and_eq_true, decide_eq_true_eq] at h
      obtain ⟨rfl, h2, h3⟩ := h
      obtain ⟨vs, r, q⟩ := encBs_ok h3
      exact ⟨.ref a, rfl, fun ε φ H hk => .tup (.inr ⟨_, its, n, by rw [hk]; exact e, rfl, rfl, h2, r⟩) (q ε φ H hk)⟩
    · cases h
  | .lst ds, u, h => by
    cases u <;> (first | (simp [encB] at h; done) | skip)
    rename_i a
    simp only [encB] at h
    split at h
    · rename_i c its n sl e
      simp only [Bool.and_eq_true, decide_eq_true_eq] at h
      obtain ⟨rfl, h1, h2, h3⟩ := h
      obtain ⟨vs, r, q⟩ := encBs_ok h3
      have e2 := Array.isEmpty_iff.mp h1
      subst e2
      have hl := r.length
      refine ⟨.ref a, rfl, fun ε φ H hk => .lst (.inr ⟨its.toList, n, by rw [hk]; simpa using e, ?_, r⟩) (q ε φ H hk)⟩
      rw [hl, Array.length_toList]; exact h2
    · cases h
  | .ref _, u, h => by cases u <;> simp [encB] at h
  | .fn _, u, h => by cases u <;> simp [encB] at h
  | .ty _, u, h => by cases u <;> simp [encB] at h
theorem encBs_ok : ∀ {ds : List D} {us : List Value}, encBs K ds us = true → ∃ vs, Vals vs us ∧ ∀ (ε : Ev) (φ : List Addr) (H : Hp), ε.K = K → EncL ε φ H vs ds
  | [], [], _ => ⟨[], .nil, fun _ _ _ _ => .nil⟩
  | [], _ :: _, h => by simp [encBs] at h
  | _ :: _, [], h => by simp [encBs] at h
  | d :: ds, u :: us, h => by
    simp only [encBs, Bool.and_eq_true] at h
    obtain ⟨v, r, q⟩ := encB_ok h.1
    obtain ⟨vs, r2, q2⟩ := encBs_ok h.2
    exact ⟨v :: vs, .cons r r2, fun ε φ H hk => .cons (q ε φ H hk) (q2 ε φ H hk)⟩
end
theorem lookup_in {β : Type} {x : Str} {g : β} : ∀ {l : List (Str × β)}, l.lookup x = some g → (x, g) ∈ l
  | [], h => by cases h
  | (y, b) :: l, h => by
    rw [List.lookup_cons] at h
    split at h
    · rename_i e; cases h; rw [beq_iff_eq.mp e]; exact List.mem_cons_self
    · exact List.mem_cons_of_mem _ (lookup_in h)
theorem fun_of {F : FDef} {f : Addr} {fd : FuncData} (U : FunD K F.name F.qual (defArgs F.st) (defBody F.st) (defScope F.st) [] [] f fd) (B : F.BindsF) : Fun K F.name F.qual F.st f fd ∧ Binds K fd F.ps [] := by
  refine ⟨⟨?_, U.kp⟩, U.bindsN B⟩
  obtain ⟨oc, od, dV, kV, doc, pm, an, cdv, ct, osl, e, lk, hcd, hD, _⟩ := U.ex
  rcases hD with ⟨_, rfl⟩ | ⟨z, _⟩
  · exact ⟨oc, od, kV, doc, pm, an, cdv, ct, osl, e, lk, hcd⟩
  · exact absurd rfl z
theorem mdl_of {P : Prg} {pr : Program} {w : World} {h : Heap} {mg : Str → Option Value} (a1 : P.atB = true) (a2 : P.okB = true) (bnd : AllB P.fs) (inK : K.In h) (ns : h.Ns mainGlobals mg) (c : He.SaysX P.fa P.fn P.ts [] P.ex w h K) : Mdl (P.ev K pr w) P.T P.fs pr w K mg := by
  simp only [Prg.atB, Bool.and_eq_true, List.all_eq_true, decide_eq_true_eq] at a1
  obtain ⟨⟨at1, at2⟩, at3⟩ := a1
  have ex := List.all_eq_true.mp c.more
  have fact : ∀ f ∈ P.fa, f.ok K = true := fun f hf => c.t.d.facts hf
  have fg : ∀ x g f, (x, g) ∈ P.T.g → f ∈ gFa x g → f.ok K = true := fun x g f h1 h2 => fact f (List.mem_append_left _ (List.mem_flatMap.mpr ⟨(x, g), h1, h2⟩))
  refine ⟨rfl, rfl, rfl, fun X hK hw hm x => ?_, fun X hK cn I hI => ?_, fun i F hF => ?_, fun i F hF => List.all_eq_true.mp a2 F (List.mem_of_getElem? hF)⟩
  · subst hK; subst hw; subst hm
    unfold Tab.look
    cases e : P.T.g.lookup x with
    | none => trivial
    | some g =>
      have hx := lookup_in e
      cases g with
      | unk => trivial
      | no => exact He.free_ok inK ns (fg x _ _ hx (by simp [gFa]))
      | con d =>
        have z := ex (x, .con d) hx
        simp only [conB] at z
        split at z
        · rename_i u hu
          obtain ⟨v, r, q⟩ := encB_ok z
          exact ⟨u, v, PySem.W.mg_of inK ns hu, r, fun φ H => q _ φ H rfl⟩
        · cases z
      | fn f =>
        have z := at1 (x, .fn f) hx
        simp only [Option.map_eq_some_iff, decide_eq_true_eq] at z
        obtain ⟨F, z1, z2⟩ := z
        have g := He.glo_ok inK ns (fg x _ (.glo x) hx (by simp [gFa]))
        show X.mg x = some (.ref ((P.ev X.K pr X.w).fa f))
        rw [g]
        show _ = some (Value.ref (match P.fs[f]? with | some F => He.fAd X.K F.at_ | none => 0))
        rw [z1]
        show _ = some (Value.ref (He.fAd X.K F.at_))
        rw [z2]; rfl
      | cls cn =>
        have z := at1 (x, .cls cn) hx
        simp only [decide_eq_true_eq] at z
        have g := He.glo_ok inK ns (fg x _ (.glo x) hx (by simp [gFa]))
        show X.mg x = some (.ref ((P.ev X.K pr X.w).ca cn))
        rw [g]
        show _ = some (Value.ref (match P.cs[cn]? with | some x => He.ga X.K x | none => 0))
        rw [z]
      | dct kvs =>
        have z := ex (x, .dct kvs) hx
        have g := He.glo_ok inK ns (fg x _ (.glo x) hx (by simp [gFa]))
        refine ⟨_, g, fun y d hy => ?_⟩
        have hy2 := lookup_in hy
        have z2 := List.all_eq_true.mp (show (kvs.all fun q => match PySem.W.nsIn X.K (He.ga X.K x) q.1 with | some (some u) => encB X.K q.2 u | _ => false) = true from z) (y, d) hy2
        simp only at z2
        split at z2
        · rename_i u hu
          obtain ⟨v, r, q⟩ := encB_ok z2
          have ht : ((fun K => He.ga K x, kvs.map (·.1)) : He.Tab) ∈ P.ts := List.mem_filterMap.mpr ⟨(x, .dct kvs), hx, rfl⟩
          obtain ⟨i, hi, e2⟩ := List.mem_iff_getElem.mp ht
          obtain ⟨es, n, D⟩ := c.t.tab i (t := (fun K => He.ga K x, kvs.map (·.1))) (by rw [List.getElem?_eq_getElem hi, e2])
          exact ⟨v, ⟨es, n, u, D.at_, D.lit, hu, r⟩, fun φ H => q _ φ H rfl⟩
        · cases z2
  · subst hK
    have hl := (List.getElem?_eq_some_iff.mp hI).1
    obtain ⟨x, hx⟩ : ∃ x, P.cs[cn]? = some x := ⟨P.cs[cn], by simp [show cn < P.cs.length by omega]⟩
    have hz : (x, I) ∈ P.cs.zip P.T.c := List.mem_of_getElem? (i := cn) (List.getElem?_zip_eq_some.mpr ⟨hx, hI⟩)
    have fc : ∀ f, f ∈ cFa x I → f.ok X.K = true := fun f hf => fact f (List.mem_append_right _ (List.mem_flatMap.mpr ⟨(x, I), hz, hf⟩))
    have eca : (P.ev X.K pr w).ca cn = He.ga X.K x := by
      show (match P.cs[cn]? with | some x => He.ga X.K x | none => 0) = _
      rw [hx]
    obtain ⟨q1, q2⟩ := at2 (x, I) hz
    refine ⟨?_, fun m f hm => ?_, fun f hf => ?_, fun f hf => ?_⟩
    · rw [eca]; exact He.cls_ok (fc (.cls x) List.mem_cons_self)
    · rw [eca]
      have hm2 := lookup_in hm
      have z := q2 (m, f) hm2
      simp only [Option.map_eq_some_iff, decide_eq_true_eq] at z
      obtain ⟨F, z1, z2⟩ := z
      have e : (P.ev X.K pr w).fa f = He.ma X.K (He.ga X.K x) m := by
        show (match P.fs[f]? with | some F => He.fAd X.K F.at_ | none => 0) = _
        rw [z1]
        show He.fAd X.K F.at_ = _
        rw [z2]; rfl
      rw [e]
      exact He.meth_ok (fc (.meth x m) (List.mem_cons_of_mem _ (List.mem_append_right _ (List.mem_append_right _ (List.mem_map.mpr ⟨(m, f), hm2, rfl⟩)))))
    · rw [eca]
      exact He.noat_ok (fc (.noat x f) (List.mem_cons_of_mem _ (List.mem_append_right _ (List.mem_append_left _ (List.mem_map.mpr ⟨f, by simpa using hf, rfl⟩)))))
    · rw [eca]
      rw [hf] at q1
      simp only [Option.map_eq_some_iff, decide_eq_true_eq] at q1
      obtain ⟨F, z1, z2⟩ := q1
      have e : (P.ev X.K pr w).fa f = He.ma X.K (He.ga X.K x) "__init__" := by
        show (match P.fs[f]? with | some F => He.fAd X.K F.at_ | none => 0) = _
        rw [z1]
        show He.fAd X.K F.at_ = _
        rw [z2]; rfl
      rw [e]
      exact He.mkr_ok (fc (.mkr x) (List.mem_cons_of_mem _ (List.mem_append_left _ (by rw [hf]; simp))))
  · have hd : F.d ∈ P.fn := List.mem_map.mpr ⟨F, List.mem_of_getElem? hF, rfl⟩
    obtain ⟨fd, U⟩ := c.t.d.defs hd
    obtain ⟨h1, h2⟩ := fun_of (F := F) U (bnd.at hF)
    have e : (P.ev K pr w).fa i = He.fAd K F.at_ := by
      show (match P.fs[i]? with | some F => He.fAd K F.at_ | none => 0) = _
      rw [hF]
    exact ⟨fd, by rw [e]; exact h1, h2⟩
end
end FH
namespace FH
open PySem PySem.Spec PyProof.Rows L2
/-- what walk_fh asks, from the facts of a written part -/
theorem head_fh {P : Prg} {pr : Program} {i : Nat} {K : PySem.W.Frag} {w : World} {h : Heap} {mg : Str → Option Value} {fa : Addr} {x : Str} (a1 : P.atB = true) (a2 : P.okB = true) (bnd : AllB P.fs) (lw : P.T.look x = .fn i) (inK : K.In h) (ns : h.Ns mainGlobals mg) (name : mg x = some (.ref fa))
    (c1 : He.SaysT P.fa P.fn P.ts w K) (c2 : P.ex K = true) : ∃ (K : PySem.W.Frag) (ε : Ev), K.In h ∧ Mdl ε P.T P.fs pr w K mg ∧ ε.fa i = fa := by
  have M := mdl_of (pr := pr) a1 a2 bnd inK ns ⟨c1, c2, fun _ h => (nomatch h), fun _ h => (nomatch h), fun _ h => (nomatch h)⟩
  refine ⟨K, P.ev K pr w, inK, M, ?_⟩
  have g := M.gl (cxOf CX0 pr w K mg h [] "" ⟨.function, [], false, false, []⟩ 0 .none callerA [] {} (fun _ => none) E0) rfl rfl rfl x
  rw [lw] at g
  have g2 : mg x = some (.ref ((P.ev K pr w).fa i)) := g
  rw [name] at g2
  cases g2; rfl
end FH
end
section
/-! FHP1: plain data that is like itself. -/
namespace FH
open PySem PySem.Spec PyProof.Rows L2
mutual
/-- data that can be compared and shown -/
def D.good : D → Bool
  | .non => true | .bl _ => true
  | .int i => decide (i.natAbs < 10 ^ 31)
  | .str x => PyData.strOk x
  | .tup ds => goodL ds
  | .lst ds => goodL ds
  | _ => false
def goodL : List D → Bool
  | [] => true
  | d :: ds => d.good && goodL ds
end
mutual
def D.wgt : D → Nat
  | .int _ => 105 | .str x => x.cps.size
  | .tup ds => wgtL ds | .lst ds => wgtL ds
  | _ => 0
def wgtL : List D → Nat
  | [] => 0
  | d :: ds => d.wgt + 1 + wgtL ds
end
mutual
def D.dep : D → Nat
  | .tup ds => depL ds + 1 | .lst ds => depL ds + 1
  | _ => 0
def depL : List D → Nat
  | [] => 0
  | d :: ds => max d.dep (depL ds)
end
structure Gd (d : D) (p : PyData) : Prop where
  py : d.py = some p
  lay : p.canLay0 = true
  short : p.leavesShort 32 = true
  show_ : p.showable = true
  w : p.weight ≤ d.wgt
  dp : p.depth = d.dep
structure GdL (d : List D) (p : List PyData) : Prop where
  py : pyL d = some p
  lay : PyData.canLayAll0 p = true
  short : PyData.leavesShortAll 32 p = true
  show_ : PyData.showableAll p = true
  w : PyData.weightAll p ≤ wgtL d
  dp : PyData.depthAll p = depL d
theorem int_small {i : Int} (h : i.natAbs < 10 ^ 31) : i.natAbs.log2 < 104 := by
  by_cases h0 : i.natAbs = 0
  · rw [h0]; decide
  · exact (Nat.log2_lt h0).mpr (Nat.lt_trans h (by decide))
mutual
theorem good_py : ∀ {d : D}, d.good = true → ∃ p, Gd d p
  | .non, _ => ⟨.none, rfl, rfl, rfl, rfl, Nat.le_refl _, rfl⟩
  | .bl b, _ => ⟨.bool b, rfl, rfl, rfl, rfl, Nat.le_refl _, rfl⟩
  | .int i, h => by
    simp only [D.good, decide_eq_true_eq] at h
    have h1 := int_small h
    refine ⟨.int i, rfl, rfl, ?_, ?_, ?_, rfl⟩
    · show decide ((PyData.shown (.int i)).length ≤ 32) = true
      have e := int_text_length_le10 (a := i) (k := 31) (by decide) h
      refine decide_eq_true ?_
      show (Str.ofString (toString i)).length ≤ 32
      rw [PySem.ofString_length]; exact e
    · simp only [PyData.showable, decide_eq_true_eq]; omega
    · simp only [PyData.weight, D.wgt]
      split <;> omega
  | .str x, h => by
    simp only [D.good] at h
    refine ⟨.str x, rfl, by simpa [PyData.canLay0] using h, ?_, rfl, Nat.le_refl _, rfl⟩
    simp only [PyData.leavesShort, List.all_eq_true, decide_eq_true_eq]
    intro c hc
    unfold PyData.strOk at h
    have := (Array.all_eq_true'.mp h) c (by simpa using hc)
    have h2 : c < 0x110000 := by simpa using this
    exact Nat.lt_trans h2 (by decide)
  | .tup ds, h => by
    simp only [D.good] at h
    obtain ⟨ps, g⟩ := goodL_py h
    exact ⟨.tuple ps, by simp [D.py, g.py], by simpa [PyData.canLay0] using g.lay, by simpa [PyData.leavesShort] using g.short, by simpa [PyData.showable] using g.show_, by simpa [PyData.weight, D.wgt] using g.w, by simp [PyData.depth, D.dep, g.dp]⟩
  | .lst ds, h => by
    simp only [D.good] at h
    obtain ⟨ps, g⟩ := goodL_py h
    exact ⟨.list ps, by simp [D.py, g.py], by simpa [PyData.canLay0] using g.lay, by simpa [PyData.leavesShort] using g.short, by simpa [PyData.showable] using g.show_, by simpa [PyData.weight, D.wgt] using g.w, by simp [PyData.depth, D.dep, g.dp]⟩
  | .ref _, h => by simp [D.good] at h
  | .fn _, h => by simp [D.good] at h
  | .ty _, h => by simp [D.good] at h
theorem goodL_py : ∀ {d : List D}, goodL d = true → ∃ p, GdL d p
  | [], _ => ⟨[], rfl, rfl, rfl, rfl, Nat.le_refl _, rfl⟩
  | d :: ds, h => by
    simp only [goodL, Bool.and_eq_true] at h
    obtain ⟨p, g⟩ := good_py h.1
    obtain ⟨ps, k⟩ := goodL_py h.2
    refine ⟨p :: ps, by simp [pyL, g.py, k.py], by simp [PyData.canLayAll0, g.lay, k.lay], by simp [PyData.leavesShortAll, g.short, k.short], by simp [PyData.showableAll, g.show_, k.show_], ?_, by simp [PyData.depthAll, depL, g.dp, k.dp]⟩
    have a := g.w
    have b := k.w
    simp only [PyData.weightAll, wgtL]
    omega
end
theorem Gd.shaped {d : D} {p : PyData} (g : Gd d p) (h : d.dep ≤ 64) : SeqAt.shaped p = true := by
  unfold SeqAt.shaped
  rw [g.lay, g.dp]
  simpa using h
theorem eqF_refl {d : D} (h : d.flat = true) : eqF d d = true := by
  cases d <;> first | rfl | (simp [eqF]; done) | (simp [D.flat] at h)
theorem eqD_refl {d : D} (h : d.good = true) (hd : d.dep ≤ 64) : eqD d d = some true := by
  unfold eqD
  split
  · rename_i hf
    simp only [Bool.and_eq_true] at hf
    rw [eqF_refl hf.1]
  · obtain ⟨p, g⟩ := good_py h
    rw [g.py]
    simp only [g.shaped hd, Bool.and_self, if_true]
    rw [SeqAt.eqv_refl p g.lay]
theorem reprD_good {d : D} (h : d.good = true) (hd : d.dep ≤ 64) (hw : d.wgt ≤ 2 ^ 18) : ∃ s, reprD d = some s := by
  obtain ⟨p, g⟩ := good_py h
  unfold reprD
  rw [g.py]
  have h1 := g.show_
  have h2 := PyData.hasDict_of_canLay p g.lay
  have h3 : p.depth ≤ 64 := by rw [g.dp]; exact hd
  have h4 : p.shown.length ≤ sizeLine := by
    have a := PyData.shown_le 32 (by decide) p g.short
    have b := Nat.le_trans g.w hw
    have e : (2 : Nat) ^ 18 = 262144 := by decide
    have c : (32 + 2) * p.weight ≤ 34 * 262144 := Nat.mul_le_mul (by decide) (by omega)
    have z := sizeLine_eq
    omega
  simp only [h1, h2, Bool.not_false, Bool.and_true, Bool.true_and, Bool.and_eq_true, decide_eq_true_eq, h3, h4, and_self, if_true]
  exact ⟨_, rfl⟩
theorem eqF_str (s : Str) : eqF (.str s) (.str s) = true := by simp [eqF]
end FH
end
section
/-! FHP2: running defs; the laws' bag. -/
namespace FH
open PySem PySem.Spec PyProof.Rows L2
/-- what a def's body comes to -/
def retOf : SR → Option (D × Store)
  | some (.ret d, _, μ) => some (d, μ)
  | some (.nx, _, μ) => some (.non, μ)
  | _ => none
theorem run_eq {fs : List Fn} {k f : Nat} {F : Fn} (h : fs[f]? = some F) {ds : List D} (hl : ds.length = F.np) (μ : Store) : run fs (k + 1) f ds μ = retOf (evSs ⟨run fs k, (runP fs k).2⟩ F.body (start0 F ds) μ) := by
  show callF fs ⟨(runP fs k).1, (runP fs k).2⟩ f ds μ = _
  unfold callF
  rw [h]
  simp only [hl, if_true]
  unfold retOf
  rfl
theorem set_at {μ : Store} {n : Nat} {c d : Cell} (h : μ[n]? = some c) : (μ.set n d)[n]? = some d := by
  rw [List.getElem?_set_self (List.getElem?_eq_some_iff.mp h).1]
theorem set_off {μ : Store} {n m : Nat} {d : Cell} (h : n ≠ m) : (μ.set n d)[m]? = μ[m]? := List.getElem?_set_ne h
theorem app_at {μ : Store} {n : Nat} {c d : Cell} (h : μ[n]? = some c) : (μ ++ [d])[n]? = some c := by
  rw [List.getElem?_append_left (List.getElem?_eq_some_iff.mp h).1]; exact h
theorem app_new {μ : Store} {d : Cell} : (μ ++ [d])[μ.length]? = some d := by simp
theorem at_lt {μ : Store} {n : Nat} {c : Cell} (h : μ[n]? = some c) : n < μ.length := (List.getElem?_eq_some_iff.mp h).1
theorem atI_n {α : Type} {xs : List α} {i : Nat} {v : α} (h : xs[i]? = some v) : L2.atI xs (i : Int) = some v := atI_nat h
/-! ### rows for running -/

theorem slot_c0 {d : D} {ρ : Slots} : slotD (.val d :: ρ) 0 = some d := rfl
theorem slot_cs {s : Slot} {ρ : Slots} {i : Nat} : slotD (s :: ρ) (i + 1) = slotD ρ i := rfl
theorem own_c0 {d : List D} {ρ : Slots} : ownS (.own (.lst d) :: ρ) 0 = some d := rfl
theorem own_cs {s : Slot} {ρ : Slots} {i : Nat} : ownS (s :: ρ) (i + 1) = ownS ρ i := rfl
theorem ownv_c0 {d : List D} {ρ : Slots} : ownD (.own (.lst d) :: ρ) 0 = some (.lst d) := rfl
theorem ownt_c0 {d : List D} {ρ : Slots} : ownD (.own (.tup d) :: ρ) 0 = some (.tup d) := rfl
theorem ownv_cs {s : Slot} {ρ : Slots} {i : Nat} : ownD (s :: ρ) (i + 1) = ownD ρ i := rfl
theorem tup_c0 {d : List D} {ρ : Slots} : tupS (.own (.tup d) :: ρ) 0 = some d := rfl
theorem tup_cs {s : Slot} {ρ : Slots} {i : Nat} : tupS (s :: ρ) (i + 1) = tupS ρ i := rfl
theorem set_c0 {s t : Slot} {ρ : Slots} : (s :: ρ).set 0 t = t :: ρ := rfl
theorem set_cs {s t : Slot} {ρ : Slots} {i : Nat} : (s :: ρ).set (i + 1) t = s :: ρ.set i t := rfl
theorem setS_c {ρ : Slots} {i : Nat} {s : Slot} (h : i < ρ.length) : setS ρ i s = some (ρ.set i s) := by unfold setS; rw [if_pos h]
theorem view_lstc {μ : Store} {n : Nat} {ds : List D} (h : μ[n]? = some (.lst ds)) : viewD μ (.ref n) = .lst ds := by unfold viewD; simp only [h]
theorem view_dicc {μ : Store} {n : Nat} {ds : List (Key × D)} (h : μ[n]? = some (.dic ds)) : viewD μ (.ref n) = .ref n := by unfold viewD; simp only [h]
theorem view_int {μ : Store} {i : Int} : viewD μ (.int i) = .int i := rfl
theorem view_str {μ : Store} {i : Str} : viewD μ (.str i) = .str i := rfl
theorem view_bl {μ : Store} {i : Bool} : viewD μ (.bl i) = .bl i := rfl
theorem view_non {μ : Store} : viewD μ .non = .non := rfl
theorem view_tup {μ : Store} {i : List D} : viewD μ (.tup i) = .tup i := rfl
theorem view_lst {μ : Store} {i : List D} : viewD μ (.lst i) = .lst i := rfl
theorem view_ty {μ : Store} {i : String} : viewD μ (.ty i) = .ty i := rfl
theorem view_fn {μ : Store} {i : Nat} : viewD μ (.fn i) = .fn i := rfl
theorem p_bin {op : Operator} {a b : D} : primD (.bin op) [a, b] = binD op a b := rfl
theorem p_neg {a : Int} : primD .neg [.int a] = some (.int (-a)) := rfl
theorem p_cmp {op : CmpOp} {a b : D} : primD (.cmp op) [a, b] = cmpD op a b := rfl
theorem p_ix {a b : D} : primD .ix [a, b] = ixD a b := rfl
theorem p_len_tup {a : List D} : primD .len [.tup a] = some (.int a.length) := rfl
theorem p_len_lst {a : List D} : primD .len [.lst a] = some (.int a.length) := rfl
theorem p_abs {a : Int} : primD .abs [.int a] = some (.int (if a < 0 then -a else a)) := rfl
theorem p_int {a : Int} : primD .int [.int a] = some (.int a) := rfl
theorem p_intb {a : Bool} : primD .int [.bl a] = some (.int (if a then 1 else 0)) := rfl
theorem p_isi {a : D} {T : String} : primD .isi [a, .ty T] = (isiD a T).map .bl := rfl
theorem p_tuple_tup {a : List D} : primD .tuple [.tup a] = some (.tup a) := rfl
theorem p_tuple_lst {a : List D} : primD .tuple [.lst a] = some (.tup a) := rfl
theorem p_max {i j : Int} : primD .max [.int i, .int j] = some (.int (if j > i then j else i)) := rfl
theorem p_min {i j : Int} : primD .min [.int i, .int j] = some (.int (if j < i then j else i)) := rfl
theorem b_add_int {i j : Int} : binD .Add (.int i) (.int j) = some (.int (i + j)) := rfl
theorem b_sub_int {i j : Int} : binD .Sub (.int i) (.int j) = some (.int (i - j)) := rfl
theorem b_mul_l {i j : Int} (h : -(2 ^ 64) < i ∧ i < 2 ^ 64) : binD .Mult (.int i) (.int j) = some (.int (i * j)) := by unfold binD; simp only; rw [if_pos (.inl h)]
theorem b_mul_r {i j : Int} (h : -(2 ^ 64) < j ∧ j < 2 ^ 64) : binD .Mult (.int i) (.int j) = some (.int (i * j)) := by unfold binD; simp only; rw [if_pos (.inr h)]
theorem b_mod {i j : Int} (h : j ≠ 0) : binD .Mod (.int i) (.int j) = some (.int (i.fmod j)) := by unfold binD; simp only; rw [if_pos h]
theorem b_div {i j : Int} (h : j ≠ 0 ∧ j.natAbs < 1073741824) : binD .FloorDiv (.int i) (.int j) = some (.int (i.fdiv j)) := by unfold binD; simp only; rw [if_pos h]
theorem b_add_lst {x y : List D} (h : x.length ≤ sizeLine ∧ y.length ≤ sizeLine ∧ x.length + y.length ≤ sizeLine) : binD .Add (.lst x) (.lst y) = some (.lst (x ++ y)) := by unfold binD; simp only; rw [if_pos h]
theorem b_pow {i j : Int} (h : 0 ≤ j ∧ j ≤ 1000000 ∧ i.natAbs < 2 ^ 64) : binD .Pow (.int i) (.int j) = some (.int (i ^ j.toNat)) := by unfold binD; simp only; rw [if_pos h]
theorem c_lt {i j : Int} : cmpD .Lt (.int i) (.int j) = some (.bl (decide (i < j))) := rfl
theorem c_le {i j : Int} : cmpD .LtE (.int i) (.int j) = some (.bl (decide (i ≤ j))) := rfl
theorem c_gt {i j : Int} : cmpD .Gt (.int i) (.int j) = some (.bl (decide (j < i))) := rfl
theorem c_ge {i j : Int} : cmpD .GtE (.int i) (.int j) = some (.bl (decide (j ≤ i))) := rfl
theorem c_eq {a b : D} : cmpD .Eq a b = (eqD a b).map .bl := rfl
theorem c_ne {a b : D} : cmpD .NotEq a b = (eqD a b).map fun k => .bl !k := rfl
theorem ix_tup {ds : List D} {i : Int} : ixD (.tup ds) (.int i) = L2.atI ds i := rfl
theorem ix_lst {ds : List D} {i : Int} : ixD (.lst ds) (.int i) = L2.atI ds i := rfl
theorem at0 {α : Type} {a : α} {l : List α} : L2.atI (a :: l) 0 = some a := atI_nat (xs := a :: l) (j := 0) rfl
theorem at1 {α : Type} {a b : α} {l : List α} : L2.atI (a :: b :: l) 1 = some b := atI_nat (xs := a :: b :: l) (j := 1) rfl
theorem at2 {α : Type} {a b c : α} {l : List α} : L2.atI (a :: b :: c :: l) 2 = some c := atI_nat (xs := a :: b :: c :: l) (j := 2) rfl
theorem at3 {α : Type} {a b c d : α} {l : List α} : L2.atI (a :: b :: c :: d :: l) 3 = some d := atI_nat (xs := a :: b :: c :: d :: l) (j := 3) rfl
theorem at4 {α : Type} {a b c d e : α} {l : List α} : L2.atI (a :: b :: c :: d :: e :: l) 4 = some e := atI_nat (xs := a :: b :: c :: d :: e :: l) (j := 4) rfl
theorem at5 {α : Type} {a b c d e f : α} {l : List α} : L2.atI (a :: b :: c :: d :: e :: f :: l) 5 = some f := atI_nat (xs := a :: b :: c :: d :: e :: f :: l) (j := 5) rfl
theorem eq_int {i j : Int} : eqD (.int i) (.int j) = some (i == j) := rfl
theorem eq_str {i j : Str} : eqD (.str i) (.str j) = some (i == j) := rfl
theorem eq_bl {i j : Bool} : eqD (.bl i) (.bl j) = some (i == j) := rfl
theorem isi_tuple_tup {d : List D} : isiD (.tup d) "tuple" = some true := rfl
theorem isi_tuple_lst {d : List D} : isiD (.lst d) "tuple" = some false := rfl
theorem isi_tuple_str {d : Str} : isiD (.str d) "tuple" = some false := rfl
theorem isi_tuple_int {d : Int} : isiD (.int d) "tuple" = some false := rfl
theorem isi_tuple_bl {d : Bool} : isiD (.bl d) "tuple" = some false := rfl
theorem isi_tuple_non : isiD .non "tuple" = some false := rfl
theorem isi_str_tup {d : List D} : isiD (.tup d) "str" = some false := rfl
theorem isi_str_lst {d : List D} : isiD (.lst d) "str" = some false := rfl
theorem isi_str_str {d : Str} : isiD (.str d) "str" = some true := rfl
theorem isi_str_int {d : Int} : isiD (.int d) "str" = some false := rfl
theorem isi_str_bl {d : Bool} : isiD (.bl d) "str" = some false := rfl
theorem isi_str_non : isiD .non "str" = some false := rfl
theorem if_true_ {α : Type} {a b : α} : (if true = true then a else b) = a := rfl
theorem if_false_ {α : Type} {a b : α} : (if false = true then a else b) = b := rfl
theorem le_size {n : Nat} (h : n ≤ 1000) : (n ≤ sizeLine) = True := eq_true (Nat.le_trans h (by decide))
theorem lt_size {n : Nat} (h : n ≤ 1000) : (n < sizeLine) = True := eq_true (Nat.lt_of_le_of_lt h (by decide))
theorem b_mul_lit {i : Int} : binD .Mult (.int i) (.int 48271) = some (.int (i * 48271)) := b_mul_r (by decide)
theorem b_mul_lit2 {i : Int} : binD .Mult (.int 7919) (.int i) = some (.int (7919 * i)) := b_mul_l (by decide)
theorem b_mul_lit3 {i : Int} : binD .Mult (.int i) (.int 39373) = some (.int (i * 39373)) := b_mul_r (by decide)
theorem b_mul_lit4 {i : Int} : binD .Mult (.int i) (.int 30011) = some (.int (i * 30011)) := b_mul_r (by decide)
theorem b_mul_small {i j : Int} : binD .Mult (.int (i.fmod 1000000007)) (.int j) = some (.int (i.fmod 1000000007 * j)) := b_mul_l (by
  have h1 := Int.fmod_nonneg_of_pos i (b := 1000000007) (by decide)
  have h2 := Int.fmod_lt_of_pos i (b := 1000000007) (by decide)
  omega)
theorem b_mod_lit {i j : Int} (h : j ≠ 0) : binD .Mod (.int i) (.int j) = some (.int (i.fmod j)) := b_mod h
theorem b_div_lit {i : Int} : binD .FloorDiv (.int i) (.int 7) = some (.int (i.fdiv 7)) := b_div (by decide)
theorem b_pow_lit : binD .Pow (.int 10) (.int 18) = some (.int (10 ^ 18)) := b_pow (by decide)
theorem lst_at_ {μ : Store} {n : Nat} {ds : List D} (h : μ[n]? = some (.lst ds)) : lstAt μ (.ref n) = some (n, ds) := by unfold lstAt; simp only [h]
theorem ixN0 {n : Nat} : ixN (n + 1) 0 = some 0 := by unfold ixN; simp <;> omega
theorem ixN1 {n : Nat} : ixN (n + 1 + 1) 1 = some 1 := by unfold ixN; simp <;> omega
theorem ixN2 {n : Nat} : ixN (n + 1 + 1 + 1) 2 = some 2 := by unfold ixN; simp <;> omega
/-- the bag: three ints, the script's cells -/
def bagC (a b c : Int) (cs : List D) : Cell := .lst [.int a, .int b, .int c, .lst cs]
/-- .. all ints, not too many -/
def AllI (cs : List D) : Prop := cs.length ≤ 1000 ∧ ∀ d ∈ cs, ∃ z : Int, d = .int z
def takeA : IS := (.ifs (.prim (.cmp .Eq) (.cons (.prim .ix (.cons (.var 0) (.cons (.lit (.int 0)) .nil))) (.cons (.lit (.int 0)) .nil)))
    (.cons (.set 2 (.prim .ix (.cons (.prim (.bin .Add) (.cons (.slice (.prim .ix (.cons (.var 0) (.cons (.lit (.int 3)) .nil))) (.som (.prim .ix (.cons (.var 0) (.cons (.lit (.int 2)) .nil)))) .no) (.cons (.frz (.disp (.cons (.lit (.int 0)) .nil))) .nil))) (.cons (.lit (.int 0)) .nil))))
    (.cons (.augIx .Add (.var 0) (.lit (.int 2)) (.lit (.int 1)))
    (.cons (.ifs (.prim (.cmp .GtE) (.cons (.var 2) (.cons (.prim (.bin .Pow) (.cons (.lit (.int 10)) (.cons (.lit (.int 18)) .nil))) .nil)))
    (.cons (.setIx (.var 0) (.lit (.int 0)) (.var 2))
    .nil)
    .nil)
    (.cons (.set 3 (.prim (.bin .Add) (.cons (.prim (.bin .Add) (.cons (.prim (.bin .Mult) (.cons (.prim .ix (.cons (.var 0) (.cons (.lit (.int 1)) .nil))) (.cons (.lit (.int 48271)) .nil))) (.cons (.prim (.bin .Mod) (.cons (.prim .int (.cons (.var 2) .nil)) (.cons (.lit (.int 2147483647)) .nil))) .nil))) (.cons (.prim (.bin .Mult) (.cons (.lit (.int 7919)) (.cons (.prim .ix (.cons (.var 0) (.cons (.lit (.int 2)) .nil))) .nil))) .nil))))
    (.cons (.setIx (.var 0) (.lit (.int 1)) (.prim (.bin .Mod) (.cons (.prim .int (.cons (.var 3) .nil)) (.cons (.lit (.int 2147483647)) .nil))))
    .nil)))))
    .nil)
def takeC : ISs := (.cons (.ifs (.prim (.cmp .Gt) (.cons (.prim .ix (.cons (.var 0) (.cons (.lit (.int 0)) .nil))) (.cons (.lit (.int 0)) .nil)))
    (.cons (.set 4 (.prim (.bin .Mod) (.cons (.prim .int (.cons (.prim .ix (.cons (.var 0) (.cons (.lit (.int 0)) .nil))) .nil)) (.cons (.var 1) .nil))))
    (.cons (.setIx (.var 0) (.lit (.int 0)) (.prim (.bin .FloorDiv) (.cons (.prim .int (.cons (.prim .ix (.cons (.var 0) (.cons (.lit (.int 0)) .nil))) .nil)) (.cons (.var 1) .nil))))
    (.cons (.ret (.var 4))
    .nil)))
    .nil)
    (.cons (.set 5 (.prim (.bin .Mod) (.cons (.prim .int (.cons (.prim (.bin .Mult) (.cons (.prim (.bin .Add) (.cons (.prim .ix (.cons (.var 0) (.cons (.lit (.int 1)) .nil))) (.cons (.lit (.int 1)) .nil))) (.cons (.lit (.int 39373)) .nil))) .nil)) (.cons (.lit (.int 1000000007)) .nil))))
    (.cons (.set 6 (.prim (.bin .Mod) (.cons (.prim .int (.cons (.prim (.bin .Mult) (.cons (.prim (.bin .Mod) (.cons (.prim .int (.cons (.prim (.bin .Mult) (.cons (.var 5) (.cons (.var 5) .nil))) .nil)) (.cons (.lit (.int 998244353)) .nil))) (.cons (.lit (.int 30011)) .nil))) .nil)) (.cons (.lit (.int 998244353)) .nil))))
    (.cons (.ret (.prim (.bin .Mod) (.cons (.prim .int (.cons (.prim (.bin .FloorDiv) (.cons (.var 6) (.cons (.lit (.int 7)) .nil))) .nil)) (.cons (.var 1) .nil))))
    .nil))))
theorem set_same {μ : Store} {n : Nat} {c : Cell} (h : μ[n]? = some c) : μ.set n c = μ := by
  obtain ⟨h1, h2⟩ := List.getElem?_eq_some_iff.mp h
  rw [← h2]; exact List.set_getElem_self h1
theorem lst_set {μ : Store} {n : Nat} {ds : List D} (h : n < μ.length) : lstAt (μ.set n (.lst ds)) (.ref n) = some (n, ds) := by unfold lstAt; simp [h]
theorem view_set {μ : Store} {n : Nat} {ds : List D} (h : n < μ.length) : viewD (μ.set n (.lst ds)) (.ref n) = .lst ds := by unfold viewD; simp [h]
def takeB : ISs := .cons takeA takeC
theorem take_spec {fs : List Fn} {t k n : Nat} {μ : Store} {a b c many : Int} {cs : List D} (ht : fs[t]? = some ⟨2, 7, takeB⟩) (hb : μ[n]? = some (bagC a b c cs)) (hc : AllI cs) (h0 : 0 < many) (h1 : many < 2 ^ 20) :
    ∃ v a' b' c', run fs (k + 1) t [.ref n, .int many] μ = some (.int v, μ.set n (bagC a' b' c' cs)) ∧ 0 ≤ v ∧ v < many := by
  rw [run_eq ht rfl]
  have hn : many ≠ 0 := by omega
  have hn2 : many.natAbs < 1073741824 := by omega
  unfold bagC at hb
  -- the first part: a new cell is read when nothing is left
  have first : ∃ a' b' c' s2 s3, evS ⟨run fs k, (runP fs k).2⟩ takeA [.val (.ref n), .val (.int many), .emp, .emp, .emp, .emp, .emp] μ = some (.nx, [.val (.ref n), .val (.int many), s2, s3, .emp, .emp, .emp], μ.set n (bagC a' b' c' cs)) := by
    have hv := view_lstc hb
    have hl := lst_at_ hb
    have hlt := at_lt hb
    by_cases ha : a = 0
    · subst ha
      generalize hL : List.take (HT.sIx cs.length cs.length none - HT.sIx cs.length 0 (some c)) (List.drop (HT.sIx cs.length 0 (some c)) cs) = L at *
      have hll : L.length ≤ 1000 := by
        have := hc.1
        rw [← hL]; simp; omega
      obtain ⟨z, hz⟩ : ∃ z : Int, L2.atI (L ++ [D.int 0]) 0 = some (.int z) := by
        cases L with
        | nil => exact ⟨0, at0⟩
        | cons y ys =>
          have h1 : y ∈ (y :: ys) := List.mem_cons_self
          rw [← hL] at h1
          obtain ⟨z, rfl⟩ := hc.2 y (List.mem_of_mem_drop (List.mem_of_mem_take h1))
          exact ⟨z, at0⟩
      have hadd : binD .Add (.lst L) (.lst [.int 0]) = some (.lst (L ++ [.int 0])) := b_add_lst ⟨Nat.le_trans hll (by decide), by decide, Nat.le_trans (Nat.add_le_add_right hll 1) (by decide)⟩
      by_cases hb2 : (1000000000000000000 : Int) ≤ z
      · simp [takeA, evE, evEs, evO, evC, evF, evSrc, evIn, evS, evSs, Option.bind_some, Option.map_some, Option.bind_none, Option.map_none, List.map_cons, List.map_nil, slot_c0, slot_cs, own_c0, own_cs, ownv_c0, ownv_cs, tup_c0, tup_cs, view_int, view_str, view_bl, view_non, view_tup, view_lst, view_ty, view_fn, p_bin, p_neg, p_cmp, p_ix, p_len_tup, p_len_lst, p_abs, p_int, p_intb, p_isi, p_tuple_tup, p_tuple_lst, p_max, p_min, b_add_int, b_sub_int, c_lt, c_le, c_gt, c_ge, c_eq, c_ne, ix_tup, ix_lst, at0, at1, at2, at3, at4, at5, eq_int, eq_str, eq_bl, truD, set_c0, set_cs, setS_c, isi_tuple_tup, isi_tuple_lst, isi_tuple_str, isi_tuple_int, isi_tuple_non, isi_tuple_bl, isi_str_str, isi_str_tup, isi_str_int, isi_str_non, isi_str_lst, isi_str_bl, if_true_, if_false_, hv, hl, le_size, hL, hadd, hz, hb2, b_mul_lit, b_mul_lit2, b_mod, b_pow_lit, ixN, lst_set hlt, view_set hlt]
        exact ⟨_, _, _, rfl⟩
      · simp [takeA, evE, evEs, evO, evC, evF, evSrc, evIn, evS, evSs, Option.bind_some, Option.map_some, Option.bind_none, Option.map_none, List.map_cons, List.map_nil, slot_c0, slot_cs, own_c0, own_cs, ownv_c0, ownv_cs, tup_c0, tup_cs, view_int, view_str, view_bl, view_non, view_tup, view_lst, view_ty, view_fn, p_bin, p_neg, p_cmp, p_ix, p_len_tup, p_len_lst, p_abs, p_int, p_intb, p_isi, p_tuple_tup, p_tuple_lst, p_max, p_min, b_add_int, b_sub_int, c_lt, c_le, c_gt, c_ge, c_eq, c_ne, ix_tup, ix_lst, at0, at1, at2, at3, at4, at5, eq_int, eq_str, eq_bl, truD, set_c0, set_cs, setS_c, isi_tuple_tup, isi_tuple_lst, isi_tuple_str, isi_tuple_int, isi_tuple_non, isi_tuple_bl, isi_str_str, isi_str_tup, isi_str_int, isi_str_non, isi_str_lst, isi_str_bl, if_true_, if_false_, hv, hl, le_size, hL, hadd, hz, hb2, b_mul_lit, b_mul_lit2, b_mod, b_pow_lit, ixN, lst_set hlt, view_set hlt]
        exact ⟨_, _, _, rfl⟩
    · simp [ha, takeA, evE, evEs, evO, evC, evF, evSrc, evIn, evS, evSs, Option.bind_some, Option.map_some, Option.bind_none, Option.map_none, List.map_cons, List.map_nil, slot_c0, slot_cs, own_c0, own_cs, ownv_c0, ownv_cs, tup_c0, tup_cs, view_int, view_str, view_bl, view_non, view_tup, view_lst, view_ty, view_fn, p_bin, p_neg, p_cmp, p_ix, p_len_tup, p_len_lst, p_abs, p_int, p_intb, p_isi, p_tuple_tup, p_tuple_lst, p_max, p_min, b_add_int, b_sub_int, c_lt, c_le, c_gt, c_ge, c_eq, c_ne, ix_tup, ix_lst, at0, at1, at2, at3, at4, at5, eq_int, eq_str, eq_bl, truD, set_c0, set_cs, setS_c, isi_tuple_tup, isi_tuple_lst, isi_tuple_str, isi_tuple_int, isi_tuple_non, isi_tuple_bl, isi_str_str, isi_str_tup, isi_str_int, isi_str_non, isi_str_lst, isi_str_bl, if_true_, if_false_, hv, hl]
      exact ⟨a, b, c, by rw [set_same (show μ[n]? = some (bagC a b c cs) from hb)]⟩
  obtain ⟨a1, b1, c1, s2, s3, e1⟩ := first
  have hlt := at_lt hb
  have second : ∃ v a2 b2 c2, retOf (evSs ⟨run fs k, (runP fs k).2⟩ takeC [.val (.ref n), .val (.int many), s2, s3, .emp, .emp, .emp] (μ.set n (bagC a1 b1 c1 cs))) = some (.int v, μ.set n (bagC a2 b2 c2 cs)) ∧ 0 ≤ v ∧ v < many := by
    unfold bagC
    by_cases hp : 0 < a1
    · refine ⟨a1.fmod many, a1.fdiv many, b1, c1, ?_, Int.fmod_nonneg_of_pos _ h0, Int.fmod_lt_of_pos _ h0⟩
      simp [takeC, evE, evEs, evO, evC, evF, evSrc, evIn, evS, evSs, Option.bind_some, Option.map_some, Option.bind_none, Option.map_none, List.map_cons, List.map_nil, slot_c0, slot_cs, own_c0, own_cs, ownv_c0, ownv_cs, tup_c0, tup_cs, view_int, view_str, view_bl, view_non, view_tup, view_lst, view_ty, view_fn, p_bin, p_neg, p_cmp, p_ix, p_len_tup, p_len_lst, p_abs, p_int, p_intb, p_isi, p_tuple_tup, p_tuple_lst, p_max, p_min, b_add_int, b_sub_int, c_lt, c_le, c_gt, c_ge, c_eq, c_ne, ix_tup, ix_lst, at0, at1, at2, at3, at4, at5, eq_int, eq_str, eq_bl, truD, set_c0, set_cs, setS_c, isi_tuple_tup, isi_tuple_lst, isi_tuple_str, isi_tuple_int, isi_tuple_non, isi_tuple_bl, isi_str_str, isi_str_tup, isi_str_int, isi_str_non, isi_str_lst, isi_str_bl, if_true_, if_false_, hp, le_size, b_mod hn, b_div ⟨hn, hn2⟩, ixN, lst_set hlt, view_set hlt, retOf]
    · refine ⟨((((((b1 + 1) * 39373).fmod 1000000007 * ((b1 + 1) * 39373).fmod 1000000007).fmod 998244353 * 30011).fmod 998244353).fdiv 7).fmod many, a1, b1, c1, ?_, Int.fmod_nonneg_of_pos _ h0, Int.fmod_lt_of_pos _ h0⟩
      simp [takeC, evE, evEs, evO, evC, evF, evSrc, evIn, evS, evSs, Option.bind_some, Option.map_some, Option.bind_none, Option.map_none, List.map_cons, List.map_nil, slot_c0, slot_cs, own_c0, own_cs, ownv_c0, ownv_cs, tup_c0, tup_cs, view_int, view_str, view_bl, view_non, view_tup, view_lst, view_ty, view_fn, p_bin, p_neg, p_cmp, p_ix, p_len_tup, p_len_lst, p_abs, p_int, p_intb, p_isi, p_tuple_tup, p_tuple_lst, p_max, p_min, b_add_int, b_sub_int, c_lt, c_le, c_gt, c_ge, c_eq, c_ne, ix_tup, ix_lst, at0, at1, at2, at3, at4, at5, eq_int, eq_str, eq_bl, truD, set_c0, set_cs, setS_c, isi_tuple_tup, isi_tuple_lst, isi_tuple_str, isi_tuple_int, isi_tuple_non, isi_tuple_bl, isi_str_str, isi_str_tup, isi_str_int, isi_str_non, isi_str_lst, isi_str_bl, if_true_, if_false_, hp, le_size, b_mod, hn, b_mul_lit3, b_mul_lit4, b_mul_small, b_div_lit, ixN, lst_set hlt, view_set hlt, retOf]
  obtain ⟨v, a2, b2, c2, e2, v1, v2⟩ := second
  refine ⟨v, a2, b2, c2, ?_, v1, v2⟩
  show retOf (evSs _ takeB [.val (.ref n), .val (.int many), .emp, .emp, .emp, .emp, .emp] μ) = _
  unfold takeB
  simp only [evSs, e1, Option.bind_some]
  exact e2
end FH
end
section
/-! FHP3: the laws' bag, some, alike. -/
namespace FH
open PySem PySem.Spec PyProof.Rows L2
theorem loopC_map {f : D → Store → Option (Option D × Store)} {g : D → D} {μ : Store} : ∀ {xs : List D}, (∀ x ∈ xs, f x μ = some (some (g x), μ)) → loopC f xs μ = some (xs.map g, μ)
  | [], _ => rfl
  | x :: xs, h => by
    simp only [loopC, h x List.mem_cons_self, Option.bind_some, loopC_map fun y hy => h y (List.mem_cons_of_mem _ hy), List.map_cons]
def someB : ISs := (.cons (.ret (.prim .ix (.cons (.var 1) (.cons (.call "_law_take" 0 (.cons (.var 0) (.cons (.prim .len (.cons (.var 1) .nil)) .nil))) .nil))))
    .nil)
/-- the bag at n -/
def BagAt (μ : Store) (n : Nat) (cs : List D) : Prop := ∃ a b c, μ[n]? = some (bagC a b c cs)
/-- .. after a take: the same but for the three ints -/
def Stir (n : Nat) (cs : List D) (μ μ' : Store) : Prop := ∃ a b c, μ' = μ.set n (bagC a b c cs)
theorem BagAt.stir {μ μ' : Store} {n : Nat} {cs : List D} (h : BagAt μ n cs) (s : Stir n cs μ μ') : BagAt μ' n cs := by
  obtain ⟨a, b, c, h⟩ := h
  obtain ⟨a', b', c', rfl⟩ := s
  exact ⟨a', b', c', set_at h⟩
theorem Stir.len {μ μ' : Store} {n : Nat} {cs : List D} (s : Stir n cs μ μ') : μ'.length = μ.length := by
  obtain ⟨a', b', c', rfl⟩ := s; simp
theorem Stir.off {μ μ' : Store} {n m : Nat} {cs : List D} (s : Stir n cs μ μ') (h : n ≠ m) : μ'[m]? = μ[m]? := by
  obtain ⟨a', b', c', rfl⟩ := s; exact set_off h
theorem Stir.trans {μ μ' μ'' : Store} {n : Nat} {cs : List D} (s : Stir n cs μ μ') (t : Stir n cs μ' μ'') : Stir n cs μ μ'' := by
  obtain ⟨a, b, c, rfl⟩ := s
  obtain ⟨a', b', c', rfl⟩ := t
  exact ⟨a', b', c', by rw [List.set_set]⟩
theorem take_at {fs : List Fn} {t k n : Nat} {μ : Store} {many : Int} {cs : List D} (ht : fs[t]? = some ⟨2, 7, takeB⟩) (hb : BagAt μ n cs) (hc : AllI cs) (h0 : 0 < many) (h1 : many < 2 ^ 20) :
    ∃ v μ', run fs (k + 1) t [.ref n, .int many] μ = some (.int v, μ') ∧ Stir n cs μ μ' ∧ 0 ≤ v ∧ v < many := by
  obtain ⟨a, b, c, h⟩ := hb
  obtain ⟨v, a', b', c', e, v1, v2⟩ := take_spec (k := k) ht h hc h0 h1
  exact ⟨v, _, e, ⟨a', b', c', rfl⟩, v1, v2⟩
/-- some(bag, things) -/
theorem some_at {fs : List Fn} {s t k n : Nat} {μ : Store} {ds : List D} {cs : List D} (ht : fs[t]? = some ⟨2, 7, takeB⟩) (hs : fs[s]? = some ⟨2, 2, (.cons (.ret (.prim .ix (.cons (.var 1) (.cons (.call "_law_take" t (.cons (.var 0) (.cons (.prim .len (.cons (.var 1) .nil)) .nil))) .nil)))) .nil)⟩)
    (hb : BagAt μ n cs) (hc : AllI cs) (h0 : ds ≠ []) (h1 : ds.length < 2 ^ 20) :
    ∃ d μ', run fs (k + 2) s [.ref n, .lst ds] μ = some (d, μ') ∧ Stir n cs μ μ' ∧ d ∈ ds := by
  obtain ⟨v, μ', e, st, v1, v2⟩ := take_at (k := k) (many := (ds.length : Int)) ht hb hc (by have := List.length_pos_iff.mpr h0; omega) (by omega)
  obtain ⟨j, rfl⟩ := Int.eq_ofNat_of_zero_le v1
  have hj : j < ds.length := by omega
  refine ⟨ds[j], μ', ?_, st, List.getElem_mem hj⟩
  rw [run_eq hs rfl]
  have ha : L2.atI ds (j : Int) = some ds[j] := atI_nat (by simp [hj])
  simp [start0, evE, evEs, evO, evC, evF, evSrc, evIn, evS, evSs, Option.bind_some, Option.map_some, Option.bind_none, Option.map_none, List.map_cons, List.map_nil, slot_c0, slot_cs, own_c0, own_cs, ownv_c0, ownv_cs, ownt_c0, tup_c0, tup_cs, view_int, view_str, view_bl, view_non, view_tup, view_lst, view_ty, view_fn, p_bin, p_neg, p_cmp, p_ix, p_len_tup, p_len_lst, p_abs, p_int, p_intb, p_isi, p_tuple_tup, p_tuple_lst, p_max, p_min, b_add_int, b_sub_int, c_lt, c_le, c_gt, c_ge, c_eq, c_ne, ix_tup, ix_lst, at0, at1, at2, at3, at4, at5, eq_int, eq_str, eq_bl, truD, set_c0, set_cs, setS_c, isi_tuple_tup, isi_tuple_lst, isi_tuple_str, isi_tuple_int, isi_tuple_non, isi_tuple_bl, isi_str_str, isi_str_tup, isi_str_int, isi_str_non, isi_str_lst, isi_str_bl, if_true_, if_false_, e, ha, retOf]
/-- the bag is made -/
theorem bag_at {fs : List Fn} {b k : Nat} {μ : Store} {ns : List Int} {i : Nat} (hb : fs[b]? = some ⟨1, 2, (.cons (.ret (.cell (.disp (.cons (.lit (.int 0)) (.cons (.lit (.int 1234567891)) (.cons (.lit (.int 0)) (.cons (.frz (.comp (.nm 1) [("cell", 1)] (.it (.slice (.var 0) .no (.som (.lit (.int 63))))) .no (.prim .abs (.cons (.var 1) .nil)))) .nil))))))) .nil)⟩) (hl : ns.length ≤ 63) :
    ∃ cs, run fs (k + 1) b [.lst (ns.map .int)] μ = some (.ref μ.length, μ ++ [bagC 0 1234567891 0 cs]) ∧ AllI cs := by
  rw [run_eq hb rfl]
  generalize hL : List.take (HT.sIx ns.length ns.length (some 63) - HT.sIx ns.length 0 none) (List.drop (HT.sIx ns.length 0 none) (ns.map D.int)) = L
  have hll : L.length ≤ 63 := by rw [← hL]; simp; omega
  have hint : ∀ x ∈ L, ∃ z : Int, x = .int z := fun x hx => by
    rw [← hL] at hx
    obtain ⟨z, _, rfl⟩ := List.mem_map.mp (List.mem_of_mem_drop (List.mem_of_mem_take hx))
    exact ⟨z, rfl⟩
  refine ⟨L.map fun d => match d with | .int z => .int (if z < 0 then -z else z) | d => d, ?_, by simp; omega, fun d hd => ?_⟩
  · have key : loopC (fun x μ => (asgT (.nm 1) x (wipeS [.val (.lst (ns.map D.int)), .emp] [1])).bind fun ρ' => (evC ⟨run fs k, (runP fs k).2⟩ .no ρ' μ).bind fun k' =>
        if k'.1 then (evE ⟨run fs k, (runP fs k).2⟩ (.prim .abs (.cons (.var 1) .nil)) ρ' k'.2).map fun q => (some q.1, q.2) else some (none, k'.2)) L μ = some (L.map fun d => match d with | .int z => .int (if z < 0 then -z else z) | d => d, μ) := by
      refine loopC_map fun x hx => ?_
      obtain ⟨z, rfl⟩ := hint x hx
      simp [asgT, wipeS, evE, evEs, evO, evC, evF, evSrc, evIn, evS, evSs, Option.bind_some, Option.map_some, Option.bind_none, Option.map_none, List.map_cons, List.map_nil, slot_c0, slot_cs, own_c0, own_cs, ownv_c0, ownv_cs, ownt_c0, tup_c0, tup_cs, view_int, view_str, view_bl, view_non, view_tup, view_lst, view_ty, view_fn, p_bin, p_neg, p_cmp, p_ix, p_len_tup, p_len_lst, p_abs, p_int, p_intb, p_isi, p_tuple_tup, p_tuple_lst, p_max, p_min, b_add_int, b_sub_int, c_lt, c_le, c_gt, c_ge, c_eq, c_ne, ix_tup, ix_lst, at0, at1, at2, at3, at4, at5, eq_int, eq_str, eq_bl, truD, set_c0, set_cs, setS_c, isi_tuple_tup, isi_tuple_lst, isi_tuple_str, isi_tuple_int, isi_tuple_non, isi_tuple_bl, isi_str_str, isi_str_tup, isi_str_int, isi_str_non, isi_str_lst, isi_str_bl, if_true_, if_false_]
    have hs : evSrc ⟨run fs k, (runP fs k).2⟩ (.it (.slice (.var 0) .no (.som (.lit (.int 63))))) [.val (.lst (ns.map D.int)), .emp] μ = some (.items L, μ) := by
      simp [evE, evEs, evO, evC, evF, evSrc, evIn, evS, evSs, Option.bind_some, Option.map_some, Option.bind_none, Option.map_none, List.map_cons, List.map_nil, slot_c0, slot_cs, own_c0, own_cs, ownv_c0, ownv_cs, ownt_c0, tup_c0, tup_cs, view_int, view_str, view_bl, view_non, view_tup, view_lst, view_ty, view_fn, p_bin, p_neg, p_cmp, p_ix, p_len_tup, p_len_lst, p_abs, p_int, p_intb, p_isi, p_tuple_tup, p_tuple_lst, p_max, p_min, b_add_int, b_sub_int, c_lt, c_le, c_gt, c_ge, c_eq, c_ne, ix_tup, ix_lst, at0, at1, at2, at3, at4, at5, eq_int, eq_str, eq_bl, truD, set_c0, set_cs, setS_c, isi_tuple_tup, isi_tuple_lst, isi_tuple_str, isi_tuple_int, isi_tuple_non, isi_tuple_bl, isi_str_str, isi_str_tup, isi_str_int, isi_str_non, isi_str_lst, isi_str_bl, if_true_, if_false_, itemsD, hL]
    have hf : evF ⟨run fs k, (runP fs k).2⟩ (.comp (.nm 1) [("cell", 1)] (.it (.slice (.var 0) .no (.som (.lit (.int 63))))) .no (.prim .abs (.cons (.var 1) .nil))) [.val (.lst (ns.map D.int)), .emp] μ = some (L.map fun d => match d with | .int z => .int (if z < 0 then -z else z) | d => d, μ) := by
      unfold evF
      rw [hs]
      simp only [Option.bind_some]
      rw [if_pos (Nat.lt_of_le_of_lt hll (by decide))]
      exact key
    show retOf (evSs _ (.cons (.ret (.cell (.disp (.cons (.lit (.int 0)) (.cons (.lit (.int 1234567891)) (.cons (.lit (.int 0)) (.cons (.frz (.comp (.nm 1) [("cell", 1)] (.it (.slice (.var 0) .no (.som (.lit (.int 63))))) .no (.prim .abs (.cons (.var 1) .nil)))) .nil))))))) .nil) [.val (.lst (ns.map D.int)), .emp] μ) = _
    generalize FE.comp (.nm 1) [("cell", 1)] (.it (.slice (.var 0) .no (.som (.lit (.int 63))))) .no (.prim .abs (.cons (.var 1) .nil)) = fe at hf ⊢
    simp [evE, evEs, evO, evC, evF, evSrc, evIn, evS, evSs, Option.bind_some, Option.map_some, Option.bind_none, Option.map_none, List.map_cons, List.map_nil, slot_c0, slot_cs, own_c0, own_cs, ownv_c0, ownv_cs, ownt_c0, tup_c0, tup_cs, view_int, view_str, view_bl, view_non, view_tup, view_lst, view_ty, view_fn, p_bin, p_neg, p_cmp, p_ix, p_len_tup, p_len_lst, p_abs, p_int, p_intb, p_isi, p_tuple_tup, p_tuple_lst, p_max, p_min, b_add_int, b_sub_int, c_lt, c_le, c_gt, c_ge, c_eq, c_ne, ix_tup, ix_lst, at0, at1, at2, at3, at4, at5, eq_int, eq_str, eq_bl, truD, set_c0, set_cs, setS_c, isi_tuple_tup, isi_tuple_lst, isi_tuple_str, isi_tuple_int, isi_tuple_non, isi_tuple_bl, isi_str_str, isi_str_tup, isi_str_int, isi_str_non, isi_str_lst, isi_str_bl, if_true_, if_false_, hf, retOf, le_size, bagC]
  · obtain ⟨x, hx, rfl⟩ := List.mem_map.mp hd
    obtain ⟨z, rfl⟩ := hint x hx
    exact ⟨_, rfl⟩
/-- alike(d, d) -/
theorem alike_at {fs : List Fn} {a k : Nat} {μ : Store} {d : D} (ha : fs[a]? = some ⟨2, 2, (.cons (.ret (.andd (.prim (.cmp .Eq) (.cons (.prim .repr (.cons (.var 0) .nil)) (.cons (.prim .repr (.cons (.var 1) .nil)) .nil))) (.prim (.cmp .Eq) (.cons (.var 0) (.cons (.var 1) .nil))))) .nil)⟩)
    (g : d.good = true) (hd : d.dep ≤ 64) (hw : d.wgt ≤ 2 ^ 18) : run fs (k + 1) a [d, d] μ = some (.bl true, μ) := by
  rw [run_eq ha rfl]
  obtain ⟨s, hs⟩ := reprD_good g hd hw
  have hv : viewD μ d = d := by cases d <;> first | rfl | (simp [D.good] at g)
  have p1 : primD .repr [d] = some (.str s) := by
    show (reprD d).map D.str = _
    rw [hs]; rfl
  have e := eqD_refl g hd
  simp [start0, evE, evEs, evO, evC, evF, evSrc, evIn, evS, evSs, Option.bind_some, Option.map_some, Option.bind_none, Option.map_none, List.map_cons, List.map_nil, slot_c0, slot_cs, own_c0, own_cs, ownv_c0, ownv_cs, ownt_c0, tup_c0, tup_cs, view_int, view_str, view_bl, view_non, view_tup, view_lst, view_ty, view_fn, p_bin, p_neg, p_cmp, p_ix, p_len_tup, p_len_lst, p_abs, p_int, p_intb, p_isi, p_tuple_tup, p_tuple_lst, p_max, p_min, b_add_int, b_sub_int, c_lt, c_le, c_gt, c_ge, c_eq, c_ne, ix_tup, ix_lst, at0, at1, at2, at3, at4, at5, eq_int, eq_str, eq_bl, truD, set_c0, set_cs, setS_c, isi_tuple_tup, isi_tuple_lst, isi_tuple_str, isi_tuple_int, isi_tuple_non, isi_tuple_bl, isi_str_str, isi_str_tup, isi_str_int, isi_str_non, isi_str_lst, isi_str_bl, if_true_, if_false_, hv, p1, e, retOf]
end FH
end
section
/-! FHP4: sorted, the plain side. -/
namespace FH
open PySem PySem.Spec PyProof.Rows L2
theorem leD_anti {a b : D} (h1 : leD a b = true) (h2 : leD b a = true) : tk a = tk b := by
  rw [leD_eq] at *
  simp only [Bool.not_eq_true'] at *
  exact PyProof.Rows.lex_total (O := itemOrd) _ _ h2 h1
theorem sorted_uniq {xs ys : List D} (p : xs.Perm ys) (hx : xs.Pairwise fun a b => leD a b = true) (hy : ys.Pairwise fun a b => leD a b = true) (inj : ∀ a ∈ xs, ∀ b ∈ xs, tk a = tk b → a = b) : xs = ys :=
  List.Perm.eq_of_pairwise (le := fun a b => leD a b = true) (fun a b ha hb h1 h2 => inj a ha b (p.mem_iff.mpr hb) (leD_anti h1 h2)) hx hy p
theorem sorted_pw (xs : List D) : (xs.mergeSort leD).Pairwise fun a b => leD a b = true := List.pairwise_mergeSort leD_trans leD_total xs
theorem tk_lt_app {x y : PyData} (ha : PySem.W.alike x y = true) (h : tlt (PySem.W.keyToks x) (PySem.W.keyToks y) = true) (l m : List (Int ⊕ List Nat)) : tlt (PySem.W.keyToks x ++ l) (PySem.W.keyToks y ++ m) = true := by
  obtain ⟨e1, e2⟩ := PySem.W.toks_eqv x y ha
  cases he : PyData.eqv x y with
  | true =>
    rw [e1 he, show tlt (PySem.W.keyToks y) (PySem.W.keyToks y) = false from PyProof.Rows.lex_irrefl _] at h
    cases h
  | false => rw [show tlt (PySem.W.keyToks x ++ l) (PySem.W.keyToks y ++ m) = tlt (PySem.W.keyToks x) (PySem.W.keyToks y) from e2 he l m]; exact h
/-- a pair (key, index) -/
def kix (key : D → D) (p : D × Nat) : D := .tup [key p.1, .int (p.2 : Nat)]
def sel (vs : List D) : D → D
  | .tup [_, .int i] => vs.getD i.toNat .non
  | _ => .non
theorem sel_kix {vs : List D} {key : D → D} {p : D × Nat} (h : p ∈ vs.zipIdx) : sel vs (kix key p) = p.1 := by
  obtain ⟨d, i⟩ := p
  obtain ⟨h1, h2, h3⟩ := List.mem_zipIdx h
  simp only [Nat.zero_add, Nat.sub_zero] at h2 h3
  show vs.getD (i : Int).toNat .non = d
  rw [Int.toNat_natCast, List.getD_eq_getElem?_getD, List.getElem?_eq_getElem h2, Option.getD_some]
  exact h3.symm
theorem pyO_pair {a : D} {i : Int} (h : a.py = some (pyO a)) : pyO (.tup [a, .int i]) = .tuple [pyO a, .int i] := by
  have e : (D.tup [a, .int i]).py = some (.tuple [pyO a, .int i]) := by simp only [D.py, pyL]; rw [h]; rfl
  show Option.getD _ _ = _
  rw [e]; rfl
/-- sorted by (key, index), then the values: they are as sorted by themselves -/
theorem sort_by_index {vs : List D} {key : D → D} (py : ∀ u ∈ vs, (key u).py = some (pyO (key u))) (al : ∀ u ∈ vs, ∀ v ∈ vs, PySem.W.alike (pyO (key u)) (pyO (key v)) = true)
    (mono : ∀ u ∈ vs, ∀ v ∈ vs, tlt (tk u) (tk v) = true → tlt (tk (key u)) (tk (key v)) = true) (inj : ∀ u ∈ vs, ∀ v ∈ vs, tk u = tk v → u = v) :
    (((vs.zipIdx.map (kix key)).mergeSort leD).map (sel vs)) = vs.mergeSort leD := by
  have p1 : ((vs.zipIdx.map (kix key)).mergeSort leD).Perm (vs.zipIdx.map (kix key)) := List.mergeSort_perm _ _
  have e0 : (vs.zipIdx.map (kix key)).map (sel vs) = vs := by
    rw [List.map_map]
    have : vs.zipIdx.map (sel vs ∘ kix key) = vs.zipIdx.map Prod.fst := List.map_congr_left fun p hp => sel_kix hp
    rw [this, List.zipIdx_map_fst]
  have p2 : (((vs.zipIdx.map (kix key)).mergeSort leD).map (sel vs)).Perm vs := by
    have := p1.map (sel vs)
    rwa [e0] at this
  refine sorted_uniq (p2.trans (List.mergeSort_perm _ _).symm) ?_ (sorted_pw vs) fun a ha b hb => inj a (p2.mem_iff.mp ha) b (p2.mem_iff.mp hb)
  refine List.pairwise_map.mpr (List.Pairwise.imp_of_mem (fun {x y} hx hy h => ?_) (sorted_pw _))
  obtain ⟨⟨u, i⟩, hp, rfl⟩ := List.mem_map.mp (p1.mem_iff.mp hx)
  obtain ⟨⟨v, j⟩, hq, rfl⟩ := List.mem_map.mp (p1.mem_iff.mp hy)
  rw [sel_kix hp, sel_kix hq]
  have hu : u ∈ vs := List.fst_mem_of_mem_zipIdx hp
  have hv : v ∈ vs := List.fst_mem_of_mem_zipIdx hq
  rw [leD_eq] at *
  simp only [Bool.not_eq_true'] at *
  cases z : tlt (tk v) (tk u) with
  | false => rfl
  | true =>
    have z2 := tk_lt_app (al v hv u hu) (mono v hv u hu z) (PySem.W.keyToksAll [.int (j : Nat)]) (PySem.W.keyToksAll [.int (i : Nat)])
    have e1 : tk (kix key (v, j)) = .inl 1 :: (PySem.W.keyToks (pyO (key v)) ++ PySem.W.keyToksAll [.int (j : Nat)]) := by
      show PySem.W.keyToks (pyO (.tup [key v, .int (j : Nat)])) = _
      rw [pyO_pair (py v hv)]
      show PySem.W.keyToksAll _ = _
      rw [PySem.W.toks_all_cons]
    have e2 : tk (kix key (u, i)) = .inl 1 :: (PySem.W.keyToks (pyO (key u)) ++ PySem.W.keyToksAll [.int (i : Nat)]) := by
      show PySem.W.keyToks (pyO (.tup [key u, .int (i : Nat)])) = _
      rw [pyO_pair (py u hu)]
      show PySem.W.keyToksAll _ = _
      rw [PySem.W.toks_all_cons]
    rw [e1, e2, show tlt (.inl 1 :: (PySem.W.keyToks (pyO (key v)) ++ PySem.W.keyToksAll [.int (j : Nat)])) (.inl 1 :: (PySem.W.keyToks (pyO (key u)) ++ PySem.W.keyToksAll [.int (i : Nat)])) = _ from PyProof.Rows.lex_self _ _ _] at h
    exact Bool.noConfusion (z2.symm.trans h)
theorem pyL_of : ∀ {ds : List D}, (∀ d ∈ ds, d.py = some (pyO d)) → pyL ds = some (ds.map pyO)
  | [], _ => rfl
  | d :: ds, h => by
    simp only [pyL, h d List.mem_cons_self, pyL_of fun z hz => h z (List.mem_cons_of_mem _ hz), List.map_cons]
/-- sorted goes, and gives this -/
theorem sortD_of {ds : List D} (py : ∀ d ∈ ds, d.py = some (pyO d)) (al : ∀ u ∈ ds, ∀ v ∈ ds, PySem.W.alike (pyO u) (pyO v) = true)
    (sb : (∀ d ∈ ds, ∃ xs, pyO d = .tuple xs) ∨ ∀ d ∈ ds, pyO d ≠ .none ∧ ∀ xs, pyO d ≠ .tuple xs) (dp : ∀ d ∈ ds, (pyO d).depth ≤ 60) : sortD ds = some (ds.mergeSort leD) := by
  rw [ms_eq leD_trans leD_total]
  unfold sortD
  rw [pyL_of py]
  simp only
  rw [if_pos]
  simp only [Bool.and_eq_true, List.all_eq_true, List.mem_map, decide_eq_true_eq]
  refine ⟨⟨?_, ?_⟩, ?_⟩
  · rintro _ ⟨u, hu, rfl⟩ _ ⟨v, hv, rfl⟩
    exact al u hu v hv
  · unfold sortableB
    rw [Bool.or_eq_true, List.all_eq_true, List.all_eq_true]
    rcases sb with sb | sb
    · refine .inl fun p hp => ?_
      obtain ⟨d, hd, rfl⟩ := List.mem_map.mp hp
      obtain ⟨xs, e⟩ := sb d hd
      rw [e]
    · refine .inr fun p hp => ?_
      obtain ⟨d, hd, rfl⟩ := List.mem_map.mp hp
      obtain ⟨n1, n2⟩ := sb d hd
      cases h : pyO d with
      | none => exact absurd h n1
      | tuple xs => exact absurd h (n2 xs)
      | _ => rfl
  · rintro _ ⟨u, hu, rfl⟩
    exact dp u hu
end FH
end
section
namespace FH.K01
open PySem PySem.Spec PyProof.Rows L2
def gp (x : Str) (g : G) : Str × G := (x, g)
/-- the text by places -/
def top (i : Nat) : Stmt := PySem.Challenge.pw_formulahall_k01_values_in_their_order.main.body.getD i (.Pass ⟨0, 0, 0, 0⟩)
def c_MOST_NUMBER : D := (.int 1000000000000000000000000000000)
def c_MOST_TEXT : D := (.int 200)
def c_BARRED : D := (.tup [(.int 34), (.int 37), (.int 92)])
def c_COLUMNS : D := (.int 26)
def c_ROWS : D := (.int 200)
def c_FAULTS : D := (.tup [(.str "zero"), (.str "empty"), (.str "out"), (.str "gone"), (.str "pick"), (.str "none"), (.str "big")])
def c_MOST_ROW : D := (.int 20000)
/-- is_number(thing): 0 thing -/
def b0 : ISs := (.cons (.ret (.andd (.isir (.cons (.var 0) (.cons (.glob "int" (.ty "int")) .nil))) (.nott (.isir (.cons (.var 0) (.cons (.glob "bool" (.ty "bool")) .nil))))))
    .nil)
def f0 : FDef := ⟨("is_number", none), "is_number", "is_number", top 7, ["thing"], ["thing"], ⟨1, 1, b0⟩⟩
/-- is_index(thing): 0 thing -/
def b1 : ISs := (.cons (.ret (.andd (.call "is_number" 0 (.cons (.var 0) .nil)) (.prim (.cmp .GtE) (.cons (.var 0) (.cons (.lit (.int 0)) .nil)))))
    .nil)
def f1 : FDef := ⟨("is_index", none), "is_index", "is_index", top 8, ["thing"], ["thing"], ⟨1, 1, b1⟩⟩
/-- is_truth(thing): 0 thing -/
def b2 : ISs := (.cons (.ret (.isir (.cons (.var 0) (.cons (.glob "bool" (.ty "bool")) .nil))))
    .nil)
def f2 : FDef := ⟨("is_truth", none), "is_truth", "is_truth", top 9, ["thing"], ["thing"], ⟨1, 1, b2⟩⟩
/-- is_plain_text(thing): 0 thing, 1 sign -/
def b3 : ISs := (.cons (.ifs (.orr (.nott (.isir (.cons (.var 0) (.cons (.glob "str" (.ty "str")) .nil)))) (.prim (.cmp .Gt) (.cons (.prim .len (.cons (.var 0) .nil)) (.cons (.glob "MOST_TEXT" c_MOST_TEXT) .nil))))
    (.cons (.ret (.lit (.bl false)))
    .nil)
    .nil)
    (.cons (.ret (.prim .all (.cons (.frz (.comp (.nm 1) [("sign", 1)] (.it (.var 0)) .no (.andd (.cmp2 .LtE .LtE (.lit (.int 32)) (.prim .ord (.cons (.var 1) .nil)) (.lit (.int 126))) (.prim (.cmp .NotIn) (.cons (.prim .ord (.cons (.var 1) .nil)) (.cons (.glob "BARRED" c_BARRED) .nil)))))) .nil)))
    .nil))
def f3 : FDef := ⟨("is_plain_text", none), "is_plain_text", "is_plain_text", top 10, ["thing"], ["thing", "sign"], ⟨1, 2, b3⟩⟩
/-- is_sized(thing, many): 0 thing, 1 many -/
def b4 : ISs := (.cons (.ret (.andd (.prim .isi (.cons (.var 0) (.cons (.glob "tuple" (.ty "tuple")) .nil))) (.prim (.cmp .Eq) (.cons (.prim .len (.cons (.var 0) .nil)) (.cons (.var 1) .nil)))))
    .nil)
def f4 : FDef := ⟨("is_sized", none), "is_sized", "is_sized", top 11, ["thing", "many"], ["thing", "many"], ⟨2, 2, b4⟩⟩
/-- is_place(thing): 0 thing -/
def b5 : ISs := (.cons (.ifs (.orr (.nott (.call "is_sized" 4 (.cons (.var 0) (.cons (.lit (.int 2)) .nil)))) (.orr (.nott (.call "is_index" 1 (.cons (.prim .ix (.cons (.var 0) (.cons (.lit (.int 0)) .nil))) .nil))) (.nott (.call "is_index" 1 (.cons (.prim .ix (.cons (.var 0) (.cons (.lit (.int 1)) .nil))) .nil)))))
    (.cons (.ret (.lit (.bl false)))
    .nil)
    .nil)
    (.cons (.ret (.andd (.prim (.cmp .Lt) (.cons (.prim .ix (.cons (.var 0) (.cons (.lit (.int 0)) .nil))) (.cons (.glob "COLUMNS" c_COLUMNS) .nil))) (.prim (.cmp .Lt) (.cons (.prim .ix (.cons (.var 0) (.cons (.lit (.int 1)) .nil))) (.cons (.glob "ROWS" c_ROWS) .nil)))))
    .nil))
def f5 : FDef := ⟨("is_place", none), "is_place", "is_place", top 12, ["thing"], ["thing"], ⟨1, 1, b5⟩⟩
/-- is_fault(thing): 0 thing -/
def b6 : ISs := (.cons (.ret (.andd (.call "is_sized" 4 (.cons (.var 0) (.cons (.lit (.int 2)) .nil))) (.andd (.prim .isi (.cons (.prim .ix (.cons (.var 0) (.cons (.lit (.int 0)) .nil))) (.cons (.glob "str" (.ty "str")) .nil))) (.andd (.prim (.cmp .In) (.cons (.prim .ix (.cons (.var 0) (.cons (.lit (.int 0)) .nil))) (.cons (.glob "FAULTS" c_FAULTS) .nil))) (.call "is_place" 5 (.cons (.prim .ix (.cons (.var 0) (.cons (.lit (.int 1)) .nil))) .nil))))))
    .nil)
def f6 : FDef := ⟨("is_fault", none), "is_fault", "is_fault", top 13, ["thing"], ["thing"], ⟨1, 1, b6⟩⟩
/-- is_big(value): 0 value -/
def b7 : ISs := (.cons (.ret (.cond (.prim .isi (.cons (.var 0) (.cons (.glob "str" (.ty "str")) .nil))) (.prim (.cmp .Gt) (.cons (.prim .len (.cons (.var 0) .nil)) (.cons (.glob "MOST_TEXT" c_MOST_TEXT) .nil))) (.prim (.cmp .GtE) (.cons (.prim .abs (.cons (.var 0) .nil)) (.cons (.glob "MOST_NUMBER" c_MOST_NUMBER) .nil)))))
    .nil)
def f7 : FDef := ⟨("is_big", none), "is_big", "is_big", top 16, ["value"], ["value"], ⟨1, 1, b7⟩⟩
/-- single_kind(thing): 0 thing -/
def b8 : ISs := (.cons (.ifs (.call "is_number" 0 (.cons (.var 0) .nil))
    (.cons (.ret (.cond (.call "is_big" 7 (.cons (.var 0) .nil)) (.lit .non) (.lit (.str "number"))))
    .nil)
    .nil)
    (.cons (.ifs (.call "is_truth" 2 (.cons (.var 0) .nil))
    (.cons (.ret (.lit (.str "truth")))
    .nil)
    .nil)
    (.cons (.ret (.cond (.call "is_plain_text" 3 (.cons (.var 0) .nil)) (.lit (.str "text")) (.lit .non)))
    .nil)))
def f8 : FDef := ⟨("single_kind", none), "single_kind", "single_kind", top 17, ["thing"], ["thing"], ⟨1, 1, b8⟩⟩
/-- is_value(thing): 0 thing, 1 kinds, 2 one -/
def b9 : ISs := (.cons (.ifs (.nott (.isir (.cons (.var 0) (.cons (.glob "tuple" (.ty "tuple")) .nil))))
    (.cons (.ret (.prim (.cmp .IsNot) (.cons (.call "single_kind" 8 (.cons (.var 0) .nil)) (.cons (.lit .non) .nil))))
    .nil)
    .nil)
    (.cons (.setDc 1 (.nm 2) [("one", 2)] (.it (.var 0)) (.som (.nott (.isir (.cons (.var 2) (.cons (.glob "tuple" (.ty "tuple")) .nil))))) (.call "single_kind" 8 (.cons (.var 2) .nil)) (.lit (.bl true)))
    (.cons (.ifs (.orr (.prim (.cmp .Gt) (.cons (.prim .len (.cons (.var 0) .nil)) (.cons (.glob "MOST_ROW" c_MOST_ROW) .nil))) (.prim .any (.cons (.frz (.comp (.nm 2) [("one", 2)] (.it (.var 0)) .no (.isir (.cons (.var 2) (.cons (.glob "tuple" (.ty "tuple")) .nil))))) .nil)))
    (.cons (.ret (.lit (.bl false)))
    .nil)
    .nil)
    (.cons (.ret (.orr (.prim (.cmp .Eq) (.cons (.var 0) (.cons (.tup .nil) .nil))) (.andd (.prim (.cmp .Eq) (.cons (.ndlen 1) (.cons (.lit (.int 1)) .nil))) (.ndhas true (.lit .non) 1))))
    .nil))))
def f9 : FDef := ⟨("is_value", none), "is_value", "is_value", top 18, ["thing"], ["thing", "kinds", "one"], ⟨1, 3, b9⟩⟩
/-- kind_of(value): 0 value -/
def b10 : ISs := (.cons (.ifs (.nott (.prim .isi (.cons (.var 0) (.cons (.glob "tuple" (.ty "tuple")) .nil))))
    (.cons (.ret (.call "single_kind" 8 (.cons (.var 0) .nil)))
    .nil)
    .nil)
    (.cons (.ret (.cond (.prim (.cmp .Eq) (.cons (.var 0) (.cons (.tup .nil) .nil))) (.lit .non) (.tup (.cons (.lit (.str "row")) (.cons (.call "single_kind" 8 (.cons (.prim .ix (.cons (.var 0) (.cons (.lit (.int 0)) .nil))) .nil)) .nil)))))
    .nil))
def f10 : FDef := ⟨("kind_of", none), "kind_of", "kind_of", top 19, ["value"], ["value"], ⟨1, 1, b10⟩⟩
/-- value_key(value): 0 value, 1 one -/
def b11 : ISs := (.cons (.ifs (.prim .isi (.cons (.var 0) (.cons (.glob "tuple" (.ty "tuple")) .nil)))
    (.cons (.ret (.prim .tuple (.cons (.frz (.comp (.nm 1) [("one", 1)] (.it (.var 0)) .no (.call "value_key" 11 (.cons (.var 1) .nil)))) .nil)))
    .nil)
    .nil)
    (.cons (.ret (.cond (.call "is_truth" 2 (.cons (.var 0) .nil)) (.tup (.cons (.prim .int (.cons (.var 0) .nil)) .nil)) (.tup (.cons (.var 0) .nil))))
    .nil))
def f11 : FDef := ⟨("value_key", none), "value_key", "value_key", top 20, ["value"], ["value", "one"], ⟨1, 2, b11⟩⟩
/-- are_same(one, other): 0 one, 1 other, 2 mine, 3 its -/
def b12 : ISs := (.cons (.ifs (.prim (.cmp .NotEq) (.cons (.prim .isi (.cons (.var 0) (.cons (.glob "tuple" (.ty "tuple")) .nil))) (.cons (.prim .isi (.cons (.var 1) (.cons (.glob "tuple" (.ty "tuple")) .nil))) .nil)))
    (.cons (.ret (.lit (.bl false)))
    .nil)
    .nil)
    (.cons (.ifs (.prim .isi (.cons (.var 0) (.cons (.glob "tuple" (.ty "tuple")) .nil)))
    (.cons (.ret (.andd (.prim (.cmp .Eq) (.cons (.prim .len (.cons (.var 0) .nil)) (.cons (.prim .len (.cons (.var 1) .nil)) .nil))) (.prim .all (.cons (.frz (.comp (.tp (.cons (.nm 2) (.cons (.nm 3) .nil))) [("mine", 2), ("its", 3)] (.zip (.cons (.var 0) (.cons (.var 1) .nil))) .no (.call "are_same" 12 (.cons (.var 2) (.cons (.var 3) .nil))))) .nil))))
    .nil)
    .nil)
    (.cons (.ret (.andd (.prim (.cmp .Eq) (.cons (.call "single_kind" 8 (.cons (.var 0) .nil)) (.cons (.call "single_kind" 8 (.cons (.var 1) .nil)) .nil))) (.prim (.cmp .Eq) (.cons (.var 0) (.cons (.var 1) .nil)))))
    .nil)))
def f12 : FDef := ⟨("are_same", none), "are_same", "are_same", top 21, ["one", "other"], ["one", "other", "mine", "its"], ⟨2, 4, b12⟩⟩
/-- is_outcome(thing): 0 thing -/
def b13 : ISs := (.cons (.ifs (.orr (.nott (.isir (.cons (.var 0) (.cons (.glob "tuple" (.ty "tuple")) .nil)))) (.orr (.prim (.cmp .Eq) (.cons (.var 0) (.cons (.tup .nil) .nil))) (.nott (.isir (.cons (.prim .ix (.cons (.var 0) (.cons (.lit (.int 0)) .nil))) (.cons (.glob "str" (.ty "str")) .nil))))))
    (.cons (.ret (.lit (.bl false)))
    .nil)
    .nil)
    (.cons (.ifs (.prim (.cmp .In) (.cons (.prim .ix (.cons (.var 0) (.cons (.lit (.int 0)) .nil))) (.cons (.tup (.cons (.lit (.str "none")) (.cons (.lit (.str "ring")) .nil))) .nil)))
    (.cons (.ret (.prim (.cmp .Eq) (.cons (.prim .len (.cons (.var 0) .nil)) (.cons (.lit (.int 1)) .nil))))
    .nil)
    .nil)
    (.cons (.ifs (.prim (.cmp .Eq) (.cons (.prim .ix (.cons (.var 0) (.cons (.lit (.int 0)) .nil))) (.cons (.lit (.str "fault")) .nil)))
    (.cons (.ret (.andd (.prim (.cmp .Eq) (.cons (.prim .len (.cons (.var 0) .nil)) (.cons (.lit (.int 3)) .nil))) (.call "is_fault" 6 (.cons (.slice (.var 0) (.som (.lit (.int 1))) .no) .nil))))
    .nil)
    .nil)
    (.cons (.ret (.andd (.prim (.cmp .Eq) (.cons (.prim .ix (.cons (.var 0) (.cons (.lit (.int 0)) .nil))) (.cons (.lit (.str "value")) .nil))) (.andd (.call "is_sized" 4 (.cons (.var 0) (.cons (.lit (.int 2)) .nil))) (.call "is_value" 9 (.cons (.prim .ix (.cons (.var 0) (.cons (.lit (.int 1)) .nil))) .nil)))))
    .nil))))
def f13 : FDef := ⟨("is_outcome", none), "is_outcome", "is_outcome", top 22, ["thing"], ["thing"], ⟨1, 1, b13⟩⟩
/-- _law_bag(script): 0 script, 1 cell -/
def b14 : ISs := (.cons (.ret (.cell (.disp (.cons (.lit (.int 0)) (.cons (.lit (.int 1234567891)) (.cons (.lit (.int 0)) (.cons (.frz (.comp (.nm 1) [("cell", 1)] (.it (.slice (.var 0) .no (.som (.lit (.int 63))))) .no (.prim .abs (.cons (.var 1) .nil)))) .nil)))))))
    .nil)
def f14 : FDef := ⟨("_law_bag", none), "_law_bag", "_law_bag", top 24, ["script"], ["script", "cell"], ⟨1, 2, b14⟩⟩
/-- _law_take(bag, many): 0 bag, 1 many, 2 cell, 3 stirred, 4 value, 5 begin, 6 second -/
def b15 : ISs := (.cons (.ifs (.prim (.cmp .Eq) (.cons (.prim .ix (.cons (.var 0) (.cons (.lit (.int 0)) .nil))) (.cons (.lit (.int 0)) .nil)))
    (.cons (.set 2 (.prim .ix (.cons (.prim (.bin .Add) (.cons (.slice (.prim .ix (.cons (.var 0) (.cons (.lit (.int 3)) .nil))) (.som (.prim .ix (.cons (.var 0) (.cons (.lit (.int 2)) .nil)))) .no) (.cons (.frz (.disp (.cons (.lit (.int 0)) .nil))) .nil))) (.cons (.lit (.int 0)) .nil))))
    (.cons (.augIx .Add (.var 0) (.lit (.int 2)) (.lit (.int 1)))
    (.cons (.ifs (.prim (.cmp .GtE) (.cons (.var 2) (.cons (.prim (.bin .Pow) (.cons (.lit (.int 10)) (.cons (.lit (.int 18)) .nil))) .nil)))
    (.cons (.setIx (.var 0) (.lit (.int 0)) (.var 2))
    .nil)
    .nil)
    (.cons (.set 3 (.prim (.bin .Add) (.cons (.prim (.bin .Add) (.cons (.prim (.bin .Mult) (.cons (.prim .ix (.cons (.var 0) (.cons (.lit (.int 1)) .nil))) (.cons (.lit (.int 48271)) .nil))) (.cons (.prim (.bin .Mod) (.cons (.prim .int (.cons (.var 2) .nil)) (.cons (.lit (.int 2147483647)) .nil))) .nil))) (.cons (.prim (.bin .Mult) (.cons (.lit (.int 7919)) (.cons (.prim .ix (.cons (.var 0) (.cons (.lit (.int 2)) .nil))) .nil))) .nil))))
    (.cons (.setIx (.var 0) (.lit (.int 1)) (.prim (.bin .Mod) (.cons (.prim .int (.cons (.var 3) .nil)) (.cons (.lit (.int 2147483647)) .nil))))
    .nil)))))
    .nil)
    (.cons (.ifs (.prim (.cmp .Gt) (.cons (.prim .ix (.cons (.var 0) (.cons (.lit (.int 0)) .nil))) (.cons (.lit (.int 0)) .nil)))
    (.cons (.set 4 (.prim (.bin .Mod) (.cons (.prim .int (.cons (.prim .ix (.cons (.var 0) (.cons (.lit (.int 0)) .nil))) .nil)) (.cons (.var 1) .nil))))
    (.cons (.setIx (.var 0) (.lit (.int 0)) (.prim (.bin .FloorDiv) (.cons (.prim .int (.cons (.prim .ix (.cons (.var 0) (.cons (.lit (.int 0)) .nil))) .nil)) (.cons (.var 1) .nil))))
    (.cons (.ret (.var 4))
    .nil)))
    .nil)
    (.cons (.set 5 (.prim (.bin .Mod) (.cons (.prim .int (.cons (.prim (.bin .Mult) (.cons (.prim (.bin .Add) (.cons (.prim .ix (.cons (.var 0) (.cons (.lit (.int 1)) .nil))) (.cons (.lit (.int 1)) .nil))) (.cons (.lit (.int 39373)) .nil))) .nil)) (.cons (.lit (.int 1000000007)) .nil))))
    (.cons (.set 6 (.prim (.bin .Mod) (.cons (.prim .int (.cons (.prim (.bin .Mult) (.cons (.prim (.bin .Mod) (.cons (.prim .int (.cons (.prim (.bin .Mult) (.cons (.var 5) (.cons (.var 5) .nil))) .nil)) (.cons (.lit (.int 998244353)) .nil))) (.cons (.lit (.int 30011)) .nil))) .nil)) (.cons (.lit (.int 998244353)) .nil))))
    (.cons (.ret (.prim (.bin .Mod) (.cons (.prim .int (.cons (.prim (.bin .FloorDiv) (.cons (.var 6) (.cons (.lit (.int 7)) .nil))) .nil)) (.cons (.var 1) .nil))))
    .nil)))))
def f15 : FDef := ⟨("_law_take", none), "_law_take", "_law_take", top 25, ["bag", "many"], ["bag", "many", "cell", "stirred", "value", "begin", "second"], ⟨2, 7, b15⟩⟩
/-- _law_some(bag, things): 0 bag, 1 things -/
def b16 : ISs := (.cons (.ret (.prim .ix (.cons (.var 1) (.cons (.call "_law_take" 15 (.cons (.var 0) (.cons (.prim .len (.cons (.var 1) .nil)) .nil))) .nil))))
    .nil)
def f16 : FDef := ⟨("_law_some", none), "_law_some", "_law_some", top 26, ["bag", "things"], ["bag", "things"], ⟨2, 2, b16⟩⟩
/-- _law_alike(found, due): 0 found, 1 due -/
def b17 : ISs := (.cons (.ret (.andd (.prim (.cmp .Eq) (.cons (.prim .repr (.cons (.var 0) .nil)) (.cons (.prim .repr (.cons (.var 1) .nil)) .nil))) (.prim (.cmp .Eq) (.cons (.var 0) (.cons (.var 1) .nil)))))
    .nil)
def f17 : FDef := ⟨("_law_alike", none), "_law_alike", "_law_alike", top 27, ["found", "due"], ["found", "due"], ⟨2, 2, b17⟩⟩
/-- _law_is_int(thing): 0 thing -/
def b18 : ISs := (.cons (.ret (.andd (.isir (.cons (.var 0) (.cons (.glob "int" (.ty "int")) .nil))) (.nott (.isir (.cons (.var 0) (.cons (.glob "bool" (.ty "bool")) .nil))))))
    .nil)
def f18 : FDef := ⟨("_law_is_int", none), "_law_is_int", "_law_is_int", top 28, ["thing"], ["thing"], ⟨1, 1, b18⟩⟩
/-- _law_is_big(value): 0 value -/
def b19 : ISs := (.cons (.ifs (.call "_law_is_int" 18 (.cons (.var 0) .nil))
    (.cons (.ret (.prim (.cmp .GtE) (.cons (.prim .abs (.cons (.var 0) .nil)) (.cons (.prim (.bin .Pow) (.cons (.lit (.int 10)) (.cons (.lit (.int 30)) .nil))) .nil))))
    .nil)
    .nil)
    (.cons (.ret (.andd (.prim .isi (.cons (.var 0) (.cons (.glob "str" (.ty "str")) .nil))) (.prim (.cmp .Gt) (.cons (.prim .len (.cons (.var 0) .nil)) (.cons (.lit (.int 200)) .nil)))))
    .nil))
def f19 : FDef := ⟨("_law_is_big", none), "_law_is_big", "_law_is_big", top 29, ["value"], ["value"], ⟨1, 1, b19⟩⟩
/-- _law_is_text(thing): 0 thing, 1 sign -/
def b20 : ISs := (.cons (.ret (.andd (.isir (.cons (.var 0) (.cons (.glob "str" (.ty "str")) .nil))) (.andd (.prim (.cmp .LtE) (.cons (.prim .len (.cons (.var 0) .nil)) (.cons (.lit (.int 200)) .nil))) (.prim (.cmp .Eq) (.cons (.frz (.comp (.nm 1) [("sign", 1)] (.it (.var 0)) (.som (.orr (.nott (.cmp2 .LtE .LtE (.lit (.str " ")) (.var 1) (.lit (.str "~")))) (.prim (.cmp .In) (.cons (.prim .ord (.cons (.var 1) .nil)) (.cons (.tup (.cons (.lit (.int 34)) (.cons (.lit (.int 37)) (.cons (.lit (.int 92)) .nil)))) .nil))))) (.var 1))) (.cons (.frz (.disp .nil)) .nil))))))
    .nil)
def f20 : FDef := ⟨("_law_is_text", none), "_law_is_text", "_law_is_text", top 30, ["thing"], ["thing", "sign"], ⟨1, 2, b20⟩⟩
/-- _law_is_place(thing): 0 thing -/
def b21 : ISs := (.cons (.ret (.andd (.prim .isi (.cons (.var 0) (.cons (.glob "tuple" (.ty "tuple")) .nil))) (.andd (.prim (.cmp .Eq) (.cons (.prim .len (.cons (.var 0) .nil)) (.cons (.lit (.int 2)) .nil))) (.andd (.call "_law_is_int" 18 (.cons (.prim .ix (.cons (.var 0) (.cons (.lit (.int 0)) .nil))) .nil)) (.andd (.call "_law_is_int" 18 (.cons (.prim .ix (.cons (.var 0) (.cons (.lit (.int 1)) .nil))) .nil)) (.andd (.cmp2 .LtE .Lt (.lit (.int 0)) (.prim .ix (.cons (.var 0) (.cons (.lit (.int 0)) .nil))) (.lit (.int 26))) (.cmp2 .LtE .Lt (.lit (.int 0)) (.prim .ix (.cons (.var 0) (.cons (.lit (.int 1)) .nil))) (.lit (.int 200)))))))))
    .nil)
def f21 : FDef := ⟨("_law_is_place", none), "_law_is_place", "_law_is_place", top 31, ["thing"], ["thing"], ⟨1, 1, b21⟩⟩
/-- _law_plain_kind(thing): 0 thing -/
def b22 : ISs := (.cons (.ifs (.isir (.cons (.var 0) (.cons (.glob "bool" (.ty "bool")) .nil)))
    (.cons (.ret (.lit (.str "truth")))
    .nil)
    .nil)
    (.cons (.ifs (.call "_law_is_int" 18 (.cons (.var 0) .nil))
    (.cons (.ret (.cond (.prim (.cmp .Lt) (.cons (.prim .abs (.cons (.var 0) .nil)) (.cons (.prim (.bin .Pow) (.cons (.lit (.int 10)) (.cons (.lit (.int 30)) .nil))) .nil))) (.lit (.str "number")) (.lit .non)))
    .nil)
    .nil)
    (.cons (.ret (.cond (.call "_law_is_text" 20 (.cons (.var 0) .nil)) (.lit (.str "text")) (.lit .non)))
    .nil)))
def f22 : FDef := ⟨("_law_plain_kind", none), "_law_plain_kind", "_law_plain_kind", top 32, ["thing"], ["thing"], ⟨1, 1, b22⟩⟩
/-- _law_is_value(thing): 0 thing, 1 kinds, 2 one -/
def b23 : ISs := (.cons (.ifs (.nott (.isir (.cons (.var 0) (.cons (.glob "tuple" (.ty "tuple")) .nil))))
    (.cons (.ret (.prim (.cmp .IsNot) (.cons (.call "_law_plain_kind" 22 (.cons (.var 0) .nil)) (.cons (.lit .non) .nil))))
    .nil)
    .nil)
    (.cons (.set 1 (.frz (.sortset (.frz (.comp (.nm 2) [("one", 2)] (.it (.var 0)) .no (.prim .str (.cons (.call "_law_plain_kind" 22 (.cons (.var 2) .nil)) .nil)))))))
    (.cons (.ret (.andd (.prim (.cmp .LtE) (.cons (.prim .len (.cons (.var 1) .nil)) (.cons (.lit (.int 1)) .nil))) (.prim (.cmp .NotEq) (.cons (.var 1) (.cons (.frz (.disp (.cons (.lit (.str "None")) .nil))) .nil)))))
    .nil)))
def f23 : FDef := ⟨("_law_is_value", none), "_law_is_value", "_law_is_value", top 33, ["thing"], ["thing", "kinds", "one"], ⟨1, 3, b23⟩⟩
/-- _law_kind_told(value): 0 value -/
def b24 : ISs := (.cons (.ifs (.prim .isi (.cons (.var 0) (.cons (.glob "tuple" (.ty "tuple")) .nil)))
    (.cons (.ret (.cond (.prim (.cmp .NotEq) (.cons (.var 0) (.cons (.tup .nil) .nil))) (.tup (.cons (.lit (.str "row")) (.cons (.call "_law_plain_kind" 22 (.cons (.prim .ix (.cons (.var 0) (.cons (.lit (.int 0)) .nil))) .nil)) .nil))) (.lit .non)))
    .nil)
    .nil)
    (.cons (.ret (.call "_law_plain_kind" 22 (.cons (.var 0) .nil)))
    .nil))
def f24 : FDef := ⟨("_law_kind_told", none), "_law_kind_told", "_law_kind_told", top 34, ["value"], ["value"], ⟨1, 1, b24⟩⟩
/-- _law_is_outcome(thing): 0 thing -/
def b25 : ISs := (.cons (.ifs (.orr (.nott (.isir (.cons (.var 0) (.cons (.glob "tuple" (.ty "tuple")) .nil)))) (.orr (.prim (.cmp .Eq) (.cons (.var 0) (.cons (.tup .nil) .nil))) (.nott (.isir (.cons (.prim .ix (.cons (.var 0) (.cons (.lit (.int 0)) .nil))) (.cons (.glob "str" (.ty "str")) .nil))))))
    (.cons (.ret (.lit (.bl false)))
    .nil)
    .nil)
    (.cons (.ifs (.prim (.cmp .In) (.cons (.prim .ix (.cons (.var 0) (.cons (.lit (.int 0)) .nil))) (.cons (.tup (.cons (.lit (.str "ring")) (.cons (.lit (.str "none")) .nil))) .nil)))
    (.cons (.ret (.prim (.cmp .Eq) (.cons (.prim .len (.cons (.var 0) .nil)) (.cons (.lit (.int 1)) .nil))))
    .nil)
    .nil)
    (.cons (.ifs (.prim (.cmp .Eq) (.cons (.prim .ix (.cons (.var 0) (.cons (.lit (.int 0)) .nil))) (.cons (.lit (.str "value")) .nil)))
    (.cons (.ret (.andd (.prim (.cmp .Eq) (.cons (.prim .len (.cons (.var 0) .nil)) (.cons (.lit (.int 2)) .nil))) (.call "_law_is_value" 23 (.cons (.prim .ix (.cons (.var 0) (.cons (.lit (.int 1)) .nil))) .nil))))
    .nil)
    .nil)
    (.cons (.ret (.andd (.prim (.cmp .Eq) (.cons (.prim .ix (.cons (.var 0) (.cons (.lit (.int 0)) .nil))) (.cons (.lit (.str "fault")) .nil))) (.andd (.prim (.cmp .Eq) (.cons (.prim .len (.cons (.var 0) .nil)) (.cons (.lit (.int 3)) .nil))) (.andd (.prim (.cmp .In) (.cons (.prim .ix (.cons (.var 0) (.cons (.lit (.int 1)) .nil))) (.cons (.tup (.cons (.lit (.str "zero")) (.cons (.lit (.str "empty")) (.cons (.lit (.str "out")) (.cons (.lit (.str "gone")) (.cons (.lit (.str "pick")) (.cons (.lit (.str "none")) (.cons (.lit (.str "big")) .nil)))))))) .nil))) (.andd (.isir (.cons (.prim .ix (.cons (.var 0) (.cons (.lit (.int 1)) .nil))) (.cons (.glob "str" (.ty "str")) .nil))) (.call "_law_is_place" 21 (.cons (.prim .ix (.cons (.var 0) (.cons (.lit (.int 2)) .nil))) .nil)))))))
    .nil))))
def f25 : FDef := ⟨("_law_is_outcome", none), "_law_is_outcome", "_law_is_outcome", top 35, ["thing"], ["thing"], ⟨1, 1, b25⟩⟩
/-- _law_drawn(bag, kind): 0 bag, 1 kind, 2 k -/
def b26 : ISs := (.cons (.ifs (.prim (.cmp .Eq) (.cons (.var 1) (.cons (.lit (.str "number")) .nil)))
    (.cons (.ret (.call "_law_some" 16 (.cons (.var 0) (.cons (.frz (.disp (.cons (.lit (.int 0)) (.cons (.lit (.int 1)) (.cons (.prim .neg (.cons (.lit (.int 1)) .nil)) (.cons (.lit (.int 7)) (.cons (.lit (.int 100)) (.cons (.prim (.bin .Sub) (.cons (.prim (.bin .Pow) (.cons (.lit (.int 10)) (.cons (.lit (.int 30)) .nil))) (.cons (.lit (.int 1)) .nil))) (.cons (.prim (.bin .Sub) (.cons (.lit (.int 1)) (.cons (.prim (.bin .Pow) (.cons (.lit (.int 10)) (.cons (.lit (.int 30)) .nil))) .nil))) (.cons (.prim (.bin .Sub) (.cons (.call "_law_take" 15 (.cons (.var 0) (.cons (.lit (.int 50)) .nil))) (.cons (.lit (.int 25)) .nil))) .nil)))))))))) .nil))))
    .nil)
    .nil)
    (.cons (.ifs (.prim (.cmp .Eq) (.cons (.var 1) (.cons (.lit (.str "text")) .nil)))
    (.cons (.ret (.call "_law_some" 16 (.cons (.var 0) (.cons (.frz (.disp (.cons (.lit (.str "")) (.cons (.lit (.str "a")) (.cons (.lit (.str "ab")) (.cons (.lit (.str "b")) (.cons (.lit (.str "B")) (.cons (.lit (.str "~")) (.cons (.lit (.str " ")) (.cons (.prim (.bin .Mult) (.cons (.lit (.str "a")) (.cons (.lit (.int 200)) .nil))) .nil)))))))))) .nil))))
    .nil)
    .nil)
    (.cons (.ret (.cond (.prim (.cmp .Eq) (.cons (.var 1) (.cons (.lit (.str "truth")) .nil))) (.prim (.cmp .Eq) (.cons (.call "_law_take" 15 (.cons (.var 0) (.cons (.lit (.int 2)) .nil))) (.cons (.lit (.int 0)) .nil))) (.prim .tuple (.cons (.frz (.comp (.nm 2) [("k", 2)] (.range1 (.call "_law_take" 15 (.cons (.var 0) (.cons (.lit (.int 4)) .nil)))) .no (.call "_law_drawn" 26 (.cons (.var 0) (.cons (.prim .ix (.cons (.var 1) (.cons (.lit (.int 1)) .nil))) .nil))))) .nil))))
    .nil)))
def f26 : FDef := ⟨("_law_drawn", none), "_law_drawn", "_law_drawn", top 36, ["bag", "kind"], ["bag", "kind", "k"], ⟨2, 3, b26⟩⟩
/-- law(script): 0 script, 1 bag, 2 things, 3 kinds, 4 lap, 5 kind, 6 values, 7 value, 8 other, 9 alike, 10 thing, 11 k, 12 key -/
def b27 : ISs := (.cons (.set 1 (.call "_law_bag" 14 (.cons (.var 0) .nil)))
    (.cons (.setOwn 2 (.disp (.cons (.lit .non) (.cons (.lit (.bl true)) (.cons (.lit (.int 0)) (.cons (.prim (.bin .Pow) (.cons (.lit (.int 10)) (.cons (.lit (.int 30)) .nil))) (.cons (.prim .neg (.cons (.prim (.bin .Pow) (.cons (.lit (.int 10)) (.cons (.lit (.int 30)) .nil))) .nil)) (.cons (.prim (.bin .Mult) (.cons (.lit (.str "a")) (.cons (.lit (.int 201)) .nil))) (.cons (.lit (.str "\n")) .nil)))))))))
    (.cons (.freeze 2 (.setOwn 2 (.cat (.var 2) (.frz (.disp (.cons (.lit (.str "\"")) (.cons (.tup .nil) (.cons (.tup (.cons (.lit (.int 1)) (.cons (.lit (.bl true)) .nil))) (.cons (.tup (.cons (.lit (.int 1)) (.cons (.lit (.str "a")) .nil))) (.cons (.tup (.cons (.tup (.cons (.lit (.int 1)) .nil)) .nil)) (.cons (.tup (.cons (.lit .non) .nil)) (.cons (.frz (.disp (.cons (.lit (.int 1)) .nil))) (.cons .celld (.cons (.tup (.cons (.lit (.str "value")) (.cons (.lit (.int 1)) .nil))) (.cons (.tup (.cons (.lit (.str "value")) (.cons (.tup (.cons (.lit (.int 1)) (.cons (.lit (.int 2)) .nil))) .nil))) (.cons (.tup (.cons (.lit (.str "value")) .nil)) (.cons (.tup (.cons (.lit (.str "value")) (.cons (.lit .non) .nil))) (.cons (.tup (.cons (.lit (.str "fault")) (.cons (.lit (.str "zero")) (.cons (.tup (.cons (.lit (.int 0)) (.cons (.lit (.int 0)) .nil))) .nil)))) .nil))))))))))))))))))
    (.cons (.freeze 2 (.setOwn 2 (.cat (.var 2) (.frz (.disp (.cons (.tup (.cons (.lit (.str "fault")) (.cons (.lit (.str "zoo")) (.cons (.tup (.cons (.lit (.int 0)) (.cons (.lit (.int 0)) .nil))) .nil)))) (.cons (.tup (.cons (.lit (.str "fault")) (.cons (.lit (.str "zero")) .nil))) (.cons (.tup (.cons (.lit (.str "fault")) (.cons (.lit (.str "out")) (.cons (.tup (.cons (.lit (.int 26)) (.cons (.lit (.int 0)) .nil))) .nil)))) (.cons (.tup (.cons (.lit (.str "ring")) .nil)) (.cons (.tup (.cons (.lit (.str "ring")) (.cons (.lit (.int 1)) .nil))) (.cons (.tup (.cons (.lit (.str "none")) .nil)) (.cons (.frz (.disp (.cons (.lit (.str "none")) .nil))) (.cons (.tup (.cons (.prim (.bin .Pow) (.cons (.lit (.int 10)) (.cons (.lit (.int 30)) .nil))) .nil)) (.cons (.tup (.cons (.lit (.str "a")) (.cons (.lit (.str "b")) .nil))) (.cons (.tup (.cons (.lit (.bl true)) (.cons (.lit (.bl false)) .nil))) .nil)))))))))))))))
    (.cons (.set 3 (.frz (.disp (.cons (.lit (.str "number")) (.cons (.lit (.str "text")) (.cons (.lit (.str "truth")) (.cons (.tup (.cons (.lit (.str "row")) (.cons (.lit (.str "number")) .nil))) (.cons (.tup (.cons (.lit (.str "row")) (.cons (.lit (.str "text")) .nil))) (.cons (.tup (.cons (.lit (.str "row")) (.cons (.lit (.str "truth")) .nil))) .nil)))))))))
    (.cons (.fors (.nm 4) (.range1 (.lit (.int 12)))
    (.cons (.set 5 (.call "_law_some" 16 (.cons (.var 1) (.cons (.var 3) .nil))))
    (.cons (.set 6 (.frz (.comp (.nm 11) [("k", 11)] (.range1 (.lit (.int 5))) .no (.call "_law_drawn" 26 (.cons (.var 1) (.cons (.var 5) .nil))))))
    (.cons (.extV 2 (.var 6))
    (.cons (.extOwn 2 (.disp (.cons (.tup (.cons (.lit (.str "value")) (.cons (.prim .ix (.cons (.var 6) (.cons (.lit (.int 0)) .nil))) .nil))) (.cons (.slice (.var 6) (.som (.lit (.int 0))) (.som (.lit (.int 2)))) .nil))))
    (.cons (.fors (.nm 7) (.it (.var 6))
    (.cons (.ifs (.nott (.call "_law_alike" 17 (.cons (.frz (.disp (.cons (.call "is_value" 9 (.cons (.var 7) .nil)) (.cons (.call "kind_of" 10 (.cons (.var 7) .nil)) (.cons (.call "are_same" 12 (.cons (.var 7) (.cons (.var 7) .nil))) .nil))))) (.cons (.frz (.disp (.cons (.lit (.bl true)) (.cons (.call "_law_kind_told" 24 (.cons (.var 7) .nil)) (.cons (.lit (.bl true)) .nil))))) .nil))))
    (.cons (.ret (.lit (.bl false)))
    .nil)
    .nil)
    .nil))
    (.cons (.ifs (.prim (.cmp .NotEq) (.cons (.frz (.sorted (.var 6))) (.cons (.frz (.comp (.tp (.cons (.nm 12) (.cons (.nm 11) .nil))) [("key", 12), ("k", 11)] (.it (.frz (.sorted (.frz (.comp (.tp (.cons (.nm 11) (.cons (.nm 7) .nil))) [("k", 11), ("value", 7)] (.enum (.var 6)) .no (.tup (.cons (.call "value_key" 11 (.cons (.var 7) .nil)) (.cons (.var 11) .nil)))))))) .no (.prim .ix (.cons (.var 6) (.cons (.var 11) .nil))))) .nil)))
    (.cons (.ret (.lit (.bl false)))
    .nil)
    .nil)
    (.cons (.set 8 (.call "_law_drawn" 26 (.cons (.var 1) (.cons (.call "_law_some" 16 (.cons (.var 1) (.cons (.var 3) .nil))) .nil))))
    (.cons (.set 9 (.orr (.prim (.cmp .Eq) (.cons (.prim .repr (.cons (.var 8) .nil)) (.cons (.prim .repr (.cons (.prim .ix (.cons (.var 6) (.cons (.lit (.int 0)) .nil))) .nil)) .nil))) (.andd (.prim (.cmp .Eq) (.cons (.var 8) (.cons (.tup .nil) .nil))) (.prim (.cmp .Eq) (.cons (.prim .ix (.cons (.var 6) (.cons (.lit (.int 0)) .nil))) (.cons (.tup .nil) .nil))))))
    (.cons (.ifs (.andd (.prim (.cmp .NotEq) (.cons (.call "are_same" 12 (.cons (.prim .ix (.cons (.var 6) (.cons (.lit (.int 0)) .nil))) (.cons (.var 8) .nil))) (.cons (.var 9) .nil))) (.prim (.cmp .NotIn) (.cons (.tup .nil) (.cons (.tup (.cons (.prim .ix (.cons (.var 6) (.cons (.lit (.int 0)) .nil))) (.cons (.var 8) .nil))) .nil))))
    (.cons (.ret (.lit (.bl false)))
    .nil)
    .nil)
    .nil))))))))))
    (.cons (.freeze 2 (.fors (.nm 10) (.it (.var 2))
    (.cons (.ifs (.nott (.call "_law_alike" 17 (.cons (.frz (.disp (.cons (.call "is_value" 9 (.cons (.var 10) .nil)) (.cons (.call "is_outcome" 13 (.cons (.var 10) .nil)) .nil)))) (.cons (.frz (.disp (.cons (.call "_law_is_value" 23 (.cons (.var 10) .nil)) (.cons (.call "_law_is_outcome" 25 (.cons (.var 10) .nil)) .nil)))) .nil))))
    (.cons (.ret (.lit (.bl false)))
    .nil)
    .nil)
    .nil)))
    (.cons (.fors (.nm 10) (.it (.frz (.disp (.cons (.prim (.bin .Pow) (.cons (.lit (.int 10)) (.cons (.lit (.int 30)) .nil))) (.cons (.prim (.bin .Sub) (.cons (.prim (.bin .Pow) (.cons (.lit (.int 10)) (.cons (.lit (.int 30)) .nil))) (.cons (.lit (.int 1)) .nil))) (.cons (.prim .neg (.cons (.prim (.bin .Pow) (.cons (.lit (.int 10)) (.cons (.lit (.int 30)) .nil))) .nil)) (.cons (.lit (.int 0)) (.cons (.prim (.bin .Mult) (.cons (.lit (.str "a")) (.cons (.lit (.int 200)) .nil))) (.cons (.prim (.bin .Mult) (.cons (.lit (.str "a")) (.cons (.lit (.int 201)) .nil))) (.cons (.lit (.str "")) .nil))))))))))
    (.cons (.ifs (.nott (.call "_law_alike" 17 (.cons (.call "is_big" 7 (.cons (.var 10) .nil)) (.cons (.call "_law_is_big" 19 (.cons (.var 10) .nil)) .nil))))
    (.cons (.ret (.lit (.bl false)))
    .nil)
    .nil)
    .nil))
    (.cons (.ret (.lit (.bl true)))
    .nil)))))))))
def f27 : FDef := ⟨("law", none), "law", "law", top 37, ["script"], ["script", "bag", "things", "kinds", "lap", "kind", "values", "value", "other", "alike", "thing", "k", "key"], ⟨1, 13, b27⟩⟩
def tab : Tab := ⟨[gp "BARRED" (.con c_BARRED), gp "COLUMNS" (.con c_COLUMNS), gp "FAULTS" (.con c_FAULTS), gp "MOST_NUMBER" (.con c_MOST_NUMBER), gp "MOST_ROW" (.con c_MOST_ROW), gp "MOST_TEXT" (.con c_MOST_TEXT), gp "ROWS" (.con c_ROWS), gp "_law_alike" (.fn 17), gp "_law_bag" (.fn 14), gp "_law_drawn" (.fn 26), gp "_law_is_big" (.fn 19), gp "_law_is_int" (.fn 18), gp "_law_is_outcome" (.fn 25), gp "_law_is_place" (.fn 21), gp "_law_is_text" (.fn 20), gp "_law_is_value" (.fn 23), gp "_law_kind_told" (.fn 24), gp "_law_plain_kind" (.fn 22), gp "_law_some" (.fn 16), gp "_law_take" (.fn 15), gp "abs" .no, gp "all" .no, gp "any" .no, gp "are_same" (.fn 12), gp "bool" .no, gp "enumerate" .no, gp "int" .no, gp "is_big" (.fn 7), gp "is_fault" (.fn 6), gp "is_index" (.fn 1), gp "is_number" (.fn 0), gp "is_outcome" (.fn 13), gp "is_place" (.fn 5), gp "is_plain_text" (.fn 3), gp "is_sized" (.fn 4), gp "is_truth" (.fn 2), gp "is_value" (.fn 9), gp "isinstance" .no, gp "kind_of" (.fn 10), gp "law" (.fn 27), gp "len" .no, gp "ord" .no, gp "range" .no, gp "repr" .no, gp "set" .no, gp "single_kind" (.fn 8), gp "sorted" .no, gp "str" .no, gp "tuple" .no, gp "value_key" (.fn 11), gp "zip" .no], []⟩
def prg : Prg := ⟨tab, [f0, f1, f2, f3, f4, f5, f6, f7, f8, f9, f10, f11, f12, f13, f14, f15, f16, f17, f18, f19, f20, f21, f22, f23, f24, f25, f26, f27], []⟩
theorem at_ok : prg.atB = true := by decide +kernel
theorem ok_ok : prg.okB = true := by decide +kernel
theorem bnd_ok : AllB prg.fs := ⟨fun _ _ _ _ _ _ us hl => match us, hl with | [_], _ => rfl, fun _ _ _ _ _ _ us hl => match us, hl with | [_], _ => rfl, fun _ _ _ _ _ _ us hl => match us, hl with | [_], _ => rfl, fun _ _ _ _ _ _ us hl => match us, hl with | [_], _ => rfl, fun _ _ _ _ _ _ us hl => match us, hl with | [_, _], _ => rfl, fun _ _ _ _ _ _ us hl => match us, hl with | [_], _ => rfl, fun _ _ _ _ _ _ us hl => match us, hl with | [_], _ => rfl, fun _ _ _ _ _ _ us hl => match us, hl with | [_], _ => rfl, fun _ _ _ _ _ _ us hl => match us, hl with | [_], _ => rfl, fun _ _ _ _ _ _ us hl => match us, hl with | [_], _ => rfl, fun _ _ _ _ _ _ us hl => match us, hl with | [_], _ => rfl, fun _ _ _ _ _ _ us hl => match us, hl with | [_], _ => rfl, fun _ _ _ _ _ _ us hl => match us, hl with | [_, _], _ => rfl, fun _ _ _ _ _ _ us hl => match us, hl with | [_], _ => rfl, fun _ _ _ _ _ _ us hl => match us, hl with | [_], _ => rfl, fun _ _ _ _ _ _ us hl => match us, hl with | [_, _], _ => rfl, fun _ _ _ _ _ _ us hl => match us, hl with | [_, _], _ => rfl, fun _ _ _ _ _ _ us hl => match us, hl with | [_, _], _ => rfl, fun _ _ _ _ _ _ us hl => match us, hl with | [_], _ => rfl, fun _ _ _ _ _ _ us hl => match us, hl with | [_], _ => rfl, fun _ _ _ _ _ _ us hl => match us, hl with | [_], _ => rfl, fun _ _ _ _ _ _ us hl => match us, hl with | [_], _ => rfl, fun _ _ _ _ _ _ us hl => match us, hl with | [_], _ => rfl, fun _ _ _ _ _ _ us hl => match us, hl with | [_], _ => rfl, fun _ _ _ _ _ _ us hl => match us, hl with | [_], _ => rfl, fun _ _ _ _ _ _ us hl => match us, hl with | [_], _ => rfl, fun _ _ _ _ _ _ us hl => match us, hl with | [_, _], _ => rfl, fun _ _ _ _ _ _ us hl => match us, hl with | [_], _ => rfl, trivial⟩
end FH.K01
end
section
namespace FH.K01
open PySem PySem.Spec PyProof.Rows L2
abbrev fs : List Fn := fnsOf prg.fs
inductive Kd where
  | num | txt | tru
  deriving DecidableEq
def kN : Kd → Str
  | .num => "number" | .txt => "text" | .tru => "truth"
def nums : List Int := [0, 1, -1, 7, 100, 10 ^ 30 - 1, 1 - 10 ^ 30] ++ (List.range 50).map (fun (i : Nat) => (i : Int) - 25)
def txts : List Str := ["", "a", "ab", "b", "B", "~", " ", Txt.mul "a" 200]
def atoms : Kd → List D
  | .num => nums.map .int
  | .txt => txts.map .str
  | .tru => [.bl true, .bl false]
section
variable {k : Nat} {μ : Store} {κ : Kd}
theorem t_single : (atoms κ).map (fun a => run fs (k + 3) 8 [a] μ) = (atoms κ).map fun _ => some (.str (kN κ), μ) := by cases κ <;> kernel_rfl
theorem t_plain : (atoms κ).map (fun a => run fs (k + 3) 22 [a] μ) = (atoms κ).map fun _ => some (.str (kN κ), μ) := by cases κ <;> kernel_rfl
theorem t_value : (atoms κ).map (fun a => run fs (k + 4) 9 [a] μ) = (atoms κ).map fun _ => some (.bl true, μ) := by cases κ <;> kernel_rfl
theorem t_kind : (atoms κ).map (fun a => run fs (k + 4) 10 [a] μ) = (atoms κ).map fun _ => some (.str (kN κ), μ) := by cases κ <;> kernel_rfl
theorem t_told : (atoms κ).map (fun a => run fs (k + 4) 24 [a] μ) = (atoms κ).map fun _ => some (.str (kN κ), μ) := by cases κ <;> kernel_rfl
theorem t_lvalue : (atoms κ).map (fun a => run fs (k + 4) 23 [a] μ) = (atoms κ).map fun _ => some (.bl true, μ) := by cases κ <;> kernel_rfl
theorem t_out : (atoms κ).map (fun a => run fs (k + 5) 13 [a] μ) = (atoms κ).map fun _ => some (.bl false, μ) := by cases κ <;> kernel_rfl
theorem t_lout : (atoms κ).map (fun a => run fs (k + 5) 25 [a] μ) = (atoms κ).map fun _ => some (.bl false, μ) := by cases κ <;> kernel_rfl
def keyA : D → D
  | .bl b => .tup [.int (b2i b)]
  | d => .tup [d]
theorem t_key : (atoms κ).map (fun a => run fs (k + 4) 11 [a] μ) = (atoms κ).map fun a => some (keyA a, μ) := by cases κ <;> kernel_rfl
end
end FH.K01
end
section
namespace FH.K01
open PySem PySem.Spec PyProof.Rows L2
theorem p_any {a : List D} : primD .any [.lst a] = (boolsD a).map fun bs => .bl (bs.any id) := rfl
theorem p_all {a : List D} : primD .all [.lst a] = (boolsD a).map fun bs => .bl (bs.all id) := rfl
theorem sz0 : (0 < sizeLine) = True := lt_size (by decide)
theorem sz1 : (1 < sizeLine) = True := lt_size (by decide)
theorem sz2 : (2 < sizeLine) = True := lt_size (by decide)
theorem sz3 : (3 < sizeLine) = True := lt_size (by decide)
theorem sl0 : (0 ≤ sizeLine) = True := le_size (by decide)
theorem sl1 : (1 ≤ sizeLine) = True := le_size (by decide)
theorem sl2 : (2 ≤ sizeLine) = True := le_size (by decide)
theorem sl3 : (3 ≤ sizeLine) = True := le_size (by decide)
theorem isi_t_int {i : Int} : isiD (.int i) "tuple" = some false := rfl
theorem isi_t_bl {i : Bool} : isiD (.bl i) "tuple" = some false := rfl
theorem isi_t_str {i : Str} : isiD (.str i) "tuple" = some false := rfl
theorem asg_nm {i : Nat} {d : D} {ρ : Slots} : asgT (.nm i) d ρ = if i < ρ.length then some (ρ.set i (.val d)) else none := rfl
theorem asg_tp {ts : Tgs} {ds : List D} {ρ : Slots} : asgT (.tp ts) (.tup ds) ρ = asgTs ts ds ρ := rfl
theorem asgs_nil {ρ : Slots} : asgTs .nil [] ρ = some ρ := rfl
theorem asgs_cons {t : Tg} {ts : Tgs} {d : D} {ds : List D} {ρ : Slots} : asgTs (.cons t ts) (d :: ds) ρ = (asgT t d ρ).bind fun ρ' => asgTs ts ds ρ' := rfl
section
variable {k : Nat} {μ : Store} {κ : Kd}
theorem of_tab {α β : Type} {l : List α} {f g : α → β} (h : l.map f = l.map g) {a : α} (ha : a ∈ l) : f a = g a := List.map_inj_left.mp h a ha
theorem a_single {a : D} (h : a ∈ atoms κ) (k : Nat) (μ : Store) : run fs (k + 3) 8 [a] μ = some (.str (kN κ), μ) := of_tab t_single h
theorem a_plain {a : D} (h : a ∈ atoms κ) (k : Nat) (μ : Store) : run fs (k + 3) 22 [a] μ = some (.str (kN κ), μ) := of_tab t_plain h
theorem a_key {a : D} (h : a ∈ atoms κ) (k : Nat) (μ : Store) : run fs (k + 4) 11 [a] μ = some (keyA a, μ) := of_tab t_key h
/-- what shape it is of -/
def Shp : Kd → D → Prop
  | .num, a => ∃ i, a = .int i
  | .txt, a => ∃ x, a = .str x
  | .tru, a => ∃ b, a = .bl b
theorem shp_of {a : D} (h : a ∈ atoms κ) : Shp κ a := by
  cases κ
  · obtain ⟨i, _, rfl⟩ := List.mem_map.mp h; exact ⟨i, rfl⟩
  · obtain ⟨i, _, rfl⟩ := List.mem_map.mp h; exact ⟨i, rfl⟩
  · simp only [atoms, List.mem_cons, List.not_mem_nil, or_false] at h
    rcases h with rfl | rfl <;> exact ⟨_, rfl⟩
inductive Row (κ : Kd) : List D → Prop
  | r0 : Row κ []
  | r1 {a : D} : a ∈ atoms κ → Row κ [a]
  | r2 {a b : D} : a ∈ atoms κ → b ∈ atoms κ → Row κ [a, b]
  | r3 {a b c : D} : a ∈ atoms κ → b ∈ atoms κ → c ∈ atoms κ → Row κ [a, b, c]
theorem t_good : ((atoms κ).all fun a => a.good && (decide (a.dep = 0) && decide (a.wgt ≤ 200))) = true := by cases κ <;> decide +kernel
theorem a_good {a : D} (h : a ∈ atoms κ) : a.good = true ∧ a.dep = 0 ∧ a.wgt ≤ 200 := by
  have q := List.all_eq_true.mp t_good a h
  simpa [Bool.and_eq_true, and_assoc] using q
theorem eqT0 {a : D} {ds : List D} (g : goodL (a :: ds) = true) (hd : depL (a :: ds) ≤ 60) : eqD (.tup (a :: ds)) (.tup []) = some false := by
  obtain ⟨ps, h⟩ := goodL_py g
  have hpy : (D.tup (a :: ds)).py = some (.tuple ps) := by simp [D.py, h.py]
  have gd : Gd (.tup (a :: ds)) (.tuple ps) := ⟨hpy, by simpa [PyData.canLay0] using h.lay, by simpa [PyData.leavesShort] using h.short, by simpa [PyData.showable] using h.show_, by simpa [PyData.weight, D.wgt] using h.w, by simp [PyData.depth, D.dep, h.dp]⟩
  have sh := gd.shaped (by simp only [D.dep]; omega)
  unfold eqD
  simp only [D.flat, Bool.false_and, Bool.false_eq_true, if_false]
  rw [hpy]
  have e2 : (D.tup []).py = some (.tuple []) := rfl
  rw [e2]
  simp only [sh, Bool.true_and]
  rw [if_pos (by decide +kernel)]
  cases ps with
  | nil => exfalso; have := h.py; simp only [pyL] at this; split at this <;> simp at this
  | cons p ps => simp [PyData.eqv, PyData.eqvAll]
theorem row_good {ds : List D} (h : Row κ ds) : goodL ds = true ∧ depL ds = 0 ∧ wgtL ds ≤ 603 := by
  cases h with
  | r0 => exact ⟨rfl, rfl, by decide⟩
  | r1 ha => obtain ⟨a1, a2, a3⟩ := a_good ha; simp [goodL, depL, wgtL, a1, a2]; omega
  | r2 ha hb =>
    obtain ⟨a1, a2, a3⟩ := a_good ha; obtain ⟨b1, b2, b3⟩ := a_good hb; simp [goodL, depL, wgtL, a1, a2, b1, b2]; omega
  | r3 ha hb hc =>
    obtain ⟨a1, a2, a3⟩ := a_good ha; obtain ⟨b1, b2, b3⟩ := a_good hb; obtain ⟨c1, c2, c3⟩ := a_good hc; simp [goodL, depL, wgtL, a1, a2, b1, b2, c1, c2]; omega
theorem v_row {ds : List D} (h : Row κ ds) : run fs (k + 5) 9 [.tup ds] μ = some (.bl true, μ) := by
  rw [run_eq (F := ⟨1, 3, b9⟩) rfl rfl]
  have g := row_good h
  cases h with
  | r0 => kernel_rfl
  | r1 ha =>
    have h1 := a_single ha
    have s1 := shp_of ha
    have e := eqT0 g.1 (by omega)
    cases κ <;> obtain ⟨i, rfl⟩ := s1 <;> simp [start0, evE, evEs, evO, evC, evF, evSrc, evIn, evS, evSs, Option.bind_some, Option.map_some, Option.bind_none, Option.map_none, List.map_cons, List.map_nil, slot_c0, slot_cs, own_c0, own_cs, ownv_c0, ownv_cs, ownt_c0, tup_c0, tup_cs, view_int, view_str, view_bl, view_non, view_tup, view_lst, view_ty, view_fn, p_bin, p_neg, p_cmp, p_ix, p_len_tup, p_len_lst, p_abs, p_int, p_intb, p_isi, p_tuple_tup, p_tuple_lst, p_max, p_min, b_add_int, b_sub_int, c_lt, c_le, c_gt, c_ge, c_eq, c_ne, ix_tup, ix_lst, at0, at1, at2, at3, at4, at5, eq_int, eq_str, eq_bl, truD, set_c0, set_cs, setS_c, isi_tuple_tup, isi_tuple_lst, isi_tuple_str, isi_tuple_int, isi_tuple_non, isi_tuple_bl, isi_str_str, isi_str_tup, isi_str_int, isi_str_non, isi_str_lst, isi_str_bl, if_true_, if_false_, itemsD, loopD, loopC, asg_nm, asg_tp, asgs_nil, asgs_cons, wipeS, setN, nkD, ndS, getN, boolsD, p_any, p_all, retOf, kN, isi_t_int, isi_t_bl, isi_t_str, sz0, sz1, sz2, sz3, sl0, sl1, sl2, sl3, c_MOST_ROW, b9, h1, e]
  | r2 ha hb =>
    have h1 := a_single ha
    have h2 := a_single hb
    have e := eqT0 g.1 (by omega)
    have s1 := shp_of ha
    have s2 := shp_of hb
    cases κ <;> obtain ⟨i, rfl⟩ := s1 <;> obtain ⟨j, rfl⟩ := s2 <;> simp [start0, evE, evEs, evO, evC, evF, evSrc, evIn, evS, evSs, Option.bind_some, Option.map_some, Option.bind_none, Option.map_none, List.map_cons, List.map_nil, slot_c0, slot_cs, own_c0, own_cs, ownv_c0, ownv_cs, ownt_c0, tup_c0, tup_cs, view_int, view_str, view_bl, view_non, view_tup, view_lst, view_ty, view_fn, p_bin, p_neg, p_cmp, p_ix, p_len_tup, p_len_lst, p_abs, p_int, p_intb, p_isi, p_tuple_tup, p_tuple_lst, p_max, p_min, b_add_int, b_sub_int, c_lt, c_le, c_gt, c_ge, c_eq, c_ne, ix_tup, ix_lst, at0, at1, at2, at3, at4, at5, eq_int, eq_str, eq_bl, truD, set_c0, set_cs, setS_c, isi_tuple_tup, isi_tuple_lst, isi_tuple_str, isi_tuple_int, isi_tuple_non, isi_tuple_bl, isi_str_str, isi_str_tup, isi_str_int, isi_str_non, isi_str_lst, isi_str_bl, if_true_, if_false_, itemsD, loopD, loopC, asg_nm, asg_tp, asgs_nil, asgs_cons, wipeS, setN, nkD, ndS, getN, boolsD, p_any, p_all, retOf, kN, isi_t_int, isi_t_bl, isi_t_str, sz0, sz1, sz2, sz3, sl0, sl1, sl2, sl3, c_MOST_ROW, b9, h1, h2, e]
  | r3 ha hb hc =>
    have h1 := a_single ha
    have h2 := a_single hb
    have h3 := a_single hc
    have e := eqT0 g.1 (by omega)
    have s1 := shp_of ha
    have s2 := shp_of hb
    have s3 := shp_of hc
    cases κ <;> obtain ⟨i, rfl⟩ := s1 <;> obtain ⟨j, rfl⟩ := s2 <;> obtain ⟨l, rfl⟩ := s3 <;> simp [start0, evE, evEs, evO, evC, evF, evSrc, evIn, evS, evSs, Option.bind_some, Option.map_some, Option.bind_none, Option.map_none, List.map_cons, List.map_nil, slot_c0, slot_cs, own_c0, own_cs, ownv_c0, ownv_cs, ownt_c0, tup_c0, tup_cs, view_int, view_str, view_bl, view_non, view_tup, view_lst, view_ty, view_fn, p_bin, p_neg, p_cmp, p_ix, p_len_tup, p_len_lst, p_abs, p_int, p_intb, p_isi, p_tuple_tup, p_tuple_lst, p_max, p_min, b_add_int, b_sub_int, c_lt, c_le, c_gt, c_ge, c_eq, c_ne, ix_tup, ix_lst, at0, at1, at2, at3, at4, at5, eq_int, eq_str, eq_bl, truD, set_c0, set_cs, setS_c, isi_tuple_tup, isi_tuple_lst, isi_tuple_str, isi_tuple_int, isi_tuple_non, isi_tuple_bl, isi_str_str, isi_str_tup, isi_str_int, isi_str_non, isi_str_lst, isi_str_bl, if_true_, if_false_, itemsD, loopD, loopC, asg_nm, asg_tp, asgs_nil, asgs_cons, wipeS, setN, nkD, ndS, getN, boolsD, p_any, p_all, retOf, kN, isi_t_int, isi_t_bl, isi_t_str, sz0, sz1, sz2, sz3, sl0, sl1, sl2, sl3, c_MOST_ROW, b9, h1, h2, h3, e]
end
end FH.K01
end
section
namespace FH.K01
open PySem PySem.Spec PyProof.Rows L2
theorem p_str {a : Str} : primD .str [.str a] = some (.str a) := rfl
theorem so0 : sortS [] = [] := by decide +kernel
theorem so1 {x : Str} : sortS [x] = [x] := by simp [sortS, setS', putS, isort, ins]
theorem so2 {x : Str} : sortS [x, x] = [x] := by simp [sortS, setS', putS, isort, ins]
theorem so3 {x : Str} : sortS [x, x, x] = [x] := by simp [sortS, setS', putS, isort, ins]
theorem sb0 : (0 < scanBound) = True := eq_true (by decide)
theorem sb1 : (0 + 1 < scanBound) = True := eq_true (by decide)
theorem sb2 : (1 + 1 < scanBound) = True := eq_true (by decide)
theorem sb3 : (1 < scanBound) = True := eq_true (by decide)
theorem sb4 : (2 < scanBound) = True := eq_true (by decide)
theorem sb5 : (3 < scanBound) = True := eq_true (by decide)
theorem sb6 : (4 < scanBound) = True := eq_true (by decide)
theorem eqN1 : eqD (.lst [.str "number"]) (.lst [.str "None"]) = some false := by decide +kernel
theorem eqN2 : eqD (.lst [.str "text"]) (.lst [.str "None"]) = some false := by decide +kernel
theorem eqN3 : eqD (.lst [.str "truth"]) (.lst [.str "None"]) = some false := by decide +kernel
theorem eqN0 : eqD (.lst []) (.lst [.str "None"]) = some false := by decide +kernel
section
variable {k : Nat} {μ : Store} {κ : Kd}
theorem v_lrow {ds : List D} (h : Row κ ds) : run fs (k + 5) 23 [.tup ds] μ = some (.bl true, μ) := by
  rw [run_eq (F := ⟨1, 3, b23⟩) rfl rfl]
  cases h with
  | r0 => kernel_rfl
  | r1 ha =>
    have h1 := a_plain ha
    have s1 := shp_of ha
    cases κ <;> obtain ⟨i, rfl⟩ := s1 <;> simp [start0, evE, evEs, evO, evC, evF, evSrc, evIn, evS, evSs, Option.bind_some, Option.map_some, Option.bind_none, Option.map_none, List.map_cons, List.map_nil, slot_c0, slot_cs, own_c0, own_cs, ownv_c0, ownv_cs, ownt_c0, tup_c0, tup_cs, view_int, view_str, view_bl, view_non, view_tup, view_lst, view_ty, view_fn, p_bin, p_neg, p_cmp, p_ix, p_len_tup, p_len_lst, p_abs, p_int, p_intb, p_isi, p_tuple_tup, p_tuple_lst, p_max, p_min, b_add_int, b_sub_int, c_lt, c_le, c_gt, c_ge, c_eq, c_ne, ix_tup, ix_lst, at0, at1, at2, at3, at4, at5, eq_int, eq_str, eq_bl, truD, set_c0, set_cs, setS_c, isi_tuple_tup, isi_tuple_lst, isi_tuple_str, isi_tuple_int, isi_tuple_non, isi_tuple_bl, isi_str_str, isi_str_tup, isi_str_int, isi_str_non, isi_str_lst, isi_str_bl, if_true_, if_false_, itemsD, loopD, loopC, asg_nm, asg_tp, asgs_nil, asgs_cons, wipeS, setN, nkD, ndS, getN, boolsD, p_any, p_all, retOf, kN, isi_t_int, isi_t_bl, isi_t_str, sz0, sz1, sz2, sz3, sl0, sl1, sl2, sl3, c_MOST_ROW, b23, h1, p_str, strsD, so1, sb0, sb1, sb2, sb3, sb4, sb5, sb6, eqN1, eqN2, eqN3]
  | r2 ha hb =>
    have h1 := a_plain ha
    have h2 := a_plain hb
    have s1 := shp_of ha
    have s2 := shp_of hb
    cases κ <;> obtain ⟨i, rfl⟩ := s1 <;> obtain ⟨j, rfl⟩ := s2 <;> simp [start0, evE, evEs, evO, evC, evF, evSrc, evIn, evS, evSs, Option.bind_some, Option.map_some, Option.bind_none, Option.map_none, List.map_cons, List.map_nil, slot_c0, slot_cs, own_c0, own_cs, ownv_c0, ownv_cs, ownt_c0, tup_c0, tup_cs, view_int, view_str, view_bl, view_non, view_tup, view_lst, view_ty, view_fn, p_bin, p_neg, p_cmp, p_ix, p_len_tup, p_len_lst, p_abs, p_int, p_intb, p_isi, p_tuple_tup, p_tuple_lst, p_max, p_min, b_add_int, b_sub_int, c_lt, c_le, c_gt, c_ge, c_eq, c_ne, ix_tup, ix_lst, at0, at1, at2, at3, at4, at5, eq_int, eq_str, eq_bl, truD, set_c0, set_cs, setS_c, isi_tuple_tup, isi_tuple_lst, isi_tuple_str, isi_tuple_int, isi_tuple_non, isi_tuple_bl, isi_str_str, isi_str_tup, isi_str_int, isi_str_non, isi_str_lst, isi_str_bl, if_true_, if_false_, itemsD, loopD, loopC, asg_nm, asg_tp, asgs_nil, asgs_cons, wipeS, setN, nkD, ndS, getN, boolsD, p_any, p_all, retOf, kN, isi_t_int, isi_t_bl, isi_t_str, sz0, sz1, sz2, sz3, sl0, sl1, sl2, sl3, c_MOST_ROW, b23, h1, h2, p_str, strsD, so2, sb0, sb1, sb2, sb3, sb4, sb5, sb6, eqN1, eqN2, eqN3]
  | r3 ha hb hc =>
    have h1 := a_plain ha
    have h2 := a_plain hb
    have h3 := a_plain hc
    have s1 := shp_of ha
    have s2 := shp_of hb
    have s3 := shp_of hc
    cases κ <;> obtain ⟨i, rfl⟩ := s1 <;> obtain ⟨j, rfl⟩ := s2 <;> obtain ⟨l, rfl⟩ := s3 <;> simp [start0, evE, evEs, evO, evC, evF, evSrc, evIn, evS, evSs, Option.bind_some, Option.map_some, Option.bind_none, Option.map_none, List.map_cons, List.map_nil, slot_c0, slot_cs, own_c0, own_cs, ownv_c0, ownv_cs, ownt_c0, tup_c0, tup_cs, view_int, view_str, view_bl, view_non, view_tup, view_lst, view_ty, view_fn, p_bin, p_neg, p_cmp, p_ix, p_len_tup, p_len_lst, p_abs, p_int, p_intb, p_isi, p_tuple_tup, p_tuple_lst, p_max, p_min, b_add_int, b_sub_int, c_lt, c_le, c_gt, c_ge, c_eq, c_ne, ix_tup, ix_lst, at0, at1, at2, at3, at4, at5, eq_int, eq_str, eq_bl, truD, set_c0, set_cs, setS_c, isi_tuple_tup, isi_tuple_lst, isi_tuple_str, isi_tuple_int, isi_tuple_non, isi_tuple_bl, isi_str_str, isi_str_tup, isi_str_int, isi_str_non, isi_str_lst, isi_str_bl, if_true_, if_false_, itemsD, loopD, loopC, asg_nm, asg_tp, asgs_nil, asgs_cons, wipeS, setN, nkD, ndS, getN, boolsD, p_any, p_all, retOf, kN, isi_t_int, isi_t_bl, isi_t_str, sz0, sz1, sz2, sz3, sl0, sl1, sl2, sl3, c_MOST_ROW, b23, h1, h2, h3, p_str, strsD, so3, sb0, sb1, sb2, sb3, sb4, sb5, sb6, eqN1, eqN2, eqN3]
/-- the kind that is told of a row -/
def rowK (κ : Kd) : List D → D
  | [] => .non
  | _ => .tup [.str "row", .str (kN κ)]
theorem v_rkind {ds : List D} (h : Row κ ds) : run fs (k + 5) 10 [.tup ds] μ = some (rowK κ ds, μ) ∧ run fs (k + 5) 24 [.tup ds] μ = some (rowK κ ds, μ) := by
  have g := row_good h
  have one : ∀ {a : D} {l : List D}, a ∈ atoms κ → goodL (a :: l) = true ∧ depL (a :: l) = 0 ∧ wgtL (a :: l) ≤ 603 → run fs (k + 5) 10 [.tup (a :: l)] μ = some (rowK κ (a :: l), μ) ∧ run fs (k + 5) 24 [.tup (a :: l)] μ = some (rowK κ (a :: l), μ) := fun {a l} ha g => by
    have e := eqT0 g.1 (by omega)
    have h1 := a_single ha
    have h2 := a_plain ha
    rw [run_eq (f := 10) (F := ⟨1, 1, b10⟩) rfl rfl, run_eq (f := 24) (F := ⟨1, 1, b24⟩) rfl rfl]
    constructor <;> simp [start0, evE, evEs, evO, evC, evF, evSrc, evIn, evS, evSs, Option.bind_some, Option.map_some, Option.bind_none, Option.map_none, List.map_cons, List.map_nil, slot_c0, slot_cs, own_c0, own_cs, ownv_c0, ownv_cs, ownt_c0, tup_c0, tup_cs, view_int, view_str, view_bl, view_non, view_tup, view_lst, view_ty, view_fn, p_bin, p_neg, p_cmp, p_ix, p_len_tup, p_len_lst, p_abs, p_int, p_intb, p_isi, p_tuple_tup, p_tuple_lst, p_max, p_min, b_add_int, b_sub_int, c_lt, c_le, c_gt, c_ge, c_eq, c_ne, ix_tup, ix_lst, at0, at1, at2, at3, at4, at5, eq_int, eq_str, eq_bl, truD, set_c0, set_cs, setS_c, isi_tuple_tup, isi_tuple_lst, isi_tuple_str, isi_tuple_int, isi_tuple_non, isi_tuple_bl, isi_str_str, isi_str_tup, isi_str_int, isi_str_non, isi_str_lst, isi_str_bl, if_true_, if_false_, itemsD, loopD, loopC, asg_nm, asg_tp, asgs_nil, asgs_cons, wipeS, setN, nkD, ndS, getN, boolsD, p_any, p_all, retOf, kN, isi_t_int, isi_t_bl, isi_t_str, sz0, sz1, sz2, sz3, sl0, sl1, sl2, sl3, c_MOST_ROW, b10, b24, h1, h2, e, rowK]
  cases h with
  | r0 => exact ⟨by kernel_rfl, by kernel_rfl⟩
  | r1 ha => exact one ha g
  | r2 ha hb => exact one ha g
  | r3 ha hb hc => exact one ha g
theorem t_words : (txts.all fun x => !(x == ("none" : Str)) && (!(x == ("ring" : Str)) && (!(x == ("fault" : Str)) && !(x == ("value" : Str))))) = true := by decide +kernel
theorem a_words {x : Str} (h : D.str x ∈ atoms .txt) : (x == ("none" : Str)) = false ∧ (x == ("ring" : Str)) = false ∧ (x == ("fault" : Str)) = false ∧ (x == ("value" : Str)) = false := by
  obtain ⟨y, hy, e⟩ := List.mem_map.mp h
  cases e
  have q := List.all_eq_true.mp t_words x hy
  simp only [Bool.and_eq_true, Bool.not_eq_true'] at q
  exact q
theorem in2 {x a b : Str} : inD (.str x) [.str a, .str b] = some (a == x || (b == x)) := by simp [inD, D.flat, eqF]
theorem v_rout {ds : List D} (h : Row κ ds) : run fs (k + 6) 13 [.tup ds] μ = some (.bl false, μ) ∧ run fs (k + 6) 25 [.tup ds] μ = some (.bl false, μ) := by
  have g := row_good h
  have one : ∀ {a : D} {l : List D}, a ∈ atoms κ → goodL (a :: l) = true ∧ depL (a :: l) = 0 ∧ wgtL (a :: l) ≤ 603 → run fs (k + 6) 13 [.tup (a :: l)] μ = some (.bl false, μ) ∧ run fs (k + 6) 25 [.tup (a :: l)] μ = some (.bl false, μ) := fun {a l} ha g => by
    have e := eqT0 g.1 (by omega)
    have s1 := shp_of ha
    rw [run_eq (f := 13) (F := ⟨1, 1, b13⟩) rfl rfl, run_eq (f := 25) (F := ⟨1, 1, b25⟩) rfl rfl]
    cases κ <;> obtain ⟨i, rfl⟩ := s1
    · constructor <;> simp [start0, evE, evEs, evO, evC, evF, evSrc, evIn, evS, evSs, Option.bind_some, Option.map_some, Option.bind_none, Option.map_none, List.map_cons, List.map_nil, slot_c0, slot_cs, own_c0, own_cs, ownv_c0, ownv_cs, ownt_c0, tup_c0, tup_cs, view_int, view_str, view_bl, view_non, view_tup, view_lst, view_ty, view_fn, p_bin, p_neg, p_cmp, p_ix, p_len_tup, p_len_lst, p_abs, p_int, p_intb, p_isi, p_tuple_tup, p_tuple_lst, p_max, p_min, b_add_int, b_sub_int, c_lt, c_le, c_gt, c_ge, c_eq, c_ne, ix_tup, ix_lst, at0, at1, at2, at3, at4, at5, eq_int, eq_str, eq_bl, truD, set_c0, set_cs, setS_c, isi_tuple_tup, isi_tuple_lst, isi_tuple_str, isi_tuple_int, isi_tuple_non, isi_tuple_bl, isi_str_str, isi_str_tup, isi_str_int, isi_str_non, isi_str_lst, isi_str_bl, if_true_, if_false_, itemsD, loopD, loopC, asg_nm, asg_tp, asgs_nil, asgs_cons, wipeS, setN, nkD, ndS, getN, boolsD, p_any, p_all, retOf, kN, isi_t_int, isi_t_bl, isi_t_str, sz0, sz1, sz2, sz3, sl0, sl1, sl2, sl3, c_MOST_ROW, b13, b25, e, isiD, tyN]
    · obtain ⟨w1, w2, w3, w4⟩ := a_words ha
      have w1' : (("none" : Str) == i) = false := by rw [← w1]; exact Bool.beq_comm
      have w2' : (("ring" : Str) == i) = false := by rw [← w2]; exact Bool.beq_comm
      constructor <;> simp [start0, evE, evEs, evO, evC, evF, evSrc, evIn, evS, evSs, Option.bind_some, Option.map_some, Option.bind_none, Option.map_none, List.map_cons, List.map_nil, slot_c0, slot_cs, own_c0, own_cs, ownv_c0, ownv_cs, ownt_c0, tup_c0, tup_cs, view_int, view_str, view_bl, view_non, view_tup, view_lst, view_ty, view_fn, p_bin, p_neg, p_cmp, p_ix, p_len_tup, p_len_lst, p_abs, p_int, p_intb, p_isi, p_tuple_tup, p_tuple_lst, p_max, p_min, b_add_int, b_sub_int, c_lt, c_le, c_gt, c_ge, c_eq, c_ne, ix_tup, ix_lst, at0, at1, at2, at3, at4, at5, eq_int, eq_str, eq_bl, truD, set_c0, set_cs, setS_c, isi_tuple_tup, isi_tuple_lst, isi_tuple_str, isi_tuple_int, isi_tuple_non, isi_tuple_bl, isi_str_str, isi_str_tup, isi_str_int, isi_str_non, isi_str_lst, isi_str_bl, if_true_, if_false_, itemsD, loopD, loopC, asg_nm, asg_tp, asgs_nil, asgs_cons, wipeS, setN, nkD, ndS, getN, boolsD, p_any, p_all, retOf, kN, isi_t_int, isi_t_bl, isi_t_str, sz0, sz1, sz2, sz3, sl0, sl1, sl2, sl3, c_MOST_ROW, b13, b25, e, cmpD, in2, w1, w2, w3, w4, w1', w2']
    · constructor <;> simp [start0, evE, evEs, evO, evC, evF, evSrc, evIn, evS, evSs, Option.bind_some, Option.map_some, Option.bind_none, Option.map_none, List.map_cons, List.map_nil, slot_c0, slot_cs, own_c0, own_cs, ownv_c0, ownv_cs, ownt_c0, tup_c0, tup_cs, view_int, view_str, view_bl, view_non, view_tup, view_lst, view_ty, view_fn, p_bin, p_neg, p_cmp, p_ix, p_len_tup, p_len_lst, p_abs, p_int, p_intb, p_isi, p_tuple_tup, p_tuple_lst, p_max, p_min, b_add_int, b_sub_int, c_lt, c_le, c_gt, c_ge, c_eq, c_ne, ix_tup, ix_lst, at0, at1, at2, at3, at4, at5, eq_int, eq_str, eq_bl, truD, set_c0, set_cs, setS_c, isi_tuple_tup, isi_tuple_lst, isi_tuple_str, isi_tuple_int, isi_tuple_non, isi_tuple_bl, isi_str_str, isi_str_tup, isi_str_int, isi_str_non, isi_str_lst, isi_str_bl, if_true_, if_false_, itemsD, loopD, loopC, asg_nm, asg_tp, asgs_nil, asgs_cons, wipeS, setN, nkD, ndS, getN, boolsD, p_any, p_all, retOf, kN, isi_t_int, isi_t_bl, isi_t_str, sz0, sz1, sz2, sz3, sl0, sl1, sl2, sl3, c_MOST_ROW, b13, b25, e, isiD, tyN]
  cases h with
  | r0 => exact ⟨by kernel_rfl, by kernel_rfl⟩
  | r1 ha => exact one ha g
  | r2 ha hb => exact one ha g
  | r3 ha hb hc => exact one ha g
end
end FH.K01
end
section
namespace FH.K01
open PySem PySem.Spec PyProof.Rows L2
def sameA : D → D → Bool
  | .int i, .int j => i == j
  | .str x, .str y => x == y
  | .bl p, .bl q => p == q
  | _, _ => false
def sh (d : D) : List Nat := (pyO d).shown.cps.toList
def allA : List D := atoms .num ++ (atoms .txt ++ atoms .tru)
theorem all_of {κ : Kd} {a : D} (h : a ∈ atoms κ) : a ∈ allA := by
  cases κ
  · exact List.mem_append_left _ h
  · exact List.mem_append_right _ (List.mem_append_left _ h)
  · exact List.mem_append_right _ (List.mem_append_right _ h)
def allS : List (D × List Nat) := allA.map fun a => (a, sh a)
theorem t_sh : (allS.all fun p => allS.all fun q => sameA p.1 q.1 == decide (p.2 = q.2)) = true := by decide +kernel
theorem t_sh2 : (allS.all fun p => !p.2.contains 44 && (match p.2 with | 40 :: _ => false | _ => true)) = true := by decide +kernel
section
variable {k : Nat} {μ : Store} {κ κ' : Kd}
theorem sh_inj {a b : D} (ha : a ∈ allA) (hb : b ∈ allA) : sameA a b = decide (sh a = sh b) := by
  have q := List.all_eq_true.mp t_sh (a, sh a) (List.mem_map.mpr ⟨a, ha, rfl⟩)
  have q2 := List.all_eq_true.mp q (b, sh b) (List.mem_map.mpr ⟨b, hb, rfl⟩)
  exact beq_iff_eq.mp q2
theorem sh_nc {a : D} (ha : a ∈ allA) : 44 ∉ sh a ∧ ∀ l, sh a ≠ 40 :: l := by
  have q := List.all_eq_true.mp t_sh2 (a, sh a) (List.mem_map.mpr ⟨a, ha, rfl⟩)
  simp only [Bool.and_eq_true, Bool.not_eq_true'] at q
  refine ⟨fun h => ?_, fun l e => ?_⟩
  · have := q.1
    rw [List.contains_iff_mem.mpr h] at this
    cases this
  · have := q.2
    rw [e] at this
    cases this
theorem repr_eq {d : D} (h : d.good = true) (hd : d.dep ≤ 64) (hw : d.wgt ≤ 2 ^ 18) : reprD d = some (pyO d).shown := by
  obtain ⟨s, e⟩ := reprD_good h hd hw
  unfold reprD at e ⊢
  unfold pyO
  split at e
  · rename_i x ex
    split at e
    · rename_i hc
      simp only [ex, Option.getD_some]
      rw [if_pos hc]
    · cases e
  · cases e
/-- a row's text -/
def T : List (List Nat) → List Nat
  | [] => [40, 41]
  | [x] => 40 :: (x ++ [44, 41])
  | [x, y] => 40 :: (x ++ [44, 32] ++ y ++ [41])
  | [x, y, z] => 40 :: (x ++ [44, 32] ++ y ++ [44, 32] ++ z ++ [41])
  | _ => []
theorem cps_app (x y : Str) : (x ++ y).cps.toList = x.cps.toList ++ y.cps.toList := by
  show (x.cps ++ y.cps).toList = _
  simp
theorem atom_py {a : D} (h : a ∈ atoms κ) : a.py = some (pyO a) := by
  have s := shp_of h
  cases κ <;> obtain ⟨i, rfl⟩ := s <;> rfl
theorem sh_tup {ds : List D} (h : Row κ ds) : sh (.tup ds) = T (ds.map sh) := by
  have c1 : (("(" : Str)).cps.toList = [40] := by decide +kernel
  have c2 : ((", " : Str)).cps.toList = [44, 32] := by decide +kernel
  have c3 : ((",)" : Str)).cps.toList = [44, 41] := by decide +kernel
  have c4 : ((")" : Str)).cps.toList = [41] := by decide +kernel
  cases h with
  | r0 => decide +kernel
  | @r1 a ha =>
    have e0 : (D.tup [a]).py = some (.tuple [pyO a]) := by simp [D.py, pyL, atom_py ha]
    have e : pyO (.tup [a]) = .tuple [pyO a] := by show Option.getD _ _ = _; rw [e0]; rfl
    unfold sh; rw [e]
    show (PySem.tupleText [(pyO a).shown]).cps.toList = _
    simp [PySem.tupleText, Str.join, cps_app, c1, c2, c3, c4, T]
  | @r2 a b ha hb =>
    have e0 : (D.tup [a, b]).py = some (.tuple [pyO a, pyO b]) := by simp [D.py, pyL, atom_py ha, atom_py hb]
    have e : pyO (.tup [a, b]) = .tuple [pyO a, pyO b] := by show Option.getD _ _ = _; rw [e0]; rfl
    unfold sh; rw [e]
    show (PySem.tupleText [(pyO a).shown, (pyO b).shown]).cps.toList = _
    simp [PySem.tupleText, Str.join, cps_app, c1, c2, c3, c4, T]
  | @r3 a b c ha hb hc =>
    have e0 : (D.tup [a, b, c]).py = some (.tuple [pyO a, pyO b, pyO c]) := by simp [D.py, pyL, atom_py ha, atom_py hb, atom_py hc]
    have e : pyO (.tup [a, b, c]) = .tuple [pyO a, pyO b, pyO c] := by show Option.getD _ _ = _; rw [e0]; rfl
    unfold sh; rw [e]
    show (PySem.tupleText [(pyO a).shown, (pyO b).shown, (pyO c).shown]).cps.toList = _
    simp [PySem.tupleText, Str.join, cps_app, c1, c2, c3, c4, T]
/-- cut at the commas -/
theorem cut {x y r t : List Nat} (hx : 44 ∉ x) (hy : 44 ∉ y) (e : x ++ 44 :: r = y ++ 44 :: t) : x = y ∧ r = t := by
  induction x generalizing y with
  | nil =>
    cases y with
    | nil => simpa using e
    | cons b y => simp at e; simp [e.1] at hy
  | cons a x ih =>
    cases y with
    | nil => simp at e; simp [e.1] at hx
    | cons b y =>
      simp only [List.cons_append, List.cons.injEq] at e
      simp only [List.mem_cons, not_or] at hx hy
      obtain ⟨h1, h2⟩ := ih hx.2 hy.2 e.2
      exact ⟨by rw [e.1, h1], h2⟩
theorem snoc_inj {x y : List Nat} (e : x ++ [41] = y ++ [41]) : x = y := by simpa using e
def sameR : List D → List D → Bool
  | [], [] => true
  | a :: l, b :: m => sameA a b && sameR l m
  | _, _ => false
theorem T_inj {l m : List (List Nat)} (hl : ∀ x ∈ l, 44 ∉ x) (hm : ∀ x ∈ m, 44 ∉ x) (zl : l.length ≤ 3) (zm : m.length ≤ 3) (e : T l = T m) : l = m := by
  have no : ∀ {x y : List Nat}, 44 ∉ x → x ++ 44 :: y ≠ [41] := fun {x y} h e => by
    have : (44 : Nat) ∈ x ++ 44 :: y := by simp
    rw [e] at this
    simp at this
  match l, m with
  | [], [] => rfl
  | [], [x] => simp [T] at e; exact absurd e.symm (no (hm x (by simp)))
  | [], [x, y] => simp [T] at e; exact absurd e.symm (no (hm x (by simp)))
  | [], [x, y, z] => simp [T] at e; exact absurd e.symm (no (hm x (by simp)))
  | [x], [] => simp [T] at e; exact absurd e (no (hl x (by simp)))
  | [x, y], [] => simp [T] at e; exact absurd e (no (hl x (by simp)))
  | [x, y, z], [] => simp [T] at e; exact absurd e (no (hl x (by simp)))
  | [x], [x'] =>
    simp only [T, List.cons.injEq, true_and] at e
    rw [(cut (hl x (by simp)) (hm x' (by simp)) e).1]
  | [x], [x', y'] =>
    simp [T] at e
    have := (cut (hl x (by simp)) (hm x' (by simp)) e).2
    simp at this
  | [x], [x', y', z'] =>
    simp [T] at e
    have := (cut (hl x (by simp)) (hm x' (by simp)) e).2
    simp at this
  | [x, y], [x'] =>
    simp [T] at e
    have := (cut (hl x (by simp)) (hm x' (by simp)) e).2
    simp at this
  | [x, y, z], [x'] =>
    simp [T] at e
    have := (cut (hl x (by simp)) (hm x' (by simp)) e).2
    simp at this
  | [x, y], [x', y'] =>
    simp [T] at e
    obtain ⟨h1, h2⟩ := cut (hl x (by simp)) (hm x' (by simp)) e
    simp at h2
    rw [h1, h2]
  | [x, y], [x', y', z'] =>
    simp [T] at e
    obtain ⟨h1, h2⟩ := cut (hl x (by simp)) (hm x' (by simp)) e
    simp at h2
    have h : (44 : Nat) ∈ y' ++ 44 :: 32 :: (z' ++ [41]) := by simp
    rw [← h2] at h
    simp [hl y (by simp)] at h
  | [x, y, z], [x', y'] =>
    simp [T] at e
    obtain ⟨h1, h2⟩ := cut (hl x (by simp)) (hm x' (by simp)) e
    simp at h2
    have h : (44 : Nat) ∈ y ++ 44 :: 32 :: (z ++ [41]) := by simp
    rw [h2] at h
    simp [hm y' (by simp)] at h
  | [x, y, z], [x', y', z'] =>
    simp [T] at e
    obtain ⟨h1, h2⟩ := cut (hl x (by simp)) (hm x' (by simp)) e
    simp at h2
    obtain ⟨h3, h4⟩ := cut (hl y (by simp)) (hm y' (by simp)) h2
    simp at h4
    rw [h1, h3, h4]
  | _ :: _ :: _ :: _ :: _, _ => simp at zl
  | _, _ :: _ :: _ :: _ :: _ => simp at zm
theorem sameR_sh : ∀ {l m : List D}, (∀ a ∈ l, a ∈ allA) → (∀ a ∈ m, a ∈ allA) → sameR l m = decide (l.map sh = m.map sh)
  | [], [], _, _ => rfl
  | [], _ :: _, _, _ => rfl
  | _ :: _, [], _, _ => rfl
  | a :: l, b :: m, h1, h2 => by
    unfold sameR
    rw [sh_inj (h1 a (by simp)) (h2 b (by simp)), sameR_sh (fun x hx => h1 x (by simp [hx])) (fun x hx => h2 x (by simp [hx]))]
    by_cases e1 : sh a = sh b <;> by_cases e2 : l.map sh = m.map sh <;> simp [e1, e2]
theorem row_all {ds : List D} (h : Row κ ds) : (∀ a ∈ ds, a ∈ allA) ∧ ds.length ≤ 3 := by
  cases h with
  | r0 => simp
  | r1 ha => simp [all_of ha]
  | r2 ha hb => simp [all_of ha, all_of hb]
  | r3 ha hb hc => simp [all_of ha, all_of hb, all_of hc]
inductive Val : Bool → Kd → D → Prop
  | at_ {κ : Kd} {a : D} : a ∈ atoms κ → Val false κ a
  | row {κ : Kd} {ds : List D} : Row κ ds → Val true κ (.tup ds)
def sameV : D → D → Bool
  | .tup l, .tup m => sameR l m
  | .tup _, _ => false
  | _, .tup _ => false
  | a, b => sameA a b
theorem sameV_at {a b : D} (ha : a ∈ atoms κ) (hb : b ∈ atoms κ') : sameV a b = sameA a b := by
  have s1 := shp_of ha
  have s2 := shp_of hb
  cases κ <;> cases κ' <;> obtain ⟨i, rfl⟩ := s1 <;> obtain ⟨j, rfl⟩ := s2 <;> rfl
theorem T_head {l : List (List Nat)} (h : l.length ≤ 3) : ∃ r, T l = 40 :: r := by
  match l with
  | [] | [_] | [_, _] | [_, _, _] => exact ⟨_, rfl⟩
  | _ :: _ :: _ :: _ :: _ => simp at h
/-- are the same where they are shown alike -/
theorem same_repr {b b' : Bool} {d e : D} (h : Val b κ d) (g : Val b' κ' e) : sameV d e = decide (sh d = sh e) := by
  cases h with
  | at_ ha =>
    cases g with
    | at_ hb => rw [sameV_at ha hb]; exact sh_inj (all_of ha) (all_of hb)
    | row hb =>
      rename_i ds
      have e1 : sameV d (.tup ds) = false := by
        have s1 := shp_of ha
        cases κ <;> obtain ⟨i, rfl⟩ := s1 <;> rfl
      rw [e1, sh_tup hb]
      obtain ⟨r, hr⟩ := T_head (l := ds.map sh) (by rw [List.length_map]; exact (row_all hb).2)
      rw [hr]
      exact (decide_eq_false ((sh_nc (all_of ha)).2 r)).symm
  | row ha =>
    rename_i ds
    cases g with
    | at_ hb =>
      have e1 : sameV (.tup ds) e = false := by
        have s1 := shp_of hb
        cases κ' <;> obtain ⟨i, rfl⟩ := s1 <;> rfl
      rw [e1, sh_tup ha]
      obtain ⟨r, hr⟩ := T_head (l := ds.map sh) (by rw [List.length_map]; exact (row_all ha).2)
      rw [hr]
      exact (decide_eq_false fun z => (sh_nc (all_of hb)).2 r z.symm).symm
    | row hb =>
      rename_i es
      show sameR ds es = _
      obtain ⟨a1, a2⟩ := row_all ha
      obtain ⟨b1, b2⟩ := row_all hb
      rw [sameR_sh a1 b1, sh_tup ha, sh_tup hb]
      have inj : T (ds.map sh) = T (es.map sh) ↔ ds.map sh = es.map sh := ⟨T_inj (fun x hx => by obtain ⟨a, h, rfl⟩ := List.mem_map.mp hx; exact (sh_nc (a1 a h)).1) (fun x hx => by obtain ⟨a, h, rfl⟩ := List.mem_map.mp hx; exact (sh_nc (b1 a h)).1) (by simpa using a2) (by simpa using b2), fun z => by rw [z]⟩
      exact decide_eq_decide.mpr inj.symm
end
end FH.K01
end
section
namespace FH.K01
open PySem PySem.Spec PyProof.Rows L2
theorem isi_t_tup {i : List D} : isiD (.tup i) "tuple" = some true := rfl
theorem ne_number_text : (Str.ofString "number" = Str.ofString "text") = False := eq_false (by decide +kernel)
theorem ne_number_textb : (Str.ofString "number" == Str.ofString "text") = false := by decide +kernel
theorem ne_number_truth : (Str.ofString "number" = Str.ofString "truth") = False := eq_false (by decide +kernel)
theorem ne_number_truthb : (Str.ofString "number" == Str.ofString "truth") = false := by decide +kernel
theorem ne_text_number : (Str.ofString "text" = Str.ofString "number") = False := eq_false (by decide +kernel)
theorem ne_text_numberb : (Str.ofString "text" == Str.ofString "number") = false := by decide +kernel
theorem ne_text_truth : (Str.ofString "text" = Str.ofString "truth") = False := eq_false (by decide +kernel)
theorem ne_text_truthb : (Str.ofString "text" == Str.ofString "truth") = false := by decide +kernel
theorem ne_truth_number : (Str.ofString "truth" = Str.ofString "number") = False := eq_false (by decide +kernel)
theorem ne_truth_numberb : (Str.ofString "truth" == Str.ofString "number") = false := by decide +kernel
theorem ne_truth_text : (Str.ofString "truth" = Str.ofString "text") = False := eq_false (by decide +kernel)
theorem ne_truth_textb : (Str.ofString "truth" == Str.ofString "text") = false := by decide +kernel
section
variable {k : Nat} {μ : Store} {κ κ' : Kd}
theorem s_atoms {a b : D} (ha : a ∈ atoms κ) (hb : b ∈ atoms κ') (k : Nat) (μ : Store) : run fs (k + 4) 12 [a, b] μ = some (.bl (sameA a b), μ) := by
  rw [run_eq (F := ⟨2, 4, b12⟩) rfl rfl]
  have h1 := a_single ha
  have h2 := a_single hb
  have s1 := shp_of ha
  have s2 := shp_of hb
  cases κ <;> cases κ' <;> obtain ⟨i, rfl⟩ := s1 <;> obtain ⟨j, rfl⟩ := s2 <;> simp [start0, evE, evEs, evO, evC, evF, evSrc, evIn, evS, evSs, Option.bind_some, Option.map_some, Option.bind_none, Option.map_none, List.map_cons, List.map_nil, slot_c0, slot_cs, own_c0, own_cs, ownv_c0, ownv_cs, ownt_c0, tup_c0, tup_cs, view_int, view_str, view_bl, view_non, view_tup, view_lst, view_ty, view_fn, p_bin, p_neg, p_cmp, p_ix, p_len_tup, p_len_lst, p_abs, p_int, p_intb, p_isi, p_tuple_tup, p_tuple_lst, p_max, p_min, b_add_int, b_sub_int, c_lt, c_le, c_gt, c_ge, c_eq, c_ne, ix_tup, ix_lst, at0, at1, at2, at3, at4, at5, eq_int, eq_str, eq_bl, truD, set_c0, set_cs, setS_c, isi_tuple_tup, isi_tuple_lst, isi_tuple_str, isi_tuple_int, isi_tuple_non, isi_tuple_bl, isi_str_str, isi_str_tup, isi_str_int, isi_str_non, isi_str_lst, isi_str_bl, if_true_, if_false_, itemsD, loopD, loopC, asg_nm, asg_tp, asgs_nil, asgs_cons, wipeS, setN, nkD, ndS, getN, boolsD, p_any, p_all, retOf, kN, isi_t_int, isi_t_bl, isi_t_str, sz0, sz1, sz2, sz3, sl0, sl1, sl2, sl3, c_MOST_ROW, b12, h1, h2, sameA, ne_number_text, ne_number_textb, ne_number_truth, ne_number_truthb, ne_text_number, ne_text_numberb, ne_text_truth, ne_text_truthb, ne_truth_number, ne_truth_numberb, ne_truth_text, ne_truth_textb]
theorem v_atrow {a : D} {ds : List D} (ha : a ∈ atoms κ) : run fs (k + 4) 12 [a, .tup ds] μ = some (.bl false, μ) ∧ run fs (k + 4) 12 [.tup ds, a] μ = some (.bl false, μ) := by
  rw [run_eq (F := ⟨2, 4, b12⟩) rfl rfl, run_eq (F := ⟨2, 4, b12⟩) rfl rfl]
  have s1 := shp_of ha
  cases κ <;> obtain ⟨i, rfl⟩ := s1 <;> constructor <;> simp [start0, evE, evEs, evO, evC, evF, evSrc, evIn, evS, evSs, Option.bind_some, Option.map_some, Option.bind_none, Option.map_none, List.map_cons, List.map_nil, slot_c0, slot_cs, own_c0, own_cs, ownv_c0, ownv_cs, ownt_c0, tup_c0, tup_cs, view_int, view_str, view_bl, view_non, view_tup, view_lst, view_ty, view_fn, p_bin, p_neg, p_cmp, p_ix, p_len_tup, p_len_lst, p_abs, p_int, p_intb, p_isi, p_tuple_tup, p_tuple_lst, p_max, p_min, b_add_int, b_sub_int, c_lt, c_le, c_gt, c_ge, c_eq, c_ne, ix_tup, ix_lst, at0, at1, at2, at3, at4, at5, eq_int, eq_str, eq_bl, truD, set_c0, set_cs, setS_c, isi_tuple_tup, isi_tuple_lst, isi_tuple_str, isi_tuple_int, isi_tuple_non, isi_tuple_bl, isi_str_str, isi_str_tup, isi_str_int, isi_str_non, isi_str_lst, isi_str_bl, if_true_, if_false_, itemsD, loopD, loopC, asg_nm, asg_tp, asgs_nil, asgs_cons, wipeS, setN, nkD, ndS, getN, boolsD, p_any, p_all, retOf, kN, isi_t_int, isi_t_bl, isi_t_str, sz0, sz1, sz2, sz3, sl0, sl1, sl2, sl3, c_MOST_ROW, b12]
theorem v_rowrow {l m : List D} (hl : Row κ l) (hm : Row κ' m) : run fs (k + 5) 12 [.tup l, .tup m] μ = some (.bl (sameR l m), μ) := by
  rw [run_eq (F := ⟨2, 4, b12⟩) rfl rfl]
  cases hl with
  | r0 => cases hm <;> simp [start0, evE, evEs, evO, evC, evF, evSrc, evIn, evS, evSs, Option.bind_some, Option.map_some, Option.bind_none, Option.map_none, List.map_cons, List.map_nil, slot_c0, slot_cs, own_c0, own_cs, ownv_c0, ownv_cs, ownt_c0, tup_c0, tup_cs, view_int, view_str, view_bl, view_non, view_tup, view_lst, view_ty, view_fn, p_bin, p_neg, p_cmp, p_ix, p_len_tup, p_len_lst, p_abs, p_int, p_intb, p_isi, p_tuple_tup, p_tuple_lst, p_max, p_min, b_add_int, b_sub_int, c_lt, c_le, c_gt, c_ge, c_eq, c_ne, ix_tup, ix_lst, at0, at1, at2, at3, at4, at5, eq_int, eq_str, eq_bl, truD, set_c0, set_cs, setS_c, isi_tuple_tup, isi_tuple_lst, isi_tuple_str, isi_tuple_int, isi_tuple_non, isi_tuple_bl, isi_str_str, isi_str_tup, isi_str_int, isi_str_non, isi_str_lst, isi_str_bl, if_true_, if_false_, itemsD, loopD, loopC, asg_nm, asg_tp, asgs_nil, asgs_cons, wipeS, setN, nkD, ndS, getN, boolsD, p_any, p_all, retOf, kN, isi_t_int, isi_t_bl, isi_t_str, sz0, sz1, sz2, sz3, sl0, sl1, sl2, sl3, c_MOST_ROW, b12, zipD, seqD, zip2, sameR]
  | r1 a1 =>
    cases hm with
    | r1 b1 => have h1 := s_atoms a1 b1; simp [start0, evE, evEs, evO, evC, evF, evSrc, evIn, evS, evSs, Option.bind_some, Option.map_some, Option.bind_none, Option.map_none, List.map_cons, List.map_nil, slot_c0, slot_cs, own_c0, own_cs, ownv_c0, ownv_cs, ownt_c0, tup_c0, tup_cs, view_int, view_str, view_bl, view_non, view_tup, view_lst, view_ty, view_fn, p_bin, p_neg, p_cmp, p_ix, p_len_tup, p_len_lst, p_abs, p_int, p_intb, p_isi, p_tuple_tup, p_tuple_lst, p_max, p_min, b_add_int, b_sub_int, c_lt, c_le, c_gt, c_ge, c_eq, c_ne, ix_tup, ix_lst, at0, at1, at2, at3, at4, at5, eq_int, eq_str, eq_bl, truD, set_c0, set_cs, setS_c, isi_tuple_tup, isi_tuple_lst, isi_tuple_str, isi_tuple_int, isi_tuple_non, isi_tuple_bl, isi_str_str, isi_str_tup, isi_str_int, isi_str_non, isi_str_lst, isi_str_bl, if_true_, if_false_, itemsD, loopD, loopC, asg_nm, asg_tp, asgs_nil, asgs_cons, wipeS, setN, nkD, ndS, getN, boolsD, p_any, p_all, retOf, kN, isi_t_int, isi_t_bl, isi_t_str, sz0, sz1, sz2, sz3, sl0, sl1, sl2, sl3, c_MOST_ROW, b12, zipD, seqD, zip2, sameR, h1]
    | _ => simp [start0, evE, evEs, evO, evC, evF, evSrc, evIn, evS, evSs, Option.bind_some, Option.map_some, Option.bind_none, Option.map_none, List.map_cons, List.map_nil, slot_c0, slot_cs, own_c0, own_cs, ownv_c0, ownv_cs, ownt_c0, tup_c0, tup_cs, view_int, view_str, view_bl, view_non, view_tup, view_lst, view_ty, view_fn, p_bin, p_neg, p_cmp, p_ix, p_len_tup, p_len_lst, p_abs, p_int, p_intb, p_isi, p_tuple_tup, p_tuple_lst, p_max, p_min, b_add_int, b_sub_int, c_lt, c_le, c_gt, c_ge, c_eq, c_ne, ix_tup, ix_lst, at0, at1, at2, at3, at4, at5, eq_int, eq_str, eq_bl, truD, set_c0, set_cs, setS_c, isi_tuple_tup, isi_tuple_lst, isi_tuple_str, isi_tuple_int, isi_tuple_non, isi_tuple_bl, isi_str_str, isi_str_tup, isi_str_int, isi_str_non, isi_str_lst, isi_str_bl, if_true_, if_false_, itemsD, loopD, loopC, asg_nm, asg_tp, asgs_nil, asgs_cons, wipeS, setN, nkD, ndS, getN, boolsD, p_any, p_all, retOf, kN, isi_t_int, isi_t_bl, isi_t_str, sz0, sz1, sz2, sz3, sl0, sl1, sl2, sl3, c_MOST_ROW, b12, zipD, seqD, zip2, sameR]
  | r2 a1 a2 =>
    cases hm with
    | r2 b1 b2 => have h1 := s_atoms a1 b1; have h2 := s_atoms a2 b2; simp [start0, evE, evEs, evO, evC, evF, evSrc, evIn, evS, evSs, Option.bind_some, Option.map_some, Option.bind_none, Option.map_none, List.map_cons, List.map_nil, slot_c0, slot_cs, own_c0, own_cs, ownv_c0, ownv_cs, ownt_c0, tup_c0, tup_cs, view_int, view_str, view_bl, view_non, view_tup, view_lst, view_ty, view_fn, p_bin, p_neg, p_cmp, p_ix, p_len_tup, p_len_lst, p_abs, p_int, p_intb, p_isi, p_tuple_tup, p_tuple_lst, p_max, p_min, b_add_int, b_sub_int, c_lt, c_le, c_gt, c_ge, c_eq, c_ne, ix_tup, ix_lst, at0, at1, at2, at3, at4, at5, eq_int, eq_str, eq_bl, truD, set_c0, set_cs, setS_c, isi_tuple_tup, isi_tuple_lst, isi_tuple_str, isi_tuple_int, isi_tuple_non, isi_tuple_bl, isi_str_str, isi_str_tup, isi_str_int, isi_str_non, isi_str_lst, isi_str_bl, if_true_, if_false_, itemsD, loopD, loopC, asg_nm, asg_tp, asgs_nil, asgs_cons, wipeS, setN, nkD, ndS, getN, boolsD, p_any, p_all, retOf, kN, isi_t_int, isi_t_bl, isi_t_str, sz0, sz1, sz2, sz3, sl0, sl1, sl2, sl3, c_MOST_ROW, b12, zipD, seqD, zip2, sameR, h1, h2]
    | _ => simp [start0, evE, evEs, evO, evC, evF, evSrc, evIn, evS, evSs, Option.bind_some, Option.map_some, Option.bind_none, Option.map_none, List.map_cons, List.map_nil, slot_c0, slot_cs, own_c0, own_cs, ownv_c0, ownv_cs, ownt_c0, tup_c0, tup_cs, view_int, view_str, view_bl, view_non, view_tup, view_lst, view_ty, view_fn, p_bin, p_neg, p_cmp, p_ix, p_len_tup, p_len_lst, p_abs, p_int, p_intb, p_isi, p_tuple_tup, p_tuple_lst, p_max, p_min, b_add_int, b_sub_int, c_lt, c_le, c_gt, c_ge, c_eq, c_ne, ix_tup, ix_lst, at0, at1, at2, at3, at4, at5, eq_int, eq_str, eq_bl, truD, set_c0, set_cs, setS_c, isi_tuple_tup, isi_tuple_lst, isi_tuple_str, isi_tuple_int, isi_tuple_non, isi_tuple_bl, isi_str_str, isi_str_tup, isi_str_int, isi_str_non, isi_str_lst, isi_str_bl, if_true_, if_false_, itemsD, loopD, loopC, asg_nm, asg_tp, asgs_nil, asgs_cons, wipeS, setN, nkD, ndS, getN, boolsD, p_any, p_all, retOf, kN, isi_t_int, isi_t_bl, isi_t_str, sz0, sz1, sz2, sz3, sl0, sl1, sl2, sl3, c_MOST_ROW, b12, zipD, seqD, zip2, sameR]
  | r3 a1 a2 a3 =>
    cases hm with
    | r3 b1 b2 b3 => have h1 := s_atoms a1 b1; have h2 := s_atoms a2 b2; have h3 := s_atoms a3 b3; simp [start0, evE, evEs, evO, evC, evF, evSrc, evIn, evS, evSs, Option.bind_some, Option.map_some, Option.bind_none, Option.map_none, List.map_cons, List.map_nil, slot_c0, slot_cs, own_c0, own_cs, ownv_c0, ownv_cs, ownt_c0, tup_c0, tup_cs, view_int, view_str, view_bl, view_non, view_tup, view_lst, view_ty, view_fn, p_bin, p_neg, p_cmp, p_ix, p_len_tup, p_len_lst, p_abs, p_int, p_intb, p_isi, p_tuple_tup, p_tuple_lst, p_max, p_min, b_add_int, b_sub_int, c_lt, c_le, c_gt, c_ge, c_eq, c_ne, ix_tup, ix_lst, at0, at1, at2, at3, at4, at5, eq_int, eq_str, eq_bl, truD, set_c0, set_cs, setS_c, isi_tuple_tup, isi_tuple_lst, isi_tuple_str, isi_tuple_int, isi_tuple_non, isi_tuple_bl, isi_str_str, isi_str_tup, isi_str_int, isi_str_non, isi_str_lst, isi_str_bl, if_true_, if_false_, itemsD, loopD, loopC, asg_nm, asg_tp, asgs_nil, asgs_cons, wipeS, setN, nkD, ndS, getN, boolsD, p_any, p_all, retOf, kN, isi_t_int, isi_t_bl, isi_t_str, sz0, sz1, sz2, sz3, sl0, sl1, sl2, sl3, c_MOST_ROW, b12, zipD, seqD, zip2, sameR, h1, h2, h3]
    | _ => simp [start0, evE, evEs, evO, evC, evF, evSrc, evIn, evS, evSs, Option.bind_some, Option.map_some, Option.bind_none, Option.map_none, List.map_cons, List.map_nil, slot_c0, slot_cs, own_c0, own_cs, ownv_c0, ownv_cs, ownt_c0, tup_c0, tup_cs, view_int, view_str, view_bl, view_non, view_tup, view_lst, view_ty, view_fn, p_bin, p_neg, p_cmp, p_ix, p_len_tup, p_len_lst, p_abs, p_int, p_intb, p_isi, p_tuple_tup, p_tuple_lst, p_max, p_min, b_add_int, b_sub_int, c_lt, c_le, c_gt, c_ge, c_eq, c_ne, ix_tup, ix_lst, at0, at1, at2, at3, at4, at5, eq_int, eq_str, eq_bl, truD, set_c0, set_cs, setS_c, isi_tuple_tup, isi_tuple_lst, isi_tuple_str, isi_tuple_int, isi_tuple_non, isi_tuple_bl, isi_str_str, isi_str_tup, isi_str_int, isi_str_non, isi_str_lst, isi_str_bl, if_true_, if_false_, itemsD, loopD, loopC, asg_nm, asg_tp, asgs_nil, asgs_cons, wipeS, setN, nkD, ndS, getN, boolsD, p_any, p_all, retOf, kN, isi_t_int, isi_t_bl, isi_t_str, sz0, sz1, sz2, sz3, sl0, sl1, sl2, sl3, c_MOST_ROW, b12, zipD, seqD, zip2, sameR]
end
end FH.K01
end
section
namespace FH.K01
open PySem PySem.Spec PyProof.Rows L2
section
variable {k : Nat} {μ : Store} {κ κ' : Kd} {b b' : Bool}
def keyV : D → D
  | .tup ds => .tup (ds.map keyA)
  | d => keyA d
theorem keyV_at {a : D} (h : a ∈ atoms κ) : keyV a = keyA a := by
  have s := shp_of h
  cases κ <;> obtain ⟨i, rfl⟩ := s <;> rfl
theorem v_key {d : D} (h : Val b κ d) (k : Nat) (μ : Store) : run fs (k + 5) 11 [d] μ = some (keyV d, μ) := by
  cases h with
  | at_ ha => rw [keyV_at ha]; exact a_key ha (k + 1) μ
  | row hr =>
    rw [run_eq (F := ⟨1, 2, b11⟩) rfl rfl]
    cases hr with
    | r0 => simp [start0, evE, evEs, evO, evC, evF, evSrc, evIn, evS, evSs, Option.bind_some, Option.map_some, Option.bind_none, Option.map_none, List.map_cons, List.map_nil, slot_c0, slot_cs, own_c0, own_cs, ownv_c0, ownv_cs, ownt_c0, tup_c0, tup_cs, view_int, view_str, view_bl, view_non, view_tup, view_lst, view_ty, view_fn, p_bin, p_neg, p_cmp, p_ix, p_len_tup, p_len_lst, p_abs, p_int, p_intb, p_isi, p_tuple_tup, p_tuple_lst, p_max, p_min, b_add_int, b_sub_int, c_lt, c_le, c_gt, c_ge, c_eq, c_ne, ix_tup, ix_lst, at0, at1, at2, at3, at4, at5, eq_int, eq_str, eq_bl, truD, set_c0, set_cs, setS_c, isi_tuple_tup, isi_tuple_lst, isi_tuple_str, isi_tuple_int, isi_tuple_non, isi_tuple_bl, isi_str_str, isi_str_tup, isi_str_int, isi_str_non, isi_str_lst, isi_str_bl, if_true_, if_false_, itemsD, loopD, loopC, asg_nm, asg_tp, asgs_nil, asgs_cons, wipeS, setN, nkD, ndS, getN, boolsD, p_any, p_all, retOf, kN, isi_t_int, isi_t_bl, isi_t_str, sz0, sz1, sz2, sz3, sl0, sl1, sl2, sl3, c_MOST_ROW, b11, keyV]
    | r1 a1 => have h1 := a_key a1; simp [start0, evE, evEs, evO, evC, evF, evSrc, evIn, evS, evSs, Option.bind_some, Option.map_some, Option.bind_none, Option.map_none, List.map_cons, List.map_nil, slot_c0, slot_cs, own_c0, own_cs, ownv_c0, ownv_cs, ownt_c0, tup_c0, tup_cs, view_int, view_str, view_bl, view_non, view_tup, view_lst, view_ty, view_fn, p_bin, p_neg, p_cmp, p_ix, p_len_tup, p_len_lst, p_abs, p_int, p_intb, p_isi, p_tuple_tup, p_tuple_lst, p_max, p_min, b_add_int, b_sub_int, c_lt, c_le, c_gt, c_ge, c_eq, c_ne, ix_tup, ix_lst, at0, at1, at2, at3, at4, at5, eq_int, eq_str, eq_bl, truD, set_c0, set_cs, setS_c, isi_tuple_tup, isi_tuple_lst, isi_tuple_str, isi_tuple_int, isi_tuple_non, isi_tuple_bl, isi_str_str, isi_str_tup, isi_str_int, isi_str_non, isi_str_lst, isi_str_bl, if_true_, if_false_, itemsD, loopD, loopC, asg_nm, asg_tp, asgs_nil, asgs_cons, wipeS, setN, nkD, ndS, getN, boolsD, p_any, p_all, retOf, kN, isi_t_int, isi_t_bl, isi_t_str, sz0, sz1, sz2, sz3, sl0, sl1, sl2, sl3, c_MOST_ROW, b11, keyV, h1]
    | r2 a1 a2 => have h1 := a_key a1; have h2 := a_key a2; simp [start0, evE, evEs, evO, evC, evF, evSrc, evIn, evS, evSs, Option.bind_some, Option.map_some, Option.bind_none, Option.map_none, List.map_cons, List.map_nil, slot_c0, slot_cs, own_c0, own_cs, ownv_c0, ownv_cs, ownt_c0, tup_c0, tup_cs, view_int, view_str, view_bl, view_non, view_tup, view_lst, view_ty, view_fn, p_bin, p_neg, p_cmp, p_ix, p_len_tup, p_len_lst, p_abs, p_int, p_intb, p_isi, p_tuple_tup, p_tuple_lst, p_max, p_min, b_add_int, b_sub_int, c_lt, c_le, c_gt, c_ge, c_eq, c_ne, ix_tup, ix_lst, at0, at1, at2, at3, at4, at5, eq_int, eq_str, eq_bl, truD, set_c0, set_cs, setS_c, isi_tuple_tup, isi_tuple_lst, isi_tuple_str, isi_tuple_int, isi_tuple_non, isi_tuple_bl, isi_str_str, isi_str_tup, isi_str_int, isi_str_non, isi_str_lst, isi_str_bl, if_true_, if_false_, itemsD, loopD, loopC, asg_nm, asg_tp, asgs_nil, asgs_cons, wipeS, setN, nkD, ndS, getN, boolsD, p_any, p_all, retOf, kN, isi_t_int, isi_t_bl, isi_t_str, sz0, sz1, sz2, sz3, sl0, sl1, sl2, sl3, c_MOST_ROW, b11, keyV, h1, h2]
    | r3 a1 a2 a3 => have h1 := a_key a1; have h2 := a_key a2; have h3 := a_key a3; simp [start0, evE, evEs, evO, evC, evF, evSrc, evIn, evS, evSs, Option.bind_some, Option.map_some, Option.bind_none, Option.map_none, List.map_cons, List.map_nil, slot_c0, slot_cs, own_c0, own_cs, ownv_c0, ownv_cs, ownt_c0, tup_c0, tup_cs, view_int, view_str, view_bl, view_non, view_tup, view_lst, view_ty, view_fn, p_bin, p_neg, p_cmp, p_ix, p_len_tup, p_len_lst, p_abs, p_int, p_intb, p_isi, p_tuple_tup, p_tuple_lst, p_max, p_min, b_add_int, b_sub_int, c_lt, c_le, c_gt, c_ge, c_eq, c_ne, ix_tup, ix_lst, at0, at1, at2, at3, at4, at5, eq_int, eq_str, eq_bl, truD, set_c0, set_cs, setS_c, isi_tuple_tup, isi_tuple_lst, isi_tuple_str, isi_tuple_int, isi_tuple_non, isi_tuple_bl, isi_str_str, isi_str_tup, isi_str_int, isi_str_non, isi_str_lst, isi_str_bl, if_true_, if_false_, itemsD, loopD, loopC, asg_nm, asg_tp, asgs_nil, asgs_cons, wipeS, setN, nkD, ndS, getN, boolsD, p_any, p_all, retOf, kN, isi_t_int, isi_t_bl, isi_t_str, sz0, sz1, sz2, sz3, sl0, sl1, sl2, sl3, c_MOST_ROW, b11, keyV, h1, h2, h3]
/-- an atom's sign -/
def sg : D → Int ⊕ List Nat
  | .int i => .inl i
  | .str x => .inr x.cps.toList
  | .bl b => .inl (if b = true then 1 else 0)
  | _ => .inl 0
theorem tk_at {a : D} (h : a ∈ atoms κ) : tk a = [sg a] := by
  have s := shp_of h
  cases κ <;> obtain ⟨i, rfl⟩ := s <;> simp [tk, pyO, D.py, PySem.W.keyToks, sg]
theorem py_key {a : D} (h : a ∈ atoms κ) : (keyA a).py = some (pyO (keyA a)) ∧ tk (keyA a) = [.inl 1, sg a, .inl 0] := by
  have s := shp_of h
  cases κ <;> obtain ⟨i, rfl⟩ := s
  · exact ⟨rfl, by simp [tk, pyO, keyA, D.py, pyL, PySem.W.keyToks, PySem.W.keyToksAll, sg]⟩
  · exact ⟨rfl, by simp [tk, pyO, keyA, D.py, pyL, PySem.W.keyToks, PySem.W.keyToksAll, sg]⟩
  · refine ⟨rfl, ?_⟩
    cases i <;> simp [tk, pyO, keyA, D.py, pyL, PySem.W.keyToks, PySem.W.keyToksAll, sg, b2i]
theorem sg_inj {a c : D} (ha : a ∈ atoms κ) (hc : c ∈ atoms κ) (e : sg a = sg c) : a = c := by
  have s1 := shp_of ha
  have s2 := shp_of hc
  cases κ <;> obtain ⟨i, rfl⟩ := s1 <;> obtain ⟨j, rfl⟩ := s2
  · simp only [sg, Sum.inl.injEq] at e; rw [e]
  · simp only [sg, Sum.inr.injEq] at e; rw [PySem.W.str_of_cps e]
  · cases i <;> cases j <;> simp [sg] at e <;> rfl
def R0 : List D → List (Int ⊕ List Nat)
  | [] => [.inl 0]
  | a :: l => .inl 1 :: sg a :: R0 l
def R1 : List D → List (Int ⊕ List Nat)
  | [] => [.inl 0]
  | a :: l => .inl 1 :: .inl 1 :: sg a :: .inl 0 :: R1 l
theorem R_same : ∀ l m : List D, tlt (R1 l) (R1 m) = tlt (R0 l) (R0 m)
  | [], [] => rfl
  | [], _ :: _ => by
    show PyProof.Rows.lexLt itemOrd _ _ = PyProof.Rows.lexLt itemOrd _ _
    rw [R0, R0, R1, R1, PyProof.Rows.lex_diff (O := itemOrd) (by simp), PyProof.Rows.lex_diff (O := itemOrd) (by simp)]
  | _ :: _, [] => by
    show PyProof.Rows.lexLt itemOrd _ _ = PyProof.Rows.lexLt itemOrd _ _
    rw [R0, R0, R1, R1, PyProof.Rows.lex_diff (O := itemOrd) (by simp), PyProof.Rows.lex_diff (O := itemOrd) (by simp)]
  | a :: l, c :: m => by
    have ih := R_same l m
    show PyProof.Rows.lexLt itemOrd _ _ = PyProof.Rows.lexLt itemOrd _ _
    rw [R0, R0, R1, R1, PyProof.Rows.lex_self (O := itemOrd), PyProof.Rows.lex_self (O := itemOrd), PyProof.Rows.lex_self (O := itemOrd)]
    by_cases e : sg a = sg c
    · rw [e, PyProof.Rows.lex_self (O := itemOrd), PyProof.Rows.lex_self (O := itemOrd), PyProof.Rows.lex_self (O := itemOrd)]
      exact ih
    · rw [PyProof.Rows.lex_diff (O := itemOrd) e, PyProof.Rows.lex_diff (O := itemOrd) e]
theorem R0_inj : ∀ {l m : List D}, (∀ a ∈ l, a ∈ atoms κ) → (∀ a ∈ m, a ∈ atoms κ) → R0 l = R0 m → l = m
  | [], [], _, _, _ => rfl
  | [], _ :: _, _, _, e => by simp [R0] at e
  | _ :: _, [], _, _, e => by simp [R0] at e
  | a :: l, c :: m, h1, h2, e => by
    simp only [R0, List.cons.injEq, true_and] at e
    rw [sg_inj (h1 a (by simp)) (h2 c (by simp)) e.1, R0_inj (fun x hx => h1 x (by simp [hx])) (fun x hx => h2 x (by simp [hx])) e.2]
theorem row_mem {ds : List D} (h : Row κ ds) : ∀ a ∈ ds, a ∈ atoms κ := by
  cases h with
  | r0 => simp
  | r1 ha => simp [ha]
  | r2 ha hb => simp [ha, hb]
  | r3 ha hb hc => simp [ha, hb, hc]
theorem pyO_tup {ds : List D} (h : ∀ a ∈ ds, a.py = some (pyO a)) : (D.tup ds).py = some (.tuple (ds.map pyO)) ∧ pyO (.tup ds) = .tuple (ds.map pyO) := by
  have e : (D.tup ds).py = some (.tuple (ds.map pyO)) := by simp only [D.py, pyL_of h, Option.map_some]
  exact ⟨e, by show Option.getD _ _ = _; rw [e]; rfl⟩
theorem tk_row {ds : List D} (h : ∀ a ∈ ds, a ∈ atoms κ) : tk (.tup ds) = R0 ds := by
  show PySem.W.keyToks (pyO (.tup ds)) = _
  rw [(pyO_tup fun a ha => atom_py (h a ha)).2]
  show PySem.W.keyToksAll _ = _
  induction ds with
  | nil => simp [PySem.W.keyToksAll, R0]
  | cons a l ih =>
    rw [List.map_cons, PySem.W.toks_all_cons, ih fun x hx => h x (by simp [hx])]
    have := tk_at (h a (by simp))
    unfold tk at this
    rw [this]; rfl
theorem tk_rowkey {ds : List D} (h : ∀ a ∈ ds, a ∈ atoms κ) : tk (.tup (ds.map keyA)) = R1 ds := by
  show PySem.W.keyToks (pyO (.tup _)) = _
  rw [(pyO_tup fun a ha => by obtain ⟨x, hx, rfl⟩ := List.mem_map.mp ha; exact (py_key (h x hx)).1).2]
  show PySem.W.keyToksAll _ = _
  induction ds with
  | nil => simp [PySem.W.keyToksAll, R1]
  | cons a l ih =>
    rw [List.map_cons, List.map_cons, PySem.W.toks_all_cons, ih fun x hx => h x (by simp [hx])]
    have := (py_key (h a (by simp))).2
    unfold tk at this
    rw [this]; rfl
/-- values of one kind: what is wanted for sorting -/
theorem val_py {d : D} (h : Val b κ d) : d.py = some (pyO d) ∧ (keyV d).py = some (pyO (keyV d)) := by
  cases h with
  | at_ ha => rw [keyV_at ha]; exact ⟨atom_py ha, (py_key ha).1⟩
  | row hr =>
    have hm := row_mem hr
    refine ⟨?_, ?_⟩
    · have e := pyO_tup fun a ha => atom_py (hm a ha)
      rw [e.2]; exact e.1
    · have e := pyO_tup (ds := List.map keyA _) fun a ha => by obtain ⟨x, hx, rfl⟩ := List.mem_map.mp ha; exact (py_key (hm x hx)).1
      show (D.tup _).py = some (pyO (.tup _))
      rw [e.2]; exact e.1
theorem val_mono {u v : D} (hu : Val b κ u) (hv : Val b κ v) (h : tlt (tk u) (tk v) = true) : tlt (tk (keyV u)) (tk (keyV v)) = true := by
  cases hu with
  | at_ ha =>
    cases hv with
    | at_ hc =>
      rw [keyV_at ha, keyV_at hc, (py_key ha).2, (py_key hc).2]
      rw [tk_at ha, tk_at hc] at h
      have h' : PyProof.Rows.lexLt itemOrd [sg u] [sg v] = true := h
      show PyProof.Rows.lexLt itemOrd _ _ = true
      rw [PyProof.Rows.lex_self (O := itemOrd)]
      by_cases e : sg u = sg v
      · rw [e, PyProof.Rows.lex_irrefl] at h'; cases h'
      · rw [PyProof.Rows.lex_diff (O := itemOrd) e] at h' ⊢; exact h'
  | row ha =>
    cases hv with
    | row hc =>
      show tlt (tk (.tup _)) (tk (.tup _)) = true
      rw [tk_rowkey (row_mem ha), tk_rowkey (row_mem hc), R_same, ← tk_row (row_mem ha), ← tk_row (row_mem hc)]
      exact h
theorem val_inj {u v : D} (hu : Val b κ u) (hv : Val b κ v) (h : tk u = tk v) : u = v := by
  cases hu with
  | at_ ha =>
    cases hv with
    | at_ hc =>
      rw [tk_at ha, tk_at hc] at h
      exact sg_inj ha hc (by simpa using h)
  | row ha =>
    cases hv with
    | row hc =>
      rw [tk_row (row_mem ha), tk_row (row_mem hc)] at h
      rw [R0_inj (row_mem ha) (row_mem hc) h]
theorem al_at {a c : D} (ha : a ∈ atoms κ) (hc : c ∈ atoms κ) : PySem.W.alike (pyO a) (pyO c) = true ∧ PySem.W.alike (pyO (keyA a)) (pyO (keyA c)) = true := by
  have s1 := shp_of ha
  have s2 := shp_of hc
  cases κ <;> obtain ⟨i, rfl⟩ := s1 <;> obtain ⟨j, rfl⟩ := s2 <;> exact ⟨by simp [pyO, D.py, PySem.W.alike], by simp [pyO, keyA, D.py, pyL, PySem.W.alike, PySem.W.alikeAll]⟩
theorem al_all {f : D → PyData} : ∀ {l m : List D}, (∀ a ∈ l, ∀ c ∈ m, PySem.W.alike (f a) (f c) = true) → PySem.W.alikeAll (l.map f) (m.map f) = true
  | [], _, _ => by simp [PySem.W.alikeAll]
  | _ :: _, [], _ => by simp [PySem.W.alikeAll]
  | a :: l, c :: m, h => by
    simp only [List.map_cons, PySem.W.alikeAll, Bool.and_eq_true]
    exact ⟨h a (by simp) c (by simp), al_all fun x hx y hy => h x (by simp [hx]) y (by simp [hy])⟩
theorem val_al {u v : D} (hu : Val b κ u) (hv : Val b κ v) : PySem.W.alike (pyO u) (pyO v) = true ∧ PySem.W.alike (pyO (keyV u)) (pyO (keyV v)) = true := by
  cases hu with
  | at_ ha =>
    cases hv with
    | at_ hc => rw [keyV_at ha, keyV_at hc]; exact al_at ha hc
  | row ha =>
    cases hv with
    | row hc =>
      have ma := row_mem ha
      have mc := row_mem hc
      refine ⟨?_, ?_⟩
      · rw [(pyO_tup fun a h => atom_py (ma a h)).2, (pyO_tup fun a h => atom_py (mc a h)).2]
        simp only [PySem.W.alike]
        exact al_all fun x hx y hy => (al_at (ma x hx) (mc y hy)).1
      · show PySem.W.alike (pyO (.tup _)) (pyO (.tup _)) = true
        rw [(pyO_tup fun a h => by obtain ⟨x, hx, rfl⟩ := List.mem_map.mp h; exact (py_key (ma x hx)).1).2, (pyO_tup fun a h => by obtain ⟨x, hx, rfl⟩ := List.mem_map.mp h; exact (py_key (mc x hx)).1).2]
        simp only [PySem.W.alike]
        rw [List.map_map, List.map_map]
        exact al_all (f := pyO ∘ keyA) fun x hx y hy => (al_at (ma x hx) (mc y hy)).2
theorem t_dep : ((atoms κ).all fun a => decide ((pyO a).depth = 0) && decide ((pyO (keyA a)).depth ≤ 1)) = true := by cases κ <;> decide +kernel
theorem dep_all {f : D → PyData} {n : Nat} : ∀ {l : List D}, (∀ a ∈ l, (f a).depth ≤ n) → PyData.depthAll (l.map f) ≤ n
  | [], _ => by simp [PyData.depthAll]
  | a :: l, h => by
    have h1 := h a (by simp)
    have h2 := dep_all (l := l) fun x hx => h x (by simp [hx])
    simp only [List.map_cons, PyData.depthAll]
    omega
theorem val_dep {d : D} (h : Val b κ d) : (pyO d).depth ≤ 1 ∧ (pyO (keyV d)).depth ≤ 2 := by
  have one : ∀ {a : D}, a ∈ atoms κ → (pyO a).depth = 0 ∧ (pyO (keyA a)).depth ≤ 1 := fun {a} ha => by
    have q := List.all_eq_true.mp t_dep a ha
    simpa using q
  cases h with
  | at_ ha => rw [keyV_at ha]; have := one ha; omega
  | row hr =>
    have ma := row_mem hr
    refine ⟨?_, ?_⟩
    · rw [(pyO_tup fun a h => atom_py (ma a h)).2]
      simp only [PyData.depth]
      have := dep_all (f := pyO) (n := 0) fun a h => by have := one (ma a h); omega
      omega
    · show (pyO (.tup _)).depth ≤ 2
      rw [(pyO_tup fun a h => by obtain ⟨x, hx, rfl⟩ := List.mem_map.mp h; exact (py_key (ma x hx)).1).2, List.map_map]
      simp only [PyData.depth]
      have := dep_all (f := pyO ∘ keyA) (n := 1) fun a h => (one (ma a h)).2
      omega
theorem val_shape {d : D} (h : Val b κ d) : (b = true → ∃ xs, pyO d = .tuple xs) ∧ (b = false → pyO d ≠ .none ∧ ∀ xs, pyO d ≠ .tuple xs) := by
  cases h with
  | at_ ha =>
    have s := shp_of ha
    refine ⟨fun h => (nomatch h), fun _ => ?_⟩
    cases κ <;> obtain ⟨i, rfl⟩ := s <;> exact ⟨(fun z => nomatch z), fun xs z => nomatch z⟩
  | row hr => exact ⟨fun _ => ⟨_, (pyO_tup fun a h => atom_py (row_mem hr a h)).2⟩, fun h => nomatch h⟩
/-- sorted(values) -/
theorem sort_vals {vs : List D} (h : ∀ v ∈ vs, Val b κ v) : sortD vs = some (vs.mergeSort leD) := by
  refine sortD_of (fun d hd => (val_py (h d hd)).1) (fun u hu v hv => (val_al (h u hu) (h v hv)).1) ?_ fun d hd => by have := (val_dep (h d hd)).1; omega
  cases b with
  | true => exact .inl fun d hd => (val_shape (h d hd)).1 rfl
  | false => exact .inr fun d hd => (val_shape (h d hd)).2 rfl
theorem sort_keys {vs : List D} (h : ∀ v ∈ vs, Val b κ v) : sortD (vs.zipIdx.map (kix keyV)) = some ((vs.zipIdx.map (kix keyV)).mergeSort leD) := by
  have ex : ∀ d ∈ vs.zipIdx.map (kix keyV), ∃ u i, u ∈ vs ∧ d = .tup [keyV u, .int (i : Nat)] := fun d hd => by
    obtain ⟨⟨u, i⟩, hp, rfl⟩ := List.mem_map.mp hd
    exact ⟨u, i, List.fst_mem_of_mem_zipIdx hp, rfl⟩
  refine sortD_of (fun d hd => ?_) (fun u hu v hv => ?_) (.inl fun d hd => ?_) fun d hd => ?_
  · obtain ⟨u, i, hu, rfl⟩ := ex d hd
    rw [pyO_pair (val_py (h u hu)).2]
    simp only [D.py, pyL]; rw [(val_py (h u hu)).2]; rfl
  · obtain ⟨u, i, hu', rfl⟩ := ex u hu
    obtain ⟨v, j, hv', rfl⟩ := ex v hv
    clear hu hv
    have hu := hu'
    have hv := hv'
    rw [pyO_pair (val_py (h u hu)).2, pyO_pair (val_py (h v hv)).2]
    simp [PySem.W.alike, PySem.W.alikeAll, (val_al (h u hu) (h v hv)).2]
  · obtain ⟨u, i, hu, rfl⟩ := ex d hd
    exact ⟨_, pyO_pair (val_py (h u hu)).2⟩
  · obtain ⟨u, i, hu, rfl⟩ := ex d hd
    rw [pyO_pair (val_py (h u hu)).2]
    have := (val_dep (h u hu)).2
    simp only [PyData.depth, PyData.depthAll]
    omega
theorem sort_both {vs : List D} (h : ∀ v ∈ vs, Val b κ v) : (((vs.zipIdx.map (kix keyV)).mergeSort leD).map (sel vs)) = vs.mergeSort leD :=
  sort_by_index (fun u hu => (val_py (h u hu)).2) (fun u hu v hv => (val_al (h u hu) (h v hv)).2) (fun u hu v hv => val_mono (h u hu) (h v hv)) fun u hu v hv => val_inj (h u hu) (h v hv)
end
end FH.K01
end
section
namespace FH.K01
open PySem PySem.Spec PyProof.Rows L2
theorem bag_refl {μ : Store} {n : Nat} {cs : List D} (h : BagAt μ n cs) : Stir n cs μ μ := by
  obtain ⟨a, b, c, h⟩ := h
  exact ⟨a, b, c, (set_same h).symm⟩
/-- draws, one after another -/
theorem draws {f : D → Store → Option (Option D × Store)} {P : D → Prop} {n : Nat} {cs : List D} (hf : ∀ x μ, BagAt μ n cs → ∃ d μ', f x μ = some (some d, μ') ∧ Stir n cs μ μ' ∧ P d) :
    ∀ (xs : List D) (μ : Store), BagAt μ n cs → ∃ ds μ', loopC f xs μ = some (ds, μ') ∧ Stir n cs μ μ' ∧ ds.length = xs.length ∧ ∀ d ∈ ds, P d
  | [], μ, hb => ⟨[], μ, rfl, bag_refl hb, rfl, by simp⟩
  | x :: xs, μ, hb => by
    obtain ⟨d, μ1, e1, s1, p1⟩ := hf x μ hb
    obtain ⟨ds, μ2, e2, s2, l2, p2⟩ := draws hf xs μ1 (hb.stir s1)
    refine ⟨d :: ds, μ2, ?_, s1.trans s2, by simp [l2], fun z hz => ?_⟩
    · simp only [loopC, e1, Option.bind_some, e2]
    · rcases List.mem_cons.mp hz with rfl | hz
      · exact p1
      · exact p2 z hz
def kd (b : Bool) (κ : Kd) : D := if b then .tup [.str "row", .str (kN κ)] else .str (kN κ)
theorem eqs_nn : eqD (.str "number") (.str "number") = some true := by decide +kernel
theorem eqs_tn : eqD (.str "text") (.str "number") = some false := by decide +kernel
theorem eqs_tt : eqD (.str "text") (.str "text") = some true := by decide +kernel
theorem eqs_un : eqD (.str "truth") (.str "number") = some false := by decide +kernel
theorem eqs_ut : eqD (.str "truth") (.str "text") = some false := by decide +kernel
theorem eqs_uu : eqD (.str "truth") (.str "truth") = some true := by decide +kernel
theorem eqr {x y : Str} : eqD (.tup [.str "row", .str x]) (.str y) = (if SeqAt.shaped (.tuple [.str "row", .str x]) && SeqAt.shaped (.str y) then some false else none) := by
  simp [eqD, D.flat, D.py, pyL, PyData.eqv]
theorem eqr1 : eqD (.tup [.str "row", .str (kN κ)]) (.str "number") = some false := by cases κ <;> decide +kernel
theorem eqr2 : eqD (.tup [.str "row", .str (kN κ)]) (.str "text") = some false := by cases κ <;> decide +kernel
theorem eqr3 : eqD (.tup [.str "row", .str (kN κ)]) (.str "truth") = some false := by cases κ <;> decide +kernel
theorem pw30 : binD .Pow (.int 10) (.int 30) = some (.int (10 ^ 30)) := b_pow (by decide)
theorem tx200 : binD .Mult (.str "a") (.int 200) = some (.str (Txt.mul "a" 200)) := by
  unfold binD
  simp only
  rw [if_pos (by decide +kernel)]
theorem sl8 : (8 ≤ sizeLine) = True := le_size (by decide)
theorem rowOf {κ : Kd} {ds : List D} (hl : ds.length ≤ 3) (h : ∀ d ∈ ds, d ∈ atoms κ) : Row κ ds := by
  match ds with
  | [] => exact .r0
  | [a] => exact .r1 (h a (by simp))
  | [a, b] => exact .r2 (h a (by simp)) (h b (by simp))
  | [a, b, c] => exact .r3 (h a (by simp)) (h b (by simp)) (h c (by simp))
  | _ :: _ :: _ :: _ :: _ => simp at hl
section
variable {k n : Nat} {μ : Store} {κ : Kd} {b : Bool} {cs : List D}
theorem ftake : fs[15]? = some ⟨2, 7, takeB⟩ := rfl
theorem take_ok (hb : BagAt μ n cs) (hc : AllI cs) {many : Int} (h0 : 0 < many) (h1 : many < 2 ^ 20) : ∃ v μ', run fs (k + 1) 15 [.ref n, .int many] μ = some (.int v, μ') ∧ Stir n cs μ μ' ∧ 0 ≤ v ∧ v < many := take_at ftake hb hc h0 h1
theorem some_ok (hb : BagAt μ n cs) (hc : AllI cs) {ds : List D} (h0 : ds ≠ []) (h1 : ds.length < 2 ^ 20) : ∃ d μ', run fs (k + 2) 16 [.ref n, .lst ds] μ = some (d, μ') ∧ Stir n cs μ μ' ∧ d ∈ ds := some_at (s := 16) ftake rfl hb hc h0 h1
theorem drawn_at (hb : BagAt μ n cs) (hc : AllI cs) : ∃ d μ', run fs (k + 3) 26 [.ref n, .str (kN κ)] μ = some (d, μ') ∧ Stir n cs μ μ' ∧ d ∈ atoms κ := by
  rw [run_eq (F := ⟨2, 3, b26⟩) rfl rfl]
  cases κ with
  | num =>
    obtain ⟨v, μ1, e1, s1, v0, v1⟩ := take_ok (k := k + 1) hb hc (many := 50) (by decide) (by decide)
    obtain ⟨d, μ2, e2, s2, m2⟩ := some_ok (k := k) (hb.stir s1) hc (ds := [.int 0, .int 1, .int (-1), .int 7, .int 100, .int (10 ^ 30 - 1), .int (1 - 10 ^ 30), .int (v - 25)]) (by simp) (by simp)
    refine ⟨d, μ2, ?_, s1.trans s2, ?_⟩
    · simp at e2
      simp [start0, evE, evEs, evO, evC, evF, evSrc, evIn, evS, evSs, Option.bind_some, Option.map_some, Option.bind_none, Option.map_none, List.map_cons, List.map_nil, slot_c0, slot_cs, own_c0, own_cs, ownv_c0, ownv_cs, ownt_c0, tup_c0, tup_cs, view_int, view_str, view_bl, view_non, view_tup, view_lst, view_ty, view_fn, p_bin, p_neg, p_cmp, p_ix, p_len_tup, p_len_lst, p_abs, p_int, p_intb, p_isi, p_tuple_tup, p_tuple_lst, p_max, p_min, b_add_int, b_sub_int, c_lt, c_le, c_gt, c_ge, c_eq, c_ne, ix_tup, ix_lst, at0, at1, at2, at3, at4, at5, eq_int, eq_str, eq_bl, truD, set_c0, set_cs, setS_c, isi_tuple_tup, isi_tuple_lst, isi_tuple_str, isi_tuple_int, isi_tuple_non, isi_tuple_bl, isi_str_str, isi_str_tup, isi_str_int, isi_str_non, isi_str_lst, isi_str_bl, if_true_, if_false_, itemsD, loopD, loopC, asg_nm, asg_tp, asgs_nil, asgs_cons, wipeS, setN, nkD, ndS, getN, boolsD, p_any, p_all, retOf, kN, isi_t_int, isi_t_bl, isi_t_str, sz0, sz1, sz2, sz3, sl0, sl1, sl2, sl3, c_MOST_ROW, b26, pw30, e1, sl8, e2]
    · simp only [List.mem_cons, List.not_mem_nil, or_false] at m2
      refine List.mem_map.mpr ?_
      rcases m2 with rfl | rfl | rfl | rfl | rfl | rfl | rfl | rfl
      · exact ⟨0, by decide, rfl⟩
      · exact ⟨1, by decide, rfl⟩
      · exact ⟨-1, by decide, rfl⟩
      · exact ⟨7, by decide, rfl⟩
      · exact ⟨100, by decide, rfl⟩
      · exact ⟨10 ^ 30 - 1, by decide, rfl⟩
      · exact ⟨1 - 10 ^ 30, by decide, rfl⟩
      · refine ⟨v - 25, List.mem_append_right _ (List.mem_map.mpr ⟨v.toNat, List.mem_range.mpr (by omega), by omega⟩), rfl⟩
  | txt =>
    obtain ⟨d, μ2, e2, s2, m2⟩ := some_ok (k := k) hb hc (ds := atoms .txt) (by simp [atoms, txts]) (by simp [atoms, txts])
    refine ⟨d, μ2, ?_, s2, m2⟩
    simp only [atoms, txts, List.map_cons, List.map_nil] at e2
    simp [start0, evE, evEs, evO, evC, evF, evSrc, evIn, evS, evSs, Option.bind_some, Option.map_some, Option.bind_none, Option.map_none, List.map_cons, List.map_nil, slot_c0, slot_cs, own_c0, own_cs, ownv_c0, ownv_cs, ownt_c0, tup_c0, tup_cs, view_int, view_str, view_bl, view_non, view_tup, view_lst, view_ty, view_fn, p_bin, p_neg, p_cmp, p_ix, p_len_tup, p_len_lst, p_abs, p_int, p_intb, p_isi, p_tuple_tup, p_tuple_lst, p_max, p_min, b_add_int, b_sub_int, c_lt, c_le, c_gt, c_ge, c_eq, c_ne, ix_tup, ix_lst, at0, at1, at2, at3, at4, at5, eq_int, eq_str, eq_bl, truD, set_c0, set_cs, setS_c, isi_tuple_tup, isi_tuple_lst, isi_tuple_str, isi_tuple_int, isi_tuple_non, isi_tuple_bl, isi_str_str, isi_str_tup, isi_str_int, isi_str_non, isi_str_lst, isi_str_bl, if_true_, if_false_, itemsD, loopD, loopC, asg_nm, asg_tp, asgs_nil, asgs_cons, wipeS, setN, nkD, ndS, getN, boolsD, p_any, p_all, retOf, kN, isi_t_int, isi_t_bl, isi_t_str, sz0, sz1, sz2, sz3, sl0, sl1, sl2, sl3, c_MOST_ROW, b26, ne_text_number, ne_text_numberb, tx200, e2, sl8]
  | tru =>
    obtain ⟨v, μ1, e1, s1, v0, v1⟩ := take_ok (k := k + 1) hb hc (many := 2) (by decide) (by decide)
    refine ⟨.bl (v == 0), μ1, ?_, s1, ?_⟩
    · simp [start0, evE, evEs, evO, evC, evF, evSrc, evIn, evS, evSs, Option.bind_some, Option.map_some, Option.bind_none, Option.map_none, List.map_cons, List.map_nil, slot_c0, slot_cs, own_c0, own_cs, ownv_c0, ownv_cs, ownt_c0, tup_c0, tup_cs, view_int, view_str, view_bl, view_non, view_tup, view_lst, view_ty, view_fn, p_bin, p_neg, p_cmp, p_ix, p_len_tup, p_len_lst, p_abs, p_int, p_intb, p_isi, p_tuple_tup, p_tuple_lst, p_max, p_min, b_add_int, b_sub_int, c_lt, c_le, c_gt, c_ge, c_eq, c_ne, ix_tup, ix_lst, at0, at1, at2, at3, at4, at5, eq_int, eq_str, eq_bl, truD, set_c0, set_cs, setS_c, isi_tuple_tup, isi_tuple_lst, isi_tuple_str, isi_tuple_int, isi_tuple_non, isi_tuple_bl, isi_str_str, isi_str_tup, isi_str_int, isi_str_non, isi_str_lst, isi_str_bl, if_true_, if_false_, itemsD, loopD, loopC, asg_nm, asg_tp, asgs_nil, asgs_cons, wipeS, setN, nkD, ndS, getN, boolsD, p_any, p_all, retOf, kN, isi_t_int, isi_t_bl, isi_t_str, sz0, sz1, sz2, sz3, sl0, sl1, sl2, sl3, c_MOST_ROW, b26, ne_truth_number, ne_truth_text, ne_truth_numberb, ne_truth_textb, e1]
    · cases (v == 0) <;> simp [atoms]
theorem drawn_row (hb : BagAt μ n cs) (hc : AllI cs) : ∃ d μ', run fs (k + 4) 26 [.ref n, kd b κ] μ = some (d, μ') ∧ Stir n cs μ μ' ∧ Val b κ d := by
  cases b with
  | false =>
    obtain ⟨d, μ', e, s, m⟩ := drawn_at (k := k + 1) (κ := κ) hb hc
    exact ⟨d, μ', e, s, .at_ m⟩
  | true =>
    have hd := fun (μ : Store) (hb : BagAt μ n cs) => drawn_at (k := k) (κ := κ) (μ := μ) hb hc
    have q1 := eqr1 (κ := κ)
    have q2 := eqr2 (κ := κ)
    have q3 := eqr3 (κ := κ)
    show ∃ d μ', run fs (k + 4) 26 [.ref n, .tup [.str "row", .str (kN κ)]] μ = some (d, μ') ∧ Stir n cs μ μ' ∧ Val true κ d
    generalize kN κ = kx at hd q1 q2 q3
    rw [run_eq (F := ⟨2, 3, b26⟩) rfl rfl]
    obtain ⟨v, μ1, e1, s1, v0, v1⟩ := take_ok (k := k + 2) hb hc (many := 4) (by decide) (by decide)
    obtain ⟨ds, μ2, e2, s2, l2, m2⟩ := draws (n := n) (cs := cs) (P := fun d => d ∈ atoms κ) (f := fun x μ => (asgT (.nm 2) x (wipeS [.val (.ref n), .val (.tup [.str "row", .str (kx)]), .emp] [2])).bind fun ρ' => (evC ⟨run fs (k + 3), (runP fs (k + 3)).2⟩ .no ρ' μ).bind fun q =>
        if q.1 then (evE ⟨run fs (k + 3), (runP fs (k + 3)).2⟩ (.call "_law_drawn" 26 (.cons (.var 0) (.cons (.prim .ix (.cons (.var 1) (.cons (.lit (.int 1)) .nil))) .nil))) ρ' q.2).map fun q => (some q.1, q.2) else some (none, q.2)) (fun x μ hb => by
      obtain ⟨d, μ', e, s, m⟩ := hd μ hb
      refine ⟨d, μ', ?_, s, m⟩
      simp [start0, evE, evEs, evO, evC, evF, evSrc, evIn, evS, evSs, Option.bind_some, Option.map_some, Option.bind_none, Option.map_none, List.map_cons, List.map_nil, slot_c0, slot_cs, own_c0, own_cs, ownv_c0, ownv_cs, ownt_c0, tup_c0, tup_cs, view_int, view_str, view_bl, view_non, view_tup, view_lst, view_ty, view_fn, p_bin, p_neg, p_cmp, p_ix, p_len_tup, p_len_lst, p_abs, p_int, p_intb, p_isi, p_tuple_tup, p_tuple_lst, p_max, p_min, b_add_int, b_sub_int, c_lt, c_le, c_gt, c_ge, c_eq, c_ne, ix_tup, ix_lst, at0, at1, at2, at3, at4, at5, eq_int, eq_str, eq_bl, truD, set_c0, set_cs, setS_c, isi_tuple_tup, isi_tuple_lst, isi_tuple_str, isi_tuple_int, isi_tuple_non, isi_tuple_bl, isi_str_str, isi_str_tup, isi_str_int, isi_str_non, isi_str_lst, isi_str_bl, if_true_, if_false_, itemsD, loopD, loopC, asg_nm, asg_tp, asgs_nil, asgs_cons, wipeS, setN, nkD, ndS, getN, boolsD, p_any, p_all, retOf, kN, isi_t_int, isi_t_bl, isi_t_str, sz0, sz1, sz2, sz3, sl0, sl1, sl2, sl3, c_MOST_ROW, e]) (rangeD 0 v.toNat) μ1 (hb.stir s1)
    refine ⟨.tup ds, μ2, ?_, s1.trans s2, .row (rowOf (by rw [l2]; simp [rangeD]; omega) m2)⟩
    have hlt : (rangeD 0 v.toNat).length < sizeLine := by simp [rangeD]; have := sizeLine_eq; omega
    have hf : evF ⟨run fs (k + 3), (runP fs (k + 3)).2⟩ (.comp (.nm 2) [("k", 2)] (.range1 (.call "_law_take" 15 (.cons (.var 0) (.cons (.lit (.int 4)) .nil)))) .no (.call "_law_drawn" 26 (.cons (.var 0) (.cons (.prim .ix (.cons (.var 1) (.cons (.lit (.int 1)) .nil))) .nil)))) [.val (.ref n), .val (.tup [.str "row", .str (kx)]), .emp] μ = some (ds, μ2) := by
      have hs : evSrc ⟨run fs (k + 3), (runP fs (k + 3)).2⟩ (.range1 (.call "_law_take" 15 (.cons (.var 0) (.cons (.lit (.int 4)) .nil)))) [.val (.ref n), .val (.tup [.str "row", .str (kx)]), .emp] μ = some (.items (rangeD 0 v.toNat), μ1) := by
        simp [start0, evE, evEs, evO, evC, evF, evSrc, evIn, evS, evSs, Option.bind_some, Option.map_some, Option.bind_none, Option.map_none, List.map_cons, List.map_nil, slot_c0, slot_cs, own_c0, own_cs, ownv_c0, ownv_cs, ownt_c0, tup_c0, tup_cs, view_int, view_str, view_bl, view_non, view_tup, view_lst, view_ty, view_fn, p_bin, p_neg, p_cmp, p_ix, p_len_tup, p_len_lst, p_abs, p_int, p_intb, p_isi, p_tuple_tup, p_tuple_lst, p_max, p_min, b_add_int, b_sub_int, c_lt, c_le, c_gt, c_ge, c_eq, c_ne, ix_tup, ix_lst, at0, at1, at2, at3, at4, at5, eq_int, eq_str, eq_bl, truD, set_c0, set_cs, setS_c, isi_tuple_tup, isi_tuple_lst, isi_tuple_str, isi_tuple_int, isi_tuple_non, isi_tuple_bl, isi_str_str, isi_str_tup, isi_str_int, isi_str_non, isi_str_lst, isi_str_bl, if_true_, if_false_, itemsD, loopD, loopC, asg_nm, asg_tp, asgs_nil, asgs_cons, wipeS, setN, nkD, ndS, getN, boolsD, p_any, p_all, retOf, kN, isi_t_int, isi_t_bl, isi_t_str, sz0, sz1, sz2, sz3, sl0, sl1, sl2, sl3, c_MOST_ROW, e1]
        omega
      unfold evF
      rw [hs]
      simp only [Option.bind_some]
      rw [if_pos hlt]
      exact e2
    show retOf (evSs _ b26 [.val (.ref n), .val (.tup [.str "row", .str (kx)]), .emp] μ) = _
    unfold b26
    generalize FE.comp (.nm 2) [("k", 2)] (.range1 (.call "_law_take" 15 (.cons (.var 0) (.cons (.lit (.int 4)) .nil)))) .no (.call "_law_drawn" 26 (.cons (.var 0) (.cons (.prim .ix (.cons (.var 1) (.cons (.lit (.int 1)) .nil))) .nil))) = fe at hf
    simp [start0, evE, evEs, evO, evC, evF, evSrc, evIn, evS, evSs, Option.bind_some, Option.map_some, Option.bind_none, Option.map_none, List.map_cons, List.map_nil, slot_c0, slot_cs, own_c0, own_cs, ownv_c0, ownv_cs, ownt_c0, tup_c0, tup_cs, view_int, view_str, view_bl, view_non, view_tup, view_lst, view_ty, view_fn, p_bin, p_neg, p_cmp, p_ix, p_len_tup, p_len_lst, p_abs, p_int, p_intb, p_isi, p_tuple_tup, p_tuple_lst, p_max, p_min, b_add_int, b_sub_int, c_lt, c_le, c_gt, c_ge, c_eq, c_ne, ix_tup, ix_lst, at0, at1, at2, at3, at4, at5, eq_int, eq_str, eq_bl, truD, set_c0, set_cs, setS_c, isi_tuple_tup, isi_tuple_lst, isi_tuple_str, isi_tuple_int, isi_tuple_non, isi_tuple_bl, isi_str_str, isi_str_tup, isi_str_int, isi_str_non, isi_str_lst, isi_str_bl, if_true_, if_false_, itemsD, loopD, loopC, asg_nm, asg_tp, asgs_nil, asgs_cons, wipeS, setN, nkD, ndS, getN, boolsD, p_any, p_all, retOf, kN, isi_t_int, isi_t_bl, isi_t_str, sz0, sz1, sz2, sz3, sl0, sl1, sl2, sl3, c_MOST_ROW, q1, q2, q3, hf]
end
end FH.K01
end
section
namespace FH.K01
open PySem PySem.Spec PyProof.Rows L2
/-- the things written down, but for {} -/
def fixed : List D := [.non, .bl true, .int 0, .int (10 ^ 30), .int (-(10 ^ 30)), .str (Txt.mul "a" 201), .str "\n", .str "\"", .tup [], .tup [.int 1, .bl true], .tup [.int 1, .str "a"], .tup [.tup [.int 1]], .tup [.non], .lst [.int 1],
  .tup [.str "value", .int 1], .tup [.str "value", .tup [.int 1, .int 2]], .tup [.str "value"], .tup [.str "value", .non], .tup [.str "fault", .str "zero", .tup [.int 0, .int 0]],
  .tup [.str "fault", .str "zoo", .tup [.int 0, .int 0]], .tup [.str "fault", .str "zero"], .tup [.str "fault", .str "out", .tup [.int 26, .int 0]], .tup [.str "ring"], .tup [.str "ring", .int 1], .tup [.str "none"], .lst [.str "none"],
  .tup [.int (10 ^ 30)], .tup [.str "a", .str "b"], .tup [.bl true, .bl false]]
def fixV : List Bool := [false, true, true, false, false, false, false, false, true, false, false, false, false, false, false, false, true, false, false, false, true, false, true, false, true, false, false, true, true]
def fixO : List Bool := [false, false, false, false, false, false, false, false, false, false, false, false, false, false, true, true, false, false, true, false, false, false, true, false, true, false, false, false, false]
/-- a thing whose answers are alike -/
structure Th (k : Nat) (μ : Store) (d : D) : Prop where
  ex : ∃ p q : Bool, run fs (k + 8) 9 [d] μ = some (.bl p, μ) ∧ run fs (k + 8) 23 [d] μ = some (.bl p, μ) ∧ run fs (k + 8) 13 [d] μ = some (.bl q, μ) ∧ run fs (k + 8) 25 [d] μ = some (.bl q, μ)
section
variable {k : Nat} {μ : Store} {κ κ' : Kd} {b b' : Bool}
theorem fx1 : fixed.map (fun d => run fs (k + 8) 9 [d] μ) = fixV.map fun p => some (.bl p, μ) := by kernel_rfl
theorem fx2 : fixed.map (fun d => run fs (k + 8) 23 [d] μ) = fixV.map fun p => some (.bl p, μ) := by kernel_rfl
theorem fx3 : fixed.map (fun d => run fs (k + 8) 13 [d] μ) = fixO.map fun p => some (.bl p, μ) := by kernel_rfl
theorem fx4 : fixed.map (fun d => run fs (k + 8) 25 [d] μ) = fixO.map fun p => some (.bl p, μ) := by kernel_rfl
theorem tab_at {α β γ : Type} {l : List α} {m : List γ} {f : α → β} {g : γ → β} (h : l.map f = m.map g) {i : Nat} (hi : i < l.length) : ∃ hm : i < m.length, f l[i] = g m[i] := by
  have hl : l.length = m.length := by have := congrArg List.length h; simpa using this
  have hm : i < m.length := by omega
  refine ⟨hm, ?_⟩
  have e : (l.map f)[i]'(by simpa using hi) = (m.map g)[i]'(by simpa using hm) := by simp only [h]
  simpa using e
theorem th_fixed {d : D} (h : d ∈ fixed) : Th k μ d := by
  obtain ⟨i, hi, rfl⟩ := List.mem_iff_getElem.mp h
  obtain ⟨m1, e1⟩ := tab_at (fx1 (k := k) (μ := μ)) hi
  obtain ⟨m2, e2⟩ := tab_at (fx2 (k := k) (μ := μ)) hi
  obtain ⟨m3, e3⟩ := tab_at (fx3 (k := k) (μ := μ)) hi
  obtain ⟨m4, e4⟩ := tab_at (fx4 (k := k) (μ := μ)) hi
  exact ⟨fixV[i], fixO[i], e1, e2, e3, e4⟩
theorem th_lst {l : List D} : Th k μ (.lst l) := ⟨false, false, by kernel_rfl, by kernel_rfl, by kernel_rfl, by kernel_rfl⟩
theorem th_dic {n : Nat} (h : μ[n]? = some (.dic [])) : Th k μ (.ref n) := by
  have i1 : ∀ j, run fs (j + 1) 0 [.ref n] μ = some (.bl false, μ) := fun j => by rw [run_eq (F := ⟨1, 1, b0⟩) rfl rfl]; simp [start0, evE, evEs, evO, evC, evF, evSrc, evIn, evS, evSs, Option.bind_some, Option.map_some, Option.bind_none, Option.map_none, List.map_cons, List.map_nil, slot_c0, slot_cs, own_c0, own_cs, ownv_c0, ownv_cs, ownt_c0, tup_c0, tup_cs, view_int, view_str, view_bl, view_non, view_tup, view_lst, view_ty, view_fn, p_bin, p_neg, p_cmp, p_ix, p_len_tup, p_len_lst, p_abs, p_int, p_intb, p_isi, p_tuple_tup, p_tuple_lst, p_max, p_min, b_add_int, b_sub_int, c_lt, c_le, c_gt, c_ge, c_eq, c_ne, ix_tup, ix_lst, at0, at1, at2, at3, at4, at5, eq_int, eq_str, eq_bl, truD, set_c0, set_cs, setS_c, isi_tuple_tup, isi_tuple_lst, isi_tuple_str, isi_tuple_int, isi_tuple_non, isi_tuple_bl, isi_str_str, isi_str_tup, isi_str_int, isi_str_non, isi_str_lst, isi_str_bl, if_true_, if_false_, itemsD, loopD, loopC, asg_nm, asg_tp, asgs_nil, asgs_cons, wipeS, setN, nkD, ndS, getN, boolsD, p_any, p_all, retOf, kN, isi_t_int, isi_t_bl, isi_t_str, sz0, sz1, sz2, sz3, sl0, sl1, sl2, sl3, c_MOST_ROW, b0, h, view_dicc h]
  have i2 : ∀ j, run fs (j + 1) 2 [.ref n] μ = some (.bl false, μ) := fun j => by rw [run_eq (F := ⟨1, 1, b2⟩) rfl rfl]; simp [start0, evE, evEs, evO, evC, evF, evSrc, evIn, evS, evSs, Option.bind_some, Option.map_some, Option.bind_none, Option.map_none, List.map_cons, List.map_nil, slot_c0, slot_cs, own_c0, own_cs, ownv_c0, ownv_cs, ownt_c0, tup_c0, tup_cs, view_int, view_str, view_bl, view_non, view_tup, view_lst, view_ty, view_fn, p_bin, p_neg, p_cmp, p_ix, p_len_tup, p_len_lst, p_abs, p_int, p_intb, p_isi, p_tuple_tup, p_tuple_lst, p_max, p_min, b_add_int, b_sub_int, c_lt, c_le, c_gt, c_ge, c_eq, c_ne, ix_tup, ix_lst, at0, at1, at2, at3, at4, at5, eq_int, eq_str, eq_bl, truD, set_c0, set_cs, setS_c, isi_tuple_tup, isi_tuple_lst, isi_tuple_str, isi_tuple_int, isi_tuple_non, isi_tuple_bl, isi_str_str, isi_str_tup, isi_str_int, isi_str_non, isi_str_lst, isi_str_bl, if_true_, if_false_, itemsD, loopD, loopC, asg_nm, asg_tp, asgs_nil, asgs_cons, wipeS, setN, nkD, ndS, getN, boolsD, p_any, p_all, retOf, kN, isi_t_int, isi_t_bl, isi_t_str, sz0, sz1, sz2, sz3, sl0, sl1, sl2, sl3, c_MOST_ROW, b2, h, view_dicc h]
  have i3 : ∀ j, run fs (j + 1) 3 [.ref n] μ = some (.bl false, μ) := fun j => by rw [run_eq (F := ⟨1, 2, b3⟩) rfl rfl]; simp [start0, evE, evEs, evO, evC, evF, evSrc, evIn, evS, evSs, Option.bind_some, Option.map_some, Option.bind_none, Option.map_none, List.map_cons, List.map_nil, slot_c0, slot_cs, own_c0, own_cs, ownv_c0, ownv_cs, ownt_c0, tup_c0, tup_cs, view_int, view_str, view_bl, view_non, view_tup, view_lst, view_ty, view_fn, p_bin, p_neg, p_cmp, p_ix, p_len_tup, p_len_lst, p_abs, p_int, p_intb, p_isi, p_tuple_tup, p_tuple_lst, p_max, p_min, b_add_int, b_sub_int, c_lt, c_le, c_gt, c_ge, c_eq, c_ne, ix_tup, ix_lst, at0, at1, at2, at3, at4, at5, eq_int, eq_str, eq_bl, truD, set_c0, set_cs, setS_c, isi_tuple_tup, isi_tuple_lst, isi_tuple_str, isi_tuple_int, isi_tuple_non, isi_tuple_bl, isi_str_str, isi_str_tup, isi_str_int, isi_str_non, isi_str_lst, isi_str_bl, if_true_, if_false_, itemsD, loopD, loopC, asg_nm, asg_tp, asgs_nil, asgs_cons, wipeS, setN, nkD, ndS, getN, boolsD, p_any, p_all, retOf, kN, isi_t_int, isi_t_bl, isi_t_str, sz0, sz1, sz2, sz3, sl0, sl1, sl2, sl3, c_MOST_ROW, b3, h, view_dicc h]
  have i4 : ∀ j, run fs (j + 2) 8 [.ref n] μ = some (.non, μ) := fun j => by rw [run_eq (F := ⟨1, 1, b8⟩) rfl rfl]; simp [start0, evE, evEs, evO, evC, evF, evSrc, evIn, evS, evSs, Option.bind_some, Option.map_some, Option.bind_none, Option.map_none, List.map_cons, List.map_nil, slot_c0, slot_cs, own_c0, own_cs, ownv_c0, ownv_cs, ownt_c0, tup_c0, tup_cs, view_int, view_str, view_bl, view_non, view_tup, view_lst, view_ty, view_fn, p_bin, p_neg, p_cmp, p_ix, p_len_tup, p_len_lst, p_abs, p_int, p_intb, p_isi, p_tuple_tup, p_tuple_lst, p_max, p_min, b_add_int, b_sub_int, c_lt, c_le, c_gt, c_ge, c_eq, c_ne, ix_tup, ix_lst, at0, at1, at2, at3, at4, at5, eq_int, eq_str, eq_bl, truD, set_c0, set_cs, setS_c, isi_tuple_tup, isi_tuple_lst, isi_tuple_str, isi_tuple_int, isi_tuple_non, isi_tuple_bl, isi_str_str, isi_str_tup, isi_str_int, isi_str_non, isi_str_lst, isi_str_bl, if_true_, if_false_, itemsD, loopD, loopC, asg_nm, asg_tp, asgs_nil, asgs_cons, wipeS, setN, nkD, ndS, getN, boolsD, p_any, p_all, retOf, kN, isi_t_int, isi_t_bl, isi_t_str, sz0, sz1, sz2, sz3, sl0, sl1, sl2, sl3, c_MOST_ROW, b8, i1, i2, i3]
  have j1 : ∀ j, run fs (j + 1) 18 [.ref n] μ = some (.bl false, μ) := fun j => by rw [run_eq (F := ⟨1, 1, b18⟩) rfl rfl]; simp [start0, evE, evEs, evO, evC, evF, evSrc, evIn, evS, evSs, Option.bind_some, Option.map_some, Option.bind_none, Option.map_none, List.map_cons, List.map_nil, slot_c0, slot_cs, own_c0, own_cs, ownv_c0, ownv_cs, ownt_c0, tup_c0, tup_cs, view_int, view_str, view_bl, view_non, view_tup, view_lst, view_ty, view_fn, p_bin, p_neg, p_cmp, p_ix, p_len_tup, p_len_lst, p_abs, p_int, p_intb, p_isi, p_tuple_tup, p_tuple_lst, p_max, p_min, b_add_int, b_sub_int, c_lt, c_le, c_gt, c_ge, c_eq, c_ne, ix_tup, ix_lst, at0, at1, at2, at3, at4, at5, eq_int, eq_str, eq_bl, truD, set_c0, set_cs, setS_c, isi_tuple_tup, isi_tuple_lst, isi_tuple_str, isi_tuple_int, isi_tuple_non, isi_tuple_bl, isi_str_str, isi_str_tup, isi_str_int, isi_str_non, isi_str_lst, isi_str_bl, if_true_, if_false_, itemsD, loopD, loopC, asg_nm, asg_tp, asgs_nil, asgs_cons, wipeS, setN, nkD, ndS, getN, boolsD, p_any, p_all, retOf, kN, isi_t_int, isi_t_bl, isi_t_str, sz0, sz1, sz2, sz3, sl0, sl1, sl2, sl3, c_MOST_ROW, b18, h, view_dicc h]
  have j2 : ∀ j, run fs (j + 1) 20 [.ref n] μ = some (.bl false, μ) := fun j => by rw [run_eq (F := ⟨1, 2, b20⟩) rfl rfl]; simp [start0, evE, evEs, evO, evC, evF, evSrc, evIn, evS, evSs, Option.bind_some, Option.map_some, Option.bind_none, Option.map_none, List.map_cons, List.map_nil, slot_c0, slot_cs, own_c0, own_cs, ownv_c0, ownv_cs, ownt_c0, tup_c0, tup_cs, view_int, view_str, view_bl, view_non, view_tup, view_lst, view_ty, view_fn, p_bin, p_neg, p_cmp, p_ix, p_len_tup, p_len_lst, p_abs, p_int, p_intb, p_isi, p_tuple_tup, p_tuple_lst, p_max, p_min, b_add_int, b_sub_int, c_lt, c_le, c_gt, c_ge, c_eq, c_ne, ix_tup, ix_lst, at0, at1, at2, at3, at4, at5, eq_int, eq_str, eq_bl, truD, set_c0, set_cs, setS_c, isi_tuple_tup, isi_tuple_lst, isi_tuple_str, isi_tuple_int, isi_tuple_non, isi_tuple_bl, isi_str_str, isi_str_tup, isi_str_int, isi_str_non, isi_str_lst, isi_str_bl, if_true_, if_false_, itemsD, loopD, loopC, asg_nm, asg_tp, asgs_nil, asgs_cons, wipeS, setN, nkD, ndS, getN, boolsD, p_any, p_all, retOf, kN, isi_t_int, isi_t_bl, isi_t_str, sz0, sz1, sz2, sz3, sl0, sl1, sl2, sl3, c_MOST_ROW, b20, h, view_dicc h]
  have j3 : ∀ j, run fs (j + 2) 22 [.ref n] μ = some (.non, μ) := fun j => by rw [run_eq (F := ⟨1, 1, b22⟩) rfl rfl]; simp [start0, evE, evEs, evO, evC, evF, evSrc, evIn, evS, evSs, Option.bind_some, Option.map_some, Option.bind_none, Option.map_none, List.map_cons, List.map_nil, slot_c0, slot_cs, own_c0, own_cs, ownv_c0, ownv_cs, ownt_c0, tup_c0, tup_cs, view_int, view_str, view_bl, view_non, view_tup, view_lst, view_ty, view_fn, p_bin, p_neg, p_cmp, p_ix, p_len_tup, p_len_lst, p_abs, p_int, p_intb, p_isi, p_tuple_tup, p_tuple_lst, p_max, p_min, b_add_int, b_sub_int, c_lt, c_le, c_gt, c_ge, c_eq, c_ne, ix_tup, ix_lst, at0, at1, at2, at3, at4, at5, eq_int, eq_str, eq_bl, truD, set_c0, set_cs, setS_c, isi_tuple_tup, isi_tuple_lst, isi_tuple_str, isi_tuple_int, isi_tuple_non, isi_tuple_bl, isi_str_str, isi_str_tup, isi_str_int, isi_str_non, isi_str_lst, isi_str_bl, if_true_, if_false_, itemsD, loopD, loopC, asg_nm, asg_tp, asgs_nil, asgs_cons, wipeS, setN, nkD, ndS, getN, boolsD, p_any, p_all, retOf, kN, isi_t_int, isi_t_bl, isi_t_str, sz0, sz1, sz2, sz3, sl0, sl1, sl2, sl3, c_MOST_ROW, b22, h, view_dicc h, j1, j2]
  refine ⟨false, false, ?_, ?_, ?_, ?_⟩
  · rw [run_eq (F := ⟨1, 3, b9⟩) rfl rfl]; simp [start0, evE, evEs, evO, evC, evF, evSrc, evIn, evS, evSs, Option.bind_some, Option.map_some, Option.bind_none, Option.map_none, List.map_cons, List.map_nil, slot_c0, slot_cs, own_c0, own_cs, ownv_c0, ownv_cs, ownt_c0, tup_c0, tup_cs, view_int, view_str, view_bl, view_non, view_tup, view_lst, view_ty, view_fn, p_bin, p_neg, p_cmp, p_ix, p_len_tup, p_len_lst, p_abs, p_int, p_intb, p_isi, p_tuple_tup, p_tuple_lst, p_max, p_min, b_add_int, b_sub_int, c_lt, c_le, c_gt, c_ge, c_eq, c_ne, ix_tup, ix_lst, at0, at1, at2, at3, at4, at5, eq_int, eq_str, eq_bl, truD, set_c0, set_cs, setS_c, isi_tuple_tup, isi_tuple_lst, isi_tuple_str, isi_tuple_int, isi_tuple_non, isi_tuple_bl, isi_str_str, isi_str_tup, isi_str_int, isi_str_non, isi_str_lst, isi_str_bl, if_true_, if_false_, itemsD, loopD, loopC, asg_nm, asg_tp, asgs_nil, asgs_cons, wipeS, setN, nkD, ndS, getN, boolsD, p_any, p_all, retOf, kN, isi_t_int, isi_t_bl, isi_t_str, sz0, sz1, sz2, sz3, sl0, sl1, sl2, sl3, c_MOST_ROW, b9, h, view_dicc h, i4, cmpD]
  · rw [run_eq (F := ⟨1, 3, b23⟩) rfl rfl]; simp [start0, evE, evEs, evO, evC, evF, evSrc, evIn, evS, evSs, Option.bind_some, Option.map_some, Option.bind_none, Option.map_none, List.map_cons, List.map_nil, slot_c0, slot_cs, own_c0, own_cs, ownv_c0, ownv_cs, ownt_c0, tup_c0, tup_cs, view_int, view_str, view_bl, view_non, view_tup, view_lst, view_ty, view_fn, p_bin, p_neg, p_cmp, p_ix, p_len_tup, p_len_lst, p_abs, p_int, p_intb, p_isi, p_tuple_tup, p_tuple_lst, p_max, p_min, b_add_int, b_sub_int, c_lt, c_le, c_gt, c_ge, c_eq, c_ne, ix_tup, ix_lst, at0, at1, at2, at3, at4, at5, eq_int, eq_str, eq_bl, truD, set_c0, set_cs, setS_c, isi_tuple_tup, isi_tuple_lst, isi_tuple_str, isi_tuple_int, isi_tuple_non, isi_tuple_bl, isi_str_str, isi_str_tup, isi_str_int, isi_str_non, isi_str_lst, isi_str_bl, if_true_, if_false_, itemsD, loopD, loopC, asg_nm, asg_tp, asgs_nil, asgs_cons, wipeS, setN, nkD, ndS, getN, boolsD, p_any, p_all, retOf, kN, isi_t_int, isi_t_bl, isi_t_str, sz0, sz1, sz2, sz3, sl0, sl1, sl2, sl3, c_MOST_ROW, b23, h, view_dicc h, j3, cmpD]
  · rw [run_eq (F := ⟨1, 1, b13⟩) rfl rfl]; simp [start0, evE, evEs, evO, evC, evF, evSrc, evIn, evS, evSs, Option.bind_some, Option.map_some, Option.bind_none, Option.map_none, List.map_cons, List.map_nil, slot_c0, slot_cs, own_c0, own_cs, ownv_c0, ownv_cs, ownt_c0, tup_c0, tup_cs, view_int, view_str, view_bl, view_non, view_tup, view_lst, view_ty, view_fn, p_bin, p_neg, p_cmp, p_ix, p_len_tup, p_len_lst, p_abs, p_int, p_intb, p_isi, p_tuple_tup, p_tuple_lst, p_max, p_min, b_add_int, b_sub_int, c_lt, c_le, c_gt, c_ge, c_eq, c_ne, ix_tup, ix_lst, at0, at1, at2, at3, at4, at5, eq_int, eq_str, eq_bl, truD, set_c0, set_cs, setS_c, isi_tuple_tup, isi_tuple_lst, isi_tuple_str, isi_tuple_int, isi_tuple_non, isi_tuple_bl, isi_str_str, isi_str_tup, isi_str_int, isi_str_non, isi_str_lst, isi_str_bl, if_true_, if_false_, itemsD, loopD, loopC, asg_nm, asg_tp, asgs_nil, asgs_cons, wipeS, setN, nkD, ndS, getN, boolsD, p_any, p_all, retOf, kN, isi_t_int, isi_t_bl, isi_t_str, sz0, sz1, sz2, sz3, sl0, sl1, sl2, sl3, c_MOST_ROW, b13, h, view_dicc h]
  · rw [run_eq (F := ⟨1, 1, b25⟩) rfl rfl]; simp [start0, evE, evEs, evO, evC, evF, evSrc, evIn, evS, evSs, Option.bind_some, Option.map_some, Option.bind_none, Option.map_none, List.map_cons, List.map_nil, slot_c0, slot_cs, own_c0, own_cs, ownv_c0, ownv_cs, ownt_c0, tup_c0, tup_cs, view_int, view_str, view_bl, view_non, view_tup, view_lst, view_ty, view_fn, p_bin, p_neg, p_cmp, p_ix, p_len_tup, p_len_lst, p_abs, p_int, p_intb, p_isi, p_tuple_tup, p_tuple_lst, p_max, p_min, b_add_int, b_sub_int, c_lt, c_le, c_gt, c_ge, c_eq, c_ne, ix_tup, ix_lst, at0, at1, at2, at3, at4, at5, eq_int, eq_str, eq_bl, truD, set_c0, set_cs, setS_c, isi_tuple_tup, isi_tuple_lst, isi_tuple_str, isi_tuple_int, isi_tuple_non, isi_tuple_bl, isi_str_str, isi_str_tup, isi_str_int, isi_str_non, isi_str_lst, isi_str_bl, if_true_, if_false_, itemsD, loopD, loopC, asg_nm, asg_tp, asgs_nil, asgs_cons, wipeS, setN, nkD, ndS, getN, boolsD, p_any, p_all, retOf, kN, isi_t_int, isi_t_bl, isi_t_str, sz0, sz1, sz2, sz3, sl0, sl1, sl2, sl3, c_MOST_ROW, b25, h, view_dicc h]
theorem a_value {a : D} (h : a ∈ atoms κ) : run fs (k + 4) 9 [a] μ = some (.bl true, μ) := of_tab t_value h
theorem a_lvalue {a : D} (h : a ∈ atoms κ) : run fs (k + 4) 23 [a] μ = some (.bl true, μ) := of_tab t_lvalue h
theorem a_out {a : D} (h : a ∈ atoms κ) : run fs (k + 5) 13 [a] μ = some (.bl false, μ) := of_tab t_out h
theorem a_lout {a : D} (h : a ∈ atoms κ) : run fs (k + 5) 25 [a] μ = some (.bl false, μ) := of_tab t_lout h
theorem v_value {d : D} (h : Val b κ d) (k : Nat) (μ : Store) : run fs (k + 5) 9 [d] μ = some (.bl true, μ) ∧ run fs (k + 5) 23 [d] μ = some (.bl true, μ) := by
  cases h with
  | at_ ha => exact ⟨a_value (k := k + 1) ha, a_lvalue (k := k + 1) ha⟩
  | row hr => exact ⟨v_row hr, v_lrow hr⟩
theorem th_val {d : D} (h : Val b κ d) : Th k μ d := by
  have e1 := v_value h (k + 3) μ
  cases h with
  | at_ ha => exact ⟨true, false, e1.1, e1.2, a_out (k := k + 3) ha, a_lout (k := k + 3) ha⟩
  | row hr =>
    have e2 := v_rout (k := k + 2) (μ := μ) hr
    exact ⟨true, false, e1.1, e1.2, e2.1, e2.2⟩
theorem sk_value (k : Nat) (μ : Store) : run fs (k + 3) 8 [.str "value"] μ = some (.str "text", μ) := by kernel_rfl
theorem pk_value (k : Nat) (μ : Store) : run fs (k + 3) 22 [.str "value"] μ = some (.str "text", μ) := by kernel_rfl
theorem pk_tup {ds : List D} (k : Nat) (μ : Store) : run fs (k + 3) 22 [.tup ds] μ = some (.non, μ) := by kernel_rfl
theorem so_tn : sortS ["text", "number"] = [("number" : Str), "text"] := by decide +kernel
theorem so_tu : sortS ["text", "truth"] = [("text" : Str), "truth"] := by decide +kernel
theorem so_tN : sortS ["text", "None"] = [("None" : Str), "text"] := by decide +kernel
theorem p_strN : primD .str [.non] = some (.str "None") := rfl
theorem eqv2 {d : D} (h : Val b κ d) : eqD (.tup [.str "value", d]) (.tup []) = some false := by
  have g : goodL [.str "value", d] = true ∧ depL [.str "value", d] ≤ 60 := by
    cases h with
    | at_ ha => obtain ⟨a1, a2, a3⟩ := a_good ha; simp [goodL, depL, a1, a2, D.good, D.dep]; decide +kernel
    | row hr => obtain ⟨a1, a2, a3⟩ := row_good hr; simp [goodL, depL, a1, a2, D.good, D.dep]; decide +kernel
  exact eqT0 g.1 g.2
/-- a row of "value" and this: is it a value? -/
theorem pair_value {d : D} (h : Val b κ d) : ∃ p, run fs (k + 5) 9 [.tup [.str "value", d]] μ = some (.bl p, μ) ∧ run fs (k + 5) 23 [.tup [.str "value", d]] μ = some (.bl p, μ) := by
  have e := eqv2 h
  have s0 := sk_value
  have p0 := pk_value
  cases h with
  | at_ ha =>
    have h1 := a_single ha
    have h2 := a_plain ha
    have s1 := shp_of ha
    refine ⟨decide (κ = .txt), ?_, ?_⟩
    · rw [run_eq (F := ⟨1, 3, b9⟩) rfl rfl]
      cases κ <;> obtain ⟨i, rfl⟩ := s1 <;> simp [start0, evE, evEs, evO, evC, evF, evSrc, evIn, evS, evSs, Option.bind_some, Option.map_some, Option.bind_none, Option.map_none, List.map_cons, List.map_nil, slot_c0, slot_cs, own_c0, own_cs, ownv_c0, ownv_cs, ownt_c0, tup_c0, tup_cs, view_int, view_str, view_bl, view_non, view_tup, view_lst, view_ty, view_fn, p_bin, p_neg, p_cmp, p_ix, p_len_tup, p_len_lst, p_abs, p_int, p_intb, p_isi, p_tuple_tup, p_tuple_lst, p_max, p_min, b_add_int, b_sub_int, c_lt, c_le, c_gt, c_ge, c_eq, c_ne, ix_tup, ix_lst, at0, at1, at2, at3, at4, at5, eq_int, eq_str, eq_bl, truD, set_c0, set_cs, setS_c, isi_tuple_tup, isi_tuple_lst, isi_tuple_str, isi_tuple_int, isi_tuple_non, isi_tuple_bl, isi_str_str, isi_str_tup, isi_str_int, isi_str_non, isi_str_lst, isi_str_bl, if_true_, if_false_, itemsD, loopD, loopC, asg_nm, asg_tp, asgs_nil, asgs_cons, wipeS, setN, nkD, ndS, getN, boolsD, p_any, p_all, retOf, kN, isi_t_int, isi_t_bl, isi_t_str, sz0, sz1, sz2, sz3, sl0, sl1, sl2, sl3, c_MOST_ROW, b9, h1, s0, e, ne_text_number, ne_text_truth, ne_number_text, ne_truth_text]
    · rw [run_eq (F := ⟨1, 3, b23⟩) rfl rfl]
      cases κ <;> obtain ⟨i, rfl⟩ := s1 <;> simp [start0, evE, evEs, evO, evC, evF, evSrc, evIn, evS, evSs, Option.bind_some, Option.map_some, Option.bind_none, Option.map_none, List.map_cons, List.map_nil, slot_c0, slot_cs, own_c0, own_cs, ownv_c0, ownv_cs, ownt_c0, tup_c0, tup_cs, view_int, view_str, view_bl, view_non, view_tup, view_lst, view_ty, view_fn, p_bin, p_neg, p_cmp, p_ix, p_len_tup, p_len_lst, p_abs, p_int, p_intb, p_isi, p_tuple_tup, p_tuple_lst, p_max, p_min, b_add_int, b_sub_int, c_lt, c_le, c_gt, c_ge, c_eq, c_ne, ix_tup, ix_lst, at0, at1, at2, at3, at4, at5, eq_int, eq_str, eq_bl, truD, set_c0, set_cs, setS_c, isi_tuple_tup, isi_tuple_lst, isi_tuple_str, isi_tuple_int, isi_tuple_non, isi_tuple_bl, isi_str_str, isi_str_tup, isi_str_int, isi_str_non, isi_str_lst, isi_str_bl, if_true_, if_false_, itemsD, loopD, loopC, asg_nm, asg_tp, asgs_nil, asgs_cons, wipeS, setN, nkD, ndS, getN, boolsD, p_any, p_all, retOf, kN, isi_t_int, isi_t_bl, isi_t_str, sz0, sz1, sz2, sz3, sl0, sl1, sl2, sl3, c_MOST_ROW, b23, h2, p0, p_str, strsD, so2, so_tn, so_tu, sb0, sb1, sb2, sb3, sb4, sb5, sb6, eqN1, eqN2, eqN3]
  | row hr =>
    rename_i ds
    have h2 := pk_tup (ds := ds)
    refine ⟨false, ?_, ?_⟩
    · rw [run_eq (F := ⟨1, 3, b9⟩) rfl rfl]
      simp [start0, evE, evEs, evO, evC, evF, evSrc, evIn, evS, evSs, Option.bind_some, Option.map_some, Option.bind_none, Option.map_none, List.map_cons, List.map_nil, slot_c0, slot_cs, own_c0, own_cs, ownv_c0, ownv_cs, ownt_c0, tup_c0, tup_cs, view_int, view_str, view_bl, view_non, view_tup, view_lst, view_ty, view_fn, p_bin, p_neg, p_cmp, p_ix, p_len_tup, p_len_lst, p_abs, p_int, p_intb, p_isi, p_tuple_tup, p_tuple_lst, p_max, p_min, b_add_int, b_sub_int, c_lt, c_le, c_gt, c_ge, c_eq, c_ne, ix_tup, ix_lst, at0, at1, at2, at3, at4, at5, eq_int, eq_str, eq_bl, truD, set_c0, set_cs, setS_c, isi_tuple_tup, isi_tuple_lst, isi_tuple_str, isi_tuple_int, isi_tuple_non, isi_tuple_bl, isi_str_str, isi_str_tup, isi_str_int, isi_str_non, isi_str_lst, isi_str_bl, if_true_, if_false_, itemsD, loopD, loopC, asg_nm, asg_tp, asgs_nil, asgs_cons, wipeS, setN, nkD, ndS, getN, boolsD, p_any, p_all, retOf, kN, isi_t_int, isi_t_bl, isi_t_str, sz0, sz1, sz2, sz3, sl0, sl1, sl2, sl3, c_MOST_ROW, b9, s0, e, isi_t_tup]
    · rw [run_eq (F := ⟨1, 3, b23⟩) rfl rfl]
      simp [start0, evE, evEs, evO, evC, evF, evSrc, evIn, evS, evSs, Option.bind_some, Option.map_some, Option.bind_none, Option.map_none, List.map_cons, List.map_nil, slot_c0, slot_cs, own_c0, own_cs, ownv_c0, ownv_cs, ownt_c0, tup_c0, tup_cs, view_int, view_str, view_bl, view_non, view_tup, view_lst, view_ty, view_fn, p_bin, p_neg, p_cmp, p_ix, p_len_tup, p_len_lst, p_abs, p_int, p_intb, p_isi, p_tuple_tup, p_tuple_lst, p_max, p_min, b_add_int, b_sub_int, c_lt, c_le, c_gt, c_ge, c_eq, c_ne, ix_tup, ix_lst, at0, at1, at2, at3, at4, at5, eq_int, eq_str, eq_bl, truD, set_c0, set_cs, setS_c, isi_tuple_tup, isi_tuple_lst, isi_tuple_str, isi_tuple_int, isi_tuple_non, isi_tuple_bl, isi_str_str, isi_str_tup, isi_str_int, isi_str_non, isi_str_lst, isi_str_bl, if_true_, if_false_, itemsD, loopD, loopC, asg_nm, asg_tp, asgs_nil, asgs_cons, wipeS, setN, nkD, ndS, getN, boolsD, p_any, p_all, retOf, kN, isi_t_int, isi_t_bl, isi_t_str, sz0, sz1, sz2, sz3, sl0, sl1, sl2, sl3, c_MOST_ROW, b23, h2, p0, p_str, p_strN, strsD, so_tN, sb0, sb1, sb2, sb3, sb4, sb5, sb6, eqN1, eqN2, eqN3]
theorem w_value : ((Str.ofString "none" == Str.ofString "value") = false ∧ (Str.ofString "ring" == Str.ofString "value") = false) ∧ ((Str.ofString "value" = Str.ofString "fault") = False ∧ (Str.ofString "value" == Str.ofString "fault") = false) := ⟨⟨by decide +kernel, by decide +kernel⟩, eq_false (by decide +kernel), by decide +kernel⟩
theorem is_sized (l : List D) (k : Nat) (μ : Store) : run fs (k + 1) 4 [.tup l, .int 2] μ = some (.bl (decide (l.length = 2)), μ) := by
  rw [run_eq (F := ⟨2, 2, b4⟩) rfl rfl]
  have e : ((l.length : Int) == 2) = decide (l.length = 2) := by
    rw [Bool.eq_iff_iff]; simp; omega
  simp [start0, evE, evEs, evO, evC, evF, evSrc, evIn, evS, evSs, Option.bind_some, Option.map_some, Option.bind_none, Option.map_none, List.map_cons, List.map_nil, slot_c0, slot_cs, own_c0, own_cs, ownv_c0, ownv_cs, ownt_c0, tup_c0, tup_cs, view_int, view_str, view_bl, view_non, view_tup, view_lst, view_ty, view_fn, p_bin, p_neg, p_cmp, p_ix, p_len_tup, p_len_lst, p_abs, p_int, p_intb, p_isi, p_tuple_tup, p_tuple_lst, p_max, p_min, b_add_int, b_sub_int, c_lt, c_le, c_gt, c_ge, c_eq, c_ne, ix_tup, ix_lst, at0, at1, at2, at3, at4, at5, eq_int, eq_str, eq_bl, truD, set_c0, set_cs, setS_c, isi_tuple_tup, isi_tuple_lst, isi_tuple_str, isi_tuple_int, isi_tuple_non, isi_tuple_bl, isi_str_str, isi_str_tup, isi_str_int, isi_str_non, isi_str_lst, isi_str_bl, if_true_, if_false_, itemsD, loopD, loopC, asg_nm, asg_tp, asgs_nil, asgs_cons, wipeS, setN, nkD, ndS, getN, boolsD, p_any, p_all, retOf, kN, isi_t_int, isi_t_bl, isi_t_str, sz0, sz1, sz2, sz3, sl0, sl1, sl2, sl3, c_MOST_ROW, b4, isi_t_tup, e]
theorem th_pair {d : D} (h : Val b κ d) : Th k μ (.tup [.str "value", d]) := by
  obtain ⟨p, e1, e2⟩ := pair_value (k := k + 3) (μ := μ) h
  have v := v_value h
  have e := eqv2 h
  obtain ⟨⟨w1, w2⟩, w3, w4⟩ := w_value
  refine ⟨p, true, e1, e2, ?_, ?_⟩
  · rw [run_eq (F := ⟨1, 1, b13⟩) rfl rfl]
    have v1 := (v (k + 2) μ).1
    have z := is_sized [.str "value", d] (k + 6) μ
    simp [start0, evE, evEs, evO, evC, evF, evSrc, evIn, evS, evSs, Option.bind_some, Option.map_some, Option.bind_none, Option.map_none, List.map_cons, List.map_nil, slot_c0, slot_cs, own_c0, own_cs, ownv_c0, ownv_cs, ownt_c0, tup_c0, tup_cs, view_int, view_str, view_bl, view_non, view_tup, view_lst, view_ty, view_fn, p_bin, p_neg, p_cmp, p_ix, p_len_tup, p_len_lst, p_abs, p_int, p_intb, p_isi, p_tuple_tup, p_tuple_lst, p_max, p_min, b_add_int, b_sub_int, c_lt, c_le, c_gt, c_ge, c_eq, c_ne, ix_tup, ix_lst, at0, at1, at2, at3, at4, at5, eq_int, eq_str, eq_bl, truD, set_c0, set_cs, setS_c, isi_tuple_tup, isi_tuple_lst, isi_tuple_str, isi_tuple_int, isi_tuple_non, isi_tuple_bl, isi_str_str, isi_str_tup, isi_str_int, isi_str_non, isi_str_lst, isi_str_bl, if_true_, if_false_, itemsD, loopD, loopC, asg_nm, asg_tp, asgs_nil, asgs_cons, wipeS, setN, nkD, ndS, getN, boolsD, p_any, p_all, retOf, kN, isi_t_int, isi_t_bl, isi_t_str, sz0, sz1, sz2, sz3, sl0, sl1, sl2, sl3, c_MOST_ROW, b13, e, cmpD, in2, w1, w2, w3, w4, v1, z]
  · rw [run_eq (F := ⟨1, 1, b25⟩) rfl rfl]
    have v1 := (v (k + 2) μ).2
    simp [start0, evE, evEs, evO, evC, evF, evSrc, evIn, evS, evSs, Option.bind_some, Option.map_some, Option.bind_none, Option.map_none, List.map_cons, List.map_nil, slot_c0, slot_cs, own_c0, own_cs, ownv_c0, ownv_cs, ownt_c0, tup_c0, tup_cs, view_int, view_str, view_bl, view_non, view_tup, view_lst, view_ty, view_fn, p_bin, p_neg, p_cmp, p_ix, p_len_tup, p_len_lst, p_abs, p_int, p_intb, p_isi, p_tuple_tup, p_tuple_lst, p_max, p_min, b_add_int, b_sub_int, c_lt, c_le, c_gt, c_ge, c_eq, c_ne, ix_tup, ix_lst, at0, at1, at2, at3, at4, at5, eq_int, eq_str, eq_bl, truD, set_c0, set_cs, setS_c, isi_tuple_tup, isi_tuple_lst, isi_tuple_str, isi_tuple_int, isi_tuple_non, isi_tuple_bl, isi_str_str, isi_str_tup, isi_str_int, isi_str_non, isi_str_lst, isi_str_bl, if_true_, if_false_, itemsD, loopD, loopC, asg_nm, asg_tp, asgs_nil, asgs_cons, wipeS, setN, nkD, ndS, getN, boolsD, p_any, p_all, retOf, kN, isi_t_int, isi_t_bl, isi_t_str, sz0, sz1, sz2, sz3, sl0, sl1, sl2, sl3, c_MOST_ROW, b25, e, cmpD, in2, w1, w2, w3, w4, v1]
end
end FH.K01
end
section
namespace FH.K01
open PySem PySem.Spec PyProof.Rows L2
def t0 : IS := .set 1 (.call "_law_bag" 14 (.cons (.var 0) .nil))
def t1 : IS := .setOwn 2 (.disp (.cons (.lit .non) (.cons (.lit (.bl true)) (.cons (.lit (.int 0)) (.cons (.prim (.bin .Pow) (.cons (.lit (.int 10)) (.cons (.lit (.int 30)) .nil))) (.cons (.prim .neg (.cons (.prim (.bin .Pow) (.cons (.lit (.int 10)) (.cons (.lit (.int 30)) .nil))) .nil)) (.cons (.prim (.bin .Mult) (.cons (.lit (.str "a")) (.cons (.lit (.int 201)) .nil))) (.cons (.lit (.str "\n")) .nil))))))))
def t2 : IS := .freeze 2 (.setOwn 2 (.cat (.var 2) (.frz (.disp (.cons (.lit (.str "\"")) (.cons (.tup .nil) (.cons (.tup (.cons (.lit (.int 1)) (.cons (.lit (.bl true)) .nil))) (.cons (.tup (.cons (.lit (.int 1)) (.cons (.lit (.str "a")) .nil))) (.cons (.tup (.cons (.tup (.cons (.lit (.int 1)) .nil)) .nil)) (.cons (.tup (.cons (.lit .non) .nil)) (.cons (.frz (.disp (.cons (.lit (.int 1)) .nil))) (.cons .celld (.cons (.tup (.cons (.lit (.str "value")) (.cons (.lit (.int 1)) .nil))) (.cons (.tup (.cons (.lit (.str "value")) (.cons (.tup (.cons (.lit (.int 1)) (.cons (.lit (.int 2)) .nil))) .nil))) (.cons (.tup (.cons (.lit (.str "value")) .nil)) (.cons (.tup (.cons (.lit (.str "value")) (.cons (.lit .non) .nil))) (.cons (.tup (.cons (.lit (.str "fault")) (.cons (.lit (.str "zero")) (.cons (.tup (.cons (.lit (.int 0)) (.cons (.lit (.int 0)) .nil))) .nil)))) .nil)))))))))))))))))
def t3 : IS := .freeze 2 (.setOwn 2 (.cat (.var 2) (.frz (.disp (.cons (.tup (.cons (.lit (.str "fault")) (.cons (.lit (.str "zoo")) (.cons (.tup (.cons (.lit (.int 0)) (.cons (.lit (.int 0)) .nil))) .nil)))) (.cons (.tup (.cons (.lit (.str "fault")) (.cons (.lit (.str "zero")) .nil))) (.cons (.tup (.cons (.lit (.str "fault")) (.cons (.lit (.str "out")) (.cons (.tup (.cons (.lit (.int 26)) (.cons (.lit (.int 0)) .nil))) .nil)))) (.cons (.tup (.cons (.lit (.str "ring")) .nil)) (.cons (.tup (.cons (.lit (.str "ring")) (.cons (.lit (.int 1)) .nil))) (.cons (.tup (.cons (.lit (.str "none")) .nil)) (.cons (.frz (.disp (.cons (.lit (.str "none")) .nil))) (.cons (.tup (.cons (.prim (.bin .Pow) (.cons (.lit (.int 10)) (.cons (.lit (.int 30)) .nil))) .nil)) (.cons (.tup (.cons (.lit (.str "a")) (.cons (.lit (.str "b")) .nil))) (.cons (.tup (.cons (.lit (.bl true)) (.cons (.lit (.bl false)) .nil))) .nil))))))))))))))
def t4 : IS := .set 3 (.frz (.disp (.cons (.lit (.str "number")) (.cons (.lit (.str "text")) (.cons (.lit (.str "truth")) (.cons (.tup (.cons (.lit (.str "row")) (.cons (.lit (.str "number")) .nil))) (.cons (.tup (.cons (.lit (.str "row")) (.cons (.lit (.str "text")) .nil))) (.cons (.tup (.cons (.lit (.str "row")) (.cons (.lit (.str "truth")) .nil))) .nil))))))))
def t5_0 : IS := .set 5 (.call "_law_some" 16 (.cons (.var 1) (.cons (.var 3) .nil)))
def t5_1 : IS := .set 6 (.frz (.comp (.nm 11) [("k", 11)] (.range1 (.lit (.int 5))) .no (.call "_law_drawn" 26 (.cons (.var 1) (.cons (.var 5) .nil)))))
def t5_2 : IS := .extV 2 (.var 6)
def t5_3 : IS := .extOwn 2 (.disp (.cons (.tup (.cons (.lit (.str "value")) (.cons (.prim .ix (.cons (.var 6) (.cons (.lit (.int 0)) .nil))) .nil))) (.cons (.slice (.var 6) (.som (.lit (.int 0))) (.som (.lit (.int 2)))) .nil)))
def t5_4 : IS := .fors (.nm 7) (.it (.var 6)) (.cons (.ifs (.nott (.call "_law_alike" 17 (.cons (.frz (.disp (.cons (.call "is_value" 9 (.cons (.var 7) .nil)) (.cons (.call "kind_of" 10 (.cons (.var 7) .nil)) (.cons (.call "are_same" 12 (.cons (.var 7) (.cons (.var 7) .nil))) .nil))))) (.cons (.frz (.disp (.cons (.lit (.bl true)) (.cons (.call "_law_kind_told" 24 (.cons (.var 7) .nil)) (.cons (.lit (.bl true)) .nil))))) .nil)))) (.cons (.ret (.lit (.bl false))) .nil) .nil) .nil)
def t5_5 : IS := .ifs (.prim (.cmp .NotEq) (.cons (.frz (.sorted (.var 6))) (.cons (.frz (.comp (.tp (.cons (.nm 12) (.cons (.nm 11) .nil))) [("key", 12), ("k", 11)] (.it (.frz (.sorted (.frz (.comp (.tp (.cons (.nm 11) (.cons (.nm 7) .nil))) [("k", 11), ("value", 7)] (.enum (.var 6)) .no (.tup (.cons (.call "value_key" 11 (.cons (.var 7) .nil)) (.cons (.var 11) .nil)))))))) .no (.prim .ix (.cons (.var 6) (.cons (.var 11) .nil))))) .nil))) (.cons (.ret (.lit (.bl false))) .nil) .nil
def t5_6 : IS := .set 8 (.call "_law_drawn" 26 (.cons (.var 1) (.cons (.call "_law_some" 16 (.cons (.var 1) (.cons (.var 3) .nil))) .nil)))
def t5_7 : IS := .set 9 (.orr (.prim (.cmp .Eq) (.cons (.prim .repr (.cons (.var 8) .nil)) (.cons (.prim .repr (.cons (.prim .ix (.cons (.var 6) (.cons (.lit (.int 0)) .nil))) .nil)) .nil))) (.andd (.prim (.cmp .Eq) (.cons (.var 8) (.cons (.tup .nil) .nil))) (.prim (.cmp .Eq) (.cons (.prim .ix (.cons (.var 6) (.cons (.lit (.int 0)) .nil))) (.cons (.tup .nil) .nil)))))
def t5_8 : IS := .ifs (.andd (.prim (.cmp .NotEq) (.cons (.call "are_same" 12 (.cons (.prim .ix (.cons (.var 6) (.cons (.lit (.int 0)) .nil))) (.cons (.var 8) .nil))) (.cons (.var 9) .nil))) (.prim (.cmp .NotIn) (.cons (.tup .nil) (.cons (.tup (.cons (.prim .ix (.cons (.var 6) (.cons (.lit (.int 0)) .nil))) (.cons (.var 8) .nil))) .nil)))) (.cons (.ret (.lit (.bl false))) .nil) .nil
def t5_b : ISs := .cons t5_0 (.cons t5_1 (.cons t5_2 (.cons t5_3 (.cons t5_4 (.cons t5_5 (.cons t5_6 (.cons t5_7 (.cons t5_8 (.nil)))))))))
def t5 : IS := .fors (.nm 4) (.range1 (.lit (.int 12))) t5_b
def t6_0 : IS := .ifs (.nott (.call "_law_alike" 17 (.cons (.frz (.disp (.cons (.call "is_value" 9 (.cons (.var 10) .nil)) (.cons (.call "is_outcome" 13 (.cons (.var 10) .nil)) .nil)))) (.cons (.frz (.disp (.cons (.call "_law_is_value" 23 (.cons (.var 10) .nil)) (.cons (.call "_law_is_outcome" 25 (.cons (.var 10) .nil)) .nil)))) .nil)))) (.cons (.ret (.lit (.bl false))) .nil) .nil
def t6_b : ISs := .cons t6_0 (.nil)
def t6 : IS := .freeze 2 (.fors (.nm 10) (.it (.var 2)) t6_b)
def t7_0 : IS := .ifs (.nott (.call "_law_alike" 17 (.cons (.call "is_big" 7 (.cons (.var 10) .nil)) (.cons (.call "_law_is_big" 19 (.cons (.var 10) .nil)) .nil)))) (.cons (.ret (.lit (.bl false))) .nil) .nil
def t7_b : ISs := .cons t7_0 (.nil)
def t7 : IS := .fors (.nm 10) (.it (.frz (.disp (.cons (.prim (.bin .Pow) (.cons (.lit (.int 10)) (.cons (.lit (.int 30)) .nil))) (.cons (.prim (.bin .Sub) (.cons (.prim (.bin .Pow) (.cons (.lit (.int 10)) (.cons (.lit (.int 30)) .nil))) (.cons (.lit (.int 1)) .nil))) (.cons (.prim .neg (.cons (.prim (.bin .Pow) (.cons (.lit (.int 10)) (.cons (.lit (.int 30)) .nil))) .nil)) (.cons (.lit (.int 0)) (.cons (.prim (.bin .Mult) (.cons (.lit (.str "a")) (.cons (.lit (.int 200)) .nil))) (.cons (.prim (.bin .Mult) (.cons (.lit (.str "a")) (.cons (.lit (.int 201)) .nil))) (.cons (.lit (.str "")) .nil)))))))))) t7_b
def t8 : IS := .ret (.lit (.bl true))
def tb : ISs := .cons t0 (.cons t1 (.cons t2 (.cons t3 (.cons t4 (.cons t5 (.cons t6 (.cons t7 (.cons t8 (.nil)))))))))
theorem b27_eq : b27 = tb := rfl
theorem loopF_inv {f : D → Slots → Store → SR} {I : Slots → Store → Prop} : ∀ {xs : List D}, (∀ x ∈ xs, ∀ ρ μ, I ρ μ → ∃ ρ' μ', f x ρ μ = some (.nx, ρ', μ') ∧ I ρ' μ') → ∀ {ρ : Slots} {μ : Store}, I ρ μ → ∃ ρ' μ', loopF f xs ρ μ = some (.nx, ρ', μ') ∧ I ρ' μ'
  | [], _, ρ, μ, h => ⟨ρ, μ, rfl, h⟩
  | x :: xs, hs, ρ, μ, h => by
    obtain ⟨ρ1, μ1, e, h1⟩ := hs x List.mem_cons_self ρ μ h
    unfold loopF
    rw [e]
    exact loopF_inv (fun y hy => hs y (List.mem_cons_of_mem _ hy)) h1
abbrev Γ (k : Nat) : Env2 := ⟨run fs (k + 8), (runP fs (k + 8)).2⟩
def K6 : List D := [kd false .num, kd false .txt, kd false .tru, kd true .num, kd true .txt, kd true .tru]
theorem k6_mem {d : D} (h : d ∈ K6) : ∃ b κ, d = kd b κ := by
  simp only [K6, List.mem_cons, List.not_mem_nil, or_false] at h
  rcases h with rfl | rfl | rfl | rfl | rfl | rfl <;> exact ⟨_, _, rfl⟩
section
variable {k : Nat} {μ : Store} {κ κ' : Kd} {b b' : Bool} {cs th : List D} {sc : D} {x4 x5 x6 x7 x8 x9 x10 x11 x12 : Slot}
theorem val_good {d : D} (h : Val b κ d) : d.good = true ∧ d.dep ≤ 1 ∧ d.wgt ≤ 604 := by
  cases h with
  | at_ ha => obtain ⟨a1, a2, a3⟩ := a_good ha; exact ⟨a1, by omega, by omega⟩
  | row hr => obtain ⟨a1, a2, a3⟩ := row_good hr; exact ⟨by simpa [D.good] using a1, by simp [D.dep]; omega, by simp [D.wgt]; omega⟩
theorem val_view {d : D} (h : Val b κ d) (μ : Store) : viewD μ d = d := by
  have g := (val_good h).1
  cases d <;> first | rfl | (simp [D.good] at g)
theorem l_alike {d : D} (g : d.good = true) (hd : d.dep ≤ 64) (hw : d.wgt ≤ 2 ^ 18) : run fs (k + 8) 17 [d, d] μ = some (.bl true, μ) := alike_at (k := k + 7) rfl g hd hw
theorem s50 (hb : BagAt μ 0 cs) (hc : AllI cs) : ∃ b κ μ', evS (Γ k) t5_0 [.val sc, .val (.ref 0), .own (.lst th), .val (.lst K6), x4, x5, x6, x7, x8, x9, x10, x11, x12] μ = some (.nx, [.val sc, .val (.ref 0), .own (.lst th), .val (.lst K6), x4, .val (kd b κ), x6, x7, x8, x9, x10, x11, x12], μ') ∧ Stir 0 cs μ μ' := by
  obtain ⟨d, μ', e, s, m⟩ := some_ok (k := k + 6) hb hc (ds := K6) (by simp [K6]) (by simp [K6])
  obtain ⟨b, κ, rfl⟩ := k6_mem m
  refine ⟨b, κ, μ', ?_, s⟩
  generalize K6 = L at e
  simp [start0, evE, evEs, evO, evC, evF, evSrc, evIn, evS, evSs, Option.bind_some, Option.map_some, Option.bind_none, Option.map_none, List.map_cons, List.map_nil, slot_c0, slot_cs, own_c0, own_cs, ownv_c0, ownv_cs, ownt_c0, tup_c0, tup_cs, view_int, view_str, view_bl, view_non, view_tup, view_lst, view_ty, view_fn, p_bin, p_neg, p_cmp, p_ix, p_len_tup, p_len_lst, p_abs, p_int, p_intb, p_isi, p_tuple_tup, p_tuple_lst, p_max, p_min, b_add_int, b_sub_int, c_lt, c_le, c_gt, c_ge, c_eq, c_ne, ix_tup, ix_lst, at0, at1, at2, at3, at4, at5, eq_int, eq_str, eq_bl, truD, set_c0, set_cs, setS_c, isi_tuple_tup, isi_tuple_lst, isi_tuple_str, isi_tuple_int, isi_tuple_non, isi_tuple_bl, isi_str_str, isi_str_tup, isi_str_int, isi_str_non, isi_str_lst, isi_str_bl, if_true_, if_false_, itemsD, loopD, loopC, asg_nm, asg_tp, asgs_nil, asgs_cons, wipeS, setN, nkD, ndS, getN, boolsD, p_any, p_all, retOf, kN, isi_t_int, isi_t_bl, isi_t_str, sz0, sz1, sz2, sz3, sl0, sl1, sl2, sl3, c_MOST_ROW, t5_0, e]
theorem drawn5 (hb : BagAt μ 0 cs) (hc : AllI cs) : ∃ v0 v1 v2 v3 v4 μ', evS (Γ k) t5_1 [.val sc, .val (.ref 0), .own (.lst th), .val (.lst K6), x4, .val (kd b κ), x6, x7, x8, x9, x10, x11, x12] μ = some (.nx, [.val sc, .val (.ref 0), .own (.lst th), .val (.lst K6), x4, .val (kd b κ), .val (.lst [v0, v1, v2, v3, v4]), x7, x8, x9, x10, x11, x12], μ') ∧ Stir 0 cs μ μ' ∧
    ∀ v ∈ [v0, v1, v2, v3, v4], Val b κ v := by
  generalize K6 = L
  have hd := fun (μ : Store) (hb : BagAt μ 0 cs) => drawn_row (k := k + 4) (b := b) (κ := κ) (μ := μ) hb hc
  generalize kd b κ = kx at hd ⊢
  obtain ⟨ds, μ2, e2, s2, l2, m2⟩ := draws (n := 0) (cs := cs) (P := fun d => Val b κ d) (f := fun x μ => (asgT (.nm 11) x (wipeS [.val sc, .val (.ref 0), .own (.lst th), .val (.lst L), x4, .val kx, x6, x7, x8, x9, x10, x11, x12] [11])).bind fun ρ' => (evC (Γ k) .no ρ' μ).bind fun q =>
        if q.1 then (evE (Γ k) (.call "_law_drawn" 26 (.cons (.var 1) (.cons (.var 5) .nil))) ρ' q.2).map fun q => (some q.1, q.2) else some (none, q.2)) (fun x μ hb => by
      obtain ⟨d, μ', e, s, m⟩ := hd μ hb
      exact ⟨d, μ', by simp [start0, evE, evEs, evO, evC, evF, evSrc, evIn, evS, evSs, Option.bind_some, Option.map_some, Option.bind_none, Option.map_none, List.map_cons, List.map_nil, slot_c0, slot_cs, own_c0, own_cs, ownv_c0, ownv_cs, ownt_c0, tup_c0, tup_cs, view_int, view_str, view_bl, view_non, view_tup, view_lst, view_ty, view_fn, p_bin, p_neg, p_cmp, p_ix, p_len_tup, p_len_lst, p_abs, p_int, p_intb, p_isi, p_tuple_tup, p_tuple_lst, p_max, p_min, b_add_int, b_sub_int, c_lt, c_le, c_gt, c_ge, c_eq, c_ne, ix_tup, ix_lst, at0, at1, at2, at3, at4, at5, eq_int, eq_str, eq_bl, truD, set_c0, set_cs, setS_c, isi_tuple_tup, isi_tuple_lst, isi_tuple_str, isi_tuple_int, isi_tuple_non, isi_tuple_bl, isi_str_str, isi_str_tup, isi_str_int, isi_str_non, isi_str_lst, isi_str_bl, if_true_, if_false_, itemsD, loopD, loopC, asg_nm, asg_tp, asgs_nil, asgs_cons, wipeS, setN, nkD, ndS, getN, boolsD, p_any, p_all, retOf, kN, isi_t_int, isi_t_bl, isi_t_str, sz0, sz1, sz2, sz3, sl0, sl1, sl2, sl3, c_MOST_ROW, e], s, m⟩) (rangeD 0 5) μ hb
  have hf : evF (Γ k) (.comp (.nm 11) [("k", 11)] (.range1 (.lit (.int 5))) .no (.call "_law_drawn" 26 (.cons (.var 1) (.cons (.var 5) .nil)))) [.val sc, .val (.ref 0), .own (.lst th), .val (.lst L), x4, .val kx, x6, x7, x8, x9, x10, x11, x12] μ = some (ds, μ2) := by
    have hs : evSrc (Γ k) (.range1 (.lit (.int 5))) [.val sc, .val (.ref 0), .own (.lst th), .val (.lst L), x4, .val kx, x6, x7, x8, x9, x10, x11, x12] μ = some (.items (rangeD 0 5), μ) := by
      unfold evSrc
      simp only [evE, Option.bind_some]
      rw [if_pos (by decide)]; rfl
    unfold evF
    rw [hs]
    simp only [Option.bind_some]
    rw [if_pos (Nat.lt_of_lt_of_le (show (rangeD 0 5).length < 1000 by simp [rangeD]) (by have := sizeLine_eq; omega))]
    exact e2
  have l5 : ds.length = 5 := by rw [l2]; simp [rangeD]
  match ds, l5 with
  | [v0, v1, v2, v3, v4], _ =>
    refine ⟨v0, v1, v2, v3, v4, μ2, ?_, s2, m2⟩
    unfold t5_1
    generalize FE.comp (.nm 11) [("k", 11)] (.range1 (.lit (.int 5))) .no (.call "_law_drawn" 26 (.cons (.var 1) (.cons (.var 5) .nil))) = fe at hf
    simp [start0, evE, evEs, evO, evC, evF, evSrc, evIn, evS, evSs, Option.bind_some, Option.map_some, Option.bind_none, Option.map_none, List.map_cons, List.map_nil, slot_c0, slot_cs, own_c0, own_cs, ownv_c0, ownv_cs, ownt_c0, tup_c0, tup_cs, view_int, view_str, view_bl, view_non, view_tup, view_lst, view_ty, view_fn, p_bin, p_neg, p_cmp, p_ix, p_len_tup, p_len_lst, p_abs, p_int, p_intb, p_isi, p_tuple_tup, p_tuple_lst, p_max, p_min, b_add_int, b_sub_int, c_lt, c_le, c_gt, c_ge, c_eq, c_ne, ix_tup, ix_lst, at0, at1, at2, at3, at4, at5, eq_int, eq_str, eq_bl, truD, set_c0, set_cs, setS_c, isi_tuple_tup, isi_tuple_lst, isi_tuple_str, isi_tuple_int, isi_tuple_non, isi_tuple_bl, isi_str_str, isi_str_tup, isi_str_int, isi_str_non, isi_str_lst, isi_str_bl, if_true_, if_false_, itemsD, loopD, loopC, asg_nm, asg_tp, asgs_nil, asgs_cons, wipeS, setN, nkD, ndS, getN, boolsD, p_any, p_all, retOf, kN, isi_t_int, isi_t_bl, isi_t_str, sz0, sz1, sz2, sz3, sl0, sl1, sl2, sl3, c_MOST_ROW, hf]
theorem s52 {v0 v1 v2 v3 v4 : D} (hl : th.length + 5 ≤ 1000) : evS (Γ k) t5_2 [.val sc, .val (.ref 0), .own (.lst th), .val (.lst K6), x4, x5, .val (.lst [v0, v1, v2, v3, v4]), x7, x8, x9, x10, x11, x12] μ = some (.nx, [.val sc, .val (.ref 0), .own (.lst (th ++ [v0, v1, v2, v3, v4])), .val (.lst K6), x4, x5, .val (.lst [v0, v1, v2, v3, v4]), x7, x8, x9, x10, x11, x12], μ) := by
  have e : (th.length + 5 ≤ sizeLine) = True := le_size hl
  simp [start0, evE, evEs, evO, evC, evF, evSrc, evIn, evS, evSs, Option.bind_some, Option.map_some, Option.bind_none, Option.map_none, List.map_cons, List.map_nil, slot_c0, slot_cs, own_c0, own_cs, ownv_c0, ownv_cs, ownt_c0, tup_c0, tup_cs, view_int, view_str, view_bl, view_non, view_tup, view_lst, view_ty, view_fn, p_bin, p_neg, p_cmp, p_ix, p_len_tup, p_len_lst, p_abs, p_int, p_intb, p_isi, p_tuple_tup, p_tuple_lst, p_max, p_min, b_add_int, b_sub_int, c_lt, c_le, c_gt, c_ge, c_eq, c_ne, ix_tup, ix_lst, at0, at1, at2, at3, at4, at5, eq_int, eq_str, eq_bl, truD, set_c0, set_cs, setS_c, isi_tuple_tup, isi_tuple_lst, isi_tuple_str, isi_tuple_int, isi_tuple_non, isi_tuple_bl, isi_str_str, isi_str_tup, isi_str_int, isi_str_non, isi_str_lst, isi_str_bl, if_true_, if_false_, itemsD, loopD, loopC, asg_nm, asg_tp, asgs_nil, asgs_cons, wipeS, setN, nkD, ndS, getN, boolsD, p_any, p_all, retOf, kN, isi_t_int, isi_t_bl, isi_t_str, sz0, sz1, sz2, sz3, sl0, sl1, sl2, sl3, c_MOST_ROW, t5_2, e]
theorem s53 {v0 v1 v2 v3 v4 : D} (hl : th.length + 2 ≤ 1000) : evS (Γ k) t5_3 [.val sc, .val (.ref 0), .own (.lst th), .val (.lst K6), x4, x5, .val (.lst [v0, v1, v2, v3, v4]), x7, x8, x9, x10, x11, x12] μ = some (.nx, [.val sc, .val (.ref 0), .own (.lst (th ++ [.tup [.str "value", v0], .lst [v0, v1]])), .val (.lst K6), x4, x5, .val (.lst [v0, v1, v2, v3, v4]), x7, x8, x9, x10, x11, x12], μ) := by
  have e : (th.length + 2 ≤ sizeLine) = True := le_size hl
  have z1 : HT.sIx 5 0 (some 0) = 0 := by decide
  have z2 : HT.sIx 5 5 (some 2) = 2 := by decide
  simp [start0, evE, evEs, evO, evC, evF, evSrc, evIn, evS, evSs, Option.bind_some, Option.map_some, Option.bind_none, Option.map_none, List.map_cons, List.map_nil, slot_c0, slot_cs, own_c0, own_cs, ownv_c0, ownv_cs, ownt_c0, tup_c0, tup_cs, view_int, view_str, view_bl, view_non, view_tup, view_lst, view_ty, view_fn, p_bin, p_neg, p_cmp, p_ix, p_len_tup, p_len_lst, p_abs, p_int, p_intb, p_isi, p_tuple_tup, p_tuple_lst, p_max, p_min, b_add_int, b_sub_int, c_lt, c_le, c_gt, c_ge, c_eq, c_ne, ix_tup, ix_lst, at0, at1, at2, at3, at4, at5, eq_int, eq_str, eq_bl, truD, set_c0, set_cs, setS_c, isi_tuple_tup, isi_tuple_lst, isi_tuple_str, isi_tuple_int, isi_tuple_non, isi_tuple_bl, isi_str_str, isi_str_tup, isi_str_int, isi_str_non, isi_str_lst, isi_str_bl, if_true_, if_false_, itemsD, loopD, loopC, asg_nm, asg_tp, asgs_nil, asgs_cons, wipeS, setN, nkD, ndS, getN, boolsD, p_any, p_all, retOf, kN, isi_t_int, isi_t_bl, isi_t_str, sz0, sz1, sz2, sz3, sl0, sl1, sl2, sl3, c_MOST_ROW, t5_3, e, z1, z2]
end
end FH.K01
end
section
namespace FH.K01
open PySem PySem.Spec PyProof.Rows L2
section
variable {k : Nat} {μ : Store} {κ κ' : Kd} {b b' : Bool} {cs th : List D} {sc : D} {x4 x5 x6 x7 x8 x9 x10 x11 x12 : Slot}
def t54c : ISs := (.cons (.ifs (.nott (.call "_law_alike" 17 (.cons (.frz (.disp (.cons (.call "is_value" 9 (.cons (.var 7) .nil)) (.cons (.call "kind_of" 10 (.cons (.var 7) .nil)) (.cons (.call "are_same" 12 (.cons (.var 7) (.cons (.var 7) .nil))) .nil))))) (.cons (.frz (.disp (.cons (.lit (.bl true)) (.cons (.call "_law_kind_told" 24 (.cons (.var 7) .nil)) (.cons (.lit (.bl true)) .nil))))) .nil)))) (.cons (.ret (.lit (.bl false))) .nil) .nil) .nil)
theorem t54_eq : t5_4 = .fors (.nm 7) (.it (.var 6)) t54c := rfl
theorem a_kind {a : D} (h : a ∈ atoms κ) : run fs (k + 4) 10 [a] μ = some (.str (kN κ), μ) := of_tab t_kind h
theorem a_told {a : D} (h : a ∈ atoms κ) : run fs (k + 4) 24 [a] μ = some (.str (kN κ), μ) := of_tab t_told h
theorem v_kind {d : D} (h : Val b κ d) (k : Nat) (μ : Store) : ∃ x, run fs (k + 5) 10 [d] μ = some (x, μ) ∧ run fs (k + 5) 24 [d] μ = some (x, μ) ∧ x.good = true ∧ x.dep ≤ 1 ∧ x.wgt ≤ 100 := by
  cases h with
  | at_ ha => exact ⟨_, a_kind (k := k + 1) ha, a_told (k := k + 1) ha, by cases κ <;> decide +kernel, by cases κ <;> decide +kernel, by cases κ <;> decide +kernel⟩
  | row hr =>
    obtain ⟨e1, e2⟩ := v_rkind (k := k) (μ := μ) hr
    refine ⟨_, e1, e2, ?_⟩
    cases hr <;> cases κ <;> (simp only [rowK]; decide +kernel)
theorem sameA_refl {a : D} (h : a ∈ atoms κ) : sameA a a = true := by
  have s := shp_of h
  cases κ <;> obtain ⟨i, rfl⟩ := s <;> simp [sameA]
theorem v_same {d e : D} (h : Val b κ d) (g : Val b' κ' e) (k : Nat) (μ : Store) : run fs (k + 5) 12 [d, e] μ = some (.bl (sameV d e), μ) := by
  cases h with
  | at_ ha =>
    cases g with
    | at_ hb => rw [sameV_at ha hb]; exact s_atoms ha hb (k + 1) μ
    | @row _ ds hb =>
      have e1 : sameV d (.tup ds) = false := by
        have s1 := shp_of ha
        cases κ <;> obtain ⟨i, rfl⟩ := s1 <;> rfl
      rw [e1]; exact (v_atrow (k := k + 1) ha).1
  | @row _ ds ha =>
    cases g with
    | at_ hb =>
      have e1 : sameV (.tup ds) e = false := by
        have s1 := shp_of hb
        cases κ' <;> obtain ⟨i, rfl⟩ := s1 <;> rfl
      rw [e1]; exact (v_atrow (k := k + 1) hb).2
    | row hb => exact v_rowrow ha hb
theorem sameV_refl {d : D} (h : Val b κ d) : sameV d d = true := by rw [same_repr h h]; simp
theorem alike_good {xs : List D} (h : ∀ d ∈ xs, d.good = true ∧ d.dep ≤ 1 ∧ d.wgt ≤ 1000) (hl : xs.length ≤ 100) : (D.lst xs).good = true ∧ (D.lst xs).dep ≤ 64 ∧ (D.lst xs).wgt ≤ 2 ^ 18 := by
  have key : ∀ ys : List D, (∀ d ∈ ys, d.good = true ∧ d.dep ≤ 1 ∧ d.wgt ≤ 1000) → goodL ys = true ∧ depL ys ≤ 1 ∧ wgtL ys ≤ 1001 * ys.length := by
    intro ys
    induction ys with
    | nil => intro _; exact ⟨rfl, by simp [depL], by simp [wgtL]⟩
    | cons y ys ih =>
      intro h
      obtain ⟨i1, i2, i3⟩ := ih fun d hd => h d (List.mem_cons_of_mem _ hd)
      obtain ⟨h1, h2, h3⟩ := h y List.mem_cons_self
      refine ⟨by simp [goodL, h1, i1], by simp only [depL]; omega, ?_⟩
      simp only [wgtL, List.length_cons]
      omega
  obtain ⟨k1, k2, k3⟩ := key xs h
  have : 1001 * xs.length ≤ 1001 * 100 := Nat.mul_le_mul (Nat.le_refl _) hl
  have e : (2 : Nat) ^ 18 = 262144 := by decide
  exact ⟨by simpa [D.good] using k1, by simp only [D.dep]; omega, by simp only [D.wgt]; omega⟩
theorem s54t {v : D} (h : Val b κ v) : evSs (Γ k) t54c [.val sc, .val (.ref 0), .own (.lst th), .val (.lst K6), x4, x5, x6, .val v, x8, x9, x10, x11, x12] μ = some (.nx, [.val sc, .val (.ref 0), .own (.lst th), .val (.lst K6), x4, x5, x6, .val v, x8, x9, x10, x11, x12], μ) := by
  generalize K6 = L
  have e1 := (v_value h (k + 3) μ).1
  obtain ⟨x, e2, e3, g1, g2, g3⟩ := v_kind h (k + 3) μ
  have e4 := v_same h h (k + 3) μ
  rw [sameV_refl h] at e4
  have gg := alike_good (xs := [.bl true, x, .bl true]) (fun d hd => by
    simp only [List.mem_cons, List.not_mem_nil, or_false] at hd
    rcases hd with rfl | rfl | rfl
    · decide
    · exact ⟨g1, g2, by omega⟩
    · decide) (by simp)
  have e5 := l_alike (k := k) (μ := μ) gg.1 gg.2.1 gg.2.2
  simp [start0, evE, evEs, evO, evC, evF, evSrc, evIn, evS, evSs, Option.bind_some, Option.map_some, Option.bind_none, Option.map_none, List.map_cons, List.map_nil, slot_c0, slot_cs, own_c0, own_cs, ownv_c0, ownv_cs, ownt_c0, tup_c0, tup_cs, view_int, view_str, view_bl, view_non, view_tup, view_lst, view_ty, view_fn, p_bin, p_neg, p_cmp, p_ix, p_len_tup, p_len_lst, p_abs, p_int, p_intb, p_isi, p_tuple_tup, p_tuple_lst, p_max, p_min, b_add_int, b_sub_int, c_lt, c_le, c_gt, c_ge, c_eq, c_ne, ix_tup, ix_lst, at0, at1, at2, at3, at4, at5, eq_int, eq_str, eq_bl, truD, set_c0, set_cs, setS_c, isi_tuple_tup, isi_tuple_lst, isi_tuple_str, isi_tuple_int, isi_tuple_non, isi_tuple_bl, isi_str_str, isi_str_tup, isi_str_int, isi_str_non, isi_str_lst, isi_str_bl, if_true_, if_false_, itemsD, loopD, loopC, asg_nm, asg_tp, asgs_nil, asgs_cons, wipeS, setN, nkD, ndS, getN, boolsD, p_any, p_all, retOf, kN, isi_t_int, isi_t_bl, isi_t_str, sz0, sz1, sz2, sz3, sl0, sl1, sl2, sl3, c_MOST_ROW, t54c, e1, e2, e3, e4, e5]
theorem s54 {v0 v1 v2 v3 v4 : D} (h : ∀ v ∈ [v0, v1, v2, v3, v4], Val b κ v) : ∃ x7', evS (Γ k) t5_4 [.val sc, .val (.ref 0), .own (.lst th), .val (.lst K6), x4, x5, .val (.lst [v0, v1, v2, v3, v4]), x7, x8, x9, x10, x11, x12] μ =
    some (.nx, [.val sc, .val (.ref 0), .own (.lst th), .val (.lst K6), x4, x5, .val (.lst [v0, v1, v2, v3, v4]), x7', x8, x9, x10, x11, x12], μ) := by
  obtain ⟨ρ', μ', e, x7', q1, q2⟩ := loopF_inv (f := fun x ρ μ => (asgT (.nm 7) x ρ).bind fun ρ' => evSs (Γ k) t54c ρ' μ) (xs := [v0, v1, v2, v3, v4])
    (I := fun ρ μ' => ∃ x7, ρ = [.val sc, .val (.ref 0), .own (.lst th), .val (.lst K6), x4, x5, .val (.lst [v0, v1, v2, v3, v4]), x7, x8, x9, x10, x11, x12] ∧ μ' = μ) (fun x hx ρ μ1 ⟨y7, e1, e2⟩ => by
      subst e1; subst e2
      refine ⟨_, _, ?_, .val x, rfl, rfl⟩
      have e := s54t (k := k) (μ := μ1) (sc := sc) (th := th) (x4 := x4) (x5 := x5) (x6 := .val (.lst [v0, v1, v2, v3, v4])) (x8 := x8) (x9 := x9) (x10 := x10) (x11 := x11) (x12 := x12) (h x hx)
      rw [asg_nm]
      simp only [List.length_cons, List.length_nil, set_c0, set_cs]
      rw [if_pos (by decide), Option.bind_some]
      exact e) (ρ := [.val sc, .val (.ref 0), .own (.lst th), .val (.lst K6), x4, x5, .val (.lst [v0, v1, v2, v3, v4]), x7, x8, x9, x10, x11, x12]) (μ := μ) ⟨x7, rfl, rfl⟩
  rw [q1, q2] at e
  refine ⟨x7', ?_⟩
  rw [t54_eq]
  unfold evS
  have hs : evSrc (Γ k) (.it (.var 6)) [.val sc, .val (.ref 0), .own (.lst th), .val (.lst K6), x4, x5, .val (.lst [v0, v1, v2, v3, v4]), x7, x8, x9, x10, x11, x12] μ = some (.items [v0, v1, v2, v3, v4], μ) := by
    simp only [evSrc, evE, slot_c0, slot_cs, Option.map_some, Option.bind_some, itemsD]
  rw [hs]
  exact e
/-! sorted -/
def fKeys : FE := (.comp (.tp (.cons (.nm 11) (.cons (.nm 7) .nil))) [("k", 11), ("value", 7)] (.enum (.var 6)) .no (.tup (.cons (.call "value_key" 11 (.cons (.var 7) .nil)) (.cons (.var 11) .nil))))
def fBack : FE := (.comp (.tp (.cons (.nm 12) (.cons (.nm 11) .nil))) [("key", 12), ("k", 11)] (.it (.frz (.sorted (.frz fKeys)))) .no (.prim .ix (.cons (.var 6) (.cons (.var 11) .nil))))
theorem t55_eq : t5_5 = .ifs (.prim (.cmp .NotEq) (.cons (.frz (.sorted (.var 6))) (.cons (.frz fBack) .nil))) (.cons (.ret (.lit (.bl false))) .nil) .nil := rfl
theorem keys_ev {vs : List D} (h : ∀ v ∈ vs, Val b κ v) (hl : vs.length ≤ 1000) : evF (Γ k) fKeys [.val sc, .val (.ref 0), .own (.lst th), .val (.lst K6), x4, x5, .val (.lst vs), x7, x8, x9, x10, x11, x12] μ = some (vs.zipIdx.map (kix keyV), μ) := by
  generalize K6 = L
  have hs : evSrc (Γ k) (.enum (.var 6)) [.val sc, .val (.ref 0), .own (.lst th), .val (.lst L), x4, x5, .val (.lst vs), x7, x8, x9, x10, x11, x12] μ = some (.items (vs.zipIdx.map fun p => .tup [.int p.2, p.1]), μ) := by
    simp only [evSrc, evE, slot_c0, slot_cs, Option.map_some, Option.bind_some]
  unfold fKeys evF
  rw [hs]
  simp only [Option.bind_some]
  rw [if_pos (by rw [List.length_map, List.length_zipIdx]; have := sizeLine_eq; omega)]
  have e : (vs.zipIdx.map fun p => D.tup [.int (p.2 : Nat), p.1]).map (fun x => match x with | .tup [.int i, v] => D.tup [keyV v, .int i] | _ => .non) = vs.zipIdx.map (kix keyV) := by
    rw [List.map_map]; rfl
  rw [← e]
  refine loopC_map fun x hx => ?_
  obtain ⟨⟨v, i⟩, hp, rfl⟩ := List.mem_map.mp hx
  have e1 := v_key (h v (List.fst_mem_of_mem_zipIdx hp)) (k + 3) μ
  simp [start0, evE, evEs, evO, evC, evF, evSrc, evIn, evS, evSs, Option.bind_some, Option.map_some, Option.bind_none, Option.map_none, List.map_cons, List.map_nil, slot_c0, slot_cs, own_c0, own_cs, ownv_c0, ownv_cs, ownt_c0, tup_c0, tup_cs, view_int, view_str, view_bl, view_non, view_tup, view_lst, view_ty, view_fn, p_bin, p_neg, p_cmp, p_ix, p_len_tup, p_len_lst, p_abs, p_int, p_intb, p_isi, p_tuple_tup, p_tuple_lst, p_max, p_min, b_add_int, b_sub_int, c_lt, c_le, c_gt, c_ge, c_eq, c_ne, ix_tup, ix_lst, at0, at1, at2, at3, at4, at5, eq_int, eq_str, eq_bl, truD, set_c0, set_cs, setS_c, isi_tuple_tup, isi_tuple_lst, isi_tuple_str, isi_tuple_int, isi_tuple_non, isi_tuple_bl, isi_str_str, isi_str_tup, isi_str_int, isi_str_non, isi_str_lst, isi_str_bl, if_true_, if_false_, itemsD, loopD, loopC, asg_nm, asg_tp, asgs_nil, asgs_cons, wipeS, setN, nkD, ndS, getN, boolsD, p_any, p_all, retOf, kN, isi_t_int, isi_t_bl, isi_t_str, sz0, sz1, sz2, sz3, sl0, sl1, sl2, sl3, c_MOST_ROW, e1]
theorem back_ev {vs : List D} (h : ∀ v ∈ vs, Val b κ v) (hl : vs.length ≤ 1000) : evF (Γ k) fBack [.val sc, .val (.ref 0), .own (.lst th), .val (.lst K6), x4, x5, .val (.lst vs), x7, x8, x9, x10, x11, x12] μ = some (vs.mergeSort leD, μ) := by
  have e0 := keys_ev (k := k) (μ := μ) (sc := sc) (th := th) (x4 := x4) (x5 := x5) (x7 := x7) (x8 := x8) (x9 := x9) (x10 := x10) (x11 := x11) (x12 := x12) h hl
  have e1 := sort_keys h
  generalize K6 = L at *
  have hs : evSrc (Γ k) (.it (.frz (.sorted (.frz fKeys)))) [.val sc, .val (.ref 0), .own (.lst th), .val (.lst L), x4, x5, .val (.lst vs), x7, x8, x9, x10, x11, x12] μ = some (.items ((vs.zipIdx.map (kix keyV)).mergeSort leD), μ) := by
    generalize fKeys = fe at e0
    simp only [evSrc, evE, evF, e0, Option.map_some, Option.bind_some, view_lst, e1, itemsD]
  unfold fBack evF
  rw [hs]
  simp only [Option.bind_some]
  rw [if_pos (by rw [List.length_mergeSort, List.length_map, List.length_zipIdx]; have := sizeLine_eq; omega)]
  rw [← sort_both h]
  refine loopC_map fun x hx => ?_
  obtain ⟨⟨v, i⟩, hp, rfl⟩ := List.mem_map.mp ((List.mergeSort_perm _ _).mem_iff.mp hx)
  obtain ⟨_, h2, h3⟩ := List.mem_zipIdx hp
  have hi : L2.atI vs (i : Int) = some v := atI_nat (by simp only [Nat.zero_add, Nat.sub_zero] at h2 h3; rw [List.getElem?_eq_getElem h2, h3])
  rw [sel_kix hp]
  simp [start0, evE, evEs, evO, evC, evF, evSrc, evIn, evS, evSs, Option.bind_some, Option.map_some, Option.bind_none, Option.map_none, List.map_cons, List.map_nil, slot_c0, slot_cs, own_c0, own_cs, ownv_c0, ownv_cs, ownt_c0, tup_c0, tup_cs, view_int, view_str, view_bl, view_non, view_tup, view_lst, view_ty, view_fn, p_bin, p_neg, p_cmp, p_ix, p_len_tup, p_len_lst, p_abs, p_int, p_intb, p_isi, p_tuple_tup, p_tuple_lst, p_max, p_min, b_add_int, b_sub_int, c_lt, c_le, c_gt, c_ge, c_eq, c_ne, ix_tup, ix_lst, at0, at1, at2, at3, at4, at5, eq_int, eq_str, eq_bl, truD, set_c0, set_cs, setS_c, isi_tuple_tup, isi_tuple_lst, isi_tuple_str, isi_tuple_int, isi_tuple_non, isi_tuple_bl, isi_str_str, isi_str_tup, isi_str_int, isi_str_non, isi_str_lst, isi_str_bl, if_true_, if_false_, itemsD, loopD, loopC, asg_nm, asg_tp, asgs_nil, asgs_cons, wipeS, setN, nkD, ndS, getN, boolsD, p_any, p_all, retOf, kN, isi_t_int, isi_t_bl, isi_t_str, sz0, sz1, sz2, sz3, sl0, sl1, sl2, sl3, c_MOST_ROW, kix, hi]
theorem s55 {vs : List D} (h : ∀ v ∈ vs, Val b κ v) (hl : vs.length ≤ 100) : evS (Γ k) t5_5 [.val sc, .val (.ref 0), .own (.lst th), .val (.lst K6), x4, x5, .val (.lst vs), x7, x8, x9, x10, x11, x12] μ = some (.nx, [.val sc, .val (.ref 0), .own (.lst th), .val (.lst K6), x4, x5, .val (.lst vs), x7, x8, x9, x10, x11, x12], μ) := by
  have e0 := back_ev (k := k) (μ := μ) (sc := sc) (th := th) (x4 := x4) (x5 := x5) (x7 := x7) (x8 := x8) (x9 := x9) (x10 := x10) (x11 := x11) (x12 := x12) h (by omega)
  have e1 := sort_vals h
  have gg := alike_good (xs := vs.mergeSort leD) (fun d hd => by
    have := val_good (h d ((List.mergeSort_perm _ _).mem_iff.mp hd))
    exact ⟨this.1, this.2.1, by omega⟩) (by rw [List.length_mergeSort]; exact hl)
  have e2 := eqD_refl gg.1 gg.2.1
  generalize K6 = L at *
  rw [t55_eq]
  generalize fBack = fe at e0
  simp [start0, evE, evEs, evO, evC, evF, evSrc, evIn, evS, evSs, Option.bind_some, Option.map_some, Option.bind_none, Option.map_none, List.map_cons, List.map_nil, slot_c0, slot_cs, own_c0, own_cs, ownv_c0, ownv_cs, ownt_c0, tup_c0, tup_cs, view_int, view_str, view_bl, view_non, view_tup, view_lst, view_ty, view_fn, p_bin, p_neg, p_cmp, p_ix, p_len_tup, p_len_lst, p_abs, p_int, p_intb, p_isi, p_tuple_tup, p_tuple_lst, p_max, p_min, b_add_int, b_sub_int, c_lt, c_le, c_gt, c_ge, c_eq, c_ne, ix_tup, ix_lst, at0, at1, at2, at3, at4, at5, eq_int, eq_str, eq_bl, truD, set_c0, set_cs, setS_c, isi_tuple_tup, isi_tuple_lst, isi_tuple_str, isi_tuple_int, isi_tuple_non, isi_tuple_bl, isi_str_str, isi_str_tup, isi_str_int, isi_str_non, isi_str_lst, isi_str_bl, if_true_, if_false_, itemsD, loopD, loopC, asg_nm, asg_tp, asgs_nil, asgs_cons, wipeS, setN, nkD, ndS, getN, boolsD, p_any, p_all, retOf, kN, isi_t_int, isi_t_bl, isi_t_str, sz0, sz1, sz2, sz3, sl0, sl1, sl2, sl3, c_MOST_ROW, e0, e1, e2]
end
end FH.K01
end
section
namespace FH.K01
open PySem PySem.Spec PyProof.Rows L2
section
variable {k : Nat} {μ : Store} {κ κ' : Kd} {b b' : Bool} {cs th : List D} {sc : D} {x4 x5 x6 x7 x8 x9 x10 x11 x12 : Slot}
theorem s56 (hb : BagAt μ 0 cs) (hc : AllI cs) : ∃ b κ o μ', evS (Γ k) t5_6 [.val sc, .val (.ref 0), .own (.lst th), .val (.lst K6), x4, x5, x6, x7, x8, x9, x10, x11, x12] μ = some (.nx, [.val sc, .val (.ref 0), .own (.lst th), .val (.lst K6), x4, x5, x6, x7, .val o, x9, x10, x11, x12], μ') ∧ Stir 0 cs μ μ' ∧ Val b κ o := by
  obtain ⟨d, μ1, e1, s1, m⟩ := some_ok (k := k + 6) hb hc (ds := K6) (by simp [K6]) (by simp [K6])
  obtain ⟨b, κ, rfl⟩ := k6_mem m
  obtain ⟨o, μ2, e2, s2, v⟩ := drawn_row (k := k + 4) (b := b) (κ := κ) (hb.stir s1) hc
  refine ⟨b, κ, o, μ2, ?_, s1.trans s2, v⟩
  generalize K6 = L at e1 ⊢
  generalize kd b κ = kx at e1 e2
  simp [start0, evE, evEs, evO, evC, evF, evSrc, evIn, evS, evSs, Option.bind_some, Option.map_some, Option.bind_none, Option.map_none, List.map_cons, List.map_nil, slot_c0, slot_cs, own_c0, own_cs, ownv_c0, ownv_cs, ownt_c0, tup_c0, tup_cs, view_int, view_str, view_bl, view_non, view_tup, view_lst, view_ty, view_fn, p_bin, p_neg, p_cmp, p_ix, p_len_tup, p_len_lst, p_abs, p_int, p_intb, p_isi, p_tuple_tup, p_tuple_lst, p_max, p_min, b_add_int, b_sub_int, c_lt, c_le, c_gt, c_ge, c_eq, c_ne, ix_tup, ix_lst, at0, at1, at2, at3, at4, at5, eq_int, eq_str, eq_bl, truD, set_c0, set_cs, setS_c, isi_tuple_tup, isi_tuple_lst, isi_tuple_str, isi_tuple_int, isi_tuple_non, isi_tuple_bl, isi_str_str, isi_str_tup, isi_str_int, isi_str_non, isi_str_lst, isi_str_bl, if_true_, if_false_, itemsD, loopD, loopC, asg_nm, asg_tp, asgs_nil, asgs_cons, wipeS, setN, nkD, ndS, getN, boolsD, p_any, p_all, retOf, kN, isi_t_int, isi_t_bl, isi_t_str, sz0, sz1, sz2, sz3, sl0, sl1, sl2, sl3, c_MOST_ROW, t5_6, e1, e2]
def isNil : D → Bool
  | .tup [] => true
  | _ => false
theorem val_nil {d : D} (h : Val b κ d) : eqD d (.tup []) = some (isNil d) := by
  cases h with
  | at_ ha =>
    have s := shp_of ha
    obtain ⟨g, d0, _⟩ := a_good ha
    obtain ⟨p, gd⟩ := good_py g
    have sh := gd.shaped (by omega)
    have hp := gd.py
    cases κ <;> obtain ⟨i, rfl⟩ := s <;> (simp only [D.py, Option.some.injEq] at hp; subst hp; unfold eqD; simp only [D.flat, Bool.and_false, Bool.false_eq_true, if_false, D.py, pyL, Option.map_some, sh, Bool.true_and]; rw [if_pos (by decide +kernel)]; simp [PyData.eqv, isNil])
  | row hr =>
    have g := row_good hr
    cases hr with
    | r0 => decide +kernel
    | r1 a1 => exact eqT0 g.1 (by omega)
    | r2 a1 a2 => exact eqT0 g.1 (by omega)
    | r3 a1 a2 a3 => exact eqT0 g.1 (by omega)
def aVal (a o : D) : Bool := decide (sh o = sh a) || (isNil o && isNil a)
theorem sh_beq {a o : D} : ((pyO o).shown == (pyO a).shown) = decide (sh o = sh a) := by
  rw [Bool.eq_iff_iff, beq_iff_eq, decide_eq_true_eq]
  unfold sh
  exact ⟨fun h => by rw [h], fun h => PySem.W.str_of_cps h⟩
theorem s57 {a v1 v2 v3 v4 o : D} (ha : Val b κ a) (ho : Val b' κ' o) : evS (Γ k) t5_7 [.val sc, .val (.ref 0), .own (.lst th), .val (.lst K6), x4, x5, .val (.lst [a, v1, v2, v3, v4]), x7, .val o, x9, x10, x11, x12] μ =
    some (.nx, [.val sc, .val (.ref 0), .own (.lst th), .val (.lst K6), x4, x5, .val (.lst [a, v1, v2, v3, v4]), x7, .val o, .val (.bl (aVal a o)), x10, x11, x12], μ) := by
  have ga := val_good ha
  have go := val_good ho
  have r1 : primD .repr [a] = some (.str (pyO a).shown) := by show (reprD a).map D.str = _; rw [repr_eq ga.1 (by omega) (by omega)]; rfl
  have r2 : primD .repr [o] = some (.str (pyO o).shown) := by show (reprD o).map D.str = _; rw [repr_eq go.1 (by omega) (by omega)]; rfl
  have n1 := val_nil ha
  have n2 := val_nil ho
  have w1 := val_view ha μ
  have w2 := val_view ho μ
  generalize K6 = L
  have se := sh_beq (a := a) (o := o)
  unfold aVal
  rw [← se]
  cases hq : ((pyO o).shown == (pyO a).shown) with
  | true =>
    have hq' := beq_iff_eq.mp hq
    simp [start0, evE, evEs, evO, evC, evF, evSrc, evIn, evS, evSs, Option.bind_some, Option.map_some, Option.bind_none, Option.map_none, List.map_cons, List.map_nil, slot_c0, slot_cs, own_c0, own_cs, ownv_c0, ownv_cs, ownt_c0, tup_c0, tup_cs, view_int, view_str, view_bl, view_non, view_tup, view_lst, view_ty, view_fn, p_bin, p_neg, p_cmp, p_ix, p_len_tup, p_len_lst, p_abs, p_int, p_intb, p_isi, p_tuple_tup, p_tuple_lst, p_max, p_min, b_add_int, b_sub_int, c_lt, c_le, c_gt, c_ge, c_eq, c_ne, ix_tup, ix_lst, at0, at1, at2, at3, at4, at5, eq_int, eq_str, eq_bl, truD, set_c0, set_cs, setS_c, isi_tuple_tup, isi_tuple_lst, isi_tuple_str, isi_tuple_int, isi_tuple_non, isi_tuple_bl, isi_str_str, isi_str_tup, isi_str_int, isi_str_non, isi_str_lst, isi_str_bl, if_true_, if_false_, itemsD, loopD, loopC, asg_nm, asg_tp, asgs_nil, asgs_cons, wipeS, setN, nkD, ndS, getN, boolsD, p_any, p_all, retOf, kN, isi_t_int, isi_t_bl, isi_t_str, sz0, sz1, sz2, sz3, sl0, sl1, sl2, sl3, c_MOST_ROW, t5_7, r1, r2, w1, w2, hq']
  | false =>
    have hq' : ¬ (pyO o).shown = (pyO a).shown := by simpa using hq
    cases hn : isNil o with
    | true => rw [hn] at n2; simp [start0, evE, evEs, evO, evC, evF, evSrc, evIn, evS, evSs, Option.bind_some, Option.map_some, Option.bind_none, Option.map_none, List.map_cons, List.map_nil, slot_c0, slot_cs, own_c0, own_cs, ownv_c0, ownv_cs, ownt_c0, tup_c0, tup_cs, view_int, view_str, view_bl, view_non, view_tup, view_lst, view_ty, view_fn, p_bin, p_neg, p_cmp, p_ix, p_len_tup, p_len_lst, p_abs, p_int, p_intb, p_isi, p_tuple_tup, p_tuple_lst, p_max, p_min, b_add_int, b_sub_int, c_lt, c_le, c_gt, c_ge, c_eq, c_ne, ix_tup, ix_lst, at0, at1, at2, at3, at4, at5, eq_int, eq_str, eq_bl, truD, set_c0, set_cs, setS_c, isi_tuple_tup, isi_tuple_lst, isi_tuple_str, isi_tuple_int, isi_tuple_non, isi_tuple_bl, isi_str_str, isi_str_tup, isi_str_int, isi_str_non, isi_str_lst, isi_str_bl, if_true_, if_false_, itemsD, loopD, loopC, asg_nm, asg_tp, asgs_nil, asgs_cons, wipeS, setN, nkD, ndS, getN, boolsD, p_any, p_all, retOf, kN, isi_t_int, isi_t_bl, isi_t_str, sz0, sz1, sz2, sz3, sl0, sl1, sl2, sl3, c_MOST_ROW, t5_7, r1, r2, w1, w2, hq, hq', n2, n1]
    | false => rw [hn] at n2; simp [start0, evE, evEs, evO, evC, evF, evSrc, evIn, evS, evSs, Option.bind_some, Option.map_some, Option.bind_none, Option.map_none, List.map_cons, List.map_nil, slot_c0, slot_cs, own_c0, own_cs, ownv_c0, ownv_cs, ownt_c0, tup_c0, tup_cs, view_int, view_str, view_bl, view_non, view_tup, view_lst, view_ty, view_fn, p_bin, p_neg, p_cmp, p_ix, p_len_tup, p_len_lst, p_abs, p_int, p_intb, p_isi, p_tuple_tup, p_tuple_lst, p_max, p_min, b_add_int, b_sub_int, c_lt, c_le, c_gt, c_ge, c_eq, c_ne, ix_tup, ix_lst, at0, at1, at2, at3, at4, at5, eq_int, eq_str, eq_bl, truD, set_c0, set_cs, setS_c, isi_tuple_tup, isi_tuple_lst, isi_tuple_str, isi_tuple_int, isi_tuple_non, isi_tuple_bl, isi_str_str, isi_str_tup, isi_str_int, isi_str_non, isi_str_lst, isi_str_bl, if_true_, if_false_, itemsD, loopD, loopC, asg_nm, asg_tp, asgs_nil, asgs_cons, wipeS, setN, nkD, ndS, getN, boolsD, p_any, p_all, retOf, kN, isi_t_int, isi_t_bl, isi_t_str, sz0, sz1, sz2, sz3, sl0, sl1, sl2, sl3, c_MOST_ROW, t5_7, r1, r2, w1, w2, hq, hq', n2]
theorem nil_eqv {d : D} (h : Val b κ d) : ∃ p, d.py = some p ∧ SeqAt.shaped p = true ∧ p.canLay0 = true ∧ p.depth ≤ 1 ∧ PyData.eqv p (.tuple []) = isNil d := by
  have n := val_nil h
  obtain ⟨g1, g2, g3⟩ := val_good h
  obtain ⟨p, gd⟩ := good_py g1
  refine ⟨p, gd.py, gd.shaped (by omega), gd.lay, by rw [gd.dp]; exact g2, ?_⟩
  unfold eqD at n
  have f : (d.flat && (D.tup []).flat) = false := by simp [D.flat]
  rw [f] at n
  simp only [Bool.false_eq_true, if_false, gd.py] at n
  have e2 : (D.tup []).py = some (.tuple []) := rfl
  rw [e2] at n
  simp only [gd.shaped (show d.dep ≤ 64 by omega), Bool.true_and] at n
  rw [if_pos (by decide +kernel)] at n
  exact Option.some.inj n
theorem nil_in {a o : D} (ha : Val b κ a) (ho : Val b' κ' o) : inD (.tup []) [a, o] = some (isNil a || isNil o) := by
  obtain ⟨p, p1, p2, p3, p4, p5⟩ := nil_eqv ha
  obtain ⟨q, q1, q2, q3, q4, q5⟩ := nil_eqv ho
  unfold inD
  simp only [D.flat, Bool.false_and, Bool.false_eq_true, if_false, D.py, pyL, Option.map_some, p1, q1]
  have s : SeqAt.shaped (.list [p, q]) = true := by
    have hd : PyData.depth (.list [p, q]) ≤ 64 := by simp only [PyData.depth, PyData.depthAll]; omega
    unfold SeqAt.shaped
    simp only [PyData.canLay0, PyData.canLayAll0, p3, q3, Bool.and_self, Bool.true_and, hd, decide_true]
  rw [s]
  have s0 : SeqAt.shaped (.tuple []) = true := by decide +kernel
  rw [s0]
  simp [p5, q5]
theorem s58 {a v1 v2 v3 v4 o : D} (ha : Val b κ a) (ho : Val b' κ' o) : evS (Γ k) t5_8 [.val sc, .val (.ref 0), .own (.lst th), .val (.lst K6), x4, x5, .val (.lst [a, v1, v2, v3, v4]), x7, .val o, .val (.bl (aVal a o)), x10, x11, x12] μ =
    some (.nx, [.val sc, .val (.ref 0), .own (.lst th), .val (.lst K6), x4, x5, .val (.lst [a, v1, v2, v3, v4]), x7, .val o, .val (.bl (aVal a o)), x10, x11, x12], μ) := by
  have e1 := v_same ha ho (k + 3) μ
  have e2 := nil_in ha ho
  have e3 : cmpD .NotIn (.tup []) (.tup [a, o]) = some (.bl !(isNil a || isNil o)) := by
    show (inD (.tup []) [a, o]).map _ = _
    rw [e2]; rfl
  generalize K6 = L
  cases hn : (isNil a || isNil o) with
  | true =>
    rw [hn] at e3
    by_cases hs : sameV a o = aVal a o
    · simp [start0, evE, evEs, evO, evC, evF, evSrc, evIn, evS, evSs, Option.bind_some, Option.map_some, Option.bind_none, Option.map_none, List.map_cons, List.map_nil, slot_c0, slot_cs, own_c0, own_cs, ownv_c0, ownv_cs, ownt_c0, tup_c0, tup_cs, view_int, view_str, view_bl, view_non, view_tup, view_lst, view_ty, view_fn, p_bin, p_neg, p_cmp, p_ix, p_len_tup, p_len_lst, p_abs, p_int, p_intb, p_isi, p_tuple_tup, p_tuple_lst, p_max, p_min, b_add_int, b_sub_int, c_lt, c_le, c_gt, c_ge, c_eq, c_ne, ix_tup, ix_lst, at0, at1, at2, at3, at4, at5, eq_int, eq_str, eq_bl, truD, set_c0, set_cs, setS_c, isi_tuple_tup, isi_tuple_lst, isi_tuple_str, isi_tuple_int, isi_tuple_non, isi_tuple_bl, isi_str_str, isi_str_tup, isi_str_int, isi_str_non, isi_str_lst, isi_str_bl, if_true_, if_false_, itemsD, loopD, loopC, asg_nm, asg_tp, asgs_nil, asgs_cons, wipeS, setN, nkD, ndS, getN, boolsD, p_any, p_all, retOf, kN, isi_t_int, isi_t_bl, isi_t_str, sz0, sz1, sz2, sz3, sl0, sl1, sl2, sl3, c_MOST_ROW, t5_8, e1, hs]
    · simp [start0, evE, evEs, evO, evC, evF, evSrc, evIn, evS, evSs, Option.bind_some, Option.map_some, Option.bind_none, Option.map_none, List.map_cons, List.map_nil, slot_c0, slot_cs, own_c0, own_cs, ownv_c0, ownv_cs, ownt_c0, tup_c0, tup_cs, view_int, view_str, view_bl, view_non, view_tup, view_lst, view_ty, view_fn, p_bin, p_neg, p_cmp, p_ix, p_len_tup, p_len_lst, p_abs, p_int, p_intb, p_isi, p_tuple_tup, p_tuple_lst, p_max, p_min, b_add_int, b_sub_int, c_lt, c_le, c_gt, c_ge, c_eq, c_ne, ix_tup, ix_lst, at0, at1, at2, at3, at4, at5, eq_int, eq_str, eq_bl, truD, set_c0, set_cs, setS_c, isi_tuple_tup, isi_tuple_lst, isi_tuple_str, isi_tuple_int, isi_tuple_non, isi_tuple_bl, isi_str_str, isi_str_tup, isi_str_int, isi_str_non, isi_str_lst, isi_str_bl, if_true_, if_false_, itemsD, loopD, loopC, asg_nm, asg_tp, asgs_nil, asgs_cons, wipeS, setN, nkD, ndS, getN, boolsD, p_any, p_all, retOf, kN, isi_t_int, isi_t_bl, isi_t_str, sz0, sz1, sz2, sz3, sl0, sl1, sl2, sl3, c_MOST_ROW, t5_8, e1, hs, e3]
  | false =>
    simp only [Bool.or_eq_false_iff] at hn
    have hs : sameV a o = aVal a o := by
      rw [same_repr ha ho]
      unfold aVal
      rw [hn.1, hn.2]
      simp [eq_comm]
    simp [start0, evE, evEs, evO, evC, evF, evSrc, evIn, evS, evSs, Option.bind_some, Option.map_some, Option.bind_none, Option.map_none, List.map_cons, List.map_nil, slot_c0, slot_cs, own_c0, own_cs, ownv_c0, ownv_cs, ownt_c0, tup_c0, tup_cs, view_int, view_str, view_bl, view_non, view_tup, view_lst, view_ty, view_fn, p_bin, p_neg, p_cmp, p_ix, p_len_tup, p_len_lst, p_abs, p_int, p_intb, p_isi, p_tuple_tup, p_tuple_lst, p_max, p_min, b_add_int, b_sub_int, c_lt, c_le, c_gt, c_ge, c_eq, c_ne, ix_tup, ix_lst, at0, at1, at2, at3, at4, at5, eq_int, eq_str, eq_bl, truD, set_c0, set_cs, setS_c, isi_tuple_tup, isi_tuple_lst, isi_tuple_str, isi_tuple_int, isi_tuple_non, isi_tuple_bl, isi_str_str, isi_str_tup, isi_str_int, isi_str_non, isi_str_lst, isi_str_bl, if_true_, if_false_, itemsD, loopD, loopC, asg_nm, asg_tp, asgs_nil, asgs_cons, wipeS, setN, nkD, ndS, getN, boolsD, p_any, p_all, retOf, kN, isi_t_int, isi_t_bl, isi_t_str, sz0, sz1, sz2, sz3, sl0, sl1, sl2, sl3, c_MOST_ROW, t5_8, e1, hs]
/-! a lap -/
/-- what may stand in the list -/
def Good (d : D) : Prop := ∀ k μ, μ[1]? = some (.dic []) → Th k μ d
theorem lap (hb : BagAt μ 0 cs) (hc : AllI cs) (hl : th.length + 7 ≤ 1000) (hg : ∀ d ∈ th, Good d) : ∃ th' y5 y6 y7 y8 y9 μ', evSs (Γ k) t5_b [.val sc, .val (.ref 0), .own (.lst th), .val (.lst K6), x4, x5, x6, x7, x8, x9, x10, x11, x12] μ =
    some (.nx, [.val sc, .val (.ref 0), .own (.lst th'), .val (.lst K6), x4, y5, y6, y7, y8, y9, x10, x11, x12], μ') ∧ Stir 0 cs μ μ' ∧ th'.length = th.length + 7 ∧ ∀ d ∈ th', Good d := by
  obtain ⟨b, κ, μ1, e0, s0⟩ := s50 (k := k) (sc := sc) (th := th) (x4 := x4) (x5 := x5) (x6 := x6) (x7 := x7) (x8 := x8) (x9 := x9) (x10 := x10) (x11 := x11) (x12 := x12) hb hc
  obtain ⟨v0, v1, v2, v3, v4, μ2, e1, s1, hv⟩ := drawn5 (k := k) (b := b) (κ := κ) (sc := sc) (th := th) (x4 := x4) (x6 := x6) (x7 := x7) (x8 := x8) (x9 := x9) (x10 := x10) (x11 := x11) (x12 := x12) (hb.stir s0) hc
  have st := s0.trans s1
  have e2 := s52 (k := k) (μ := μ2) (sc := sc) (th := th) (x4 := x4) (x5 := .val (kd b κ)) (x7 := x7) (x8 := x8) (x9 := x9) (x10 := x10) (x11 := x11) (x12 := x12) (v0 := v0) (v1 := v1) (v2 := v2) (v3 := v3) (v4 := v4) (by omega)
  have e3 := s53 (k := k) (μ := μ2) (sc := sc) (th := th ++ [v0, v1, v2, v3, v4]) (x4 := x4) (x5 := .val (kd b κ)) (x7 := x7) (x8 := x8) (x9 := x9) (x10 := x10) (x11 := x11) (x12 := x12) (v0 := v0) (v1 := v1) (v2 := v2) (v3 := v3) (v4 := v4) (by simp; omega)
  obtain ⟨x7', e4⟩ := s54 (k := k) (μ := μ2) (sc := sc) (th := th ++ [v0, v1, v2, v3, v4] ++ [.tup [.str "value", v0], .lst [v0, v1]]) (x4 := x4) (x5 := .val (kd b κ)) (x7 := x7) (x8 := x8) (x9 := x9) (x10 := x10) (x11 := x11) (x12 := x12) hv
  have e5 := s55 (k := k) (μ := μ2) (sc := sc) (th := th ++ [v0, v1, v2, v3, v4] ++ [.tup [.str "value", v0], .lst [v0, v1]]) (x4 := x4) (x5 := .val (kd b κ)) (x7 := x7') (x8 := x8) (x9 := x9) (x10 := x10) (x11 := x11) (x12 := x12) (vs := [v0, v1, v2, v3, v4]) hv (by simp)
  obtain ⟨b', κ', o, μ3, e6, s2, ho⟩ := s56 (k := k) (sc := sc) (th := th ++ [v0, v1, v2, v3, v4] ++ [.tup [.str "value", v0], .lst [v0, v1]]) (x4 := x4) (x5 := .val (kd b κ)) (x6 := .val (.lst [v0, v1, v2, v3, v4])) (x7 := x7') (x8 := x8) (x9 := x9) (x10 := x10) (x11 := x11) (x12 := x12) (hb.stir st) hc
  have h0 : Val b κ v0 := hv v0 (by simp)
  have e7 := s57 (k := k) (μ := μ3) (sc := sc) (th := th ++ [v0, v1, v2, v3, v4] ++ [.tup [.str "value", v0], .lst [v0, v1]]) (x4 := x4) (x5 := .val (kd b κ)) (x7 := x7') (x9 := x9) (x10 := x10) (x11 := x11) (x12 := x12) (v1 := v1) (v2 := v2) (v3 := v3) (v4 := v4) h0 ho
  have e8 := s58 (k := k) (μ := μ3) (sc := sc) (th := th ++ [v0, v1, v2, v3, v4] ++ [.tup [.str "value", v0], .lst [v0, v1]]) (x4 := x4) (x5 := .val (kd b κ)) (x7 := x7') (x10 := x10) (x11 := x11) (x12 := x12) (v1 := v1) (v2 := v2) (v3 := v3) (v4 := v4) h0 ho
  refine ⟨th ++ [v0, v1, v2, v3, v4] ++ [.tup [.str "value", v0], .lst [v0, v1]], .val (kd b κ), .val (.lst [v0, v1, v2, v3, v4]), x7', .val o, .val (.bl (aVal v0 o)), μ3, ?_, st.trans s2, by simp, fun d hd => ?_⟩
  · unfold t5_b
    simp only [evSs, e0, e1, e2, e3, e4, e5, e6, e7, e8, Option.bind_some]
  · simp only [List.mem_append] at hd
    rcases hd with (hd | hd) | hd
    · exact hg d hd
    · exact fun k μ _ => th_val (hv d hd)
    · simp only [List.mem_cons, List.not_mem_nil, or_false] at hd
      rcases hd with rfl | rfl
      · exact fun k μ _ => th_pair h0
      · exact fun k μ _ => th_lst
end
end FH.K01
end
section
namespace FH.K01
open PySem PySem.Spec PyProof.Rows L2
section
variable {k : Nat} {μ : Store} {cs th : List D} {sc : D} {x2 x3 x4 x5 x6 x7 x8 x9 x10 x11 x12 : Slot}
def things0 : List D := fixed.take 14 ++ .ref 1 :: fixed.drop 14
theorem good0 : ∀ d ∈ things0, Good d := fun d hd => by
  simp only [things0, List.mem_append, List.mem_cons] at hd
  rcases hd with hd | rfl | hd
  · exact fun k μ _ => th_fixed (List.mem_of_mem_take hd)
  · exact fun k μ h => th_dic h
  · exact fun k μ _ => th_fixed (List.mem_of_mem_drop hd)
theorem begin_ {a b c : Int} : evSs (Γ k) (.cons t1 (.cons t2 (.cons t3 (.cons t4 .nil)))) [.val sc, .val (.ref 0), x2, x3, x4, x5, x6, x7, x8, x9, x10, x11, x12] [bagC a b c cs] =
    some (.nx, [.val sc, .val (.ref 0), .own (.lst things0), .val (.lst K6), x4, x5, x6, x7, x8, x9, x10, x11, x12], [bagC a b c cs, .dic []]) := by kernel_rfl
theorem laps (hc : AllI cs) : ∀ (ds : List D) (th : List D) (x4 x5 x6 x7 x8 x9 : Slot) (μ : Store), BagAt μ 0 cs → μ[1]? = some (.dic []) → th.length + 7 * ds.length ≤ 1000 → (∀ d ∈ th, Good d) →
    ∃ th' y4 y5 y6 y7 y8 y9 μ', loopF (fun x ρ μ => (asgT (.nm 4) x ρ).bind fun ρ' => evSs (Γ k) t5_b ρ' μ) ds [.val sc, .val (.ref 0), .own (.lst th), .val (.lst K6), x4, x5, x6, x7, x8, x9, x10, x11, x12] μ =
      some (.nx, [.val sc, .val (.ref 0), .own (.lst th'), .val (.lst K6), y4, y5, y6, y7, y8, y9, x10, x11, x12], μ') ∧ μ'[1]? = some (.dic []) ∧ (∀ d ∈ th', Good d)
  | [], th, x4, x5, x6, x7, x8, x9, μ, hb, h1, hl, hg => ⟨th, x4, x5, x6, x7, x8, x9, μ, rfl, h1, hg⟩
  | d :: ds, th, x4, x5, x6, x7, x8, x9, μ, hb, h1, hl, hg => by
    simp only [List.length_cons] at hl
    obtain ⟨th', y5, y6, y7, y8, y9, μ', e, st, l', g'⟩ := lap (k := k) (sc := sc) (x4 := .val d) (x5 := x5) (x6 := x6) (x7 := x7) (x8 := x8) (x9 := x9) (x10 := x10) (x11 := x11) (x12 := x12) hb hc (by omega) hg
    obtain ⟨th2, z4, z5, z6, z7, z8, z9, μ2, e2, h2, g2⟩ := laps hc ds th' (.val d) y5 y6 y7 y8 y9 μ' (hb.stir st) (by rw [st.off (by decide)]; exact h1) (by omega) g'
    refine ⟨th2, z4, z5, z6, z7, z8, z9, μ2, ?_, h2, g2⟩
    unfold loopF
    rw [asg_nm]
    simp only [List.length_cons, List.length_nil, set_c0, set_cs]
    rw [if_pos (by decide), Option.bind_some, e]
    exact e2
theorem s6t {d : D} (h : Th k μ d) : evSs (Γ k) t6_b [.val sc, .val (.ref 0), x2, x3, x4, x5, x6, x7, x8, x9, .val d, x11, x12] μ = some (.nx, [.val sc, .val (.ref 0), x2, x3, x4, x5, x6, x7, x8, x9, .val d, x11, x12], μ) := by
  obtain ⟨p, q, e1, e2, e3, e4⟩ := h.ex
  have gg := alike_good (xs := [.bl p, .bl q]) (fun d hd => by
    simp only [List.mem_cons, List.not_mem_nil, or_false] at hd
    rcases hd with rfl | rfl
    · exact ⟨rfl, by simp [D.dep], by simp [D.wgt]⟩
    · exact ⟨rfl, by simp [D.dep], by simp [D.wgt]⟩) (by simp)
  have e5 := l_alike (k := k) (μ := μ) gg.1 gg.2.1 gg.2.2
  simp [start0, evE, evEs, evO, evC, evF, evSrc, evIn, evS, evSs, Option.bind_some, Option.map_some, Option.bind_none, Option.map_none, List.map_cons, List.map_nil, slot_c0, slot_cs, own_c0, own_cs, ownv_c0, ownv_cs, ownt_c0, tup_c0, tup_cs, view_int, view_str, view_bl, view_non, view_tup, view_lst, view_ty, view_fn, p_bin, p_neg, p_cmp, p_ix, p_len_tup, p_len_lst, p_abs, p_int, p_intb, p_isi, p_tuple_tup, p_tuple_lst, p_max, p_min, b_add_int, b_sub_int, c_lt, c_le, c_gt, c_ge, c_eq, c_ne, ix_tup, ix_lst, at0, at1, at2, at3, at4, at5, eq_int, eq_str, eq_bl, truD, set_c0, set_cs, setS_c, isi_tuple_tup, isi_tuple_lst, isi_tuple_str, isi_tuple_int, isi_tuple_non, isi_tuple_bl, isi_str_str, isi_str_tup, isi_str_int, isi_str_non, isi_str_lst, isi_str_bl, if_true_, if_false_, itemsD, loopD, loopC, asg_nm, asg_tp, asgs_nil, asgs_cons, wipeS, setN, nkD, ndS, getN, boolsD, p_any, p_all, retOf, kN, isi_t_int, isi_t_bl, isi_t_str, sz0, sz1, sz2, sz3, sl0, sl1, sl2, sl3, c_MOST_ROW, t6_b, t6_0, e1, e2, e3, e4, e5]
theorem s6 (h1 : μ[1]? = some (.dic [])) (hg : ∀ d ∈ th, Good d) : ∃ y2 y10, evS (Γ k) t6 [.val sc, .val (.ref 0), .own (.lst th), x3, x4, x5, x6, x7, x8, x9, x10, x11, x12] μ = some (.nx, [.val sc, .val (.ref 0), y2, x3, x4, x5, x6, x7, x8, x9, y10, x11, x12], μ) := by
  obtain ⟨ρ', μ', e, y10, q1, q2⟩ := loopF_inv (f := fun x ρ μ => (asgT (.nm 10) x ρ).bind fun ρ' => evSs (Γ k) t6_b ρ' μ) (xs := th)
    (I := fun ρ μ' => ∃ x10, ρ = [.val sc, .val (.ref 0), .val (.lst th), x3, x4, x5, x6, x7, x8, x9, x10, x11, x12] ∧ μ' = μ) (fun x hx ρ μ1 ⟨y7, e1, e2⟩ => by
      subst e1; subst e2
      refine ⟨_, _, ?_, .val x, rfl, rfl⟩
      have e := s6t (k := k) (μ := μ1) (sc := sc) (x2 := .val (.lst th)) (x3 := x3) (x4 := x4) (x5 := x5) (x6 := x6) (x7 := x7) (x8 := x8) (x9 := x9) (x11 := x11) (x12 := x12) (hg x hx k μ1 h1)
      rw [asg_nm]
      simp only [List.length_cons, List.length_nil, set_c0, set_cs]
      rw [if_pos (by decide), Option.bind_some]
      exact e) (ρ := [.val sc, .val (.ref 0), .val (.lst th), x3, x4, x5, x6, x7, x8, x9, x10, x11, x12]) (μ := μ) ⟨x10, rfl, rfl⟩
  rw [q1, q2] at e
  refine ⟨.val (.lst th), y10, ?_⟩
  have hs : evSrc (Γ k) (.it (.var 2)) [.val sc, .val (.ref 0), .val (.lst th), x3, x4, x5, x6, x7, x8, x9, x10, x11, x12] μ = some (.items th, μ) := by
    simp only [evSrc, evE, slot_c0, slot_cs, Option.map_some, Option.bind_some, itemsD]
  unfold t6
  simp only [evS, own_c0, own_cs, set_c0, set_cs, Option.bind_some, hs]
  exact e
theorem s7 : evS (Γ k) t7 [.val sc, .val (.ref 0), x2, x3, x4, x5, x6, x7, x8, x9, x10, x11, x12] μ = some (.nx, [.val sc, .val (.ref 0), x2, x3, x4, x5, x6, x7, x8, x9, .val (.str ""), x11, x12], μ) := by kernel_rfl
end
theorem plain (ns : List Int) (hn : ns.length ≤ 63) : ∃ μ, run fs 9 27 [.lst (ns.map .int)] [] = some (.bl true, μ) := by
  obtain ⟨cs, e, ha⟩ := bag_at (fs := fs) (b := 14) (k := 7) (μ := []) (ns := ns) (i := 0) rfl hn
  have e : run fs (0 + 8) 14 [.lst (ns.map .int)] [] = some (.ref 0, [bagC 0 1234567891 0 cs]) := e
  rw [run_eq (k := 8) (F := ⟨1, 13, b27⟩) rfl rfl, b27_eq]
  show ∃ μ, retOf (evSs (Γ 0) tb [.val (.lst (ns.map .int)), .emp, .emp, .emp, .emp, .emp, .emp, .emp, .emp, .emp, .emp, .emp, .emp] []) = _
  generalize D.lst (ns.map .int) = sc at e
  have e0 : evS (Γ 0) t0 [.val sc, .emp, .emp, .emp, .emp, .emp, .emp, .emp, .emp, .emp, .emp, .emp, .emp] [] = some (.nx, [.val sc, .val (.ref 0), .emp, .emp, .emp, .emp, .emp, .emp, .emp, .emp, .emp, .emp, .emp], [bagC 0 1234567891 0 cs]) := by
    simp [start0, evE, evEs, evO, evC, evF, evSrc, evIn, evS, evSs, Option.bind_some, Option.map_some, Option.bind_none, Option.map_none, List.map_cons, List.map_nil, slot_c0, slot_cs, own_c0, own_cs, ownv_c0, ownv_cs, ownt_c0, tup_c0, tup_cs, view_int, view_str, view_bl, view_non, view_tup, view_lst, view_ty, view_fn, p_bin, p_neg, p_cmp, p_ix, p_len_tup, p_len_lst, p_abs, p_int, p_intb, p_isi, p_tuple_tup, p_tuple_lst, p_max, p_min, b_add_int, b_sub_int, c_lt, c_le, c_gt, c_ge, c_eq, c_ne, ix_tup, ix_lst, at0, at1, at2, at3, at4, at5, eq_int, eq_str, eq_bl, truD, set_c0, set_cs, setS_c, isi_tuple_tup, isi_tuple_lst, isi_tuple_str, isi_tuple_int, isi_tuple_non, isi_tuple_bl, isi_str_str, isi_str_tup, isi_str_int, isi_str_non, isi_str_lst, isi_str_bl, if_true_, if_false_, itemsD, loopD, loopC, asg_nm, asg_tp, asgs_nil, asgs_cons, wipeS, setN, nkD, ndS, getN, boolsD, p_any, p_all, retOf, kN, isi_t_int, isi_t_bl, isi_t_str, sz0, sz1, sz2, sz3, sl0, sl1, sl2, sl3, c_MOST_ROW, t0, e]
  have e1 := begin_ (k := 0) (sc := sc) (cs := cs) (a := 0) (b := 1234567891) (c := 0) (x2 := .emp) (x3 := .emp) (x4 := .emp) (x5 := .emp) (x6 := .emp) (x7 := .emp) (x8 := .emp) (x9 := .emp) (x10 := .emp) (x11 := .emp) (x12 := .emp)
  obtain ⟨th, y4, y5, y6, y7, y8, y9, μ2, e2, h2, g2⟩ := laps (k := 0) (sc := sc) (x10 := .emp) (x11 := .emp) (x12 := .emp) ha (rangeD 0 12) things0 .emp .emp .emp .emp .emp .emp [bagC 0 1234567891 0 cs, .dic []] ⟨0, 1234567891, 0, rfl⟩ rfl (by decide +kernel) good0
  have e5 : evS (Γ 0) t5 [.val sc, .val (.ref 0), .own (.lst things0), .val (.lst K6), .emp, .emp, .emp, .emp, .emp, .emp, .emp, .emp, .emp] [bagC 0 1234567891 0 cs, .dic []] = some (.nx, [.val sc, .val (.ref 0), .own (.lst th), .val (.lst K6), y4, y5, y6, y7, y8, y9, .emp, .emp, .emp], μ2) := by
    have hs : ∀ ρ μ, evSrc (Γ 0) (.range1 (.lit (.int 12))) ρ μ = some (.items (rangeD 0 12), μ) := fun ρ μ => by
      unfold evSrc
      simp only [evE, Option.bind_some]
      rw [if_pos (by decide)]; rfl
    unfold t5
    simp only [evS, hs, Option.bind_some]
    exact e2
  obtain ⟨y2, y10, e6⟩ := s6 (k := 0) (sc := sc) (x3 := .val (.lst K6)) (x4 := y4) (x5 := y5) (x6 := y6) (x7 := y7) (x8 := y8) (x9 := y9) (x10 := .emp) (x11 := .emp) (x12 := .emp) h2 g2
  have e7 := s7 (k := 0) (μ := μ2) (sc := sc) (x2 := y2) (x3 := .val (.lst K6)) (x4 := y4) (x5 := y5) (x6 := y6) (x7 := y7) (x8 := y8) (x9 := y9) (x10 := y10) (x11 := .emp) (x12 := .emp)
  refine ⟨μ2, ?_⟩
  have app : ∀ ρ μ ρ' μ' rest, evSs (Γ 0) (.cons t1 (.cons t2 (.cons t3 (.cons t4 .nil)))) ρ μ = some (.nx, ρ', μ') → evSs (Γ 0) (.cons t1 (.cons t2 (.cons t3 (.cons t4 rest)))) ρ μ = evSs (Γ 0) rest ρ' μ' := fun ρ μ ρ' μ' rest h => by
    simp only [evSs] at h ⊢
    cases h1 : evS (Γ 0) t1 ρ μ with
    | none => rw [h1] at h; cases h
    | some r1 =>
      obtain ⟨f1, ρ1, μ1⟩ := r1
      rw [h1] at h
      cases f1 <;> (first | (simp at h; done) | skip)
      simp only [Option.bind_some] at h ⊢
      cases h2 : evS (Γ 0) t2 ρ1 μ1 with
      | none => rw [h2] at h; cases h
      | some r2 =>
        obtain ⟨f2, ρ2, μ2⟩ := r2
        rw [h2] at h
        cases f2 <;> (first | (simp at h; done) | skip)
        simp only [Option.bind_some] at h ⊢
        cases h3 : evS (Γ 0) t3 ρ2 μ2 with
        | none => rw [h3] at h; cases h
        | some r3 =>
          obtain ⟨f3, ρ3, μ3⟩ := r3
          rw [h3] at h
          cases f3 <;> (first | (simp at h; done) | skip)
          simp only [Option.bind_some] at h ⊢
          cases h4 : evS (Γ 0) t4 ρ3 μ3 with
          | none => rw [h4] at h; cases h
          | some r4 =>
            obtain ⟨f4, ρ4, μ4⟩ := r4
            rw [h4] at h
            cases f4 <;> (first | (simp at h; done) | skip)
            simp only [Option.bind_some] at h ⊢
            cases h; rfl
  unfold tb
  rw [evSs, e0]
  simp only [Option.bind_some]
  rw [app _ _ _ _ _ e1]
  simp only [evSs, e5, e6, e7, Option.bind_some]
  rfl
end FH.K01
end
open PySem PySem.W PyProof.Rows
set_option maxHeartbeats 0 in
theorem PySem.Challenge.cw_formulahall_k01_values_in_their_order_holds : PySem.Challenge.rw_formulahall_k01_values_in_their_order.Holds := by
  w_on; o_law; k_head; (case hw => w_witness2)
  k_fill
  refine FH.walk_fh (l := PySem.Challenge.rw_formulahall_k01_values_in_their_order) (n := 63) (T := FH.K01.prg.T) (fs := FH.K01.prg.fs) (k := 9) (i := 27) rfl (by decide) rfl ⟨rfl, by decide, by decide⟩ ?F FH.K01.plain
  case F =>
    intro pr w mg fa h Y G name
    exact FH.head_fh (P := FH.K01.prg) (x := "law") FH.K01.at_ok FH.K01.ok_ok FH.K01.bnd_ok (FH.fnG_ok (by decide +kernel)) (PySem.W.kIn_of Y) G name (by show He.obsT _ _ _ _ = He.valT _ _ _; kernel_rfl) (by kernel_rfl)
