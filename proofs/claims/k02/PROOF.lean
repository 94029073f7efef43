import PyProof.Rows.All
import Wide.All
import OpenK.AllK
import Wide.FinOn
import PySem.Challenge.RW_formulahall_k02_whole_places_and_refs
import HandS.Zip
import HandS.ForMost
import HandS.Deep
import HandS.Flow
import HandS.TupAny
import HandS.IsInst
import HandS.CallLocal
import HandS.SetKeys
import HandS.Style
import HandS.Strs
import HandS.Replace
import HandS.More
import HandS.Text
import HandS.FStr
import HandS.Head0
import HandS.Head1
import HandS.Head2
import HandS.HeadEnd
import HandS.HeadHook1
import HandS.HeadHook2
import HandS.HeadHook3
import HandS.HeadHook4
set_option Elab.async false
set_option linter.all false
set_option maxRecDepth 100000
section
set_option maxHeartbeats 1000000
/-! FHZ: zip of two or three, lists and tuples mixed. -/
namespace FH.Zp
open PySem PySem.Spec PyProof.Rows L2
/-- an iterator over a list (true) or a tuple -/
def Ist (b : Bool) (h : Heap) (it l : Addr) (i : Nat) : Prop := match b with
  | true => h.IsListIter it l i | false => h.IsTupleIter it l i
def Isq (b : Bool) (h : Heap) (l : Addr) (xs : Array Value) : Prop := match b with
  | true => h.IsList l xs | false => h.IsTuple l xs
theorem Ist.keep {b : Bool} {h h' : Heap} {it l : Addr} {i : Nat} (x : Ist b h it l i) (e : ∀ o, h.get? it = some o → h'.get? it = some o) : Ist b h' it l i := by
  cases b with
  | true => exact Heap.IsListIter.at x e
  | false => exact Heap.IsTupleIter.at x e
theorem Isq.keep {b : Bool} {h h' : Heap} {l : Addr} {xs : Array Value} (x : Isq b h l xs) (e : ∀ o, h.get? l = some o → h'.get? l = some o) : Isq b h' l xs := by
  cases b with
  | true => obtain ⟨o, ho, r⟩ := x; exact ⟨o, e o ho, r⟩
  | false => obtain ⟨o, ho, r⟩ := x; exact ⟨o, e o ho, r⟩
theorem Ist.obj {b : Bool} {h : Heap} {it l : Addr} {i : Nat} (x : Ist b h it l i) : ∃ o, h.get? it = some o ∧ ∀ v, o.data ≠ .cell v := by
  cases b with
  | true => obtain ⟨o, ho, _, d⟩ := x; exact ⟨o, ho, fun v q => by rw [d] at q; cases q⟩
  | false => obtain ⟨o, ho, _, d⟩ := x; exact ⟨o, ho, fun v q => by rw [d] at q; cases q⟩
section
variable {prog : Program} {w : World} {A : Around} {E : Value → Shared → Prop} {s : Shared}
theorem nx_item {b : Bool} {it l : Addr} {i : Nat} {items : Array Value} {x : Value} {Q : Value → Shared → Prop} (hit : Ist b s.heap it l i) (hl : Isq b s.heap l items) (hx : items[i]? = some x)
    (hQ : ∀ h', Ist b h' it l (i + 1) → Heap.SameBut it s.heap h' → Q x { s with heap := h' }) : wpAny (model prog w) A (Builtin.SmallTypes.nextOf (.ref it)) Q E s := by
  cases b with
  | true => exact wpAny_nextOf_list_item hit hl hx hQ
  | false => exact RZ.nextOf_tuple_item hit hl hx hQ
theorem nx_end {b : Bool} {it l : Addr} {i : Nat} {items : Array Value} {Q : Value → Shared → Prop} (hh : A.handled = none) (hit : Ist b s.heap it l i) (hl : Isq b s.heap l items) (hx : items[i]? = none)
    (hE : ∀ h' e, Heap.ExtBut it s.heap h' → (∃ o, h'.get? e = some o ∧ o.cls = .type "StopIteration") → E (.ref e) { s with heap := h' }) : wpAny (model prog w) A (Builtin.SmallTypes.nextOf (.ref it)) Q E s := by
  cases b with
  | true => exact wpAny_nextOf_list_end hh hit hl hx hE
  | false => exact RZ.nextOf_tuple_end hh hit hl hx hE
/-- an iterator: its kind, where it stands, what it walks, the items -/
structure Sc where
  b : Bool
  it : Addr
  l : Addr
  xs : Array Value
def tupO (vs : List Value) : Obj := { cls := .type "tuple", data := .seq vs.toArray }
/-- far from one another -/
structure Apart (z TI TO : Addr) (L : List Sc) : Prop where
  TIz : TI ≠ z
  TOz : TO ≠ z
  TITO : TI ≠ TO
  it : ∀ e ∈ L, e.it ≠ z ∧ e.it ≠ TO ∧ TI ≠ e.it
  nd : (L.map (·.it)).Nodup
  src : ∀ e ∈ L, e.l ≠ z ∧ e.l ≠ TO ∧ ∀ f ∈ L, e.l ≠ f.it
theorem upd_tup {T : Addr} {vs : List Value} {k : Nat} {x : Value} {Q : Unit → Shared → Prop} (hT : s.heap.get? T = some (tupO vs)) (hn : vs.length ≤ 8)
    (h : ∀ h', h'.get? T = some (tupO (vs.set k x)) → Heap.SameBut T s.heap h' → Q () { s with heap := h' }) :
    wpAny (model prog w) A (updateSeq T (·.setIfInBounds k x)) Q E s := by
  have h8 : (8 : Nat) ≤ sizeLine := by decide
  refine wpAny_updateSeq hT rfl (h _ ?_ (Heap.SameBut.update ..)) (by simp; omega) (by simp; omega)
  rw [Heap.get?_update_self _ hT rfl]
  simp [Obj.mapSeq, tupO]
/-- the walk over the iterators, when each has an item: acc are what was put, rest what stood -/
theorem loop_item {β : Type} {b0 : β} {body : Value × Nat → β → Sem (ForInStep β)} {z TI TO : Addr} {k : Nat}
    (step : ∀ (it : Addr) (j : Nat) (vs : List Value) (s : Shared) (b : Bool) (l : Addr) (xs : Array Value) (x : Value) (Q : ForInStep β → Shared → Prop), Ist b s.heap it l k → Isq b s.heap l xs → xs[k]? = some x → it ≠ TO → s.heap.get? TO = some (tupO vs) → vs.length ≤ 8 →
      (∀ h', Ist b h' it l (k + 1) → h'.get? TO = some (tupO (vs.set j x)) → (∀ c o, c ≠ it → c ≠ TO → s.heap.get? c = some o → h'.get? c = some o) → h'.objs.size = s.heap.objs.size → Q (.yield b0) { s with heap := h' }) →
      wpAny (model prog w) A (body (.ref it, j) b0) Q E s)
    {L0 : List Sc} (D : Apart z TI TO L0) :
    ∀ (L : List Sc) (acc rest : List Value) (ys : List Value) (s : Shared) (Q : β → Shared → Prop), (∀ e ∈ L, e ∈ L0) → (L.map (·.it)).Nodup → acc.length + rest.length ≤ 8 → rest.length = L.length →
      s.heap.get? TO = some (tupO (acc ++ rest)) → (∀ e ∈ L, Ist e.b s.heap e.it e.l k ∧ Isq e.b s.heap e.l e.xs) → L.map (fun e => e.xs[k]?) = ys.map some →
      (∀ h', h'.get? TO = some (tupO (acc ++ ys)) → (∀ e ∈ L, Ist e.b h' e.it e.l (k + 1)) → (∀ c o, c ∉ L.map (·.it) → c ≠ TO → s.heap.get? c = some o → h'.get? c = some o) → h'.objs.size = s.heap.objs.size → Q b0 { s with heap := h' }) →
      wpAny (model prog w) A (forIn ((L.map fun e => Value.ref e.it).zipIdx acc.length) b0 body) Q E s
  | [], acc, rest, ys, s, Q, sub, nd, h8, hr, hTO, hL, hy, hQ => by
    have e1 : rest = [] := List.length_eq_zero_iff.mp hr
    have e2 : ys = [] := by simpa using hy.symm
    subst e1; subst e2
    simp only [List.map_nil, List.zipIdx_nil, List.forIn_nil]
    exact wpAny_pure (hQ s.heap hTO (fun e h => nomatch h) (fun c o _ _ h => h) rfl)
  | e :: L, acc, rest, ys, s, Q, sub, nd, h8, hr, hTO, hL, hy, hQ => by
    obtain ⟨y, ys, rfl⟩ : ∃ y ys', ys = y :: ys' := by
      cases ys with
      | nil => simp at hy
      | cons y ys => exact ⟨y, ys, rfl⟩
    obtain ⟨r, rest, rfl⟩ : ∃ y ys', rest = y :: ys' := by
      cases rest with
      | nil => simp at hr
      | cons y ys => exact ⟨y, ys, rfl⟩
    simp only [List.map_cons, List.cons.injEq] at hy
    simp only [List.map_cons, List.nodup_cons] at nd
    simp only [List.length_cons] at hr h8
    obtain ⟨De1, De2, De3⟩ := D.it e (sub e List.mem_cons_self)
    obtain ⟨he1, he2⟩ := hL e List.mem_cons_self
    simp only [List.map_cons, List.zipIdx_cons, List.forIn_cons]
    refine wpAny_bind (step e.it acc.length (acc ++ r :: rest) s e.b e.l e.xs y _ he1 he2 hy.1 De2 hTO (by simp; omega) fun h' h1 h2 h3 h4 => ?_)
    have hset : (acc ++ r :: rest).set acc.length y = (acc ++ [y]) ++ rest := by simp
    rw [hset] at h2
    have hlen : acc.length + 1 = (acc ++ [y]).length := by simp
    show wpAny _ _ (forIn _ b0 body) _ _ _
    rw [hlen]
    refine loop_item step D L (acc ++ [y]) rest ys { s with heap := h' } Q (fun f hf => sub f (List.mem_cons_of_mem _ hf)) nd.2 (by simp; omega) (by omega) h2 (fun f hf => ?_) hy.2 fun h'' g1 g2 g3 g4 => ?_
    · obtain ⟨Df1, Df2, _⟩ := D.it f (sub f (List.mem_cons_of_mem _ hf))
      obtain ⟨Ds1, Ds2, Ds3⟩ := D.src f (sub f (List.mem_cons_of_mem _ hf))
      obtain ⟨a, b⟩ := hL f (List.mem_cons_of_mem _ hf)
      have ne : f.it ≠ e.it := fun q => nd.1 (List.mem_map.mpr ⟨f, hf, q⟩)
      exact ⟨a.keep fun o ho => h3 _ o ne Df2 ho, b.keep fun o ho => h3 _ o (Ds3 e (sub e List.mem_cons_self)) Ds2 ho⟩
    · refine hQ h'' (by simpa using g1) (fun f hf => ?_) (fun c o hc hc2 ho => ?_) (g4.trans h4)
      · rcases List.mem_cons.mp hf with rfl | hf
        · exact h1.keep fun o ho => g3 _ o nd.1 De2 ho
        · exact g2 f hf
      · simp only [List.map_cons, List.mem_cons, not_or] at hc
        exact g3 c o hc.2 hc2 (h3 c o hc.1 hc2 ho)
/-- .. when one of them has none -/
theorem loop_end {β : Type} {b0 : β} {body : Value × Nat → β → Sem (ForInStep β)} {z TI TO : Addr} {k : Nat}
    (step : ∀ (it : Addr) (j : Nat) (vs : List Value) (s : Shared) (b : Bool) (l : Addr) (xs : Array Value) (x : Value) (Q : ForInStep β → Shared → Prop), Ist b s.heap it l k → Isq b s.heap l xs → xs[k]? = some x → it ≠ TO → s.heap.get? TO = some (tupO vs) → vs.length ≤ 8 →
      (∀ h', Ist b h' it l (k + 1) → h'.get? TO = some (tupO (vs.set j x)) → (∀ c o, c ≠ it → c ≠ TO → s.heap.get? c = some o → h'.get? c = some o) → h'.objs.size = s.heap.objs.size → Q (.yield b0) { s with heap := h' }) →
      wpAny (model prog w) A (body (.ref it, j) b0) Q E s)
    (stop : ∀ (it : Addr) (j : Nat) (s : Shared) (b : Bool) (l : Addr) (xs : Array Value) (f0 : Value) (Q : ForInStep β → Shared → Prop), Ist b s.heap it l k → Isq b s.heap l xs → xs[k]? = none → it ≠ z → IsZip s.heap z TI TO f0 →
      (∀ h' e, (∀ c o, c ≠ z → c ≠ it → s.heap.get? c = some o → h'.get? c = some o) → (∃ o, h'.get? e = some o ∧ o.cls = .type "StopIteration") → E (.ref e) { s with heap := h' }) →
      wpAny (model prog w) A (body (.ref it, j) b0) Q E s)
    {L0 : List Sc} (D : Apart z TI TO L0) :
    ∀ (L : List Sc) (acc rest : List Value) (s : Shared) (Q : β → Shared → Prop) (f0 : Value), (∀ e ∈ L, e ∈ L0) → (L.map (·.it)).Nodup → acc.length + rest.length ≤ 8 → rest.length = L.length →
      s.heap.get? TO = some (tupO (acc ++ rest)) → IsZip s.heap z TI TO f0 → (∀ e ∈ L, Ist e.b s.heap e.it e.l k ∧ Isq e.b s.heap e.l e.xs) → (∃ e ∈ L, e.xs[k]? = none) →
      (∀ h' e, (∀ c o, c ∉ L.map (·.it) → c ≠ TO → c ≠ z → s.heap.get? c = some o → h'.get? c = some o) → (∃ o, h'.get? e = some o ∧ o.cls = .type "StopIteration") → E (.ref e) { s with heap := h' }) →
      wpAny (model prog w) A (forIn ((L.map fun e => Value.ref e.it).zipIdx acc.length) b0 body) Q E s
  | [], acc, rest, s, Q, f0, sub, nd, h8, hr, hTO, hz, hL, hy, hE => by obtain ⟨e, he, _⟩ := hy; cases he
  | e :: L, acc, rest, s, Q, f0, sub, nd, h8, hr, hTO, hz, hL, hy, hE => by
    obtain ⟨r, rest, rfl⟩ : ∃ y ys', rest = y :: ys' := by
      cases rest with
      | nil => simp at hr
      | cons y ys => exact ⟨y, ys, rfl⟩
    simp only [List.map_cons, List.nodup_cons] at nd
    simp only [List.length_cons] at hr h8
    obtain ⟨De1, De2, De3⟩ := D.it e (sub e List.mem_cons_self)
    obtain ⟨he1, he2⟩ := hL e List.mem_cons_self
    simp only [List.map_cons, List.zipIdx_cons, List.forIn_cons]
    cases hx : e.xs[k]? with
    | none =>
      refine wpAny_bind (stop e.it acc.length s e.b e.l e.xs f0 _ he1 he2 hx De1 hz fun h' ex hk hex => hE h' ex (fun c o hc hc2 hc3 ho => ?_) hex)
      simp only [List.map_cons, List.mem_cons, not_or] at hc
      exact hk c o hc3 hc.1 ho
    | some y =>
      refine wpAny_bind (step e.it acc.length (acc ++ r :: rest) s e.b e.l e.xs y _ he1 he2 hx De2 hTO (by simp; omega) fun h' h1 h2 h3 h4 => ?_)
      have hset : (acc ++ r :: rest).set acc.length y = (acc ++ [y]) ++ rest := by simp
      rw [hset] at h2
      have hlen : acc.length + 1 = (acc ++ [y]).length := by simp
      show wpAny _ _ (forIn _ b0 body) _ _ _
      rw [hlen]
      refine loop_end step stop D L (acc ++ [y]) rest { s with heap := h' } Q f0 (fun f hf => sub f (List.mem_cons_of_mem _ hf)) nd.2 (by simp; omega) (by omega) h2 (h3 _ _ (Ne.symm De1) (Ne.symm D.TOz) hz) (fun f hf => ?_) ?_ fun h'' ex g1 g2 => ?_
      · obtain ⟨Df1, Df2, _⟩ := D.it f (sub f (List.mem_cons_of_mem _ hf))
        obtain ⟨Ds1, Ds2, Ds3⟩ := D.src f (sub f (List.mem_cons_of_mem _ hf))
        obtain ⟨a, b⟩ := hL f (List.mem_cons_of_mem _ hf)
        have ne : f.it ≠ e.it := fun q => nd.1 (List.mem_map.mpr ⟨f, hf, q⟩)
        exact ⟨a.keep fun o ho => h3 _ o ne Df2 ho, b.keep fun o ho => h3 _ o (Ds3 e (sub e List.mem_cons_self)) Ds2 ho⟩
      · obtain ⟨f, hf, hn⟩ := hy
        rcases List.mem_cons.mp hf with rfl | hf
        · rw [hx] at hn; cases hn
        · exact ⟨f, hf, hn⟩
      · refine hE h'' ex (fun c o hc hc2 hc3 ho => ?_) g2
        simp only [List.map_cons, List.mem_cons, not_or] at hc
        exact g1 c o hc.2 hc2 hc3 (h3 c o hc.1 hc2 ho)
theorem next_item {z TI TO : Addr} {L : List Sc} {k : Nat} {vs ys : List Value} {Q : Value → Shared → Prop} (D : Apart z TI TO L) (hn : L.length ≤ 8) (h0 : L ≠ [])
    (hz : IsZip s.heap z TI TO .none) (hTI : s.heap.get? TI = some (tupO (L.map fun e => .ref e.it))) (hTO : s.heap.get? TO = some (tupO vs)) (hv : vs.length = L.length)
    (hL : ∀ e ∈ L, Ist e.b s.heap e.it e.l k ∧ Isq e.b s.heap e.l e.xs) (hy : L.map (fun e => e.xs[k]?) = ys.map some)
    (hQ : ∀ h', IsZip h' z TI TO (rawInt s.heap.objs.size) → h'.get? TO = some (tupO ys) → (∀ e ∈ L, Ist e.b h' e.it e.l (k + 1)) → h'.get? s.heap.objs.size = some (tupO ys) → h'.objs.size = s.heap.objs.size + 1 →
      (∀ c o, c ≠ z → c ≠ TO → c ∉ L.map (·.it) → s.heap.get? c = some o → h'.get? c = some o) → Q (.ref s.heap.objs.size) { s with heap := h' }) :
    wpAny (model prog w) A (Builtin.«zip.__next__» ⟨[.ref z], []⟩) (fun fin s' => ∃ v, fin = .done (.ret v) ∧ Q v s') E s := by
  have lys : ys.length = L.length := by have := congrArg List.length hy; simpa using this.symm
  show wpAny _ _ (field (.ref z) 2 >>= _) _ _ _
  refine wpAny_bind (wpAny_field hz rfl (x := .bool false) rfl ?_)
  show wpAny _ _ (field (.ref z) 3 >>= _) _ _ _
  refine wpAny_bind (wpAny_field hz rfl (x := .ref TI) rfl ?_)
  refine wpAny_bind (wpAny_seqItems hTI rfl ?_)
  have ne : (L.map fun e => Value.ref e.it).toArray.isEmpty = false := by
    cases L with
    | nil => exact absurd rfl h0
    | cons e L => rfl
  show wpAny _ _ (if ((L.map fun e => Value.ref e.it).toArray.isEmpty) = true then _ else _) _ _ _
  rw [if_neg (by rw [ne]; exact Bool.false_ne_true)]
  show wpAny _ _ (Builtin.SmallTypes.ownedTupleIsFree (.ref z) >>= _) _ _ _
  refine wpAny_bind ?_
  unfold Builtin.SmallTypes.ownedTupleIsFree
  refine wpAny_bind (wpAny_field hz rfl (x := .none) rfl (wpAny_pure ?_))
  simp only [if_true]
  refine wpAny_bind (wpAny_rule ?_)
  refine wpAny_bind (wpAny_field hz rfl (x := .ref TO) rfl ?_)
  refine wpAny_bind (wpAny_setField_rec hz (by simp) fun h₁ hz₁ hs₁ => ?_)
  replace hz₁ : IsZip h₁ z TI TO .ellipsis := hz₁
  refine wpAny_bind ?_
  refine loop_item (z := z) (TI := TI) (TO := TO) (k := k) ?step D L [] vs ys { s with heap := h₁ } _ (fun e h => h) D.nd (by simp; omega) (by omega) (hs₁.extBut _ _ D.TOz hTO) (fun e he => ?_) hy fun h₅ hTO₅ hi₅ hk hsz5 => ?_
  case step =>
    intro it j us s b l xs x Q hit hl hx hne hT h8 hQ
    refine wpAny_bind (wpAny_onRaise ?_)
    show wpAny _ _ (Builtin.SmallTypes.nextOf (.ref it) >>= _) _ _ _
    refine wpAny_bind (nx_item hit hl hx fun h₂ h1₂ hs₂ => wpAny_pure ?_)
    have hT₂ : h₂.get? TO = some (tupO us) := hs₂.extBut _ _ hne.symm hT
    refine wpAny_bind (wpAny_seqItems hT₂ rfl ?_)
    refine wpAny_bind (upd_tup hT₂ h8 fun h₃ hT₃ hs₃ => ?_)
    refine wpAny_bind (wpAny_letGo (wpAny_pure ?_))
    exact hQ h₃ (h1₂.keep fun o ho => hs₃.extBut _ _ hne ho) hT₃ (fun c o c1 c2 ho => hs₃.extBut _ _ c2 (hs₂.extBut _ _ c1 ho)) (by rw [hs₃.1, hs₂.1])
  · obtain ⟨a, b⟩ := hL e he
    exact ⟨a.keep fun o ho => hs₁.extBut _ _ (D.it e he).1 ho, b.keep fun o ho => hs₁.extBut _ _ (D.src e he).1 ho⟩
  · simp only [List.nil_append] at hTO₅
    refine wpAny_bind (wpAny_seqItems hTO₅ rfl ?_)
    refine wpAny_bind (wpAny_newTuple ?_ (by have h8 : (8 : Nat) ≤ sizeLine := by decide
                                             simp; omega))
    have hsz : h₅.objs.size = s.heap.objs.size := by rw [hsz5, hs₁.1]
    have hz₅ : IsZip h₅ z TI TO .ellipsis := hk _ _ (fun hm => by obtain ⟨e, he, q⟩ := List.mem_map.mp hm; exact (D.it e he).1 q) (Ne.symm D.TOz) hz₁
    have hzlt : z < h₅.objs.size := Heap.lt_size hz₅
    show wpAny _ _ (Builtin.SmallTypes.ownedTupleHandOut (.ref z) (.ref h₅.objs.size) >>= _) _ _ _
    refine wpAny_bind ?_
    unfold Builtin.SmallTypes.ownedTupleHandOut
    have hz₆ : IsZip (h₅.push (tupO ys)) z TI TO .ellipsis := Heap.get?_push_of_some _ hz₅
    refine wpAny_bind (wpAny_setField_rec hz₆ (by simp) fun h₇ hz₇ hs₇ => ?_)
    replace hz₇ : IsZip h₇ z TI TO (rawInt h₅.objs.size) := hz₇
    refine wpAny_setField_rec hz₇ (by simp) fun h₈ hz₈ hs₈ => ?_
    replace hz₈ : IsZip h₈ z TI TO (rawInt h₅.objs.size) := hz₈
    have up : ∀ c o, c ≠ z → h₅.get? c = some o → h₈.get? c = some o := fun c o c1 e => hs₈.extBut _ _ c1 (hs₇.extBut _ _ c1 (Heap.get?_push_of_some _ e))
    have hT₈ : h₈.get? h₅.objs.size = some (tupO ys) := hs₈.extBut _ _ (Nat.ne_of_gt hzlt) (hs₇.extBut _ _ (Nat.ne_of_gt hzlt) (Heap.get?_push_size _ rfl))
    have hz8 : h₈.objs.size = h₅.objs.size + 1 := by rw [hs₈.1, hs₇.1, Heap.size_push]
    rw [hsz] at hz₈ hT₈ hz8
    refine wpAny_pure ⟨_, rfl, ?_⟩
    show Q (.ref h₅.objs.size) _
    rw [hsz]
    exact hQ h₈ hz₈ (up _ _ D.TOz hTO₅) (fun e he => (hi₅ e he).keep fun o ho => up _ o (D.it e he).1 ho) hT₈ hz8 fun c o c1 c2 c3 ho => up c o c1 (hk c o c3 c2 (hs₁.extBut _ _ c1 ho))
theorem next_end {z TI TO : Addr} {L : List Sc} {k : Nat} {vs : List Value} {Q : Fin → Shared → Prop} (hh : A.handled = none) (D : Apart z TI TO L) (hn : L.length ≤ 8)
    (hz : IsZip s.heap z TI TO .none) (hTI : s.heap.get? TI = some (tupO (L.map fun e => .ref e.it))) (hTO : s.heap.get? TO = some (tupO vs)) (hv : vs.length = L.length)
    (hL : ∀ e ∈ L, Ist e.b s.heap e.it e.l k ∧ Isq e.b s.heap e.l e.xs) (hy : ∃ e ∈ L, e.xs[k]? = none)
    (hE : ∀ h' e, (∀ c o, c ≠ z → c ≠ TO → c ∉ L.map (·.it) → s.heap.get? c = some o → h'.get? c = some o) → (∃ o, h'.get? e = some o ∧ o.cls = .type "StopIteration") → E (.ref e) { s with heap := h' }) :
    wpAny (model prog w) A (Builtin.«zip.__next__» ⟨[.ref z], []⟩) Q E s := by
  show wpAny _ _ (field (.ref z) 2 >>= _) _ _ _
  refine wpAny_bind (wpAny_field hz rfl (x := .bool false) rfl ?_)
  show wpAny _ _ (field (.ref z) 3 >>= _) _ _ _
  refine wpAny_bind (wpAny_field hz rfl (x := .ref TI) rfl ?_)
  refine wpAny_bind (wpAny_seqItems hTI rfl ?_)
  have ne : (L.map fun e => Value.ref e.it).toArray.isEmpty = false := by
    cases L with
    | nil => obtain ⟨e, he, _⟩ := hy; cases he
    | cons e L => rfl
  show wpAny _ _ (if ((L.map fun e => Value.ref e.it).toArray.isEmpty) = true then _ else _) _ _ _
  rw [if_neg (by rw [ne]; exact Bool.false_ne_true)]
  show wpAny _ _ (Builtin.SmallTypes.ownedTupleIsFree (.ref z) >>= _) _ _ _
  refine wpAny_bind ?_
  unfold Builtin.SmallTypes.ownedTupleIsFree
  refine wpAny_bind (wpAny_field hz rfl (x := .none) rfl (wpAny_pure ?_))
  simp only [if_true]
  refine wpAny_bind (wpAny_rule ?_)
  refine wpAny_bind (wpAny_field hz rfl (x := .ref TO) rfl ?_)
  refine wpAny_bind (wpAny_setField_rec hz (by simp) fun h₁ hz₁ hs₁ => ?_)
  replace hz₁ : IsZip h₁ z TI TO .ellipsis := hz₁
  refine wpAny_bind ?_
  refine loop_end (z := z) (TI := TI) (TO := TO) (k := k) ?step ?stop D L [] vs { s with heap := h₁ } _ .ellipsis (fun e h => h) D.nd (by simp; omega) (by omega) (hs₁.extBut _ _ D.TOz hTO) hz₁ (fun e he => ?_) hy fun h₅ ex hk hex => ?_
  case step =>
    intro it j us s b l xs x Q hit hl hx hne hT h8 hQ
    refine wpAny_bind (wpAny_onRaise ?_)
    show wpAny _ _ (Builtin.SmallTypes.nextOf (.ref it) >>= _) _ _ _
    refine wpAny_bind (nx_item hit hl hx fun h₂ h1₂ hs₂ => wpAny_pure ?_)
    have hT₂ : h₂.get? TO = some (tupO us) := hs₂.extBut _ _ hne.symm hT
    refine wpAny_bind (wpAny_seqItems hT₂ rfl ?_)
    refine wpAny_bind (upd_tup hT₂ h8 fun h₃ hT₃ hs₃ => ?_)
    refine wpAny_bind (wpAny_letGo (wpAny_pure ?_))
    exact hQ h₃ (h1₂.keep fun o ho => hs₃.extBut _ _ hne ho) hT₃ (fun c o c1 c2 ho => hs₃.extBut _ _ c2 (hs₂.extBut _ _ c1 ho)) (by rw [hs₃.1, hs₂.1])
  case stop =>
    intro it j s b l xs f0 Q hit hl hx hne hz hE
    refine wpAny_bind (wpAny_onRaise ?_)
    show wpAny _ _ (Builtin.SmallTypes.nextOf (.ref it) >>= _) _ _ _
    refine wpAny_bind (nx_end hh hit hl hx fun h₂ e hs₂ he => ?_)
    obtain ⟨oe, hoe, hce⟩ := he
    have hz₂ : IsZip h₂ z TI TO f0 := hs₂ _ _ hne.symm hz
    have hez : e ≠ z := fun x => by subst x; rw [hz₂] at hoe; cases hoe; simp at hce
    refine wpAny_setField_rec hz₂ (by simp) fun h₃ _ hs₃ => hE h₃ e (fun c o c1 c3 x => hs₃.extBut _ _ c1 (hs₂ _ _ c3 x)) ⟨oe, hs₃.extBut _ _ hez hoe, hce⟩
  · obtain ⟨a, b⟩ := hL e he
    exact ⟨a.keep fun o ho => hs₁.extBut _ _ (D.it e he).1 ho, b.keep fun o ho => hs₁.extBut _ _ (D.src e he).1 ho⟩
  · exact hE h₅ ex (fun c o c1 c2 c3 ho => hk c o c3 c2 c1 (hs₁.extBut _ _ c1 ho)) hex
theorem pyNext_item {z TI TO : Addr} {L : List Sc} {k : Nat} {vs ys : List Value} {Q : Option Value → Shared → Prop} (D : Apart z TI TO L) (hn : L.length ≤ 8) (h0 : L ≠ [])
    (hz : IsZip s.heap z TI TO .none) (hTI : s.heap.get? TI = some (tupO (L.map fun e => .ref e.it))) (hTO : s.heap.get? TO = some (tupO vs)) (hv : vs.length = L.length)
    (hL : ∀ e ∈ L, Ist e.b s.heap e.it e.l k ∧ Isq e.b s.heap e.l e.xs) (hy : L.map (fun e => e.xs[k]?) = ys.map some)
    (hQ : ∀ h', IsZip h' z TI TO (rawInt s.heap.objs.size) → h'.get? TO = some (tupO ys) → (∀ e ∈ L, Ist e.b h' e.it e.l (k + 1)) → h'.get? s.heap.objs.size = some (tupO ys) → h'.objs.size = s.heap.objs.size + 1 →
      (∀ c o, c ≠ z → c ≠ TO → c ∉ L.map (·.it) → s.heap.get? c = some o → h'.get? c = some o) → Q (some (.ref s.heap.objs.size)) { s with heap := h' }) :
    wpAny (model prog w) A (pyNext (.ref z)) Q E s := by
  have hT : s.TypeIs (.ref z) "zip" := ⟨_, hz, rfl⟩
  unfold pyNext
  exact wpAny_bind (wpAny_attempt (wpAny_callSpecial?_slot (name := Str.ofString "__next__") hT F.slot_zip_next
    (wpAny_call_entry F.slot_zip_next hT F.entry_zip_next
      (next_item D hn h0 hz hTI hTO hv hL hy fun h' a1 a2 a3 a5 a6 a7 => wpAny_pure (hQ h' a1 a2 a3 a5 a6 a7)) (F.args_zip_next_1 _))))
theorem pyNext_end {z TI TO : Addr} {L : List Sc} {k : Nat} {vs : List Value} {Q : Option Value → Shared → Prop} (hh : A.handled = none) (D : Apart z TI TO L) (hn : L.length ≤ 8)
    (hz : IsZip s.heap z TI TO .none) (hTI : s.heap.get? TI = some (tupO (L.map fun e => .ref e.it))) (hTO : s.heap.get? TO = some (tupO vs)) (hv : vs.length = L.length)
    (hL : ∀ e ∈ L, Ist e.b s.heap e.it e.l k ∧ Isq e.b s.heap e.l e.xs) (hy : ∃ e ∈ L, e.xs[k]? = none)
    (hQ : ∀ h', (∀ c o, c ≠ z → c ≠ TO → c ∉ L.map (·.it) → s.heap.get? c = some o → h'.get? c = some o) → Q none { s with heap := h' }) : wpAny (model prog w) A (pyNext (.ref z)) Q E s := by
  have hT : s.TypeIs (.ref z) "zip" := ⟨_, hz, rfl⟩
  unfold pyNext
  refine wpAny_bind (wpAny_attempt (wpAny_callSpecial?_slot (name := Str.ofString "__next__") hT F.slot_zip_next
    (wpAny_call_entry F.slot_zip_next hT F.entry_zip_next (next_end hh D hn hz hTI hTO hv hL hy fun h' e hk he => ?_) (F.args_zip_next_1 _))))
  obtain ⟨o, ho, hc⟩ := he
  refine wpAny_bind (wpAny_isInstance (T := "StopIteration") (b := true) ⟨o, ho, hc⟩ isSubtype_stop ?_)
  exact wpAny_pure (hQ _ hk)
end
end FH.Zp
end
section
set_option maxHeartbeats 1000000
/-! FHZ2: zip is called; its turns. -/
namespace FH.Zp
open PySem PySem.Spec PyProof.Rows L2
def itO (b : Bool) (l : Addr) : Obj := match b with
  | true => { cls := .type "list_iterator", data := .fields #[.ref l, .int 0 0] }
  | false => { cls := .type "tuple_iterator", data := .fields #[.ref l, .int 0 0] }
theorem itO_st {b : Bool} {h : Heap} {it l : Addr} (e : h.get? it = some (itO b l)) : Ist b h it l 0 := by
  cases b with
  | true => exact ⟨_, e, rfl, rfl⟩
  | false => exact ⟨_, e, rfl, rfl⟩
theorem Isq.push {b : Bool} {h : Heap} {l : Addr} {xs : Array Value} (x : Isq b h l xs) (o : Obj) : Isq b (h.push o) l xs := by
  cases b with
  | true => exact Heap.IsList.push x o
  | false => exact Heap.IsTuple.push x o
theorem typeCall_zip_3 (a b c : Value) : checkTypeCall "zip" ⟨[a, b, c], []⟩ = pure () := by kernel_rfl
theorem newCall_zip_3 (a b c : Value) : checkBuiltinCall "zip.__new__" ⟨[.type "zip", a, b, c], []⟩ = pure () := by kernel_rfl
theorem args_object_init_4 (a b c d : Value) : argsOk "object.__init__" ⟨[a, b, c, d], []⟩ := by
  unfold argsOk; rw [signature?_of (id := "object.__init__") (n := ['_', '_', 't', 'i', 'n', 'i', '_', '_']) (o := ['t', 'c', 'e', 'j', 'b', 'o']) (by kernel_rfl) F.owner_object]; kernel_rfl
section
variable {prog : Program} {w : World} {A : Around} {E : Value → Shared → Prop} {s : Shared}
theorem py_iter {b : Bool} {l : Addr} {xs : Array Value} {Q : Value → Shared → Prop} (hl : Isq b s.heap l xs) (hQ : Q (.ref s.heap.objs.size) { s with heap := s.heap.push (itO b l) }) :
    wpAny (model prog w) A (pyIter (.ref l)) Q E s := by
  cases b with
  | true => exact wpAny_pyIter_list hl hQ
  | false => exact wpAny_pyIter_tuple hl hQ
end
abbrev zipO (TI TO : Addr) : Obj := { cls := .type "zip", data := .fields #[.none, .bool false, .bool false, .ref TI, .ref TO] }
abbrev h2 (h : Heap) (b1 b2 : Bool) (l1 l2 : Addr) : Heap := (h.push (itO b1 l1)).push (itO b2 l2)
abbrev z2 (h : Heap) (b1 b2 : Bool) (l1 l2 : Addr) : Heap :=
  (((h2 h b1 b2 l1 l2).push (tupO [.ref h.objs.size, .ref (h.push (itO b1 l1)).objs.size])).push (tupO [.none, .none])).push (zipO (h2 h b1 b2 l1 l2).objs.size ((h2 h b1 b2 l1 l2).push (tupO [.ref h.objs.size, .ref (h.push (itO b1 l1)).objs.size])).objs.size)
theorem meets_2 (b1 b2 : Bool) (l1 l2 : Addr) (xs ys : Array Value) :
    Meets (Builtin.«zip.__new__» ⟨[.type "zip", .ref l1, .ref l2], []⟩) (fun _ R s => Isq b1 s.heap l1 xs ∧ Isq b2 s.heap l2 ys ∧
      R (.ok (.ret (.ref (((h2 s.heap b1 b2 l1 l2).push (tupO [.ref s.heap.objs.size, .ref (s.heap.push (itO b1 l1)).objs.size])).push (tupO [.none, .none])).objs.size))) { s with heap := z2 s.heap b1 b2 l1 l2 }) :=
  .of_wp fun prog w A R s h => by
    obtain ⟨hp, g, d, tk, os⟩ := s; obtain ⟨hl1, hl2, h⟩ := h
    have hsub := sub_zip
    have hL1 : Isq b1 (Shared.heap ⟨hp, g, d, tk, os⟩) l1 xs := hl1
    have hL2 : Isq b2 (Shared.heap ⟨hp.push (itO b1 l1), g, d, tk, os⟩) l2 ys := Isq.push hl2 _
    wp_walk using py_iter hL1, py_iter hL2
    exact ⟨_, rfl, h⟩
abbrev h3 (h : Heap) (b1 b2 b3 : Bool) (l1 l2 l3 : Addr) : Heap := (h2 h b1 b2 l1 l2).push (itO b3 l3)
abbrev t3 (h : Heap) (b1 b2 b3 : Bool) (l1 l2 l3 : Addr) : Heap := (h3 h b1 b2 b3 l1 l2 l3).push (tupO [.ref h.objs.size, .ref (h.push (itO b1 l1)).objs.size, .ref (h2 h b1 b2 l1 l2).objs.size])
abbrev z3 (h : Heap) (b1 b2 b3 : Bool) (l1 l2 l3 : Addr) : Heap :=
  ((t3 h b1 b2 b3 l1 l2 l3).push (tupO [.none, .none, .none])).push (zipO (h3 h b1 b2 b3 l1 l2 l3).objs.size (t3 h b1 b2 b3 l1 l2 l3).objs.size)
theorem meets_3 (b1 b2 b3 : Bool) (l1 l2 l3 : Addr) (xs ys zs : Array Value) :
    Meets (Builtin.«zip.__new__» ⟨[.type "zip", .ref l1, .ref l2, .ref l3], []⟩) (fun _ R s => Isq b1 s.heap l1 xs ∧ Isq b2 s.heap l2 ys ∧ Isq b3 s.heap l3 zs ∧
      R (.ok (.ret (.ref ((t3 s.heap b1 b2 b3 l1 l2 l3).push (tupO [.none, .none, .none])).objs.size))) { s with heap := z3 s.heap b1 b2 b3 l1 l2 l3 }) :=
  .of_wp fun prog w A R s h => by
    obtain ⟨hp, g, d, tk, os⟩ := s; obtain ⟨hl1, hl2, hl3, h⟩ := h
    have hsub := sub_zip
    have hL1 : Isq b1 (Shared.heap ⟨hp, g, d, tk, os⟩) l1 xs := hl1
    have hL2 : Isq b2 (Shared.heap ⟨hp.push (itO b1 l1), g, d, tk, os⟩) l2 ys := Isq.push hl2 _
    have hL3 : Isq b3 (Shared.heap ⟨(hp.push (itO b1 l1)).push (itO b2 l2), g, d, tk, os⟩) l3 zs := Isq.push (Isq.push hl3 _) _
    wp_walk using py_iter hL1, py_iter hL2, py_iter hL3
    exact ⟨_, rfl, h⟩
section
variable {prog : Program} {w : World} {A : Around} {E : Value → Shared → Prop} {s : Shared}
theorem get_size {h : Heap} {o : Obj} (f : ∀ v, o.data ≠ .cell v) : True := trivial
theorem call_2 {b1 b2 : Bool} {l1 l2 : Addr} {xs ys : Array Value} {Q : Value → Shared → Prop} (hl1 : Isq b1 s.heap l1 xs) (hl2 : Isq b2 s.heap l2 ys)
    (h : ∀ h', IsZip h' (s.heap.objs.size + 4) (s.heap.objs.size + 2) (s.heap.objs.size + 3) .none → h'.get? (s.heap.objs.size + 2) = some (tupO [.ref s.heap.objs.size, .ref (s.heap.objs.size + 1)]) →
      h'.get? (s.heap.objs.size + 3) = some (tupO [.none, .none]) → Ist b1 h' s.heap.objs.size l1 0 → Ist b2 h' (s.heap.objs.size + 1) l2 0 →
      (∀ c o, s.heap.get? c = some o → h'.get? c = some o) → Q (.ref (s.heap.objs.size + 4)) { s with heap := h' }) :
    wpAny (model prog w) A (call (.type "zip") [.ref l1, .ref l2]) Q E s := by
  refine callType_new F.called_zip (by decide) (F.typeCall_zip_2 _ _) (F.newCall_zip_2 _ _) (fun obj => F.args_object_init_3 obj _ _) F.entry_zip_new
    (meets_2 b1 b2 l1 l2 xs ys) ⟨hl1, hl2, ?_⟩
  have a1 : (s.heap.push (itO b1 l1)).objs.size = s.heap.objs.size + 1 := Heap.size_push ..
  have a2 : (h2 s.heap b1 b2 l1 l2).objs.size = s.heap.objs.size + 2 := by rw [Heap.size_push, a1]
  have i0 : ∀ b l, Obj.isFreed (itO b l) = false := fun b l => by cases b <;> rfl
  have a3 : ((h2 s.heap b1 b2 l1 l2).push (tupO [.ref s.heap.objs.size, .ref (s.heap.push (itO b1 l1)).objs.size])).objs.size = s.heap.objs.size + 3 := by rw [Heap.size_push, a2]
  have a4 : (((h2 s.heap b1 b2 l1 l2).push (tupO [.ref s.heap.objs.size, .ref (s.heap.push (itO b1 l1)).objs.size])).push (tupO [.none, .none])).objs.size = s.heap.objs.size + 4 := by rw [Heap.size_push, a3]
  have g5 : (z2 s.heap b1 b2 l1 l2).get? _ = some _ := Heap.get?_push_size _ rfl
  have g4 : (z2 s.heap b1 b2 l1 l2).get? _ = some _ := Heap.get?_push_of_some _ (Heap.get?_push_size _ rfl)
  have g3 : (z2 s.heap b1 b2 l1 l2).get? _ = some _ := Heap.get?_push_of_some _ (Heap.get?_push_of_some _ (Heap.get?_push_size _ rfl))
  have g2 : (z2 s.heap b1 b2 l1 l2).get? _ = some _ := Heap.get?_push_of_some _ (Heap.get?_push_of_some _ (Heap.get?_push_of_some _ (Heap.get?_push_size _ (i0 b2 l2))))
  have g1 : (z2 s.heap b1 b2 l1 l2).get? _ = some _ := Heap.get?_push_of_some _ (Heap.get?_push_of_some _ (Heap.get?_push_of_some _ (Heap.get?_push_of_some _ (Heap.get?_push_size _ (i0 b1 l1)))))
  show _ ∧ _
  rw [a2, a3, a4] at g5
  rw [a1, a2] at g3
  rw [a3] at g4
  rw [a1] at g2
  rw [a4]
  exact ⟨⟨_, g5, rfl⟩, h _ g5 g3 g4 (itO_st g1) (itO_st g2) fun c o x =>
    Heap.get?_push_of_some _ (Heap.get?_push_of_some _ (Heap.get?_push_of_some _ (Heap.get?_push_of_some _ (Heap.get?_push_of_some _ x))))⟩
theorem call_3 {b1 b2 b3 : Bool} {l1 l2 l3 : Addr} {xs ys zs : Array Value} {Q : Value → Shared → Prop} (hl1 : Isq b1 s.heap l1 xs) (hl2 : Isq b2 s.heap l2 ys) (hl3 : Isq b3 s.heap l3 zs)
    (h : ∀ h', IsZip h' (s.heap.objs.size + 5) (s.heap.objs.size + 3) (s.heap.objs.size + 4) .none → h'.get? (s.heap.objs.size + 3) = some (tupO [.ref s.heap.objs.size, .ref (s.heap.objs.size + 1), .ref (s.heap.objs.size + 2)]) →
      h'.get? (s.heap.objs.size + 4) = some (tupO [.none, .none, .none]) → Ist b1 h' s.heap.objs.size l1 0 → Ist b2 h' (s.heap.objs.size + 1) l2 0 → Ist b3 h' (s.heap.objs.size + 2) l3 0 →
      (∀ c o, s.heap.get? c = some o → h'.get? c = some o) → Q (.ref (s.heap.objs.size + 5)) { s with heap := h' }) :
    wpAny (model prog w) A (call (.type "zip") [.ref l1, .ref l2, .ref l3]) Q E s := by
  refine callType_new F.called_zip (by decide) (typeCall_zip_3 _ _ _) (newCall_zip_3 _ _ _) (fun obj => args_object_init_4 obj _ _ _) F.entry_zip_new
    (meets_3 b1 b2 b3 l1 l2 l3 xs ys zs) ⟨hl1, hl2, hl3, ?_⟩
  have a1 : (s.heap.push (itO b1 l1)).objs.size = s.heap.objs.size + 1 := Heap.size_push ..
  have a2 : (h2 s.heap b1 b2 l1 l2).objs.size = s.heap.objs.size + 2 := by rw [Heap.size_push, a1]
  have a3 : (h3 s.heap b1 b2 b3 l1 l2 l3).objs.size = s.heap.objs.size + 3 := by rw [Heap.size_push, a2]
  have i0 : ∀ b l, Obj.isFreed (itO b l) = false := fun b l => by cases b <;> rfl
  have a4 : (t3 s.heap b1 b2 b3 l1 l2 l3).objs.size = s.heap.objs.size + 4 := by rw [Heap.size_push, a3]
  have a5 : ((t3 s.heap b1 b2 b3 l1 l2 l3).push (tupO [.none, .none, .none])).objs.size = s.heap.objs.size + 5 := by rw [Heap.size_push, a4]
  have g6 : (z3 s.heap b1 b2 b3 l1 l2 l3).get? _ = some _ := Heap.get?_push_size _ rfl
  have g5 : (z3 s.heap b1 b2 b3 l1 l2 l3).get? _ = some _ := Heap.get?_push_of_some _ (Heap.get?_push_size _ rfl)
  have g4 : (z3 s.heap b1 b2 b3 l1 l2 l3).get? _ = some _ := Heap.get?_push_of_some _ (Heap.get?_push_of_some _ (Heap.get?_push_size _ rfl))
  have g3 : (z3 s.heap b1 b2 b3 l1 l2 l3).get? _ = some _ := Heap.get?_push_of_some _ (Heap.get?_push_of_some _ (Heap.get?_push_of_some _ (Heap.get?_push_size _ (i0 b3 l3))))
  have g2 : (z3 s.heap b1 b2 b3 l1 l2 l3).get? _ = some _ := Heap.get?_push_of_some _ (Heap.get?_push_of_some _ (Heap.get?_push_of_some _ (Heap.get?_push_of_some _ (Heap.get?_push_size _ (i0 b2 l2)))))
  have g1 : (z3 s.heap b1 b2 b3 l1 l2 l3).get? _ = some _ := Heap.get?_push_of_some _ (Heap.get?_push_of_some _ (Heap.get?_push_of_some _ (Heap.get?_push_of_some _ (Heap.get?_push_of_some _ (Heap.get?_push_size _ (i0 b1 l1))))))
  show _ ∧ _
  rw [a3, a4, a5] at g6
  rw [a1, a2, a3] at g4
  rw [a4] at g5
  rw [a2] at g3
  rw [a1] at g2
  rw [a5]
  exact ⟨⟨_, g6, rfl⟩, h _ g6 g4 g5 (itO_st g1) (itO_st g2) (itO_st g3) fun c o x =>
    Heap.get?_push_of_some _ (Heap.get?_push_of_some _ (Heap.get?_push_of_some _ (Heap.get?_push_of_some _ (Heap.get?_push_of_some _ (Heap.get?_push_of_some _ x)))))⟩
end
end FH.Zp
end
section
set_option maxHeartbeats 1000000
/-! FHZ3: walking a zip, as the hand layer has it. -/
namespace FH.Zp
open PySem PySem.Spec PyProof.Rows L2
/-- a list (true) or a tuple at a -/
def SqB (K : PySem.W.Frag) (H : Hp) (s : Bool × Addr) (xs : List V) : Prop := match s.1 with
  | true => SqL K H s.2 xs | false => SqT K H s.2 xs
abbrev SqBs (K : PySem.W.Frag) (H : Hp) : List (Bool × Addr) → List (List V) → Prop := Paired (SqB K H)
def ItzN (K : PySem.W.Frag) (S : List (Bool × Addr)) : It :=
  ⟨fun i H => ∃ (XS : List (List V)) (ys : List V), SqBs K H S XS ∧ XS.map (fun xs => xs[i]?) = ys.map some,
    fun i H v H' => ∃ (T : Addr) (ys : List V), v = .ref T ∧ H T = none ∧ H' = upd H T (.tup ys) ∧ ∀ XS, SqBs K H S XS → XS.map (fun xs => xs[i]?) = ys.map some,
    fun i H => ∃ XS : List (List V), SqBs K H S XS ∧ ∃ xs ∈ XS, xs[i]? = none⟩
section
variable {X : Cx} {pins : List (Addr × Obj)} {σ : L2.St} {H : Hp} {s : Shared}
theorem SqB.at_ (I : Inv X pins σ H s) {e : Bool × Addr} {xs : List V} (h : SqB X.K H e xs) : ∃ its : List Value, Vals xs its ∧ Isq e.1 s.heap e.2 its.toArray := by
  obtain ⟨b, a⟩ := e
  cases b with
  | true => obtain ⟨its, r, p, _⟩ := I.list h; exact ⟨its, r, p.isList⟩
  | false => obtain ⟨its, r, p, _⟩ := I.tuple h; exact ⟨its, r, p⟩
theorem SqB.inj (I : Inv X pins σ H s) {e : Bool × Addr} {xs ys : List V} (h : SqB X.K H e xs) (h' : SqB X.K H e ys) : xs = ys := by
  obtain ⟨b, a⟩ := e
  cases b with
  | true => exact I.list_inj h h'
  | false => exact I.tuple_inj h h'
theorem SqBs.inj (I : Inv X pins σ H s) : ∀ {S : List (Bool × Addr)} {XS YS : List (List V)}, SqBs X.K H S XS → SqBs X.K H S YS → XS = YS
  | _, _, _, .nil, .nil => rfl
  | _, _, _, .cons a b, .cons c d => by rw [SqB.inj I a c, SqBs.inj I b d]
/-- the iterators, with the items that they walk now -/
theorem SqBs.scs (I : Inv X pins σ H s) : ∀ {S : List (Bool × Addr)} {its : List Addr} {XS : List (List V)}, SqBs X.K H S XS → its.length = S.length →
    ∃ L : List Sc, L.map (fun e => (e.b, e.l)) = S ∧ L.map (·.it) = its ∧ (∀ e ∈ L, Isq e.b s.heap e.l e.xs) ∧ (∀ (i : Nat) (ys : List V), XS.map (fun xs => xs[i]?) = ys.map some → ∃ us : List Value, L.map (fun e => e.xs[i]?) = us.map some ∧ Vals ys us) ∧ ∀ i : Nat, (∃ xs ∈ XS, xs[i]? = none) → ∃ e ∈ L, e.xs[i]? = none
  | _, its, _, .nil, hl => by
    have : its = [] := List.length_eq_zero_iff.mp hl
    subst this
    refine ⟨[], rfl, rfl, fun e h => (nomatch h), fun i ys h => ?_, fun i h => ?_⟩
    · have : ys = [] := by simpa using h.symm
      subst this
      exact ⟨[], rfl, .nil⟩
    · obtain ⟨_, h, _⟩ := h; cases h
  | _, its, _, .cons (a := e) (b := xs) hx t, hl => by
    cases its with
    | nil => simp at hl
    | cons it its =>
      obtain ⟨u, r, q⟩ := SqB.at_ I hx
      obtain ⟨L, l1, l2, l3, l4, l5⟩ := SqBs.scs I t (its := its) (by simpa using hl)
      refine ⟨⟨e.1, it, e.2, u.toArray⟩ :: L, by simp [l1], by simp [l2], fun f hf => ?_, fun i ys h => ?_, fun i h => ?_⟩
      · rcases List.mem_cons.mp hf with rfl | hf
        · exact q
        · exact l3 f hf
      · cases ys with
        | nil => simp at h
        | cons y ys =>
          simp only [List.map_cons, List.cons.injEq] at h
          obtain ⟨w, hw, rw_⟩ := r.get h.1
          obtain ⟨us, m1, m2⟩ := l4 i ys h.2
          exact ⟨w :: us, by simp [hw, m1], .cons rw_ m2⟩
      · obtain ⟨zs, hz, hn⟩ := h
        rcases List.mem_cons.mp hz with rfl | hz
        · exact ⟨_, List.mem_cons_self, by have := Vals.none_of r hn; simpa using this⟩
        · obtain ⟨f, hf, hn⟩ := l5 i ⟨zs, hz, hn⟩
          exact ⟨f, List.mem_cons_of_mem _ hf, hn⟩
end
/-- what is kept of a zip from turn to turn -/
structure Zt (z TI TO : Addr) (its : List Addr) (S : List (Bool × Addr)) (i : Nat) (h : Heap) : Prop where
  z : IsZip h z TI TO .none
  ti : h.get? TI = some (tupO (its.map .ref))
  to : ∃ vs : List Value, vs.length = S.length ∧ h.get? TO = some (tupO vs)
  its : Paired (fun it e => Ist e.1 h it e.2 i) its S
structure Far (z TI TO : Addr) (its : List Addr) (S : List (Bool × Addr)) : Prop where
  TIz : TI ≠ z
  TOz : TO ≠ z
  TITO : TI ≠ TO
  it : ∀ e ∈ its, e ≠ z ∧ e ≠ TO ∧ TI ≠ e
  nd : its.Nodup
  src : ∀ e ∈ S, e.2 ≠ z ∧ e.2 ≠ TO ∧ ∀ f ∈ its, e.2 ≠ f
theorem Far.apart {z TI TO : Addr} {its : List Addr} {S : List (Bool × Addr)} (D : Far z TI TO its S) {L : List Sc} (h1 : L.map (fun e => (e.b, e.l)) = S) (h2 : L.map (·.it) = its) : Apart z TI TO L :=
  ⟨D.TIz, D.TOz, D.TITO, fun e he => D.it _ (by rw [← h2]; exact List.mem_map.mpr ⟨e, he, rfl⟩), by rw [h2]; exact D.nd, fun e he => by
    obtain ⟨a, b, c⟩ := D.src (e.b, e.l) (by rw [← h1]; exact List.mem_map.mpr ⟨e, he, rfl⟩)
    exact ⟨a, b, fun f hf => c f.it (by rw [← h2]; exact List.mem_map.mpr ⟨f, hf, rfl⟩)⟩⟩
theorem its_of {h : Heap} {i : Nat} : ∀ {L : List Sc} {its : List Addr} {S : List (Bool × Addr)}, L.map (fun e => (e.b, e.l)) = S → L.map (·.it) = its → Paired (fun it e => Ist e.1 h it e.2 i) its S → ∀ e ∈ L, Ist e.b h e.it e.l i
  | [], _, _, _, _, _ => fun e h => nomatch h
  | f :: L, _, _, rfl, rfl, .cons p t => fun e he => by
    rcases List.mem_cons.mp he with rfl | he
    · exact p
    · exact its_of rfl rfl t e he
theorem of_its {h : Heap} {i : Nat} : ∀ {L : List Sc}, (∀ e ∈ L, Ist e.b h e.it e.l i) → Paired (fun it (e : Bool × Addr) => Ist e.1 h it e.2 i) (L.map (·.it)) (L.map fun e => (e.b, e.l))
  | [], _ => .nil
  | f :: L, q => .cons (q f List.mem_cons_self) (of_its fun e he => q e (List.mem_cons_of_mem _ he))
theorem Paired.memL {α β : Type} {F : α → β → Prop} : ∀ {l : List α} {m : List β}, Paired F l m → ∀ a ∈ l, ∃ b ∈ m, F a b
  | _, _, .nil, _, h => nomatch h
  | _, _, .cons p t, a, h => by
    rcases List.mem_cons.mp h with rfl | h
    · exact ⟨_, List.mem_cons_self, p⟩
    · obtain ⟨b, hb, q⟩ := Paired.memL t a h; exact ⟨b, List.mem_cons_of_mem _ hb, q⟩
theorem Paired.keepI {h h' : Heap} {i : Nat} : ∀ {its : List Addr} {S : List (Bool × Addr)}, Paired (fun it (e : Bool × Addr) => Ist e.1 h it e.2 i) its S → (∀ it ∈ its, ∀ o, h.get? it = some o → h'.get? it = some o) → Paired (fun it (e : Bool × Addr) => Ist e.1 h' it e.2 i) its S
  | _, _, .nil, _ => .nil
  | _, _, .cons p t, k => .cons (p.keep (k _ List.mem_cons_self)) (Paired.keepI t fun it hit => k it (List.mem_cons_of_mem _ hit))
theorem turn_zipN {P : Program} {w : World} {K : PySem.W.Frag} {elts : List Expr} {kk : Nat} {tpos : Pos} {z TI TO : Addr} {its : List Addr} {S : List (Bool × Addr)} (D : Far z TI TO its S) (hl : its.length = S.length) (h8 : S.length ≤ 8) (h0 : S ≠ []) :
    Turn P w K (.Tuple elts kk tpos) (ItzN K S) (z :: TI :: TO :: its) z (Zt z TI TO its S) where
  mem := by simp
  obj := fun i h st c hc => by
    simp only [List.mem_cons] at hc
    rcases hc with rfl | rfl | rfl | hc
    · exact ⟨_, st.z, fun v q => nomatch q⟩
    · exact ⟨_, st.ti, fun v q => nomatch q⟩
    · obtain ⟨vs, _, e⟩ := st.to; exact ⟨_, e, fun v q => nomatch q⟩
    · obtain ⟨e, _, q⟩ := Paired.memL st.its c hc; exact q.obj
  keep := fun i h h' st k => by
    obtain ⟨vs, hv, e⟩ := st.to
    exact ⟨k z (by simp) _ st.z, k TI (by simp) _ st.ti, ⟨vs, hv, k TO (by simp) _ e⟩, Paired.keepI st.its fun it hit o q => k it (by simp [hit]) o q⟩
  item := by
    intro X hP hw hK hc i pins s σ H E I hf st hg
    subst hP hw hK
    obtain ⟨XS, ys, hX, hy⟩ := hg
    obtain ⟨L, l1, l2, l3, l4, _⟩ := SqBs.scs I hX hl
    obtain ⟨us, hu, rv⟩ := l4 i ys hy
    obtain ⟨vs, hv, hTO⟩ := st.to
    have lL : L.length = S.length := by rw [← l1]; simp
    have hzl : z < s.heap.objs.size := Heap.lt_size st.z
    have hL : ∀ e ∈ L, Ist e.b s.heap e.it e.l i ∧ Isq e.b s.heap e.l e.xs := fun e he => ⟨its_of l1 l2 st.its e he, l3 e he⟩
    have hTI : s.heap.get? TI = some (tupO (L.map fun e => .ref e.it)) := by
      have : L.map (fun e => Value.ref e.it) = its.map .ref := by rw [← l2, List.map_map]; rfl
      rw [this]; exact st.ti
    refine pyNext_item (D.apart l1 l2) (by omega) (fun q => h0 (by rw [← l1, q]; rfl)) st.z hTI hTO (by omega) hL hu fun h' z' TO' hi' hT hsz hk => ?_
    refine ⟨_, rfl, wpAny_letOwnedTupleGo_zip (s := { s with heap := h' }) z' fun h'' z'' sb => ?_⟩
    have hT2 : h''.get? s.heap.objs.size = some (tupO us) := (sb.2 _ (Nat.ne_of_gt hzl)).trans hT
    have lus : us.length = S.length := by have := congrArg List.length hu; simpa [lL] using this.symm
    have new : ObjOk X.prog X.w (upd H s.heap.objs.size (.tup ys)) h'' s.heap.objs.size (.tup ys) :=
      ⟨by have h8' : (8 : Nat) ≤ sizeLine := by decide
          have := rv.length; show ys.length ≤ sizeLine; omega, us, rv, ⟨_, hT2, rfl, _, rfl⟩⟩
    have nm : ∀ c, c ∈ L.map (·.it) → c ∈ its := fun c h => by rw [l2] at h; exact h
    have I1 : Inv X pins σ (upd H s.heap.objs.size (.tup ys)) { s with heap := h'' } :=
      I.turnedNew (t' := s.toks) (ch := z :: TI :: TO :: its) (fun c o hb q => by
        simp only [List.mem_cons, not_or] at hb
        exact (sb.2 c hb.1).trans (hk c o hb.1 hb.2.2.1 (fun q' => hb.2.2.2 (nm c q')) q)) hf (Nat.le_refl _) new
    have zits : ∀ it ∈ its, it ≠ z := fun it h => (D.it it h).1
    refine ⟨.ref s.heap.objs.size, _, I1, rfl, ⟨_, ys, rfl, I.hok.fresh (Nat.le_refl _), rfl, fun XS' h' => by rw [SqBs.inj I h' hX]; exact hy⟩, ⟨z'', ?_, ⟨us, lus, ?_⟩, ?_⟩, fun c hcm => ?_⟩
    · exact (sb.2 _ D.TIz).trans (hk _ _ D.TIz D.TITO (fun q => (D.it _ (nm _ q)).2.2 rfl) st.ti)
    · exact (sb.2 _ D.TOz).trans TO'
    · have := of_its (i := i + 1) (h := h') hi'
      rw [l1, l2] at this
      exact Paired.keepI this fun it hit o q => (sb.2 _ (zits it hit)).trans q
    · have hlt : c < s.heap.objs.size := by
        simp only [List.mem_cons] at hcm
        rcases hcm with rfl | rfl | rfl | q
        · exact hzl
        · exact Heap.lt_size st.ti
        · exact Heap.lt_size hTO
        · obtain ⟨e, _, q⟩ := Paired.memL st.its c q
          obtain ⟨o, ho, _⟩ := q.obj
          exact Heap.lt_size ho
      rw [upd_ne (Nat.ne_of_lt hlt)]
      exact (hf c hcm).1
  done := by
    intro X hP hw hK hc i pins s σ H E I hf st hg
    subst hP hw hK
    obtain ⟨XS, hX, hn⟩ := hg
    obtain ⟨L, l1, l2, l3, _, l5⟩ := SqBs.scs I hX hl
    obtain ⟨vs, hv, hTO⟩ := st.to
    have lL : L.length = S.length := by rw [← l1]; simp
    have hL : ∀ e ∈ L, Ist e.b s.heap e.it e.l i ∧ Isq e.b s.heap e.l e.xs := fun e he => ⟨its_of l1 l2 st.its e he, l3 e he⟩
    have hTI : s.heap.get? TI = some (tupO (L.map fun e => .ref e.it)) := by
      have : L.map (fun e => Value.ref e.it) = its.map .ref := by rw [← l2, List.map_map]; rfl
      rw [this]; exact st.ti
    exact pyNext_end (I.ok.hd hc) (D.apart l1 l2) (by omega) st.z hTI hTO (by omega) hL (l5 i hn) fun h' hk => ⟨rfl, I.turnedL (t' := s.toks) (ch := z :: TI :: TO :: its) (fun c o hb q => by
      simp only [List.mem_cons, not_or] at hb
      exact hk c o hb.1 hb.2.2.1 (fun q' => hb.2.2.2 (by rw [l2] at q'; exact q')) q) hf⟩
  self := fun A i s Q E st h => wpAny_pyIter_zip st.z h
/-- what is handed to zip: lists (true) and tuples -/
def iZipN (K : PySem.W.Frag) (ta : TA) : TI := fun σ H R => ta σ H fun vs H1 => ∃ (S : List (Bool × Addr)) (XS : List (List V)), vs = S.map (fun e => V.ref e.2) ∧ (S.length = 2 ∨ S.length = 3) ∧ SqBs K H1 S XS ∧ R (ItzN K S) H1
theorem pi_zipN {X : Cx} {e e2 : Expr} {es : List Expr} {ta : TA} {p pos tpos : Pos} {elts : List Expr} {kk : Nat} (hg : Gl X "zip") (hm : X.mg "zip" = none) (ha : PA X (e :: e2 :: es) ta)
    (hs : starEach (e :: e2 :: es) X.env = (false, eval e X.env) :: starEach (e2 :: es) X.env := by rfl) (hpl : (backTo pos (starEach (e2 :: es) X.env)).any (·.1) = false := by rfl) :
    PI X (.Tuple elts kk tpos) (.Call (.Name "zip" p) (e :: e2 :: es) [] pos) (iZipN X.K ta) := by
  refine ⟨fun pins s σ H R I h => ?_⟩
  refine Call_ (ld_blt I hg hm PyProof.Rows.boot_zip (PyProof.Rows.callWith_type1 (thn (ha.run pos pins s σ H _ I h) fun us s1 ⟨vs, H1, I1, r1, q1⟩ => ?_) hs hpl))
  obtain ⟨S, XS, rfl, hn, hX, q⟩ := q1
  have hlt : ∀ {e : Bool × Addr} {xs : List V}, SqB X.K H1 e xs → e.2 < s1.heap.objs.size := fun {e xs} h => by
    obtain ⟨its, _, q⟩ := SqB.at_ I1 h
    obtain ⟨b, a⟩ := e
    cases b with
    | true => obtain ⟨o, ho, _⟩ := q; exact Heap.lt_size ho
    | false => obtain ⟨o, ho, _⟩ := q; exact Heap.lt_size ho
  have fresh : ∀ c, s1.heap.objs.size ≤ c → FpOk X pins H1 c := fun c hle => I1.fpOk hle (I1.hok.fresh hle)
  rcases hn with hn | hn
  · match S, hn with
    | [a, b], _ =>
      cases hX with
      | cons ha' t =>
        cases t with
        | cons hb' t =>
          cases t
          cases r1 with
          | cons r rr =>
            cases rr with
            | cons r' rr =>
              cases rr
              cases r
              cases r'
              obtain ⟨i1, _, p1⟩ := SqB.at_ I1 ha'
              obtain ⟨i2, _, p2⟩ := SqB.at_ I1 hb'
              have la : @LT.lt Nat _ a.2 s1.heap.objs.size := hlt ha'
              have lb : @LT.lt Nat _ b.2 s1.heap.objs.size := hlt hb'
              refine call_2 p1 p2 fun h' hz hTI hTO h1 h2 hk => wpAny_pyIter_zip hz ?_
              have I2 : Inv X pins σ H1 { s1 with heap := h' } := I1.kept (t' := s1.toks) hk
              refine ⟨s1.heap.objs.size + 4, _, _, _, H1, rfl, I2, turn_zipN (TI := s1.heap.objs.size + 2) (TO := s1.heap.objs.size + 3) (its := [s1.heap.objs.size, s1.heap.objs.size + 1]) (S := [a, b]) ?_ rfl (by simp) (by simp), ⟨hz, hTI, ⟨_, rfl, hTO⟩, .cons h1 (.cons h2 .nil)⟩, fun c hc => fresh c ?_, q⟩
              · refine ⟨by show @Ne Nat _ _; omega, by show @Ne Nat _ _; omega, by show @Ne Nat _ _; omega, fun e he => ?_, by simp, fun e he => ?_⟩
                · simp only [List.mem_cons, List.not_mem_nil, or_false] at he
                  rcases he with rfl | rfl <;> (refine ⟨?_, ?_, ?_⟩ <;> (show @Ne Nat _ _; omega))
                · simp only [List.mem_cons, List.not_mem_nil, or_false] at he
                  rcases he with rfl | rfl <;> (refine ⟨by show @Ne Nat _ _; omega, by show @Ne Nat _ _; omega, fun f hf => ?_⟩; simp only [List.mem_cons, List.not_mem_nil, or_false] at hf; rcases hf with rfl | rfl <;> (show @Ne Nat _ _; omega))
              · simp only [List.mem_cons, List.not_mem_nil, or_false] at hc
                rcases hc with rfl | rfl | rfl | rfl | rfl <;> (show @LE.le Nat _ _ _; omega)
  · match S, hn with
    | [a, b, d], _ =>
      cases hX with
      | cons ha' t =>
        cases t with
        | cons hb' t =>
          cases t with
          | cons hd' t =>
            cases t
            cases r1 with
            | cons r rr =>
              cases rr with
              | cons r' rr =>
                cases rr with
                | cons r'' rr =>
                  cases rr
                  cases r
                  cases r'
                  cases r''
                  obtain ⟨i1, _, p1⟩ := SqB.at_ I1 ha'
                  obtain ⟨i2, _, p2⟩ := SqB.at_ I1 hb'
                  obtain ⟨i3, _, p3⟩ := SqB.at_ I1 hd'
                  have la : @LT.lt Nat _ a.2 s1.heap.objs.size := hlt ha'
                  have lb : @LT.lt Nat _ b.2 s1.heap.objs.size := hlt hb'
                  have ld : @LT.lt Nat _ d.2 s1.heap.objs.size := hlt hd'
                  refine call_3 p1 p2 p3 fun h' hz hTI hTO h1 h2 h3 hk => wpAny_pyIter_zip hz ?_
                  have I2 : Inv X pins σ H1 { s1 with heap := h' } := I1.kept (t' := s1.toks) hk
                  refine ⟨s1.heap.objs.size + 5, _, _, _, H1, rfl, I2, turn_zipN (TI := s1.heap.objs.size + 3) (TO := s1.heap.objs.size + 4) (its := [s1.heap.objs.size, s1.heap.objs.size + 1, s1.heap.objs.size + 2]) (S := [a, b, d]) ?_ rfl (by simp) (by simp), ⟨hz, hTI, ⟨_, rfl, hTO⟩, .cons h1 (.cons h2 (.cons h3 .nil))⟩, fun c hc => fresh c ?_, q⟩
                  · refine ⟨by show @Ne Nat _ _; omega, by show @Ne Nat _ _; omega, by show @Ne Nat _ _; omega, fun e he => ?_, by simp, fun e he => ?_⟩
                    · simp only [List.mem_cons, List.not_mem_nil, or_false] at he
                      rcases he with rfl | rfl | rfl <;> (refine ⟨?_, ?_, ?_⟩ <;> (show @Ne Nat _ _; omega))
                    · simp only [List.mem_cons, List.not_mem_nil, or_false] at he
                      rcases he with rfl | rfl | rfl <;> (refine ⟨by show @Ne Nat _ _; omega, by show @Ne Nat _ _; omega, fun f hf => ?_⟩; simp only [List.mem_cons, List.not_mem_nil, or_false] at hf; rcases hf with rfl | rfl | rfl <;> (show @Ne Nat _ _; omega))
                  · simp only [List.mem_cons, List.not_mem_nil, or_false] at hc
                    rcases hc with rfl | rfl | rfl | rfl | rfl | rfl <;> (show @LE.le Nat _ _ _; omega)
end FH.Zp
end
section
/-! FH1: a small language of its own for what the law's text does, over plain data: its terms and what they come to. -/
namespace FH
open PySem L2

/-- plain data: what values are, read to their depth; what may change stands behind a number -/
inductive D where
  | non | bl (b : Bool) | int (i : Int) | str (x : Str)
  | tup (ds : List D) | lst (ds : List D)
  | ref (n : Nat) | fn (n : Nat) | ty (n : String)
  deriving Inhabited

/-- what may change -/
inductive Cell where
  | lst (ds : List D)
  | dic (kvs : List (Key × D))
  | ins (c : Nat) (fs : List (Str × D))
  | tup (ds : List D)
  deriving Inhabited
abbrev Store := List Cell
/-- a def's name: nothing yet; a value; a list or dict that the def alone holds -/
inductive Slot where
  | emp | val (d : D) | own (c : Cell)
  deriving Inhabited
abbrev Slots := List Slot

/-! ### plain operations -/
mutual
def D.py : D → Option PyData
  | .non => some .none
  | .bl b => some (.bool b)
  | .int i => some (.int i)
  | .str x => some (.str x)
  | .tup ds => (pyL ds).map .tuple
  | .lst ds => (pyL ds).map .list
  | .ref _ => none | .fn _ => none | .ty _ => none
def pyL : List D → Option (List PyData)
  | [] => some []
  | d :: ds => match d.py, pyL ds with
    | some x, some xs => some (x :: xs)
    | _, _ => none
end
def D.flat : D → Bool
  | .non | .bl _ | .int _ | .str _ => true
  | _ => false
def b2i (b : Bool) : Int := if b then 1 else 0
/-- == of what has no parts -/
def eqF : D → D → Bool
  | .non, .non => true
  | .bl a, .bl b => a == b
  | .bl a, .int j => b2i a == j
  | .int i, .bl b => i == b2i b
  | .int i, .int j => i == j
  | .str x, .str y => x == y
  | _, _ => false
/-- == -/
def eqD (a b : D) : Option Bool :=
  if a.flat && b.flat then some (eqF a b)
  else match a.py, b.py with
    | some x, some y => if SeqAt.shaped x && SeqAt.shaped y then some (PyData.eqv x y) else none
    | _, _ => none
/-- x in a list or tuple -/
def inD (a : D) (ds : List D) : Option Bool :=
  if a.flat && ds.all D.flat then some (ds.any fun z => eqF z a)
  else match a.py, pyL ds with
    | some x, some xs => if SeqAt.shaped x && SeqAt.shaped (.list xs) then some (xs.any fun z => PyData.eqv z x) else none
    | _, _ => none
/-- truth -/
def truD : D → Option Bool
  | .non => some false
  | .bl b => some b
  | .int i => some (i != 0)
  | .str x => if x.length ≤ sizeLine then some (x.length != 0) else none
  | .tup ds => some (!ds.isEmpty)
  | .lst ds => some (!ds.isEmpty)
  | _ => none
def keyD : D → Option Key
  | .int i => some (.inl i)
  | .str x => some (.inr x)
  | _ => none
def getK (kvs : List (Key × D)) (k : Key) : Option D := (kvs.find? fun kv => decide (kv.1 = k)).map (·.2)
def setK (kvs : List (Key × D)) (k : Key) (v : D) : List (Key × D) :=
  if kvs.any fun kv => decide (kv.1 = k) then kvs.map fun kv => if kv.1 = k then (kv.1, v) else kv else kvs ++ [(k, v)]

inductive P where
  | bin (op : Operator) | neg | cmp (op : CmpOp) | ix
  | len | abs | int | str | repr | ord | isi | tuple | all | any | sum | min | max
  deriving DecidableEq, Repr

def boolsD : List D → Option (List Bool)
  | [] => some []
  | .bl b :: ds => (boolsD ds).map (b :: ·)
  | _ :: _ => none
def intsD : List D → Option (List Int)
  | [] => some []
  | .int b :: ds => (intsD ds).map (b :: ·)
  | _ :: _ => none
def binD : Operator → D → D → Option D
  | .Add, .int i, .int j => some (.int (i + j))
  | .Add, .str x, .str y => if x.length + y.length ≤ sizeLine then some (.str (x ++ y)) else none
  | .Add, .tup x, .tup y => if x.length + y.length ≤ sizeLine then some (.tup (x ++ y)) else none
  | .Add, .lst x, .lst y => if x.length ≤ sizeLine ∧ y.length ≤ sizeLine ∧ x.length + y.length ≤ sizeLine then some (.lst (x ++ y)) else none
  | .Sub, .int i, .int j => some (.int (i - j))
  | .Mult, .int i, .int j => if (-(2 ^ 64) < i ∧ i < 2 ^ 64) ∨ (-(2 ^ 64) < j ∧ j < 2 ^ 64) then some (.int (i * j)) else none
  | .FloorDiv, .int i, .int j => if j ≠ 0 ∧ j.natAbs < 1073741824 then some (.int (i.fdiv j)) else none
  | .Mod, .int i, .int j => if j ≠ 0 then some (.int (i.fmod j)) else none
  | .Pow, .int i, .int j => if 0 ≤ j ∧ j ≤ 1000000 ∧ i.natAbs < 2 ^ 64 then some (.int (i ^ j.toNat)) else none
  | _, _, _ => none
def cmpD : CmpOp → D → D → Option D
  | .Eq, a, b => (eqD a b).map .bl
  | .NotEq, a, b => (eqD a b).map fun k => .bl !k
  | .Lt, .int i, .int j => some (.bl (decide (i < j)))
  | .LtE, .int i, .int j => some (.bl (decide (i ≤ j)))
  | .Gt, .int i, .int j => some (.bl (decide (j < i)))
  | .GtE, .int i, .int j => some (.bl (decide (j ≤ i)))
  | .Lt, .str i, .str j => some (.bl (decide (i.cps.toList < j.cps.toList)))
  | .LtE, .str i, .str j => some (.bl (!decide (j.cps.toList < i.cps.toList)))
  | .Lt, .tup xs, .tup ys => match intsD xs, intsD ys with
    | some ns, some ms => some (.bl (HT.lexLt ns ms))
    | _, _ => none
  | .In, a, .tup ds => (inD a ds).map .bl
  | .In, a, .lst ds => (inD a ds).map .bl
  | .NotIn, a, .tup ds => (inD a ds).map fun k => .bl !k
  | .NotIn, a, .lst ds => (inD a ds).map fun k => .bl !k
  | .In, .str i, .str j => some (.bl (!(Builtin.Str.occurrences j i 0 j.length 1).isEmpty))
  | .NotIn, .str i, .str j => some (.bl (!(!(Builtin.Str.occurrences j i 0 j.length 1).isEmpty)))
  | .Is, a, .non => some (.bl (match a with | .non => true | _ => false))
  | .IsNot, a, .non => some (.bl (match a with | .non => false | _ => true))
  | _, _, _ => none
/-- an item by its number -/
def ixD : D → D → Option D
  | .tup ds, .int i => atI ds i
  | .lst ds, .int i => atI ds i
  | .str z, .int i => if z.length ≤ sizeLine then (atI z.cps.toList i).map fun c => .str ⟨#[c]⟩ else none
  | _, _ => none
/-- isinstance, by the type's name -/
def tyN : D → Option String
  | .non => some "NoneType" | .bl _ => some "bool" | .int _ => some "int" | .str _ => some "str" | .tup _ => some "tuple" | .lst _ => some "list"
  | _ => none
def isiD (d : D) (T : String) : Option Bool :=
  if T = "int" then (tyN d).map fun n => n == "int" || n == "bool"
  else if T = "bool" then (tyN d).map (· == "bool")
  else if T = "str" then (tyN d).map (· == "str")
  else if T = "tuple" then (tyN d).map (· == "tuple")
  else none
def reprD (d : D) : Option Str :=
  match d.py with
  | some x => if x.showable && !x.hasDict && decide (x.depth ≤ 64) && decide (x.shown.length ≤ sizeLine) then some x.shown else none
  | none => none
/-- methods of texts and tuples -/
inductive M where
  | sindex | join
  deriving DecidableEq, Repr
def strsD : List D → Option (List Str)
  | [] => some []
  | .str b :: ds => (strsD ds).map (b :: ·)
  | _ :: _ => none
def findI (z : Str) : List Str → Option Nat
  | [] => none
  | y :: ys => if y = z then some 0 else (findI z ys).map (· + 1)
def methD : M → D → List D → Option D
  | .sindex, .str a, [.str b] => match Builtin.Str.occurrences a b 0 a.length 1 with
    | i :: _ => some (.int (i : Nat))
    | [] => none
  | .join, .str a, [.lst ds] => (strsD ds).bind fun ys => if (ys.map (·.length)).sum + ys.length * a.length ≤ 16777216 then some (.str (Txt.join a ys)) else none
  | _, _, _ => none
def primD : P → List D → Option D
  | .bin op, [a, b] => binD op a b
  | .neg, [.int i] => some (.int (-i))
  | .cmp op, [a, b] => cmpD op a b
  | .ix, [a, b] => ixD a b
  | .len, [.tup ds] => some (.int ds.length)
  | .len, [.lst ds] => some (.int ds.length)
  | .len, [.str z] => if z.length ≤ sizeLine then some (.int z.length) else none
  | .abs, [.int i] => some (.int (if i < 0 then -i else i))
  | .int, [.int i] => some (.int i)
  | .int, [.bl b] => some (.int (if b then 1 else 0))
  | .int, [.str a] => if a.length ≤ 640 then (PySem.intText? a).map .int else none
  | .str, [.int i] => if i.natAbs.log2 < 1920 then some (.str (toString i)) else none
  | .ord, [.str z] => if z.length = 1 then some (.int (z.cps.getD 0 0 : Nat)) else none
  | .isi, [d, .ty T] => (isiD d T).map .bl
  | .tuple, [.tup ds] => some (.tup ds)
  | .tuple, [.lst ds] => some (.tup ds)
  | .all, [.lst ds] => (boolsD ds).map fun bs => .bl (bs.all id)
  | .any, [.lst ds] => (boolsD ds).map fun bs => .bl (bs.any id)
  | .sum, [.lst ds] => (intsD ds).map fun ns => .int ns.sum
  | .repr, [d] => (reprD d).map .str
  | .min, [.int i, .int j] => some (.int (if j < i then j else i))
  | .max, [.int i, .int j] => some (.int (if j > i then j else i))
  | _, _ => none

/-- what f'..' makes of a value -/
def txtD : D → Option Str
  | .str y => if y.length ≤ sizeLine then some y else none
  | .int i => if i.natAbs.log2 < 1920 then some (toString i) else none
  | _ => none
def fstD (acc : Str) : List D → Option Str
  | [] => some acc
  | d :: ds => (txtD d).bind fun y => if (acc ++ y).length ≤ sizeLine then fstD (acc ++ y) ds else none
def seqD : D → Option (List D)
  | .tup ds => some ds
  | .lst ds => some ds
  | _ => none
def zip2 : List D → List D → List D
  | a :: as, b :: bs => .tup [a, b] :: zip2 as bs
  | _, _ => []
def zip3 : List D → List D → List D → List D
  | a :: as, b :: bs, c :: cs => .tup [a, b, c] :: zip3 as bs cs
  | _, _, _ => []
def zipD : List D → Option (List D)
  | [a, b] => match seqD a, seqD b with
    | some xs, some ys => some (zip2 xs ys)
    | _, _ => none
  | [a, b, c] => match seqD a, seqD b, seqD c with
    | some xs, some ys, some zs => some (zip3 xs ys zs)
    | _, _, _ => none
  | _ => none

/-! ### the terms -/
mutual
inductive Tg where
  | nm (i : Nat)
  | tp (ts : Tgs)
inductive Tgs where
  | nil | cons (t : Tg) (ts : Tgs)
end
mutual
inductive IE where
  | lit (d : D)
  | var (i : Nat)
  | own (i : Nat)
  | glob (x : Str) (d : D)
  | prim (p : P) (es : IEs)
  | tindex (i : Nat) (e : IE)
  | meth (m : M) (o : IE) (es : IEs)
  | gdget (x : Str) (kvs : List (Str × D)) (k : IE)
  | fstr (es : IEs)
  | slice (e : IE) (lo hi : IO)
  | nott (e : IE)
  | andd (a b : IE)
  | orr (a b : IE)
  | cond (c a b : IE)
  | cmp2 (o1 o2 : CmpOp) (a b c : IE)
  | tup (es : IEs)
  | frz (f : FE)
  | cell (f : FE)
  | celld
  | dcopy (e : IE)
  | dlen (e : IE)
  | call (x : Str) (f : Nat) (es : IEs)
  | callv (i : Nat) (es : IEs)
  | attr (c : Nat) (e : IE) (f : Str)
  | mcall (c : Nat) (m : Str) (f : Nat) (e : IE) (es : IEs)
  | make (x : Str) (c : Nat) (f : Nat) (es : IEs)
  | dhas (neg : Bool) (k d : IE)
  | dget (d k : IE)
  | dgetD (d k x : IE)
  | dsetd (d k x : IE)
inductive IEs where
  | nil | cons (e : IE) (es : IEs)
inductive IO where
  | no | som (e : IE)
inductive FE where
  | disp (es : IEs)
  | list (e : IE)
  | split (a b : IE)
  | cat (a b : IE)
  | comp (g : Tg) (own : List (Str × Nat)) (s : Src) (c : IO) (e : IE)
inductive Src where
  | it (e : IE)
  | range1 (e : IE)
  | range2 (a b : IE)
  | enum (e : IE)
  | zip (es : IEs)
  | cel (e : IE)
end
/-- what a name is given: a value, or a list that it alone holds -/
inductive In where
  | v (e : IE) | o (f : FE)
mutual
inductive IS where
  | expr (e : IE)
  | ret (e : IE)
  | retN
  | set (i : Nat) (e : IE)
  | unp (g : Tg) (e : IE)
  | par (i j : Nat) (a b : In)
  | par3 (i j l : Nat) (es : IEs)
  | setOwn (i : Nat) (f : FE)
  | setTup (i : Nat) (es : IEs)
  | freeze (i : Nat) (s : IS)
  | ifs (c : IE) (a b : ISs)
  | fors (g : Tg) (s : Src) (b : ISs)
  | whil (c : IE) (b : ISs)
  | brk | cnt | pass
  | setIx (o i e : IE)
  | setKy (o i e : IE)
  | augIx (op : Operator) (o i e : IE)
  | aug (op : Operator) (i : Nat) (e : IE)
  | setAt (c : Nat) (o : IE) (f : Str) (e : IE)
  | setAt2 (c : Nat) (i : Nat) (f g : Str) (a b : IE)
  | app (o : IE) (e : IE)
  | appOwn (i : Nat) (e : IE)
  | extOwn (i : Nat) (f : FE)
inductive ISs where
  | nil | cons (s : IS) (ss : ISs)
end

/-! ### what they come to -/
mutual
def asgT : Tg → D → Slots → Option Slots
  | .nm i, d, ρ => if i < ρ.length then some (ρ.set i (.val d)) else none
  | .tp ts, .tup ds, ρ => asgTs ts ds ρ
  | .tp _, _, _ => none
def asgTs : Tgs → List D → Slots → Option Slots
  | .nil, [], ρ => some ρ
  | .cons t ts, d :: ds, ρ => (asgT t d ρ).bind fun ρ' => asgTs ts ds ρ'
  | _, _, _ => none
end
def viewD (μ : Store) : D → D
  | .ref n => match μ[n]? with
    | some (.lst ds) => .lst ds
    | _ => .ref n
  | d => d
def slotD (ρ : Slots) (i : Nat) : Option D := match ρ[i]? with
  | some (.val d) => some d
  | _ => none
def ownD (ρ : Slots) (i : Nat) : Option D := match ρ[i]? with
  | some (.own (.lst ds)) => some (.lst ds)
  | some (.own (.tup ds)) => some (.tup ds)
  | _ => none
def tupS (ρ : Slots) (i : Nat) : Option (List D) := match ρ[i]? with
  | some (.own (.tup ds)) => some ds
  | _ => none
def wipeS (ρ : Slots) : List Nat → Slots
  | [] => ρ
  | v :: vs => (wipeS ρ vs).set v .emp
def itemsD : D → Option (List D)
  | .tup ds => some ds
  | .lst ds => some ds
  | .str z => some (z.cps.toList.map fun c => .str ⟨#[c]⟩)
  | _ => none
def rangeD (lo : Int) (n : Nat) : List D := (List.range n).map fun k => .int (lo + (k : Nat))
/-- a comprehension's turns -/
def loopC (f : D → Store → Option (Option D × Store)) : List D → Store → Option (List D × Store)
  | [], μ => some ([], μ)
  | x :: xs, μ => (f x μ).bind fun r => (loopC f xs r.2).bind fun q => some ((match r.1 with | some y => y :: q.1 | none => q.1), q.2)

/-- .. over a list that may change meanwhile, as it stands at each turn -/
def loopCC (f : D → Store → Option (Option D × Store)) (n : Nat) : Nat → Nat → Store → Option (List D × Store)
  | 0, _, _ => none
  | k + 1, i, μ => match μ[n]? with
    | some (.lst ds) => match ds[i]? with
      | none => some ([], μ)
      | some x => (f x μ).bind fun r => (loopCC f n k (i + 1) r.2).bind fun q => some ((match r.1 with | some y => y :: q.1 | none => q.1), q.2)
    | _ => none
/-- what is walked: these, or the list at n -/
inductive Sr where
  | items (ds : List D) | cel (n : Nat)

abbrev Fns := Nat → List D → Store → Option (D × Store)
structure Env2 where
  fns : Fns
  inits : Fns

section
variable (Γ : Env2)
mutual
def evE : IE → Slots → Store → Option (D × Store)
  | .lit d, _, μ => some (d, μ)
  | .var i, ρ, μ => (slotD ρ i).map fun d => (d, μ)
  | .own i, ρ, μ => (ownD ρ i).map fun d => (d, μ)
  | .glob _ d, _, μ => some (d, μ)
  | .prim p es, ρ, μ => (evEs es ρ μ).bind fun r => (primD p (r.1.map (viewD r.2))).map fun d => (d, r.2)
  | .tindex i e, ρ, μ => (tupS ρ i).bind fun ds => (evE e ρ μ).bind fun x => match x.1 with
      | .str z => (strsD ds).bind fun ys => (findI z ys).map fun j => (.int (j : Nat), x.2)
      | _ => none
  | .meth m o es, ρ, μ => (evE o ρ μ).bind fun x => (evEs es ρ x.2).bind fun r => (methD m x.1 (r.1.map (viewD r.2))).map fun d => (d, r.2)
  | .gdget _ kvs k, ρ, μ => (evE k ρ μ).bind fun x => match x.1 with
      | .str z => (kvs.lookup z).map fun d => (d, x.2)
      | _ => none
  | .fstr es, ρ, μ => (evEs es ρ μ).bind fun r => (fstD Str.empty r.1).map fun z => (.str z, r.2)
  | .slice e lo hi, ρ, μ => (evE e ρ μ).bind fun r => (evO lo ρ r.2).bind fun l => (evO hi ρ l.2).bind fun h =>
      match viewD h.2 r.1 with
      | .tup ds => some (.tup ((ds.drop (HT.sIx ds.length 0 l.1)).take (HT.sIx ds.length ds.length h.1 - HT.sIx ds.length 0 l.1)), h.2)
      | .lst ds => some (.lst ((ds.drop (HT.sIx ds.length 0 l.1)).take (HT.sIx ds.length ds.length h.1 - HT.sIx ds.length 0 l.1)), h.2)
      | .str z => if z.length ≤ sizeLine then some (.str (cutS z l.1 h.1), h.2) else none
      | _ => none
  | .nott e, ρ, μ => (evE e ρ μ).bind fun r => (truD (viewD r.2 r.1)).map fun k => (.bl !k, r.2)
  | .andd a b, ρ, μ => (evE a ρ μ).bind fun r => (truD (viewD r.2 r.1)).bind fun k => if k then evE b ρ r.2 else some r
  | .orr a b, ρ, μ => (evE a ρ μ).bind fun r => (truD (viewD r.2 r.1)).bind fun k => if k then some r else evE b ρ r.2
  | .cond c a b, ρ, μ => (evE c ρ μ).bind fun r => (truD (viewD r.2 r.1)).bind fun k => if k then evE a ρ r.2 else evE b ρ r.2
  | .cmp2 o1 o2 a b c, ρ, μ => (evE a ρ μ).bind fun x => (evE b ρ x.2).bind fun y => (cmpD o1 (viewD y.2 x.1) (viewD y.2 y.1)).bind fun k =>
      match k with
      | .bl true => (evE c ρ y.2).bind fun z => (cmpD o2 (viewD z.2 y.1) (viewD z.2 z.1)).map fun d => (d, z.2)
      | .bl false => some (.bl false, y.2)
      | _ => none
  | .tup es, ρ, μ => (evEs es ρ μ).bind fun r => if r.1.length ≤ sizeLine then some (.tup r.1, r.2) else none
  | .frz f, ρ, μ => (evF f ρ μ).map fun r => (.lst r.1, r.2)
  | .cell f, ρ, μ => (evF f ρ μ).map fun r => (.ref r.2.length, r.2 ++ [.lst r.1])
  | .celld, _, μ => some (.ref μ.length, μ ++ [.dic []])
  | .dcopy e, ρ, μ => (evE e ρ μ).bind fun r => match r.1 with
      | .ref n => match r.2[n]? with
        | some (.dic kvs) => some (.ref r.2.length, r.2 ++ [.dic kvs])
        | _ => none
      | _ => none
  | .dlen e, ρ, μ => (evE e ρ μ).bind fun r => match r.1 with
      | .ref n => match r.2[n]? with
        | some (.dic kvs) => some (.int kvs.length, r.2)
        | _ => none
      | _ => none
  | .call _ f es, ρ, μ => (evEs es ρ μ).bind fun r => Γ.fns f r.1 r.2
  | .callv i es, ρ, μ => (slotD ρ i).bind fun d => match d with
      | .fn f => (evEs es ρ μ).bind fun r => Γ.fns f r.1 r.2
      | _ => none
  | .attr c e f, ρ, μ => (evE e ρ μ).bind fun r => match r.1 with
      | .ref n => match r.2[n]? with
        | some (.ins c' fs) => if c' = c then (fs.lookup f).map fun d => (d, r.2) else none
        | _ => none
      | _ => none
  | .mcall c m f e es, ρ, μ => (evE e ρ μ).bind fun r => match r.1 with
      | .ref n => match r.2[n]? with
        | some (.ins c' fs) => if c' = c ∧ fs.lookup m = none then (evEs es ρ r.2).bind fun q => Γ.fns f (.ref n :: q.1) q.2 else none
        | _ => none
      | _ => none
  | .make _ c f es, ρ, μ => (evEs es ρ μ).bind fun r => (Γ.inits f (.ref r.2.length :: r.1) (r.2 ++ [.ins c []])).bind fun q => match q.1 with
      | .non => some (.ref r.2.length, q.2)
      | _ => none
  | .dhas neg k d, ρ, μ => (evE k ρ μ).bind fun x => (evE d ρ x.2).bind fun r => match r.1 with
      | .ref n => match r.2[n]? with
        | some (.dic kvs) => (keyD x.1).map fun k => (.bl (if neg then !(getK kvs k).isSome else (getK kvs k).isSome), r.2)
        | _ => none
      | _ => none
  | .dget d k, ρ, μ => (evE d ρ μ).bind fun r => (evE k ρ r.2).bind fun x => match r.1 with
      | .ref n => match x.2[n]? with
        | some (.dic kvs) => (keyD x.1).bind fun k => (getK kvs k).map fun d => (d, x.2)
        | _ => none
      | _ => none
  | .dgetD d k z, ρ, μ => (evE d ρ μ).bind fun r => match r.1 with
      | .ref n => match r.2[n]? with
        | some (.dic _) => (evE k ρ r.2).bind fun x => (evE z ρ x.2).bind fun y => match y.2[n]? with
          | some (.dic kvs) => (keyD x.1).map fun k => ((getK kvs k).getD y.1, y.2)
          | _ => none
        | _ => none
      | _ => none
  | .dsetd d k z, ρ, μ => (evE d ρ μ).bind fun r => match r.1 with
      | .ref n => match r.2[n]? with
        | some (.dic _) => (evE k ρ r.2).bind fun x => (evE z ρ x.2).bind fun y => match y.2[n]? with
          | some (.dic kvs) => if kvs.length < sizeLine then (keyD x.1).map fun k => match getK kvs k with
              | some v => (v, y.2)
              | none => (y.1, y.2.set n (.dic (kvs ++ [(k, y.1)]))) else none
          | _ => none
        | _ => none
      | _ => none
def evEs : IEs → Slots → Store → Option (List D × Store)
  | .nil, _, μ => some ([], μ)
  | .cons e es, ρ, μ => (evE e ρ μ).bind fun r => (evEs es ρ r.2).map fun q => (r.1 :: q.1, q.2)
def evO : IO → Slots → Store → Option (Option Int × Store)
  | .no, _, μ => some (none, μ)
  | .som e, ρ, μ => (evE e ρ μ).bind fun r => match r.1 with
    | .int i => some (some i, r.2)
    | _ => none
/-- a comprehension's test -/
def evC : IO → Slots → Store → Option (Bool × Store)
  | .no, _, μ => some (true, μ)
  | .som c, ρ, μ => (evE c ρ μ).bind fun k => (truD (viewD k.2 k.1)).map fun b => (b, k.2)
/-- a new list -/
def evF : FE → Slots → Store → Option (List D × Store)
  | .disp es, ρ, μ => (evEs es ρ μ).bind fun r => if r.1.length ≤ sizeLine then some r else none
  | .list e, ρ, μ => (evE e ρ μ).bind fun r => match viewD r.2 r.1 with
    | .tup ds => some (ds, r.2)
    | .lst ds => some (ds, r.2)
    | _ => none
  | .split a b, ρ, μ => (evE a ρ μ).bind fun x => (evE b ρ x.2).bind fun y => match x.1, y.1 with
    | .str z, .str w => if w.length ≠ 0 ∧ z.length + 2 ≤ sizeLine then some ((Txt.split z w).map .str, y.2) else none
    | _, _ => none
  | .cat a b, ρ, μ => (evE a ρ μ).bind fun x => (evE b ρ x.2).bind fun y => match viewD y.2 x.1, viewD y.2 y.1 with
    | .lst xs, .lst ys => if xs.length ≤ sizeLine ∧ ys.length ≤ sizeLine ∧ xs.length + ys.length ≤ sizeLine then some (xs ++ ys, y.2) else none
    | _, _ => none
  | .comp g own s c e, ρ, μ => (evSrc s ρ μ).bind fun r =>
      match r.1 with
      | .items ds => if ds.length < sizeLine then loopC (fun x μ => (asgT g x (wipeS ρ (own.map (·.2)))).bind fun ρ' => (evC c ρ' μ).bind fun k =>
          if k.1 then (evE e ρ' k.2).map fun q => (some q.1, q.2) else some (none, k.2)) ds r.2 else none
      | .cel n => loopCC (fun x μ => (asgT g x (wipeS ρ (own.map (·.2)))).bind fun ρ' => (evC c ρ' μ).bind fun k =>
          if k.1 then (evE e ρ' k.2).map fun q => (some q.1, q.2) else some (none, k.2)) n sizeLine 0 r.2
/-- what is walked -/
def evSrc : Src → Slots → Store → Option (Sr × Store)
  | .it e, ρ, μ => (evE e ρ μ).bind fun r => (itemsD r.1).map fun ds => (.items ds, r.2)
  | .range1 e, ρ, μ => (evE e ρ μ).bind fun r => match r.1 with
    | .int j => if -(2 ^ 62) ≤ j ∧ j < 2 ^ 62 then some (.items (rangeD 0 j.toNat), r.2) else none
    | _ => none
  | .range2 a b, ρ, μ => (evE a ρ μ).bind fun r => (evE b ρ r.2).bind fun q => match r.1, q.1 with
    | .int i, .int j => if -(2 ^ 62) ≤ i ∧ i < 2 ^ 62 ∧ -(2 ^ 62) ≤ j ∧ j < 2 ^ 62 then some (.items (rangeD i (j - i).toNat), q.2) else none
    | _, _ => none
  | .enum e, ρ, μ => (evE e ρ μ).bind fun r => match r.1 with
    | .lst ds => some (.items (ds.zipIdx.map fun p => .tup [.int p.2, p.1]), r.2)
    | _ => none
  | .zip es, ρ, μ => (evEs es ρ μ).bind fun r => (zipD r.1).map fun ds => (.items ds, r.2)
  | .cel e, ρ, μ => (evE e ρ μ).bind fun r => match r.1 with
    | .ref n => match r.2[n]? with
      | some (.lst _) => some (.cel n, r.2)
      | _ => none
    | _ => none
end

/-- how a statement ends -/
inductive Fl where
  | nx | brk | ct | ret (d : D)
abbrev SR := Option (Fl × Slots × Store)
def loopF (f : D → Slots → Store → SR) : List D → Slots → Store → SR
  | [], ρ, μ => some (.nx, ρ, μ)
  | x :: xs, ρ, μ => (f x ρ μ).bind fun r => match r.1 with
    | .nx => loopF f xs r.2.1 r.2.2
    | .ct => loopF f xs r.2.1 r.2.2
    | .brk => some (.nx, r.2)
    | .ret d => some (.ret d, r.2)
def loopW (c : Slots → Store → Option (Bool × Store)) (b : Slots → Store → SR) : Nat → Slots → Store → SR
  | 0, _, _ => none
  | n + 1, ρ, μ => (c ρ μ).bind fun k => if k.1 then (b ρ k.2).bind fun r => match r.1 with
      | .nx => loopW c b n r.2.1 r.2.2
      | .ct => loopW c b n r.2.1 r.2.2
      | .brk => some (.nx, r.2)
      | .ret d => some (.ret d, r.2)
    else some (.nx, ρ, k.2)
/-- as many turns as any loop here wants -/
def fuelW : Nat := 2 ^ 64
def putD (f : Str) (v : D) : List (Str × D) → List (Str × D)
  | [] => [(f, v)]
  | (g, w) :: r => if g = f then (g, v) :: r else (g, w) :: putD f v r
def setS (ρ : Slots) (i : Nat) (s : Slot) : Option Slots := if i < ρ.length then some (ρ.set i s) else none
def ownS (ρ : Slots) (i : Nat) : Option (List D) := match ρ[i]? with
  | some (.own (.lst ds)) => some ds
  | _ => none
def lstAt (μ : Store) (d : D) : Option (Nat × List D) := match d with
  | .ref n => match μ[n]? with
    | some (.lst ds) => some (n, ds)
    | _ => none
  | _ => none
def insAt (μ : Store) (c : Nat) (d : D) : Option (Nat × List (Str × D)) := match d with
  | .ref n => match μ[n]? with
    | some (.ins c' fs) => if c' = c then some (n, fs) else none
    | _ => none
  | _ => none
def evIn : In → Slots → Store → Option (Slot × Store)
  | .v e, ρ, μ => (evE Γ e ρ μ).map fun r => (.val r.1, r.2)
  | .o f, ρ, μ => (evF Γ f ρ μ).map fun r => (.own (.lst r.1), r.2)
mutual
def evS : IS → Slots → Store → SR
  | .expr e, ρ, μ => (evE Γ e ρ μ).map fun r => (.nx, ρ, r.2)
  | .ret e, ρ, μ => (evE Γ e ρ μ).map fun r => (.ret r.1, ρ, r.2)
  | .retN, ρ, μ => some (.ret .non, ρ, μ)
  | .set i e, ρ, μ => (evE Γ e ρ μ).bind fun r => (setS ρ i (.val r.1)).map fun ρ' => (.nx, ρ', r.2)
  | .unp g e, ρ, μ => (evE Γ e ρ μ).bind fun r => (asgT g r.1 ρ).map fun ρ' => (.nx, ρ', r.2)
  | .par i j a b, ρ, μ => (evIn Γ a ρ μ).bind fun x => (evIn Γ b ρ x.2).bind fun y => (setS ρ i x.1).bind fun ρ1 => (setS ρ1 j y.1).map fun ρ2 => (.nx, ρ2, y.2)
  | .par3 i j l es, ρ, μ => (evEs Γ es ρ μ).bind fun r => match r.1 with
      | [u, v, w] => (setS ρ i (.val u)).bind fun ρ1 => (setS ρ1 j (.val v)).bind fun ρ2 => (setS ρ2 l (.val w)).map fun ρ3 => (.nx, ρ3, r.2)
      | _ => none
  | .setOwn i f, ρ, μ => (evF Γ f ρ μ).bind fun r => (setS ρ i (.own (.lst r.1))).map fun ρ' => (.nx, ρ', r.2)
  | .setTup i es, ρ, μ => (evEs Γ es ρ μ).bind fun r => if r.1.length ≤ sizeLine then (setS ρ i (.own (.tup r.1))).map fun ρ' => (.nx, ρ', r.2) else none
  | .freeze i s, ρ, μ => (ownS ρ i).bind fun ds => evS s (ρ.set i (.val (.lst ds))) μ
  | .ifs c a b, ρ, μ => (evE Γ c ρ μ).bind fun r => (truD (viewD r.2 r.1)).bind fun k => if k then evSs a ρ r.2 else evSs b ρ r.2
  | .fors g s b, ρ, μ => (evSrc Γ s ρ μ).bind fun r => match r.1 with
      | .items ds => loopF (fun x ρ μ => (asgT g x ρ).bind fun ρ' => evSs b ρ' μ) ds ρ r.2
      | .cel _ => none
  | .whil c b, ρ, μ => loopW (fun ρ μ => (evE Γ c ρ μ).bind fun r => (truD (viewD r.2 r.1)).map fun k => (k, r.2)) (fun ρ μ => evSs b ρ μ) fuelW ρ μ
  | .brk, ρ, μ => some (.brk, ρ, μ)
  | .cnt, ρ, μ => some (.ct, ρ, μ)
  | .pass, ρ, μ => some (.nx, ρ, μ)
  | .setIx o i e, ρ, μ => (evE Γ e ρ μ).bind fun x => (evE Γ o ρ x.2).bind fun r => (evE Γ i ρ r.2).bind fun k => match lstAt k.2 r.1, k.1 with
      | some (n, ds), .int m => (ixN ds.length m).map fun j => (.nx, ρ, k.2.set n (.lst (ds.set j x.1)))
      | _, _ => none
  | .setKy o i e, ρ, μ => (evE Γ e ρ μ).bind fun x => (evE Γ o ρ x.2).bind fun r => (evE Γ i ρ r.2).bind fun k => match r.1 with
      | .ref n => match k.2[n]? with
        | some (.dic kvs) => if kvs.length < sizeLine then (keyD k.1).map fun y => (.nx, ρ, k.2.set n (.dic (setK kvs y x.1))) else none
        | _ => none
      | _ => none
  | .augIx op o i e, ρ, μ => (evE Γ o ρ μ).bind fun r => (evE Γ i ρ r.2).bind fun k => match lstAt k.2 r.1, k.1 with
      | some (_, ds), .int m => (atI ds m).bind fun v => (evE Γ e ρ k.2).bind fun x => match op, v, x.1 with
        | .Add, .int a, .int b => match lstAt x.2 r.1 with
          | some (n, es) => (ixN es.length m).map fun j => (.nx, ρ, x.2.set n (.lst (es.set j (.int (a + b)))))
          | none => none
        | _, _, _ => none
      | _, _ => none
  | .aug op i e, ρ, μ => (slotD ρ i).bind fun v => (evE Γ e ρ μ).bind fun x => match op, v, x.1 with
      | .Add, .int a, .int b => some (.nx, ρ.set i (.val (.int (a + b))), x.2)
      | _, _, _ => none
  | .setAt c o f e, ρ, μ => (evE Γ e ρ μ).bind fun x => (evE Γ o ρ x.2).bind fun r => (insAt r.2 c r.1).bind fun p =>
      if p.2.length < 1000 then some (.nx, ρ, r.2.set p.1 (.ins c (putD f x.1 p.2))) else none
  | .setAt2 c i f g a b, ρ, μ => (evE Γ a ρ μ).bind fun x => (evE Γ b ρ x.2).bind fun y => (slotD ρ i).bind fun d => (insAt y.2 c d).bind fun p =>
      if p.2.length < 999 then some (.nx, ρ, (y.2.set p.1 (.ins c (putD f x.1 p.2))).set p.1 (.ins c (putD g y.1 (putD f x.1 p.2)))) else none
  | .app o e, ρ, μ => (evE Γ o ρ μ).bind fun r => (lstAt r.2 r.1).bind fun _ => (evE Γ e ρ r.2).bind fun x => (lstAt x.2 r.1).bind fun p =>
      if p.2.length < sizeLine then some (.nx, ρ, x.2.set p.1 (.lst (p.2 ++ [x.1]))) else none
  | .appOwn i e, ρ, μ => (ownS ρ i).bind fun ds => (evE Γ e ρ μ).bind fun x => if ds.length < sizeLine then some (.nx, ρ.set i (.own (.lst (ds ++ [x.1]))), x.2) else none
  | .extOwn i f, ρ, μ => (ownS ρ i).bind fun ds => (evF Γ f ρ μ).bind fun x => if ds.length + x.1.length ≤ sizeLine then some (.nx, ρ.set i (.own (.lst (ds ++ x.1))), x.2) else none
def evSs : ISs → Slots → Store → SR
  | .nil, ρ, μ => some (.nx, ρ, μ)
  | .cons s ss, ρ, μ => (evS s ρ μ).bind fun r => match r.1 with
    | .nx => evSs ss r.2.1 r.2.2
    | .brk => some (.brk, r.2)
    | .ct => some (.ct, r.2)
    | .ret d => some (.ret d, r.2)
end
end
/-- a def: its parameters, its names, its body -/
structure Fn where
  np : Nat
  size : Nat
  body : ISs
def start0 (F : Fn) (ds : List D) : Slots := ds.map .val ++ List.replicate (F.size - ds.length) .emp
def callF (fs : List Fn) (Γ : Env2) : Fns := fun f ds μ => match fs[f]? with
  | some F => if ds.length = F.np then match evSs Γ F.body (start0 F ds) μ with
      | some (.ret d, _, μ') => some (d, μ')
      | some (.nx, _, μ') => some (.non, μ')
      | _ => none
    else none
  | none => none
/-- all defs, to a depth of k calls within one another; and to one less -/
def runP (fs : List Fn) : Nat → Fns × Fns
  | 0 => (fun _ _ _ => none, fun _ _ _ => none)
  | k + 1 => (callF fs ⟨(runP fs k).1, (runP fs k).2⟩, (runP fs k).1)
def run (fs : List Fn) (k : Nat) : Fns := (runP fs k).1
end FH
end
section
/-! FH2: how plain data lies in the hand layer's heap; the plain operations are what the machine does. -/
namespace FH
open PySem PySem.Spec PyProof.Rows L2

/-- where the text's own defs and classes stand -/
structure Ev where
  K : PySem.W.Frag
  fa : Nat → Addr
  ca : Nat → Addr

/-- a list that the top wrote -/
def KL (K : PySem.W.Frag) (a : Addr) (vs : List V) : Prop := ∃ (its : List Value) (n : Nat), K.lookup a = some { cls := .type "list", data := .seq its.toArray n } ∧ vs.length ≤ sizeLine ∧ Vals vs its
/-- a list that stays -/
def FzL (K : PySem.W.Frag) (H : Hp) (a : Addr) (vs : List V) : Prop := (∃ o, H a = some (.frz o (.lst vs))) ∨ KL K a vs
/-- a list that is read -/
def RdL (K : PySem.W.Frag) (H : Hp) (a : Addr) (vs : List V) : Prop := Rd H a (.lst vs) ∨ KL K a vs
theorem FzL.rd {K : PySem.W.Frag} {H : Hp} {a : Addr} {vs : List V} (h : FzL K H a vs) : RdL K H a vs := h.elim (fun q => .inl (.inr q)) .inr
theorem RdL.sq {K : PySem.W.Frag} {H : Hp} {a : Addr} {vs : List V} (h : RdL K H a vs) : SqL K H a vs := h.elim .inl fun ⟨its, n, e, z, r⟩ => .inr ⟨_, its.toArray, n, e, rfl, rfl, rfl, by have := r.length; rw [List.size_toArray]; omega, by simpa using r⟩
theorem RdL.at_ {X : Cx} {pins : List (Addr × Obj)} {σ : L2.St} {s : Shared} {H : Hp} {a : Addr} {vs : List V} (h : RdL X.K H a vs) (I : Inv X pins σ H s) : ∃ (its : List Value) (n : Nat), vs.length ≤ sizeLine ∧ Vals vs its ∧ s.heap.get? a = some { cls := .type "list", data := .seq its.toArray n } := by
  rcases h with h | ⟨its, n, e, z, r⟩
  · obtain ⟨z, its, n, r, e⟩ := h.ok I.hok
    exact ⟨its, n, z, r, e⟩
  · exact ⟨its, n, z, r, I.kIn a _ e⟩

mutual
/-- how d lies: φ tells where the changing things stand -/
inductive Enc (ε : Ev) (φ : List Addr) (H : Hp) : V → D → Prop
  | non : Enc ε φ H .non .non
  | bl (b : Bool) : Enc ε φ H (.bl b) (.bl b)
  | int (i : Int) : Enc ε φ H (.int i) (.int i)
  | str (x : Str) : Enc ε φ H (.str x) (.str x)
  | ty (n : String) : Enc ε φ H (.ty n) (.ty n)
  | fn (n : Nat) : Enc ε φ H (.ref (ε.fa n)) (.fn n)
  | ref {n : Nat} {a : Addr} : φ[n]? = some a → Enc ε φ H (.ref a) (.ref n)
  | tup {a : Addr} {vs : List V} {ds : List D} : SqT ε.K H a vs → EncL ε φ H vs ds → Enc ε φ H (.ref a) (.tup ds)
  | lst {a : Addr} {vs : List V} {ds : List D} : FzL ε.K H a vs → EncL ε φ H vs ds → Enc ε φ H (.ref a) (.lst ds)
inductive EncL (ε : Ev) (φ : List Addr) (H : Hp) : List V → List D → Prop
  | nil : EncL ε φ H [] []
  | cons {v : V} {vs : List V} {d : D} {ds : List D} : Enc ε φ H v d → EncL ε φ H vs ds → EncL ε φ H (v :: vs) (d :: ds)
end

/-- what stays for good -/
structure Grow (H H' : Hp) : Prop where
  tups : ∀ b xs, H b = some (.tup xs) → H' b = some (.tup xs)
  frzs : ∀ b o u, H b = some (.frz o u) → H' b = some (.frz o u)
theorem Grow.refl {H : Hp} : Grow H H := ⟨fun _ _ q => q, fun _ _ _ q => q⟩
theorem Grow.trans {H H1 H2 : Hp} (a : Grow H H1) (b : Grow H1 H2) : Grow H H2 := ⟨fun c xs q => b.tups c xs (a.tups c xs q), fun c o u q => b.frzs c o u (a.frzs c o u q)⟩
theorem SqT.grow {K : PySem.W.Frag} {H H' : Hp} {a : Addr} {vs : List V} (g : Grow H H') (h : SqT K H a vs) : SqT K H' a vs := by
  rcases h with (q | ⟨o, q⟩) | q
  · exact .inl (.inl (g.tups _ _ q))
  · exact .inl (.inr ⟨o, g.frzs _ _ _ q⟩)
  · exact .inr q
theorem FzL.grow {K : PySem.W.Frag} {H H' : Hp} {a : Addr} {vs : List V} (g : Grow H H') (h : FzL K H a vs) : FzL K H' a vs := h.elim (fun ⟨o, q⟩ => .inl ⟨o, g.frzs _ _ _ q⟩) .inr
section
variable {ε : Ev} {φ : List Addr} {H H' : Hp}
theorem get_app {α : Type} {l m : List α} {n : Nat} {a : α} (h : l[n]? = some a) : (l ++ m)[n]? = some a := by
  have q := (List.getElem?_eq_some_iff.mp h).1
  rw [List.getElem?_append_left q]; exact h
mutual
theorem Enc.mono (φ2 : List Addr) (g : Grow H H') : ∀ {d : D} {v : V}, Enc ε φ H v d → Enc ε (φ ++ φ2) H' v d
  | .non, _, h => by cases h; exact .non
  | .bl _, _, h => by cases h; exact .bl _
  | .int _, _, h => by cases h; exact .int _
  | .str _, _, h => by cases h; exact .str _
  | .ty _, _, h => by cases h; exact .ty _
  | .fn _, _, h => by cases h; exact .fn _
  | .ref _, _, h => by cases h with | ref q => exact .ref (get_app q)
  | .tup ds, _, h => by cases h with | tup q r => exact .tup (SqT.grow g q) (EncL.mono φ2 g r)
  | .lst ds, _, h => by cases h with | lst q r => exact .lst (FzL.grow g q) (EncL.mono φ2 g r)
theorem EncL.mono (φ2 : List Addr) (g : Grow H H') : ∀ {ds : List D} {vs : List V}, EncL ε φ H vs ds → EncL ε (φ ++ φ2) H' vs ds
  | [], _, h => by cases h; exact .nil
  | d :: ds, _, h => by cases h with | cons q r => exact .cons (Enc.mono φ2 g q) (EncL.mono φ2 g r)
end
theorem Enc.grow {d : D} {v : V} (g : Grow H H') (h : Enc ε φ H v d) : Enc ε φ H' v d := by
  have q := Enc.mono [] g h
  rwa [List.append_nil] at q
theorem EncL.grow {ds : List D} {vs : List V} (g : Grow H H') (h : EncL ε φ H vs ds) : EncL ε φ H' vs ds := by
  have q := EncL.mono [] g h
  rwa [List.append_nil] at q
theorem EncL.length : ∀ {vs : List V} {ds : List D}, EncL ε φ H vs ds → vs.length = ds.length
  | _, [], h => by cases h; rfl
  | _, d :: ds, h => by cases h with | cons q r => simp [EncL.length r]
theorem EncL.app : ∀ {vs ws : List V} {ds es : List D}, EncL ε φ H vs ds → EncL ε φ H ws es → EncL ε φ H (vs ++ ws) (ds ++ es)
  | _, _, [], _, h, k => by cases h; exact k
  | _, _, d :: ds, _, h, k => by cases h with | cons q r => exact .cons q (EncL.app r k)
theorem EncL.get : ∀ {vs : List V} {ds : List D} {i : Nat} {d : D}, EncL ε φ H vs ds → ds[i]? = some d → ∃ v, vs[i]? = some v ∧ Enc ε φ H v d
  | _, [], i, d, h, e => by simp at e
  | _, x :: ds, 0, d, h, e => by cases h with | cons q r => simp at e; subst e; exact ⟨_, rfl, q⟩
  | _, x :: ds, i + 1, d, h, e => by
    cases h with
    | cons q r =>
      obtain ⟨v, h1, h2⟩ := EncL.get r (by simpa using e)
      exact ⟨v, by simpa using h1, h2⟩
theorem EncL.getV : ∀ {ds : List D} {vs : List V} {i : Nat} {v : V}, EncL ε φ H vs ds → vs[i]? = some v → ∃ d, ds[i]? = some d ∧ Enc ε φ H v d := by
  intro ds vs i v h e
  have hl := h.length
  have hi := (List.getElem?_eq_some_iff.mp e).1
  obtain ⟨d, hd⟩ : ∃ d, ds[i]? = some d := ⟨ds[i], by simp [show i < ds.length by omega]⟩
  obtain ⟨w, h1, h2⟩ := EncL.get h hd
  rw [e] at h1; cases h1
  exact ⟨d, hd, h2⟩
theorem EncL.drop : ∀ {vs : List V} {ds : List D} (n : Nat), EncL ε φ H vs ds → EncL ε φ H (vs.drop n) (ds.drop n)
  | _, _, 0, h => h
  | _, [], n + 1, h => by cases h; exact .nil
  | _, d :: ds, n + 1, h => by cases h with | cons q r => exact EncL.drop n r
theorem EncL.take : ∀ {vs : List V} {ds : List D} (n : Nat), EncL ε φ H vs ds → EncL ε φ H (vs.take n) (ds.take n)
  | _, _, 0, h => .nil
  | _, [], n + 1, h => by cases h; exact .nil
  | _, d :: ds, n + 1, h => by cases h with | cons q r => exact .cons q (EncL.take n r)
theorem EncL.set : ∀ {vs : List V} {ds : List D} {v : V} {d : D} (n : Nat), EncL ε φ H vs ds → Enc ε φ H v d → EncL ε φ H (vs.set n v) (ds.set n d)
  | _, [], _, _, n, h, k => by cases h; exact .nil
  | _, e :: ds, _, _, 0, h, k => by cases h with | cons q r => exact .cons k r
  | _, e :: ds, _, _, n + 1, h, k => by cases h with | cons q r => exact .cons q (EncL.set n r k)

/-- how an operand lies that is read at once -/
def Vw (ε : Ev) (φ : List Addr) (H : Hp) (v : V) (d : D) : Prop :=
  Enc ε φ H v d ∨ ∃ a vs ds, d = .lst ds ∧ v = .ref a ∧ RdL ε.K H a vs ∧ EncL ε φ H vs ds
inductive VwL (ε : Ev) (φ : List Addr) (H : Hp) : List V → List D → Prop
  | nil : VwL ε φ H [] []
  | cons {v : V} {vs : List V} {d : D} {ds : List D} : Vw ε φ H v d → VwL ε φ H vs ds → VwL ε φ H (v :: vs) (d :: ds)
theorem Vw.lst {v : V} {ds : List D} (h : Vw ε φ H v (.lst ds)) : ∃ a vs, v = .ref a ∧ RdL ε.K H a vs ∧ EncL ε φ H vs ds := by
  rcases h with h | ⟨a, vs, es, e, hv, hs, hl⟩
  · cases h with | lst q r => exact ⟨_, _, rfl, q.rd, r⟩
  · cases e; exact ⟨a, vs, hv, hs, hl⟩
theorem Vw.tup {v : V} {ds : List D} (h : Vw ε φ H v (.tup ds)) : ∃ a vs, v = .ref a ∧ SqT ε.K H a vs ∧ EncL ε φ H vs ds := by
  rcases h with h | ⟨a, vs, es, e, hv, hs, hl⟩
  · cases h with | tup q r => exact ⟨_, _, rfl, q, r⟩
  · cases e
theorem Vw.int {v : V} {i : Int} (h : Vw ε φ H v (.int i)) : v = .int i := by
  rcases h with h | ⟨a, vs, es, e, hv, hs, hl⟩
  · cases h; rfl
  · cases e
theorem Vw.str {v : V} {i : Str} (h : Vw ε φ H v (.str i)) : v = .str i := by
  rcases h with h | ⟨a, vs, es, e, hv, hs, hl⟩
  · cases h; rfl
  · cases e
theorem Vw.bl {v : V} {i : Bool} (h : Vw ε φ H v (.bl i)) : v = .bl i := by
  rcases h with h | ⟨a, vs, es, e, hv, hs, hl⟩
  · cases h; rfl
  · cases e
theorem Vw.non {v : V} (h : Vw ε φ H v .non) : v = .non := by
  rcases h with h | ⟨a, vs, es, e, hv, hs, hl⟩
  · cases h; rfl
  · cases e
theorem Vw.ty {v : V} {n : String} (h : Vw ε φ H v (.ty n)) : v = .ty n := by
  rcases h with h | ⟨a, vs, es, e, hv, hs, hl⟩
  · cases h; rfl
  · cases e
theorem Vw.enc {v : V} {d : D} (h : Vw ε φ H v d) (n : ∀ ds, d ≠ .lst ds) : Enc ε φ H v d := by
  rcases h with h | ⟨a, vs, es, e, _⟩
  · exact h
  · exact absurd e (n es)

mutual
theorem Enc.dp : ∀ {d : D} {v : V} {p : PyData}, Enc ε φ H v d → d.py = some p → Dp ε.K H v p
  | .non, _, _, h, e => by cases h; simp [D.py] at e; subst e; exact .non
  | .bl _, _, _, h, e => by cases h; simp [D.py] at e; subst e; exact .bl _
  | .int _, _, _, h, e => by cases h; simp [D.py] at e; subst e; exact .int _
  | .str _, _, _, h, e => by cases h; simp [D.py] at e; subst e; exact .str _
  | .ty _, _, _, h, e => by simp [D.py] at e
  | .fn _, _, _, h, e => by simp [D.py] at e
  | .ref _, _, _, h, e => by simp [D.py] at e
  | .tup ds, _, _, h, e => by
    cases h with
    | tup q r =>
      simp only [D.py, Option.map_eq_some_iff] at e
      obtain ⟨ps, e, rfl⟩ := e
      exact .tup q (EncL.dp r e)
  | .lst ds, _, _, h, e => by
    cases h with
    | lst q r =>
      simp only [D.py, Option.map_eq_some_iff] at e
      obtain ⟨ps, e, rfl⟩ := e
      exact .lst q.rd.sq (EncL.dp r e)
theorem EncL.dp : ∀ {ds : List D} {vs : List V} {ps : List PyData}, EncL ε φ H vs ds → pyL ds = some ps → DpAll ε.K H vs ps
  | [], _, _, h, e => by cases h; simp [pyL] at e; subst e; exact .nil
  | d :: ds, _, _, h, e => by
    cases h with
    | cons q r =>
      simp only [pyL] at e
      split at e
      · rename_i x xs e1 e2
        cases e
        exact .cons (Enc.dp q e1) (EncL.dp r e2)
      · cases e
end
theorem Vw.dp {d : D} {v : V} {p : PyData} (h : Vw ε φ H v d) (e : d.py = some p) : Dp ε.K H v p := by
  rcases h with h | ⟨a, vs, ds, rfl, rfl, hs, hl⟩
  · exact h.dp e
  · simp only [D.py, Option.map_eq_some_iff] at e
    obtain ⟨ps, e, rfl⟩ := e
    exact .lst hs.sq (hl.dp e)
theorem Vw.flat {d : D} {v : V} (h : Vw ε φ H v d) (f : d.flat = true) : flatV v = true := by
  cases d <;> first | (simp [D.flat] at f; done) | skip
  · rw [h.non]; rfl
  · rw [h.bl]; rfl
  · rw [h.int]; rfl
  · rw [h.str]; rfl
theorem Enc.eqv {c d : D} {u v : V} (h : Enc ε φ H u c) (k : Enc ε φ H v d) (f : c.flat = true) (g : d.flat = true) : eqV u v = eqF c d := by
  cases c <;> first | (simp [D.flat] at f; done) | skip
  all_goals (cases d <;> first | (simp [D.flat] at g; done) | skip)
  all_goals (cases h; cases k; first | rfl | simp [eqV, eqF, b2i])
theorem EncL.flatAll : ∀ {ds : List D} {vs : List V}, EncL ε φ H vs ds → ds.all D.flat = true → vs.all flatV = true
  | [], _, h, f => by cases h; rfl
  | d :: ds, _, h, f => by
    cases h with
    | cons q r =>
      simp only [List.all_cons, Bool.and_eq_true] at f ⊢
      exact ⟨Vw.flat (.inl q) f.1, EncL.flatAll r f.2⟩
theorem EncL.anyEq {a : D} {x : V} (hx : Enc ε φ H x a) (fa : a.flat = true) : ∀ {ds : List D} {vs : List V}, EncL ε φ H vs ds → ds.all D.flat = true → inV x vs = ds.any fun z => eqF z a
  | [], _, h, f => by cases h; rfl
  | d :: ds, _, h, f => by
    cases h with
    | cons q r =>
      simp only [List.all_cons, Bool.and_eq_true] at f
      have ih := EncL.anyEq hx fa r f.2
      unfold inV at ih ⊢
      simp only [List.any_cons, ih, q.eqv hx f.1 fa]
end

/-- only new things -/
def Ex (H H' : Hp) : Prop := ∀ b o, H b = some o → H' b = some o
theorem Ex.refl {H : Hp} : Ex H H := fun _ _ q => q
theorem Ex.grow {H H' : Hp} (h : Ex H H') : Grow H H' := ⟨fun b xs q => h b _ q, fun b o u q => h b _ q⟩
theorem Ex.new {H : Hp} {p : Addr} {o : HO} (h : H p = none) : Ex H (upd H p o) := fun b u q => by
  rw [upd_ne (fun e => by rw [e, h] at q; cases q)]; exact q

/-- a list just made is left as it is from here on -/
theorem EP.frz {X : Cx} {pins : List (Addr × Obj)} {σ : L2.St} {Q : VK} {u : Value} {s : Shared}
    (h : EP X pins σ (fun v H => ∃ p ys, v = .ref p ∧ H p = some (.lst ys) ∧ ∀ o, Q v (upd H p (.frz o (.lst ys)))) u s) : EP X pins σ Q u s := by
  obtain ⟨v, H, I, r, p, ys, rfl, hp, q⟩ := h
  obtain ⟨od, I2⟩ := I.lock hp trivial
  exact ⟨_, _, I2, r, q od⟩
theorem frz_new {H : Hp} {p : Addr} {o : Obj} {u : HO} (h : H p = none) : Ex H (upd (upd H p u) p (.frz o u)) := by
  rw [upd_upd]; exact Ex.new h

/-! ### the operators, by plain data -/
section
variable {X : Cx} {ε : Ev}
/-- two operands -/
def rP2 (ε : Ev) (f : D → D → Option D) : R2 := fun x y H Q => ∃ φ c d z, Vw ε φ H x c ∧ Vw ε φ H y d ∧ f c d = some z ∧ ∀ v H', Ex H H' → Enc ε φ H' v z → Q v H'
theorem OpR.imp {f : Value → Value → Sem Value} {r r' : R2} (h : OpR X f r) (k : ∀ x y H Q, r' x y H Q → r x y H Q) : OpR X f r' :=
  fun pins s σ H x y v u Q I rx ry q => h pins s σ H x y v u Q I rx ry (k x y H Q q)
theorem CallR.imp {f : Value} {r r' : List V → Hp → VK → Prop} (h : CallR X f r) (k : ∀ xs H Q, r' xs H Q → r xs H Q) : CallR X f r' :=
  fun pins s σ H xs us Q I rx q => h pins s σ H xs us Q I rx (k xs H Q q)
theorem IxR.imp {r r' : R2} (h : IxR X r) (k : ∀ x y H Q, r' x y H Q → r x y H Q) : IxR X r' :=
  fun value slice pins s σ H x y v u Q I rx ry q => h value slice pins s σ H x y v u Q I rx ry (k x y H Q q)
/-- two lists, any -/
def rCatL (K : PySem.W.Frag) : R2 := fun x y H Q => ∃ l b xs zs, x = .ref l ∧ y = .ref b ∧ RdL K H l xs ∧ RdL K H b zs ∧ xs.length + zs.length ≤ sizeLine ∧ ∀ p, H p = none → Q (.ref p) (upd H p (.lst (xs ++ zs)))
theorem op_catL : OpR X (binaryOp .Add) (rCatL X.K) := by
  intro pins s σ H x y v u Q I rx ry h
  obtain ⟨l, b, xs, zs, rfl, rfl, hH, hB, hz, q⟩ := h
  cases rx
  cases ry
  obtain ⟨its, n, _, r, e⟩ := hH.at_ I
  obtain ⟨its2, n2, _, r2, e2⟩ := hB.at_ I
  have hl := r.length
  have hl2 := r2.length
  refine PySem.P.add_list e e2 ?_ (by rw [List.size_toArray, List.size_toArray]; omega)
  have ea : its.toArray ++ its2.toArray = (its ++ its2).toArray := by simp
  rw [ea]
  exact ⟨.ref _, _, I.lnew (t' := s.toks) (r.append r2) (by rw [List.length_append]; omega), rfl, q _ I.fresh⟩
/-- what is made by an operator that makes a list, left as it is -/
theorem OpR.frz {f : Value → Value → Sem Value} {r : R2} (h : OpR X f r) :
    OpR X f (fun x y H Q => r x y H (fun v H' => ∃ p ys, v = .ref p ∧ H' p = some (.lst ys) ∧ ∀ o, Q v (upd H' p (.frz o (.lst ys))))) :=
  fun pins s σ H x y v u Q I rx ry q => thn (h pins s σ H x y v u _ I rx ry q) fun _ _ e => EP.frz e



theorem op_addD (hK : ε.K = X.K) : OpR X (binaryOp .Add) (rP2 ε (binD .Add)) := by
  refine OpR.imp (op_add.or (op_add_str.or (op_catA.or (OpR.frz op_catL)))) fun x y H Q h => ?_
  obtain ⟨φ, c, d, z, hc, hd, e, q⟩ := h
  cases c <;> cases d <;> (first | (exfalso; simp [binD] at e; done) | skip)
  · simp only [binD, Option.some.injEq] at e
    subst e
    exact .inl ⟨_, _, hc.int, hd.int, q _ _ Ex.refl (.int _)⟩
  · rename_i x y
    simp only [binD] at e
    split at e
    · cases e
      exact .inr (.inl ⟨_, _, hc.str, hd.str, by assumption, q _ _ Ex.refl (.str _)⟩)
    · cases e
  · rename_i xs ys
    simp only [binD] at e
    split at e
    · cases e
      obtain ⟨a, vs, rfl, h1, h2⟩ := hc.tup
      obtain ⟨b, ws, rfl, k1, k2⟩ := hd.tup
      have l1 := h2.length
      have l2 := k2.length
      rw [hK] at h1 k1
      refine .inr (.inr (.inl ⟨a, b, vs, ws, rfl, rfl, h1, k1, by omega, fun z => ?_, fun _ z => ?_, fun _ _ p hp => ?_⟩))
      · subst z
        cases xs with
        | nil => exact q _ _ Ex.refl (.tup (by rw [hK]; exact k1) k2)
        | cons _ _ => simp at l1
      · subst z
        cases ys with
        | nil => rw [List.append_nil] at q; exact q _ _ Ex.refl (.tup (by rw [hK]; exact h1) h2)
        | cons _ _ => simp at l2
      · have g : Ex H (upd H p (.tup (vs ++ ws))) := Ex.new hp
        exact q _ _ g (.tup (SqT.of upd_same) (EncL.app (h2.grow g.grow) (k2.grow g.grow)))
    · cases e
  · rename_i xs ys
    simp only [binD] at e
    split at e
    · rename_i hz
      cases e
      obtain ⟨a, vs, rfl, h1, h2⟩ := hc.lst
      obtain ⟨b, ws, rfl, k1, k2⟩ := hd.lst
      have l1 := h2.length
      have l2 := k2.length
      refine .inr (.inr (.inr ⟨a, b, vs, ws, rfl, rfl, hK ▸ h1, hK ▸ k1, by omega, fun p hp => ⟨p, _, rfl, upd_same, fun o => ?_⟩⟩))
      have g : Ex H (upd (upd H p (.lst (vs ++ ws))) p (.frz o (.lst (vs ++ ws)))) := frz_new hp
      exact q _ _ g (.lst (.inl ⟨o, upd_same⟩) (EncL.app (h2.grow g.grow) (k2.grow g.grow)))
    · cases e
theorem op_subD : OpR X (binaryOp .Sub) (rP2 ε (binD .Sub)) := by
  refine OpR.imp op_sub fun x y H Q h => ?_
  obtain ⟨φ, c, d, z, hc, hd, e, q⟩ := h
  cases c <;> cases d <;> (first | (exfalso; simp [binD] at e; done) | skip)
  simp only [binD, Option.some.injEq] at e
  subst e
  exact ⟨_, _, hc.int, hd.int, q _ _ Ex.refl (.int _)⟩
theorem op_mulD : OpR X (binaryOp .Mult) (rP2 ε (binD .Mult)) := by
  refine OpR.imp op_mul fun x y H Q h => ?_
  obtain ⟨φ, c, d, z, hc, hd, e, q⟩ := h
  cases c <;> cases d <;> (first | (exfalso; simp [binD] at e; done) | skip)
  simp only [binD] at e
  split at e
  · cases e
    exact ⟨_, _, hc.int, hd.int, by assumption, q _ _ Ex.refl (.int _)⟩
  · cases e
theorem op_divD : OpR X (binaryOp .FloorDiv) (rP2 ε (binD .FloorDiv)) := by
  refine OpR.imp op_fdivN fun x y H Q h => ?_
  obtain ⟨φ, c, d, z, hc, hd, e, q⟩ := h
  cases c <;> cases d <;> (first | (exfalso; simp [binD] at e; done) | skip)
  simp only [binD] at e
  split at e
  · cases e
    exact ⟨_, _, hc.int, hd.int, by assumption, q _ _ Ex.refl (.int _)⟩
  · cases e
theorem op_modD : OpR X (binaryOp .Mod) (rP2 ε (binD .Mod)) := by
  refine OpR.imp op_modN fun x y H Q h => ?_
  obtain ⟨φ, c, d, z, hc, hd, e, q⟩ := h
  cases c <;> cases d <;> (first | (exfalso; simp [binD] at e; done) | skip)
  simp only [binD] at e
  split at e
  · cases e
    exact ⟨_, _, hc.int, hd.int, by assumption, q _ _ Ex.refl (.int _)⟩
  · cases e
theorem op_powD : OpR X (binaryOp .Pow) (rP2 ε (binD .Pow)) := by
  refine OpR.imp op_pow fun x y H Q h => ?_
  obtain ⟨φ, c, d, z, hc, hd, e, q⟩ := h
  cases c <;> cases d <;> (first | (exfalso; simp [binD] at e; done) | skip)
  simp only [binD] at e
  split at e
  · cases e
    exact ⟨_, _, hc.int, hd.int, by assumption, q _ _ Ex.refl (.int _)⟩
  · cases e
theorem op_binD (hK : ε.K = X.K) : ∀ op : Operator, OpR X (binaryOp op) (rP2 ε (binD op))
  | .Add => op_addD hK
  | .Sub => op_subD
  | .Mult => op_mulD
  | .FloorDiv => op_divD
  | .Mod => op_modD
  | .Pow => op_powD
  | .MatMult | .Div | .LShift | .RShift | .BitOr | .BitXor | .BitAnd => fun pins s σ H x y v u Q I rx ry h => by
    obtain ⟨φ, c, d, z, hc, hd, e, q⟩ := h
    cases c <;> cases d <;> simp [binD] at e

theorem eqD_cases {a b : D} {k : Bool} (h : eqD a b = some k) : (a.flat = true ∧ b.flat = true ∧ k = eqF a b) ∨ ∃ x y, a.py = some x ∧ b.py = some y ∧ SeqAt.shaped x = true ∧ SeqAt.shaped y = true ∧ k = PyData.eqv x y := by
  unfold eqD at h
  split at h
  · rename_i f
    simp only [Bool.and_eq_true] at f
    cases h
    exact .inl ⟨f.1, f.2, rfl⟩
  · split at h
    · rename_i x y e1 e2
      split at h
      · rename_i f
        simp only [Bool.and_eq_true] at f
        cases h
        exact .inr ⟨x, y, e1, e2, f.1, f.2, rfl⟩
      · cases h
    · cases h
/-- what flat things' == is, by the layer's two rules -/
theorem flat_eq {φ : List Addr} {H : Hp} {x y : V} {c d : D} (hc : Vw ε φ H x c) (hd : Vw ε φ H y d) (f : c.flat = true) (g : d.flat = true) :
    (scal x y = true ∧ decide (x = y) = eqF c d) ∨ ∃ p r, Dp ε.K H x p ∧ Dp ε.K H y r ∧ SeqAt.shaped p = true ∧ SeqAt.shaped r = true ∧ PyData.eqv p r = eqF c d := by
  have s1 : ∀ b : Bool, SeqAt.shaped (.bool b) = true := fun b => by cases b <;> decide
  have s2 : ∀ i : Int, SeqAt.shaped (.int i) = true := fun i => by simp [SeqAt.shaped, PyData.canLay0, PyData.depth]
  cases c <;> first | (simp [D.flat] at f; done) | skip
  all_goals (cases d <;> first | (simp [D.flat] at g; done) | skip)
  · rw [hc.non, hd.non]; exact .inl ⟨rfl, rfl⟩
  · rw [hc.non, hd.bl]; exact .inl ⟨rfl, rfl⟩
  · rw [hc.non, hd.int]; exact .inl ⟨rfl, rfl⟩
  · rw [hc.non, hd.str]; exact .inl ⟨rfl, rfl⟩
  · rw [hc.bl, hd.non]; exact .inl ⟨rfl, rfl⟩
  · rw [hc.bl, hd.bl]; exact .inl ⟨rfl, dec_bl⟩
  · rename_i b i
    rw [hc.bl, hd.int]
    exact .inr ⟨_, _, .bl b, .int i, s1 b, s2 i, rfl⟩
  · rw [hc.bl, hd.str]; exact .inl ⟨rfl, rfl⟩
  · rw [hc.int, hd.non]; exact .inl ⟨rfl, rfl⟩
  · rename_i i b
    rw [hc.int, hd.bl]
    exact .inr ⟨_, _, .int i, .bl b, s2 i, s1 b, rfl⟩
  · rw [hc.int, hd.int]; exact .inl ⟨rfl, dec_int⟩
  · rw [hc.int, hd.str]; exact .inl ⟨rfl, rfl⟩
  · rw [hc.str, hd.non]; exact .inl ⟨rfl, rfl⟩
  · rw [hc.str, hd.bl]; exact .inl ⟨rfl, rfl⟩
  · rw [hc.str, hd.int]; exact .inl ⟨rfl, rfl⟩
  · rw [hc.str, hd.str]; exact .inl ⟨rfl, dec_str⟩
theorem op_eqDD (hK : ε.K = X.K) (hu : X.A.units + 64 < cLine) : OpR X (compareOp .Eq) (rP2 ε (cmpD .Eq)) := by
  refine OpR.imp (op_eq.or (op_eqD hu)) fun x y H Q h => ?_
  obtain ⟨φ, c, d, z, hc, hd, e, q⟩ := h
  have e : (eqD c d).map D.bl = some z := by cases c <;> cases d <;> exact e
  simp only [Option.map_eq_some_iff] at e
  obtain ⟨k, e1, rfl⟩ := e
  have q := q _ _ Ex.refl (.bl k)
  rcases eqD_cases e1 with ⟨f, g, rfl⟩ | ⟨p, r, e2, e3, s1, s2, rfl⟩
  · rcases flat_eq hc hd f g with ⟨h1, h2⟩ | ⟨p, r, h1, h2, h3, h4, h5⟩
    · exact .inl ⟨h1, by rw [h2]; exact q⟩
    · exact .inr ⟨p, r, by rw [← hK]; exact h1, by rw [← hK]; exact h2, h3, h4, by rw [h5]; exact q⟩
  · exact .inr ⟨p, r, by rw [← hK]; exact hc.dp e2, by rw [← hK]; exact hd.dp e3, s1, s2, q⟩
theorem op_neDD (hK : ε.K = X.K) (hu : X.A.units + 64 < cLine) : OpR X (compareOp .NotEq) (rP2 ε (cmpD .NotEq)) := by
  refine OpR.imp (op_ne.or (op_neD hu)) fun x y H Q h => ?_
  obtain ⟨φ, c, d, z, hc, hd, e, q⟩ := h
  have e : (eqD c d).map (fun k => D.bl !k) = some z := by cases c <;> cases d <;> exact e
  simp only [Option.map_eq_some_iff] at e
  obtain ⟨k, e1, rfl⟩ := e
  have q := q _ _ Ex.refl (.bl !k)
  rcases eqD_cases e1 with ⟨f, g, rfl⟩ | ⟨p, r, e2, e3, s1, s2, rfl⟩
  · rcases flat_eq hc hd f g with ⟨h1, h2⟩ | ⟨p, r, h1, h2, h3, h4, h5⟩
    · exact .inl ⟨h1, by rw [h2]; exact q⟩
    · exact .inr ⟨p, r, by rw [← hK]; exact h1, by rw [← hK]; exact h2, h3, h4, by rw [h5]; exact q⟩
  · exact .inr ⟨p, r, by rw [← hK]; exact hc.dp e2, by rw [← hK]; exact hd.dp e3, s1, s2, q⟩
theorem inD_cases {a : D} {ds : List D} {k : Bool} (h : inD a ds = some k) : (a.flat = true ∧ ds.all D.flat = true ∧ k = ds.any fun z => eqF z a) ∨
    ∃ x xs, a.py = some x ∧ pyL ds = some xs ∧ SeqAt.shaped x = true ∧ SeqAt.shaped (.list xs) = true ∧ k = xs.any fun z => PyData.eqv z x := by
  unfold inD at h
  split at h
  · rename_i f
    simp only [Bool.and_eq_true] at f
    cases h
    exact .inl ⟨f.1, f.2, rfl⟩
  · split at h
    · rename_i x y e1 e2
      split at h
      · rename_i f
        simp only [Bool.and_eq_true] at f
        cases h
        exact .inr ⟨x, y, e1, e2, f.1, f.2, rfl⟩
      · cases h
    · cases h

/-- in, not in a list or tuple, any data -/
def rInA (K : PySem.W.Frag) (neg : Bool) : R2 := fun x y H Q => ∃ d ds, Dp K H x d ∧ (Dp K H y (.list ds) ∨ Dp K H y (.tuple ds)) ∧ SeqAt.shaped d = true ∧ SeqAt.shaped (.list ds) = true ∧ Q (.bl (if neg then !(ds.any fun z => PyData.eqv z d) else ds.any fun z => PyData.eqv z d)) H
theorem op_inA (hu : X.A.units + 65 < cLine) : OpR X (compareOp .In) (rInA X.K false) := by
  intro pins s σ H x y v u Q I rx ry h
  obtain ⟨d, ds, hd, he, sd, se, q⟩ := h
  obtain ⟨as, r1⟩ := Dp.reads I d x v hd rx
  have lay : PyData.canLayAll0 ds = true := by
    have z := SeqAt.canLay_of_shaped se
    simpa [PyData.canLay0] using z
  rcases he with he | he
  · obtain ⟨bs, r2⟩ := Dp.reads I _ y u he ry
    exact SeqAt.in_list_reads r2 r1 lay (SeqAt.canLay_of_shaped sd) (room_in_shaped sd hu) ⟨.bl _, H, I, rfl, q⟩
  · obtain ⟨bs, r2⟩ := Dp.reads I _ y u he ry
    exact SeqAt.in_tuple_reads r2 r1 lay (SeqAt.canLay_of_shaped sd) (room_in_shaped sd hu) ⟨.bl _, H, I, rfl, q⟩
theorem op_notInA (hu : X.A.units + 65 < cLine) : OpR X (compareOp .NotIn) (rInA X.K true) := by
  intro pins s σ H x y v u Q I rx ry h
  obtain ⟨d, ds, hd, he, sd, se, q⟩ := h
  obtain ⟨as, r1⟩ := Dp.reads I d x v hd rx
  have lay : PyData.canLayAll0 ds = true := by
    have z := SeqAt.canLay_of_shaped se
    simpa [PyData.canLay0] using z
  rcases he with he | he
  · obtain ⟨bs, r2⟩ := Dp.reads I _ y u he ry
    exact SeqAt.notIn_list_reads r2 r1 lay (SeqAt.canLay_of_shaped sd) (room_in_shaped sd hu) ⟨.bl _, H, I, rfl, q⟩
  · obtain ⟨bs, r2⟩ := Dp.reads I _ y u he ry
    exact SeqAt.notIn_tuple_reads r2 r1 lay (SeqAt.canLay_of_shaped sd) (room_in_shaped sd hu) ⟨.bl _, H, I, rfl, q⟩
/-- a sequence to look in -/
theorem Vw.seq {φ : List Addr} {H : Hp} {v : V} {d : D} {ds : List D} (h : Vw ε φ H v d) (e : d = .tup ds ∨ d = .lst ds) :
    ∃ a vs, v = .ref a ∧ (SqL ε.K H a vs ∨ SqT ε.K H a vs) ∧ EncL ε φ H vs ds ∧ ∀ ps, pyL ds = some ps → Dp ε.K H v (.list ps) ∨ Dp ε.K H v (.tuple ps) := by
  rcases e with rfl | rfl
  · obtain ⟨a, vs, rfl, h1, h2⟩ := h.tup
    exact ⟨a, vs, rfl, .inr h1, h2, fun ps e => .inr (.tup h1 (h2.dp e))⟩
  · obtain ⟨a, vs, rfl, h1, h2⟩ := h.lst
    exact ⟨a, vs, rfl, .inl h1.sq, h2, fun ps e => .inl (.lst h1.sq (h2.dp e))⟩
theorem in_read (hK : ε.K = X.K) {φ : List Addr} {H : Hp} {x y : V} {c d : D} {ds : List D} {k neg : Bool} {Q : VK} (hc : Vw ε φ H x c) (hd : Vw ε φ H y d) (e : d = .tup ds ∨ d = .lst ds) (ei : inD c ds = some k)
    (q : Q (.bl (if neg then !k else k)) H) : rIn X.K neg x y H Q ∨ rInA X.K neg x y H Q := by
  obtain ⟨a, vs, rfl, h1, h2, h3⟩ := hd.seq e
  rcases inD_cases ei with ⟨f, g, rfl⟩ | ⟨p, ps, e1, e2, s1, s2, rfl⟩
  · have hx : Enc ε φ H x c := hc.enc (fun es z => by rw [z] at f; simp [D.flat] at f)
    refine .inl ⟨a, vs, rfl, by rw [← hK]; exact h1, hc.flat f, h2.flatAll g, ?_⟩
    rw [h2.anyEq hx f g]
    exact q
  · exact .inr ⟨p, ps, by rw [← hK]; exact hc.dp e1, by rw [← hK]; exact h3 ps e2, s1, s2, q⟩
theorem op_inDD (hK : ε.K = X.K) (hu : X.A.units + 65 < cLine) : OpR X (compareOp .In) (rP2 ε (cmpD .In)) := by
  refine OpR.imp (op_in_seq.or ((op_inA hu).or op_in_str)) fun x y H Q h => ?_
  obtain ⟨φ, c, d, z, hc, hd, e, q⟩ := h
  have key : ∀ ds, d = .tup ds ∨ d = .lst ds → (inD c ds).map D.bl = some z → rIn X.K false x y H Q ∨ rInA X.K false x y H Q := fun ds ed ei => by
    simp only [Option.map_eq_some_iff] at ei
    obtain ⟨k, e1, rfl⟩ := ei
    exact in_read hK hc hd ed e1 (q _ _ Ex.refl (.bl k))
  cases d with
  | tup ds =>
    have e : (inD c ds).map D.bl = some z := by cases c <;> exact e
    exact (key ds (.inl rfl) e).imp id .inl
  | lst ds =>
    have e : (inD c ds).map D.bl = some z := by cases c <;> exact e
    exact (key ds (.inr rfl) e).imp id .inl
  | str w =>
    cases c <;> (first | (exfalso; simp [cmpD] at e; done) | skip)
    simp only [cmpD, Option.some.injEq] at e
    subst e
    exact .inr (.inr ⟨_, _, hc.str, hd.str, q _ _ Ex.refl (.bl _)⟩)
  | _ => exfalso; cases c <;> simp [cmpD] at e
theorem op_notInDD (hK : ε.K = X.K) (hu : X.A.units + 65 < cLine) : OpR X (compareOp .NotIn) (rP2 ε (cmpD .NotIn)) := by
  refine OpR.imp (op_notIn_seq.or ((op_notInA hu).or L2.op_notIn_str)) fun x y H Q h => ?_
  obtain ⟨φ, c, d, z, hc, hd, e, q⟩ := h
  have key : ∀ ds, d = .tup ds ∨ d = .lst ds → (inD c ds).map (fun k => D.bl !k) = some z → rIn X.K true x y H Q ∨ rInA X.K true x y H Q := fun ds ed ei => by
    simp only [Option.map_eq_some_iff] at ei
    obtain ⟨k, e1, rfl⟩ := ei
    exact in_read hK hc hd ed e1 (q _ _ Ex.refl (.bl _))
  cases d with
  | tup ds =>
    have e : (inD c ds).map (fun k => D.bl !k) = some z := by cases c <;> exact e
    exact (key ds (.inl rfl) e).imp id .inl
  | lst ds =>
    have e : (inD c ds).map (fun k => D.bl !k) = some z := by cases c <;> exact e
    exact (key ds (.inr rfl) e).imp id .inl
  | str w =>
    cases c <;> (first | (exfalso; simp [cmpD] at e; done) | skip)
    simp only [cmpD, Option.some.injEq] at e
    subst e
    exact .inr (.inr ⟨_, _, hc.str, hd.str, q _ _ Ex.refl (.bl _)⟩)
  | _ => exfalso; cases c <;> simp [cmpD] at e
theorem intsD_ok {φ : List Addr} {H : Hp} : ∀ {ds : List D} {vs : List V} {ns : List Int}, EncL ε φ H vs ds → intsD ds = some ns → vs = ns.map V.int
  | [], _, _, h, e => by cases h; simp [intsD] at e; subst e; rfl
  | d :: ds, _, _, h, e => by
    cases h with
    | cons q r =>
      cases d <;> (first | (exfalso; simp [intsD] at e; done) | skip)
      simp only [intsD, Option.map_eq_some_iff] at e
      obtain ⟨ms, e, rfl⟩ := e
      cases q
      rw [intsD_ok r e]; rfl
theorem boolsD_ok {φ : List Addr} {H : Hp} : ∀ {ds : List D} {vs : List V} {ns : List Bool}, EncL ε φ H vs ds → boolsD ds = some ns → vs = ns.map V.bl
  | [], _, _, h, e => by cases h; simp [boolsD] at e; subst e; rfl
  | d :: ds, _, _, h, e => by
    cases h with
    | cons q r =>
      cases d <;> (first | (exfalso; simp [boolsD] at e; done) | skip)
      simp only [boolsD, Option.map_eq_some_iff] at e
      obtain ⟨ms, e, rfl⟩ := e
      cases q
      rw [boolsD_ok r e]; rfl
theorem op_ltDD (hK : ε.K = X.K) (hu : X.A.units < cLine) : OpR X (compareOp .Lt) (rP2 ε (cmpD .Lt)) := by
  refine OpR.imp (op_lt.or (op_lt_str.or (op_ltT hu))) fun x y H Q h => ?_
  obtain ⟨φ, c, d, z, hc, hd, e, q⟩ := h
  cases c <;> cases d <;> (first | (exfalso; simp [cmpD] at e; done) | skip)
  · simp only [cmpD, Option.some.injEq] at e
    subst e
    exact .inl ⟨_, _, hc.int, hd.int, q _ _ Ex.refl (.bl _)⟩
  · simp only [cmpD, Option.some.injEq] at e
    subst e
    exact .inr (.inl ⟨_, _, hc.str, hd.str, q _ _ Ex.refl (.bl _)⟩)
  · simp only [cmpD] at e
    split at e
    · rename_i ns ms e1 e2
      cases e
      obtain ⟨a, vs, rfl, h1, h2⟩ := hc.tup
      obtain ⟨b, ws, rfl, k1, k2⟩ := hd.tup
      rw [intsD_ok h2 e1, hK] at h1
      rw [intsD_ok k2 e2, hK] at k1
      exact .inr (.inr ⟨a, b, ns, ms, rfl, rfl, h1, k1, q _ _ Ex.refl (.bl _)⟩)
    · cases e
theorem op_leDD : OpR X (compareOp .LtE) (rP2 ε (cmpD .LtE)) := by
  refine OpR.imp (op_le.or op_le_str) fun x y H Q h => ?_
  obtain ⟨φ, c, d, z, hc, hd, e, q⟩ := h
  cases c <;> cases d <;> (first | (exfalso; simp [cmpD] at e; done) | skip)
  · simp only [cmpD, Option.some.injEq] at e
    subst e
    exact .inl ⟨_, _, hc.int, hd.int, q _ _ Ex.refl (.bl _)⟩
  · simp only [cmpD, Option.some.injEq] at e
    subst e
    exact .inr ⟨_, _, hc.str, hd.str, q _ _ Ex.refl (.bl _)⟩
theorem op_gtDD : OpR X (compareOp .Gt) (rP2 ε (cmpD .Gt)) := by
  refine OpR.imp op_gt fun x y H Q h => ?_
  obtain ⟨φ, c, d, z, hc, hd, e, q⟩ := h
  cases c <;> cases d <;> (first | (exfalso; simp [cmpD] at e; done) | skip)
  simp only [cmpD, Option.some.injEq] at e
  subst e
  exact ⟨_, _, hc.int, hd.int, q _ _ Ex.refl (.bl _)⟩
theorem op_geDD : OpR X (compareOp .GtE) (rP2 ε (cmpD .GtE)) := by
  refine OpR.imp op_ge fun x y H Q h => ?_
  obtain ⟨φ, c, d, z, hc, hd, e, q⟩ := h
  cases c <;> cases d <;> (first | (exfalso; simp [cmpD] at e; done) | skip)
  simp only [cmpD, Option.some.injEq] at e
  subst e
  exact ⟨_, _, hc.int, hd.int, q _ _ Ex.refl (.bl _)⟩
theorem Vw.isNon {φ : List Addr} {H : Hp} {x : V} {c : D} (h : Vw ε φ H x c) : decide (x = .non) = (match c with | .non => true | _ => false) := by
  rcases h with h | ⟨a, vs, ds, rfl, rfl, _⟩
  · cases h <;> rfl
  · rfl
theorem op_isDD : OpR X (compareOp .Is) (rP2 ε (cmpD .Is)) := by
  refine OpR.imp op_isN fun x y H Q h => ?_
  obtain ⟨φ, c, d, z, hc, hd, e, q⟩ := h
  cases d <;> (first | (exfalso; cases c <;> simp [cmpD] at e; done) | skip)
  refine ⟨hd.non, ?_⟩
  rw [hc.isNon]
  cases c <;> (simp only [cmpD, Option.some.injEq] at e; subst e; exact q _ _ Ex.refl (.bl _))
theorem op_isNotDD : OpR X (compareOp .IsNot) (rP2 ε (cmpD .IsNot)) := by
  refine OpR.imp op_notN fun x y H Q h => ?_
  obtain ⟨φ, c, d, z, hc, hd, e, q⟩ := h
  cases d <;> (first | (exfalso; cases c <;> simp [cmpD] at e; done) | skip)
  refine ⟨hd.non, ?_⟩
  rw [hc.isNon]
  cases c <;> (simp only [cmpD, Option.some.injEq] at e; subst e; exact q _ _ Ex.refl (.bl _))
theorem op_cmpD (hK : ε.K = X.K) (hu : X.A.units + 65 < cLine) : ∀ op : CmpOp, OpR X (compareOp op) (rP2 ε (cmpD op))
  | .Eq => op_eqDD hK (by omega)
  | .NotEq => op_neDD hK (by omega)
  | .Lt => op_ltDD hK (by omega)
  | .LtE => op_leDD
  | .Gt => op_gtDD
  | .GtE => op_geDD
  | .Is => op_isDD
  | .IsNot => op_isNotDD
  | .In => op_inDD hK hu
  | .NotIn => op_notInDD hK hu

/-! ### items, the built-in functions -/
theorem Enc.atI {φ : List Addr} {H : Hp} {vs : List V} {ds : List D} {i : Int} {d : D} (h : EncL ε φ H vs ds) (e : L2.atI ds i = some d) : ∃ v, L2.atI vs i = some v ∧ Enc ε φ H v d := by
  unfold L2.atI at e ⊢
  rw [h.length]
  cases ej : ixN ds.length i with
  | none => rw [ej] at e; cases e
  | some j =>
    rw [ej] at e
    obtain ⟨v, h1, h2⟩ := h.get (show ds[j]? = some d from e)
    exact ⟨v, h1, h2⟩
theorem ix_DD (hK : ε.K = X.K) : IxR X (rP2 ε ixD) := by
  refine IxR.imp ix_seq fun x y H Q h => ?_
  obtain ⟨φ, c, d, z, hc, hd, e, q⟩ := h
  cases c <;> cases d <;> (first | (exfalso; simp [ixD] at e; done) | skip)
  · simp only [ixD] at e
    split at e
    · rename_i hz
      simp only [Option.map_eq_some_iff] at e
      obtain ⟨k, e, rfl⟩ := e
      exact .inr (.inr ⟨_, _, k, hc.str, hd.int, hz, e, q _ _ Ex.refl (.str _)⟩)
    · cases e
  · simp only [ixD] at e
    obtain ⟨a, vs, rfl, h1, h2⟩ := hc.tup
    obtain ⟨v, e1, e2⟩ := Enc.atI h2 e
    exact .inr (.inl ⟨a, vs, _, v, rfl, hd.int, by rw [← hK]; exact h1, e1, q _ _ Ex.refl e2⟩)
  · simp only [ixD] at e
    obtain ⟨a, vs, rfl, h1, h2⟩ := hc.lst
    obtain ⟨v, e1, e2⟩ := Enc.atI h2 e
    exact .inl ⟨a, vs, _, v, rfl, hd.int, hK ▸ h1.sq, e1, q _ _ Ex.refl e2⟩
/-- operands -/
def rPL (ε : Ev) (p : P) : List V → Hp → VK → Prop := fun xs H Q => ∃ φ ds z, VwL ε φ H xs ds ∧ primD p ds = some z ∧ ∀ v H', Ex H H' → Enc ε φ H' v z → Q v H'
theorem VwL.one {φ : List Addr} {H : Hp} {xs : List V} {d : D} (h : VwL ε φ H xs [d]) : ∃ x, xs = [x] ∧ Vw ε φ H x d := by
  cases h with | cons q r => cases r; exact ⟨_, rfl, q⟩
theorem VwL.two {φ : List Addr} {H : Hp} {xs : List V} {c d : D} (h : VwL ε φ H xs [c, d]) : ∃ x y, xs = [x, y] ∧ Vw ε φ H x c ∧ Vw ε φ H y d := by
  cases h with | cons q r => cases r with | cons q2 r => cases r; exact ⟨_, _, rfl, q, q2⟩

section inv
variable {ds : List D} {z : D}
theorem inv_neg (e : primD .neg ds = some z) : ∃ i, ds = [.int i] ∧ z = .int (-i) := by
  rcases ds with _ | ⟨d, _ | _⟩ <;> (try cases d) <;> (first | (simp [primD] at e; done) | skip)
  cases e; exact ⟨_, rfl, rfl⟩
theorem inv_len (e : primD .len ds = some z) : (∃ es, ds = [.tup es] ∧ z = .int es.length) ∨ (∃ es, ds = [.lst es] ∧ z = .int es.length) ∨ ∃ x, ds = [.str x] ∧ x.length ≤ sizeLine ∧ z = .int x.length := by
  rcases ds with _ | ⟨d, _ | _⟩ <;> (try cases d) <;> (first | (simp [primD] at e; done) | skip)
  · simp only [primD] at e
    split at e
    · cases e; exact .inr (.inr ⟨_, rfl, by assumption, rfl⟩)
    · cases e
  · cases e; exact .inl ⟨_, rfl, rfl⟩
  · cases e; exact .inr (.inl ⟨_, rfl, rfl⟩)
theorem inv_abs (e : primD .abs ds = some z) : ∃ i, ds = [.int i] ∧ z = .int (if i < 0 then -i else i) := by
  rcases ds with _ | ⟨d, _ | _⟩ <;> (try cases d) <;> (first | (simp [primD] at e; done) | skip)
  cases e; exact ⟨_, rfl, rfl⟩
theorem inv_int (e : primD .int ds = some z) : ((∃ i, ds = [.int i] ∧ z = .int i) ∨ ∃ b, ds = [.bl b] ∧ z = .int (if b then 1 else 0)) ∨ ∃ a n, ds = [.str a] ∧ PySem.intText? a = some n ∧ a.length ≤ 640 ∧ z = .int n := by
  rcases ds with _ | ⟨d, _ | _⟩ <;> (try cases d) <;> (first | (simp [primD] at e; done) | skip)
  · cases e; exact .inl (.inr ⟨_, rfl, rfl⟩)
  · cases e; exact .inl (.inl ⟨_, rfl, rfl⟩)
  · simp only [primD] at e
    split at e
    · obtain ⟨n, h1, h2⟩ := Option.map_eq_some_iff.mp e
      exact .inr ⟨_, n, rfl, h1, by assumption, h2.symm⟩
    · cases e
theorem inv_str (e : primD .str ds = some z) : ∃ i, ds = [.int i] ∧ i.natAbs.log2 < 1920 ∧ z = .str (toString i) := by
  rcases ds with _ | ⟨d, _ | _⟩ <;> (try cases d) <;> (first | (simp [primD] at e; done) | skip)
  simp only [primD] at e
  split at e
  · cases e; exact ⟨_, rfl, by assumption, rfl⟩
  · cases e
theorem inv_ord (e : primD .ord ds = some z) : ∃ i, ds = [.str i] ∧ i.length = 1 ∧ z = .int (i.cps.getD 0 0 : Nat) := by
  rcases ds with _ | ⟨d, _ | _⟩ <;> (try cases d) <;> (first | (simp [primD] at e; done) | skip)
  simp only [primD] at e
  split at e
  · cases e; exact ⟨_, rfl, by assumption, rfl⟩
  · cases e
theorem inv_min (e : primD .min ds = some z) : ∃ i j, ds = [.int i, .int j] ∧ z = .int (if j < i then j else i) := by
  rcases ds with _ | ⟨d, _ | ⟨d2, _ | _⟩⟩ <;> (try cases d) <;> (try cases d2) <;> (first | (simp [primD] at e; done) | skip)
  cases e; exact ⟨_, _, rfl, rfl⟩
theorem inv_max (e : primD .max ds = some z) : ∃ i j, ds = [.int i, .int j] ∧ z = .int (if j > i then j else i) := by
  rcases ds with _ | ⟨d, _ | ⟨d2, _ | _⟩⟩ <;> (try cases d) <;> (try cases d2) <;> (first | (simp [primD] at e; done) | skip)
  cases e; exact ⟨_, _, rfl, rfl⟩
theorem inv_all (e : primD .all ds = some z) : ∃ es bs, ds = [.lst es] ∧ boolsD es = some bs ∧ z = .bl (bs.all id) := by
  rcases ds with _ | ⟨d, _ | _⟩ <;> (try cases d) <;> (first | (simp [primD] at e; done) | skip)
  simp only [primD, Option.map_eq_some_iff] at e
  obtain ⟨bs, e1, rfl⟩ := e
  exact ⟨_, bs, rfl, e1, rfl⟩
theorem inv_any (e : primD .any ds = some z) : ∃ es bs, ds = [.lst es] ∧ boolsD es = some bs ∧ z = .bl (bs.any id) := by
  rcases ds with _ | ⟨d, _ | _⟩ <;> (try cases d) <;> (first | (simp [primD] at e; done) | skip)
  simp only [primD, Option.map_eq_some_iff] at e
  obtain ⟨bs, e1, rfl⟩ := e
  exact ⟨_, bs, rfl, e1, rfl⟩
theorem inv_sum (e : primD .sum ds = some z) : ∃ es bs, ds = [.lst es] ∧ intsD es = some bs ∧ z = .int bs.sum := by
  rcases ds with _ | ⟨d, _ | _⟩ <;> (try cases d) <;> (first | (simp [primD] at e; done) | skip)
  simp only [primD, Option.map_eq_some_iff] at e
  obtain ⟨bs, e1, rfl⟩ := e
  exact ⟨_, bs, rfl, e1, rfl⟩
theorem inv_tuple (e : primD .tuple ds = some z) : ∃ es, (ds = [.lst es] ∨ ds = [.tup es]) ∧ z = .tup es := by
  rcases ds with _ | ⟨d, _ | _⟩ <;> (try cases d) <;> (first | (simp [primD] at e; done) | skip)
  · cases e; exact ⟨_, .inr rfl, rfl⟩
  · cases e; exact ⟨_, .inl rfl, rfl⟩
theorem inv_isi (e : primD .isi ds = some z) : ∃ c T b, ds = [c, .ty T] ∧ isiD c T = some b ∧ z = .bl b := by
  rcases ds with _ | ⟨d, _ | ⟨d2, _ | _⟩⟩ <;> (try cases d2) <;> (first | (simp [primD] at e; done) | skip)
  simp only [primD, Option.map_eq_some_iff] at e
  obtain ⟨bs, e1, rfl⟩ := e
  exact ⟨_, _, bs, rfl, e1, rfl⟩
theorem inv_repr (e : primD .repr ds = some z) : ∃ c x, ds = [c] ∧ reprD c = some x ∧ z = .str x := by
  rcases ds with _ | ⟨d, _ | _⟩ <;> (first | (simp [primD] at e; done) | skip)
  simp only [primD, Option.map_eq_some_iff] at e
  obtain ⟨bs, e1, rfl⟩ := e
  exact ⟨_, bs, rfl, e1, rfl⟩
end inv
theorem un_negD : UnR X (unaryOp .USub) (fun x H Q => rPL ε .neg [x] H Q) := by
  intro pins s σ H x v Q I rx h
  obtain ⟨φ, ds, z, hs, e, q⟩ := h
  have inv := inv_neg e
  obtain ⟨i, rfl, rfl⟩ := inv
  obtain ⟨y, ey, hy⟩ := hs.one
  cases ey
  exact un_neg pins s σ H x v Q I rx ⟨i, hy.int, q _ _ Ex.refl (.int _)⟩
theorem call_lenD (hK : ε.K = X.K) : CallR X (.builtin "len") (rPL ε .len) := by
  refine CallR.imp call_len fun xs H Q h => ?_
  obtain ⟨φ, ds, z, hs, e, q⟩ := h
  have inv := inv_len e
  rcases inv with ⟨es, rfl, rfl⟩ | ⟨es, rfl, rfl⟩ | ⟨y, rfl, hz, rfl⟩
  · obtain ⟨x, rfl, hx⟩ := hs.one
    obtain ⟨a, vs, rfl, h1, h2⟩ := hx.tup
    exact ⟨_, es.length, rfl, .inr ⟨vs, by rw [← hK]; exact h1, h2.length.symm⟩, q _ _ Ex.refl (.int _)⟩
  · obtain ⟨x, rfl, hx⟩ := hs.one
    obtain ⟨a, vs, rfl, h1, h2⟩ := hx.lst
    exact ⟨_, es.length, rfl, .inl ⟨vs, hK ▸ h1.sq, h2.length.symm⟩, q _ _ Ex.refl (.int _)⟩
  · obtain ⟨x, rfl, hx⟩ := hs.one
    rw [hx.str]
    exact ⟨_, y.length, rfl, ⟨hz, rfl⟩, q _ _ Ex.refl (.int _)⟩
theorem call_absD : CallR X (.builtin "abs") (rPL ε .abs) := by
  refine CallR.imp call_abs fun xs H Q h => ?_
  obtain ⟨φ, ds, z, hs, e, q⟩ := h
  have inv := inv_abs e
  obtain ⟨i, rfl, rfl⟩ := inv
  obtain ⟨x, rfl, hx⟩ := hs.one
  rw [hx.int]
  exact ⟨i, rfl, q _ _ Ex.refl (.int _)⟩
theorem call_intD : CallR X (.type "int") (rPL ε .int) := by
  refine CallR.imp (CallR.or call_int1 call_int_str) fun xs H Q h => ?_
  obtain ⟨φ, ds, z, hs, e, q⟩ := h
  have inv := inv_int e
  rcases inv with (⟨i, rfl, rfl⟩ | ⟨i, rfl, rfl⟩) | ⟨a, n, rfl, h1, h2, rfl⟩
  · obtain ⟨x, rfl, hx⟩ := hs.one
    rw [hx.int]
    exact .inl (.inl ⟨i, rfl, q _ _ Ex.refl (.int _)⟩)
  · obtain ⟨x, rfl, hx⟩ := hs.one
    rw [hx.bl]
    exact .inl (.inr ⟨i, rfl, q _ _ Ex.refl (.int _)⟩)
  · obtain ⟨x, rfl, hx⟩ := hs.one
    rw [hx.str]
    exact .inr ⟨a, n, rfl, h1, h2, q _ _ Ex.refl (.int _)⟩
theorem call_strD : CallR X (.type "str") (rPL ε .str) := by
  refine CallR.imp call_str_int fun xs H Q h => ?_
  obtain ⟨φ, ds, z, hs, e, q⟩ := h
  obtain ⟨i, rfl, h1, rfl⟩ := inv_str e
  obtain ⟨x, rfl, hx⟩ := hs.one
  rw [hx.int]
  exact ⟨i, rfl, h1, q _ _ Ex.refl (.str _)⟩
theorem call_ordD : CallR X (.builtin "ord") (rPL ε .ord) := by
  refine CallR.imp call_ord fun xs H Q h => ?_
  obtain ⟨φ, ds, z, hs, e, q⟩ := h
  have inv := inv_ord e
  obtain ⟨i, rfl, hz, rfl⟩ := inv
  obtain ⟨x, rfl, hx⟩ := hs.one
  rw [hx.str]
  exact ⟨i, rfl, hz, q _ _ Ex.refl (.int _)⟩
theorem call_min2D (hc : X.calm = true) : CallR X (.builtin "min") (rPL ε .min) := by
  refine CallR.imp (call_min2 hc) fun xs H Q h => ?_
  obtain ⟨φ, ds, z, hs, e, q⟩ := h
  have inv := inv_min e
  obtain ⟨i, j, rfl, rfl⟩ := inv
  obtain ⟨x, y, rfl, hx, hy⟩ := hs.two
  rw [hx.int, hy.int]
  exact ⟨i, j, rfl, q _ _ Ex.refl (.int _)⟩
theorem call_max2D (hc : X.calm = true) : CallR X (.builtin "max") (rPL ε .max) := by
  refine CallR.imp (call_max2 hc) fun xs H Q h => ?_
  obtain ⟨φ, ds, z, hs, e, q⟩ := h
  have inv := inv_max e
  obtain ⟨i, j, rfl, rfl⟩ := inv
  obtain ⟨x, y, rfl, hx, hy⟩ := hs.two
  rw [hx.int, hy.int]
  exact ⟨i, j, rfl, q _ _ Ex.refl (.int _)⟩
theorem call_allD (hK : ε.K = X.K) (hc : X.calm = true) : CallR X (.builtin "all") (rPL ε .all) := by
  refine CallR.imp (cr_all hc) fun xs H Q h => ?_
  obtain ⟨φ, ds, z, hs, e, q⟩ := h
  have inv := inv_all e
  obtain ⟨es, bs, rfl, eb, rfl⟩ := inv
  obtain ⟨x, rfl, hx⟩ := hs.one
  obtain ⟨a, vs, rfl, h1, h2⟩ := hx.lst
  rw [boolsD_ok h2 eb] at h1
  exact ⟨a, bs, rfl, hK ▸ h1.sq, q _ _ Ex.refl (.bl _)⟩
theorem call_anyD (hK : ε.K = X.K) (hc : X.calm = true) : CallR X (.builtin "any") (rPL ε .any) := by
  refine CallR.imp (cr_any hc) fun xs H Q h => ?_
  obtain ⟨φ, ds, z, hs, e, q⟩ := h
  have inv := inv_any e
  obtain ⟨es, bs, rfl, eb, rfl⟩ := inv
  obtain ⟨x, rfl, hx⟩ := hs.one
  obtain ⟨a, vs, rfl, h1, h2⟩ := hx.lst
  rw [boolsD_ok h2 eb] at h1
  exact ⟨a, bs, rfl, hK ▸ h1.sq, q _ _ Ex.refl (.bl _)⟩
theorem call_sumD (hK : ε.K = X.K) (hc : X.calm = true) : CallR X (.builtin "sum") (rPL ε .sum) := by
  refine CallR.imp (cr_sum hc) fun xs H Q h => ?_
  obtain ⟨φ, ds, z, hs, e, q⟩ := h
  have inv := inv_sum e
  obtain ⟨es, bs, rfl, eb, rfl⟩ := inv
  obtain ⟨x, rfl, hx⟩ := hs.one
  obtain ⟨a, vs, rfl, h1, h2⟩ := hx.lst
  rw [intsD_ok h2 eb] at h1
  exact ⟨a, bs, rfl, hK ▸ h1.sq, q _ _ Ex.refl (.int _)⟩
theorem call_tupleD (hK : ε.K = X.K) : CallR X (.type "tuple") (rPL ε .tuple) := by
  refine CallR.imp call_tuple_of fun xs H Q h => ?_
  obtain ⟨φ, ds, z, hs, e, q⟩ := h
  have inv := inv_tuple e
  obtain ⟨es, hd | hd, rfl⟩ := inv
  · subst hd
    obtain ⟨x, rfl, hx⟩ := hs.one
    obtain ⟨a, vs, rfl, h1, h2⟩ := hx.lst
    refine ⟨a, vs, rfl, .inl ⟨hK ▸ h1.sq, fun l hl => ?_⟩⟩
    have g : Ex H (upd H l (.tup vs)) := Ex.new hl
    exact q _ _ g (.tup (SqT.of upd_same) (h2.grow g.grow))
  · subst hd
    obtain ⟨x, rfl, hx⟩ := hs.one
    obtain ⟨a, vs, rfl, h1, h2⟩ := hx.tup
    exact ⟨a, vs, rfl, .inr ⟨by rw [← hK]; exact h1, q _ _ Ex.refl (.tup h1 h2)⟩⟩
/-- how isinstance sees it -/
theorem Vw.tyX {φ : List Addr} {H : Hp} {x : V} {c : D} {b : Bool} {T : String} (h : Vw ε φ H x c) (e : isiD c T = some b) : ∃ t, TyX ε.K H x t ∧ PySem.W.kitOne ε.K t (.type T) = some b := by
  have go : ∀ {n : String}, kitB n T = some b → PySem.W.kitOne ε.K (.type n) (.type T) = some b := fun h => kit_ty h
  have dec : ∃ n, kitB n T = some b ∧ tyN c = some n := by
    unfold isiD at e
    split at e
    · subst T; cases c <;> (first | (simp [tyN] at e; done) | skip) <;> (cases e; exact ⟨_, by decide +kernel, rfl⟩)
    · split at e
      · subst T; cases c <;> (first | (simp [tyN] at e; done) | skip) <;> (cases e; exact ⟨_, by decide +kernel, rfl⟩)
      · split at e
        · subst T; cases c <;> (first | (simp [tyN] at e; done) | skip) <;> (cases e; exact ⟨_, by decide +kernel, rfl⟩)
        · split at e
          · subst T; cases c <;> (first | (simp [tyN] at e; done) | skip) <;> (cases e; exact ⟨_, by decide +kernel, rfl⟩)
          · cases e
  obtain ⟨n, hn, hc⟩ := dec
  cases c <;> (first | (simp [tyN] at hc; done) | skip) <;> (simp only [tyN, Option.some.injEq] at hc; subst hc)
  case non => rw [h.non]; exact ⟨_, .base .non, go hn⟩
  case bl k => rw [h.bl]; exact ⟨_, .base (.bl k), go hn⟩
  case int k => rw [h.int]; exact ⟨_, .base (.int k), go hn⟩
  case str k => rw [h.str]; exact ⟨_, .base (.str k), go hn⟩
  case tup ds =>
    obtain ⟨a, vs, rfl, h1, h2⟩ := h.tup
    rcases h1 with (h1 | ⟨o, h1⟩) | ⟨o, its, m, h1, h3, _⟩
    · exact ⟨_, .base (.tup h1), go hn⟩
    · exact ⟨_, .fTuple h1, go hn⟩
    · exact ⟨_, .kTuple h1 h3, go hn⟩
  case lst ds =>
    obtain ⟨a, vs, rfl, h1, h2⟩ := h.lst
    rcases h1 with (h1 | ⟨o, h1⟩) | ⟨its, n, h1, _⟩
    · exact ⟨_, .base (.lst h1), go hn⟩
    · exact ⟨_, .base (.frz h1), go hn⟩
    · exact ⟨_, .kList h1 rfl, go hn⟩
theorem call_isiD (hK : ε.K = X.K) : CallR X (.builtin "isinstance") (rPL ε .isi) := by
  refine CallR.imp call_isi fun xs H Q h => ?_
  obtain ⟨φ, ds, z, hs, e, q⟩ := h
  have inv := inv_isi e
  obtain ⟨c, T, b, rfl, eb, rfl⟩ := inv
  obtain ⟨x, y, rfl, hx, hy⟩ := hs.two
  rw [hy.ty]
  obtain ⟨t, h1, h2⟩ := hx.tyX eb
  exact ⟨x, .ty T, t, .type T, b, rfl, .ty T, by rw [← hK]; exact h1, by rw [← hK]; exact h2, q _ _ Ex.refl (.bl _)⟩
theorem call_reprD (hK : ε.K = X.K) (hg : X.A.guards = some []) (hu : X.A.units + 66 < cLine) : CallR X (.builtin "repr") (rPL ε .repr) := by
  intro pins s σ H xs us Q I r h
  obtain ⟨φ, ds, z, hs, e, q⟩ := h
  have inv := inv_repr e
  obtain ⟨c, x, rfl, er, rfl⟩ := inv
  obtain ⟨y, rfl, hy⟩ := hs.one
  obtain ⟨u, rfl, ru⟩ := vals1 r
  have q : Q (.str x) H := q _ _ Ex.refl (.str _)
  unfold reprD at er
  split at er
  · rename_i p ep
    split at er
    · rename_i hp
      simp only [Bool.and_eq_true, decide_eq_true_eq, Bool.not_eq_true'] at hp
      obtain ⟨⟨⟨h1, h2⟩, h3⟩, h4⟩ := hp
      cases er
      have dp := hy.dp ep
      rw [hK] at dp
      have fin : ∀ tk, EP X pins σ Q (.str p.shown s.toks) { s with toks := tk } := fun tk => ⟨.str _, H, I.tok _, ⟨_, rfl⟩, q⟩
      have fin2 : ∀ (h' : Heap) (t tk : Tok), (∀ b o, s.heap.get? b = some o → h'.get? b = some o) → EP X pins σ Q (.str p.shown t) { s with heap := h', toks := tk } := fun h' t tk kp => ⟨.str _, H, I.kept kp, ⟨_, rfl⟩, q⟩
      cases dp with
      | non => cases ru; exact PySem.P.repr_of_none (fin _)
      | bl b => cases ru; exact PySem.P.repr_of_bool (fin _)
      | int i => obtain ⟨t, rfl⟩ := ru; exact PySem.P.repr_of_int (by simpa [PyData.showable] using h1) (fin _)
      | str w => obtain ⟨t, rfl⟩ := ru; exact PySem.P.repr_of_str (fin _) h4
      | lst hq ha =>
        obtain ⟨as, rd⟩ := Dp.reads I _ _ u (.lst hq ha) ru
        cases ru
        exact repr_of_reads' rd h1 (PyData.noDict_hsm h2) hg (by omega) (fun _ _ e => e) (fun h' t tk kp => fin2 h' t tk kp) h4
      | tup hq ha =>
        obtain ⟨as, rd⟩ := Dp.reads I _ _ u (.tup hq ha) ru
        cases ru
        exact repr_of_reads' rd h1 (PyData.noDict_hsm h2) hg (by omega) (fun _ _ e => e) (fun h' t tk kp => fin2 h' t tk kp) h4
    · cases er
  · cases er
end
end FH
end
section
/-! FH3: states by plain data; how a step leaves them. -/
namespace FH
open PySem PySem.Spec PyProof.Rows L2

section
variable {ε : Ev} {φ φ' φ'' : List Addr} {H H' H'' : Hp} {μ μ' μ'' : Store}
/-- a dict's entries, an instance's fields -/
def EncK {κ : Type} (ε : Ev) (φ : List Addr) (H : Hp) : List (κ × V) → List (κ × D) → Prop := Paired fun p q => p.1 = q.1 ∧ Enc ε φ H p.2 q.2
theorem EncK.mono {κ : Type} (φ2 : List Addr) (g : Grow H H') {ks : List (κ × V)} {ds : List (κ × D)} (h : EncK ε φ H ks ds) : EncK ε (φ ++ φ2) H' ks ds :=
  Paired.mapP h fun _ _ q => ⟨q.1, q.2.mono φ2 g⟩
/-- what stands at a place that may change -/
inductive CellOk (ε : Ev) (φ : List Addr) (H : Hp) (a : Addr) : Cell → Prop
  | lst {vs : List V} {ds : List D} : H a = some (.lst vs) → EncL ε φ H vs ds → CellOk ε φ H a (.lst ds)
  | dic {ks : List (Key × V)} {ds : List (Key × D)} : H a = some (.dK ks) → EncK ε φ H ks ds → CellOk ε φ H a (.dic ds)
  | ins {c : Nat} {dx : Addr} {fs : List (Str × V)} {ds : List (Str × D)} : H a = some (.ins (ε.ca c) dx fs) → EncK ε φ H fs ds → CellOk ε φ H a (.ins c ds)
  | tup {o : Obj} {vs : List V} {ds : List D} : H a = some (.frz o (.tup vs)) → o.cls = .type "tuple" → o.dict = none → EncL ε φ H vs ds → CellOk ε φ H a (.tup ds)
theorem CellOk.there {a : Addr} {c : Cell} (h : CellOk ε φ H a c) : ∃ o, H a = some o := by cases h <;> exact ⟨_, by assumption⟩
theorem CellOk.mono {a : Addr} {c : Cell} (φ2 : List Addr) (g : Grow H H') (k : ∀ o, H a = some o → H' a = some o) (h : CellOk ε φ H a c) : CellOk ε (φ ++ φ2) H' a c := by
  cases h with
  | lst q r => exact .lst (k _ q) (r.mono φ2 g)
  | dic q r => exact .dic (k _ q) (r.mono φ2 g)
  | ins q r => exact .ins (k _ q) (r.mono φ2 g)
  | tup q c d r => exact .tup (k _ q) c d (r.mono φ2 g)
/-- the whole store -/
structure Sto (ε : Ev) (φ : List Addr) (μ : Store) (H : Hp) : Prop where
  len : φ.length = μ.length
  nd : φ.Nodup
  at_ : ∀ (n : Nat) (a : Addr) (c : Cell), φ[n]? = some a → μ[n]? = some c → CellOk ε φ H a c
theorem Sto.get (S : Sto ε φ μ H) {n : Nat} {c : Cell} (h : μ[n]? = some c) : ∃ a, φ[n]? = some a ∧ CellOk ε φ H a c := by
  have hn := (List.getElem?_eq_some_iff.mp h).1
  have hn' : n < φ.length := by rw [S.len]; exact hn
  exact ⟨φ[n], by simp [hn'], S.at_ n _ c (by simp [hn']) h⟩
theorem Sto.mem (S : Sto ε φ μ H) {a : Addr} (h : a ∈ φ) : ∃ (n : Nat) (c : Cell), φ[n]? = some a ∧ μ[n]? = some c ∧ CellOk ε φ H a c := by
  obtain ⟨n, hn, e⟩ := List.mem_iff_getElem.mp h
  have hn' : n < μ.length := by rw [← S.len]; exact hn
  exact ⟨n, μ[n], by simp [hn, e], by simp [hn'], S.at_ n a _ (by simp [hn, e]) (by simp [hn'])⟩
theorem Sto.there (S : Sto ε φ μ H) {a : Addr} (h : a ∈ φ) : ∃ o, H a = some o := by
  obtain ⟨n, c, _, _, q⟩ := S.mem h
  exact q.there
/-- what a step leaves: what may change is known as before and more; all else stays -/
structure Ext (φ : List Addr) (H : Hp) (φ' : List Addr) (H' : Hp) : Prop where
  more : ∃ φ2, φ' = φ ++ φ2 ∧ ∀ b ∈ φ2, H b = none
  grow : Grow H H'
  keep : ∀ b o, H b = some o → b ∉ φ → H' b = some o
  there : ∀ b, H b ≠ none → H' b ≠ none
theorem Ext.refl : Ext φ H φ H := ⟨⟨[], by simp, fun _ h => by simp at h⟩, .refl, fun _ _ h _ => h, fun _ h => h⟩
theorem Ext.trans (a : Ext φ H φ' H') (b : Ext φ' H' φ'' H'') : Ext φ H φ'' H'' := by
  obtain ⟨p2, rfl, f2⟩ := a.more
  obtain ⟨p3, rfl, f3⟩ := b.more
  have fr : ∀ c ∈ p3, H c = none := fun c hc => by
    cases e : H c with
    | none => rfl
    | some o => exact absurd (f3 c hc) (a.there c (by rw [e]; simp))
  refine ⟨⟨p2 ++ p3, by simp, fun c hc => ?_⟩, a.grow.trans b.grow, fun c o e n => ?_, fun c e => b.there c (a.there c e)⟩
  · rcases List.mem_append.mp hc with h | h
    · exact f2 c h
    · exact fr c h
  · refine b.keep c o (a.keep c o e n) fun z => ?_
    rcases List.mem_append.mp z with z | z
    · exact n z
    · rw [f2 c z] at e; cases e
theorem Ext.ex (h : Ex H H') : Ext φ H φ H' := ⟨⟨[], by simp, fun _ h => by simp at h⟩, h.grow, fun b o e _ => h b o e, fun b e z => e (by
  cases q : H b with
  | none => rfl
  | some o => rw [h b o q] at z; cases z)⟩
theorem Ext.enc (x : Ext φ H φ' H') {v : V} {d : D} (h : Enc ε φ H v d) : Enc ε φ' H' v d := by
  obtain ⟨p2, rfl, _⟩ := x.more
  exact h.mono p2 x.grow
theorem Ext.encL (x : Ext φ H φ' H') {v : List V} {d : List D} (h : EncL ε φ H v d) : EncL ε φ' H' v d := by
  obtain ⟨p2, rfl, _⟩ := x.more
  exact h.mono p2 x.grow
theorem Sto.ex (h : Ex H H') (S : Sto ε φ μ H) : Sto ε φ μ H' := ⟨S.len, S.nd, fun n a c e1 e2 => by
  have q := (S.at_ n a c e1 e2).mono [] h.grow fun o e => h a o e
  rwa [List.append_nil] at q⟩
/-- a step's end -/
structure Res (ε : Ev) (φ : List Addr) (H : Hp) (φ' : List Addr) (μ' : Store) (H' : Hp) : Prop where
  ext : Ext φ H φ' H'
  sto : Sto ε φ' μ' H'
theorem Res.refl (S : Sto ε φ μ H) : Res ε φ H φ μ H := ⟨.refl, S⟩
theorem Res.trans (a : Res ε φ H φ' μ' H') (b : Res ε φ' H' φ'' μ'' H'') : Res ε φ H φ'' μ'' H'' := ⟨a.ext.trans b.ext, b.sto⟩
theorem Res.ex (S : Sto ε φ μ H) (h : Ex H H') : Res ε φ H φ μ H' := ⟨.ex h, S.ex h⟩
/-- a new cell is laid -/
theorem Res.new {p : Addr} {o : HO} {c : Cell} (S : Sto ε φ μ H) (hp : H p = none) (hc : CellOk ε (φ ++ [p]) (upd H p o) p c) : Res ε φ H (φ ++ [p]) (μ ++ [c]) (upd H p o) := by
  have x : Ex H (upd H p o) := Ex.new hp
  refine ⟨⟨⟨[p], rfl, fun b hb => by rw [List.mem_singleton.mp hb]; exact hp⟩, x.grow, fun b u e _ => x b u e, (Ext.ex (φ := φ) x).there⟩, by simp [S.len], ?_, fun n a d e1 e2 => ?_⟩
  · refine List.nodup_append.mpr ⟨S.nd, by simp, fun a ha b hb => ?_⟩
    rw [List.mem_singleton.mp hb]
    rintro rfl
    obtain ⟨o, e⟩ := S.there ha
    rw [hp] at e; cases e
  · by_cases hn : n < φ.length
    · rw [List.getElem?_append_left hn] at e1
      rw [List.getElem?_append_left (by rw [← S.len]; exact hn)] at e2
      exact (S.at_ n a d e1 e2).mono [p] x.grow fun u e => x a u e
    · rw [List.getElem?_append_right (by omega)] at e1
      rw [List.getElem?_append_right (by rw [← S.len]; omega), ← S.len] at e2
      have h0 : n - φ.length = 0 := by
        have := (List.getElem?_eq_some_iff.mp e1).1
        simp at this; omega
      rw [h0] at e1 e2
      simp at e1 e2
      subst e1; subst e2
      exact hc
/-- a cell is changed -/
theorem Res.set {n : Nat} {a : Addr} {o : HO} {c : Cell} (S : Sto ε φ μ H) (ha : φ[n]? = some a) (nt : ∀ xs, H a ≠ some (.tup xs)) (nf : ∀ q u, H a ≠ some (.frz q u))
    (hc : CellOk ε φ (upd H a o) a c) : Res ε φ H φ (μ.set n c) (upd H a o) := by
  have g : Grow H (upd H a o) := ⟨fun b xs e => by rw [upd_ne (fun z => by rw [z] at e; exact nt _ e)]; exact e, fun b q u e => by rw [upd_ne (fun z => by rw [z] at e; exact nf _ _ e)]; exact e⟩
  refine ⟨⟨⟨[], by simp, fun _ h => by simp at h⟩, g, fun b u e nb => ?_, fun b e z => ?_⟩, by simp [S.len], S.nd, fun m b d e1 e2 => ?_⟩
  · rw [upd_ne (fun z => nb (by rw [z]; exact List.mem_of_getElem? ha))]; exact e
  · by_cases hb : b = a
    · rw [hb, upd_same] at z; cases z
    · rw [upd_ne hb] at z; exact e z
  · by_cases hm : m = n
    · subst hm
      rw [ha] at e1; cases e1
      have hl := (List.getElem?_eq_some_iff.mp e2).1
      rw [List.getElem?_set_self (by simpa using hl)] at e2
      cases e2
      exact hc
    · rw [List.getElem?_set_ne (Ne.symm hm)] at e2
      have hne : b ≠ a := by
        rintro rfl
        obtain ⟨h1, q1⟩ := List.getElem?_eq_some_iff.mp e1
        obtain ⟨h2, q2⟩ := List.getElem?_eq_some_iff.mp ha
        exact hm ((List.getElem_inj S.nd).mp (q1.trans q2.symm))
      have q := (S.at_ m b d e1 e2).mono [] g fun u e => by rw [upd_ne hne]; exact e
      rwa [List.append_nil] at q
theorem dk_noT {a : Addr} {ks : List (Key × V)} (h : H a = some (.dK ks)) : ∀ xs, H a ≠ some (.tup xs) := fun xs e => by rw [h] at e; cases e
theorem dk_noF {a : Addr} {ks : List (Key × V)} (h : H a = some (.dK ks)) : ∀ q u, H a ≠ some (.frz q u) := fun xs u e => by rw [h] at e; cases e

/-! ### the def's names -/
def SlotOk (ε : Ev) (φ : List Addr) (H : Hp) : Slot → Option V → Prop
  | .emp, _ => True
  | .val d, o => ∃ v, o = some v ∧ Enc ε φ H v d
  | .own c, o => ∃ a, o = some (.ref a) ∧ CellOk ε φ H a c
/-- where the lists and dicts stand that the def alone holds -/
def ownA : Slots → L2.St → List Addr
  | .own _ :: ρ, some (.ref a) :: σ => a :: ownA ρ σ
  | _ :: ρ, _ :: σ => ownA ρ σ
  | _, _ => []
structure Rel (ε : Ev) (φ : List Addr) (ρ : Slots) (μ : Store) (σ : L2.St) (H : Hp) : Prop where
  sto : Sto ε φ μ H
  slots : Paired (SlotOk ε φ H) ρ σ
  nd : (ownA ρ σ).Nodup
  dj : ∀ a ∈ ownA ρ σ, a ∉ φ
theorem ownA_cons {s : Slot} {o : Option V} {ρ : Slots} {σ : L2.St} {a : Addr} (h : a ∈ ownA ρ σ) : a ∈ ownA (s :: ρ) (o :: σ) := by
  cases s <;> cases o <;> (try (rename_i v; cases v)) <;> (first | exact h | exact List.mem_cons_of_mem _ h | skip)
  all_goals (first | (rename_i w _; cases w <;> first | exact h | exact List.mem_cons_of_mem _ h) | skip)
theorem ownA_there : ∀ {ρ : Slots} {σ : L2.St}, Paired (SlotOk ε φ H) ρ σ → ∀ a ∈ ownA ρ σ, ∃ o, H a = some o
  | _, _, .nil, a, h => by simp [ownA] at h
  | s :: ρ, o :: σ, .cons q r, a, h => by
    cases s with
    | own c =>
      obtain ⟨b, rfl, hb⟩ := q
      simp only [ownA, List.mem_cons] at h
      rcases h with rfl | h
      · exact hb.there
      · exact ownA_there r a h
    | emp => exact ownA_there r a (by simpa [ownA] using h)
    | val d => exact ownA_there r a (by simpa [ownA] using h)
theorem slots_step (x : Ext φ H φ' H') : ∀ {ρ : Slots} {σ : L2.St}, Paired (SlotOk ε φ H) ρ σ → (∀ a ∈ ownA ρ σ, a ∉ φ) → Paired (SlotOk ε φ' H') ρ σ
  | _, _, .nil, _ => .nil
  | s :: ρ, o :: σ, .cons q r, h => by
    refine .cons ?_ (slots_step x r fun a ha => h a (ownA_cons ha))
    cases s with
    | emp => trivial
    | val d => obtain ⟨v, rfl, e⟩ := q; exact ⟨v, rfl, x.enc e⟩
    | own c =>
      obtain ⟨a, rfl, e⟩ := q
      obtain ⟨p2, rfl, _⟩ := x.more
      exact ⟨a, rfl, e.mono p2 x.grow fun u z => x.keep a u z (h a (by simp [ownA]))⟩
theorem Rel.step {ρ : Slots} {σ : L2.St} (R : Rel ε φ ρ μ σ H) (x : Res ε φ H φ' μ' H') : Rel ε φ' ρ μ' σ H' := by
  refine ⟨x.sto, slots_step x.ext R.slots R.dj, R.nd, fun a ha z => ?_⟩
  obtain ⟨p2, rfl, f2⟩ := x.ext.more
  rcases List.mem_append.mp z with z | z
  · exact R.dj a ha z
  · obtain ⟨o, e⟩ := ownA_there R.slots a ha
    rw [f2 a z] at e; cases e
theorem Rel.slot {ρ : Slots} {σ : L2.St} (R : Rel ε φ ρ μ σ H) {i : Nat} {d : D} (h : slotD ρ i = some d) : ∃ v, σ[i]? = some (some v) ∧ Enc ε φ H v d := by
  unfold slotD at h
  split at h
  · rename_i e
    cases h
    obtain ⟨o, h1, h2⟩ := paired_get R.slots e
    obtain ⟨v, rfl, h3⟩ := h2
    exact ⟨v, h1, h3⟩
  · cases h
theorem ownA_get : ∀ {ρ : Slots} {σ : L2.St} {i : Nat} {c : Cell} {a : Addr}, ρ[i]? = some (.own c) → σ[i]? = some (some (.ref a)) → a ∈ ownA ρ σ
  | [], _, _, _, _, h, _ => by simp at h
  | s :: ρ, [], i, _, _, _, h => by simp at h
  | s :: ρ, o :: σ, 0, c, a, h, k => by simp at h k; subst h; subst k; simp [ownA]
  | s :: ρ, o :: σ, i + 1, c, a, h, k => ownA_cons (ownA_get (by simpa using h) (by simpa using k))
theorem Rel.own {ρ : Slots} {σ : L2.St} (R : Rel ε φ ρ μ σ H) {i : Nat} {c : Cell} (h : ρ[i]? = some (.own c)) : ∃ a, σ[i]? = some (some (.ref a)) ∧ CellOk ε φ H a c ∧ a ∉ φ ∧ a ∈ ownA ρ σ := by
  obtain ⟨o, h1, h2⟩ := paired_get R.slots h
  obtain ⟨a, rfl, h3⟩ := h2
  have m := ownA_get h h1
  exact ⟨a, h1, h3, R.dj a m, m⟩

/-! ### operands that are read at once -/
def ArgOk (ε : Ev) (φ : List Addr) (H : Hp) (v : V) (d : D) : Prop :=
  Enc ε φ H v d ∨ ∃ a vs ds, d = .lst ds ∧ v = .ref a ∧ H a = some (.lst vs) ∧ a ∉ φ ∧ EncL ε φ H vs ds
inductive ArgsOk (ε : Ev) (φ : List Addr) (H : Hp) : List V → List D → Prop
  | nil : ArgsOk ε φ H [] []
  | cons {v : V} {vs : List V} {d : D} {ds : List D} : ArgOk ε φ H v d → ArgsOk ε φ H vs ds → ArgsOk ε φ H (v :: vs) (d :: ds)
theorem ArgOk.step (x : Ext φ H φ' H') {v : V} {d : D} (h : ArgOk ε φ H v d) : ArgOk ε φ' H' v d := by
  rcases h with h | ⟨a, vs, ds, rfl, rfl, h1, h2, h3⟩
  · exact .inl (x.enc h)
  · refine .inr ⟨a, vs, ds, rfl, rfl, x.keep a _ h1 h2, fun z => ?_, x.encL h3⟩
    obtain ⟨p2, rfl, f2⟩ := x.more
    rcases List.mem_append.mp z with z | z
    · exact h2 z
    · rw [f2 a z] at h1; cases h1
theorem ArgOk.view (S : Sto ε φ μ H) {v : V} {d : D} (h : ArgOk ε φ H v d) : Vw ε φ H v (viewD μ d) := by
  rcases h with h | ⟨a, vs, ds, rfl, rfl, h1, h2, h3⟩
  · cases h with
    | ref q =>
      rename_i n a
      unfold viewD
      simp only
      split
      · rename_i ds e
        have c := S.at_ n a _ q e
        cases c with
        | lst c1 c2 => exact .inr ⟨a, _, _, rfl, rfl, .inl (.inl c1), c2⟩
      · exact .inl (.ref q)
    | _ => exact .inl (by unfold viewD; constructor <;> assumption)
  · exact .inr ⟨a, vs, ds, rfl, rfl, .inl (.inl h1), h3⟩
theorem ArgsOk.view (S : Sto ε φ μ H) : ∀ {vs : List V} {ds : List D}, ArgsOk ε φ H vs ds → VwL ε φ H vs (ds.map (viewD μ))
  | _, _, .nil => .nil
  | _, _, .cons h t => .cons (h.view S) (ArgsOk.view S t)
theorem ArgsOk.step (x : Ext φ H φ' H') : ∀ {vs : List V} {ds : List D}, ArgsOk ε φ H vs ds → ArgsOk ε φ' H' vs ds
  | _, _, .nil => .nil
  | _, _, .cons h t => .cons (h.step x) (ArgsOk.step x t)
theorem ArgsOk.of : ∀ {vs : List V} {ds : List D}, EncL ε φ H vs ds → ArgsOk ε φ H vs ds
  | _, [], h => by cases h; exact .nil
  | _, d :: ds, h => by cases h with | cons q r => exact .cons (.inl q) (ArgsOk.of r)
end
end FH
end
section
/-! FH4: defs by what they come to; expressions, one rule a construct. -/
namespace FH
open PySem PySem.Spec PyProof.Rows L2

/-- a def keeps its promise where nothing is being shown -/
structure FnG (P : Program) (w : World) (K : PySem.W.Frag) (mg : Str → Option Value) (base : Heap) (k : Nat) (f : Addr) (fd : FuncData) (ps : List Str) (sp : Sp) : Prop where
  len : ∀ vs H Q E, sp vs H Q E → vs.length = ps.length
  run : ∀ (A : Around) (outer : List Env) (s : Shared) (H : Hp) (args : Args) (us : List Value) (vs : List V) (Q : VK), Room k A → A.guards = some [] → Env0 P w K mg base A outer s H →
    BindsTo s fd args (ps.zip us) → Vals vs us → sp vs H Q E0 → codeAny (model P w) A (.call (.ref f) args) (CR CX0 outer P w H s Q E0) s
/-- what a def's plain meaning promises -/
def spOf (ε : Ev) (g : List D → Store → Option (D × Store)) : Sp := fun vs H Q _ => ∃ φ ds μ r μ', EncL ε φ H vs ds ∧ Sto ε φ μ H ∧ g ds μ = some (r, μ') ∧ ∀ φ' v H', Res ε φ H φ' μ' H' → Enc ε φ' H' v r → Q v H'

/-- what a name of the module stands for -/
inductive G where
  | unk | no | con (d : D) | fn (f : Nat) | cls (c : Nat) | dct (kvs : List (Str × D))
structure CI where
  init : Option Nat
  meths : List (Str × Nat)
  flds : List Str
structure Tab where
  g : List (Str × G)
  c : List CI
def Tab.look (T : Tab) (x : Str) : G := (T.g.lookup x).getD .unk
/-- a block's names -/
structure SC where
  N : List Str
  sc : Scope
  bs : Option Scope
def FOk (ε : Ev) (X : Cx) (k : Nat) (g : Fns) (f : Nat) : Prop := (∃ ds μ r, g f ds μ = some r) →
  ∃ fd ps, FnG X.prog X.w X.K X.mg X.base k (ε.fa f) fd ps (spOf ε (g f)) ∧ Binds X.K fd ps [] ∧ PySem.W.keepIn X.K (.ref (ε.fa f)) = true
def GOk (ε : Ev) (X : Cx) (x : Str) : G → Prop
  | .unk => True
  | .no => X.mg x = none
  | .con d => ∃ u v, X.mg x = some u ∧ RelV v u ∧ ∀ φ H, Enc ε φ H v d
  | .fn f => X.mg x = some (.ref (ε.fa f))
  | .cls c => X.mg x = some (.ref (ε.ca c))
  | .dct kvs => ∃ a, X.mg x = some (.ref a) ∧ ∀ z d, kvs.lookup z = some d → ∃ v, KDct X.K X.w a z v ∧ ∀ φ H, Enc ε φ H v d
structure ClOk (ε : Ev) (X : Cx) (c : Nat) (I : CI) : Prop where
  cl : Cls X.K (ε.ca c)
  meth : ∀ m f, I.meths.lookup m = some f → Meth X.K (ε.ca c) m (ε.fa f)
  fld : ∀ f, I.flds.contains f = true → NoAttr X.K (ε.ca c) f
  made : ∀ f, I.init = some f → Mk X.K (ε.ca c) (ε.fa f)
/-- where a piece of the text stands -/
structure CxOk (ε : Ev) (T : Tab) (Γ : Env2) (S : SC) (X : Cx) : Prop where
  K : ε.K = X.K
  N : X.N = S.N
  nd : S.N.Nodup
  sc : X.env.scope = S.sc
  calm : X.calm = true
  xe : X.xe = fun _ _ => False
  gd : X.A.guards = some []
  hu : X.A.units + 200 < cLine
  fn : ∀ x, match S.bs with
    | none => X.fn x = true
    | some sc => X.fn x = (sc.names.lookup x == some .cell)
  gl : ∀ x, GOk ε X x (T.look x)
  fns : ∃ k, Room k X.A ∧ ∀ f, FOk ε X k Γ.fns f
  inits : ∃ k, Room (k + 1) X.A ∧ (∀ f, FOk ε X k Γ.inits f) ∨ ∀ f ds μ, Γ.inits f ds μ = none
  cls : ∀ (c : Nat) (I : CI), T.c[c]? = some I → ClOk ε X c I

section
variable {ε : Ev} {T : Tab} {Γ : Env2} {S : SC} {X : Cx}
def rdE (ε : Ev) (Γ : Env2) (ie : IE) : TE := fun σ H Q => ∃ φ ρ μ d μ', Rel ε φ ρ μ σ H ∧ evE Γ ie ρ μ = some (d, μ') ∧ ∀ φ' v H', Res ε φ H φ' μ' H' → Enc ε φ' H' v d → Q v H'
def rdT (ε : Ev) (Γ : Env2) (ie : IE) : TT := fun σ H Q => ∃ φ ρ μ d μ' k, Rel ε φ ρ μ σ H ∧ evE Γ ie ρ μ = some (d, μ') ∧ truD (viewD μ' d) = some k ∧ ∀ φ' H', Res ε φ H φ' μ' H' → Q k H'
/-- an operand: a name that alone holds its list, too -/
def rdO (ε : Ev) (Γ : Env2) (ie : IE) : TE := fun σ H Q => ∃ φ ρ μ d μ', Rel ε φ ρ μ σ H ∧ evE Γ ie ρ μ = some (d, μ') ∧ ∀ φ' v H', Res ε φ H φ' μ' H' → ArgOk ε φ' H' v d → Q v H'
def rdA (ε : Ev) (Γ : Env2) (es : IEs) : TA := fun σ H Q => ∃ φ ρ μ ds μ', Rel ε φ ρ μ σ H ∧ evEs Γ es ρ μ = some (ds, μ') ∧ ∀ φ' vs H', Res ε φ H φ' μ' H' → EncL ε φ' H' vs ds → Q vs H'
def rdAO (ε : Ev) (Γ : Env2) (es : IEs) : TA := fun σ H Q => ∃ φ ρ μ ds μ', Rel ε φ ρ μ σ H ∧ evEs Γ es ρ μ = some (ds, μ') ∧ ∀ φ' vs H', Res ε φ H φ' μ' H' → ArgsOk ε φ' H' vs ds → Q vs H'

theorem PE.imp {e : Expr} {t t' : TE} (h : PE X e t) (k : ∀ σ H Q, t' σ H Q → t σ H Q) : PE X e t' := ⟨fun pins s σ H Q I q => h.run pins s σ H Q I (k σ H Q q)⟩
theorem PT.imp {e : Expr} {t t' : TT} (h : PT X e t) (k : ∀ σ H Q, t' σ H Q → t σ H Q) : PT X e t' := ⟨fun pins s σ H Q I q => h.run pins s σ H Q I (k σ H Q q)⟩
theorem PW.imp {e : Expr} {t t' : TT} (h : PW X e t) (k : ∀ σ H Q, t' σ H Q → t σ H Q) : PW X e t' := ⟨fun wh pins s σ H Q I q => h.run wh pins s σ H Q I (k σ H Q q)⟩
theorem PA.imp {e : List Expr} {t t' : TA} (h : PA X e t) (k : ∀ σ H Q, t' σ H Q → t σ H Q) : PA X e t' := ⟨fun pos pins s σ H Q I q => h.run pos pins s σ H Q I (k σ H Q q)⟩
/-- a value is an operand -/
theorem PE.rdO {e : Expr} {ie : IE} (h : PE X e (rdE ε Γ ie)) : PE X e (rdO ε Γ ie) := PE.imp h fun σ H Q ⟨φ, ρ, μ, d, μ', R, e, q⟩ => ⟨φ, ρ, μ, d, μ', R, e, fun φ' v H' x y => q φ' v H' x (.inl y)⟩

/-! ### constants, names -/
theorem sd_int {i : Int} {j pos} : PE X (.Constant (.int i) j pos) (rdE ε Γ (.lit (.int i))) := PE.imp pe_int fun σ H Q ⟨φ, ρ, μ, d, μ', R, e, q⟩ => by
  cases e; exact q φ _ H (.refl R.sto) (.int i)
theorem sd_str {i : Str} {j pos} : PE X (.Constant (.str i) j pos) (rdE ε Γ (.lit (.str i))) := PE.imp pe_str fun σ H Q ⟨φ, ρ, μ, d, μ', R, e, q⟩ => by
  cases e; exact q φ _ H (.refl R.sto) (.str i)
theorem sd_bl {i : Bool} {j pos} : PE X (.Constant (.bool i) j pos) (rdE ε Γ (.lit (.bl i))) := PE.imp pe_bl fun σ H Q ⟨φ, ρ, μ, d, μ', R, e, q⟩ => by
  cases e; exact q φ _ H (.refl R.sto) (.bl i)
theorem sd_non {j pos} : PE X (.Constant .none j pos) (rdE ε Γ (.lit .non)) := PE.imp pe_non fun σ H Q ⟨φ, ρ, μ, d, μ', R, e, q⟩ => by
  cases e; exact q φ _ H (.refl R.sto) .non
def visB (sc : Scope) (x : Str) : Bool := match sc.names.lookup x with
  | some .local => true | some .cell => true | some .free => true | _ => false
theorem visB_ok {sc : Scope} {x : Str} (h : visB sc x = true) : Vis sc x := by
  unfold visB at h
  unfold Vis
  split at h <;> simp_all
def nameOk (x : Str) : Bool := !(x == ("__debug__" : Str)) && !(x == ("__classdict__" : Str)) && !(x == ("__name__" : Str))
theorem sd_var (C : CxOk ε T Γ S X) {i : Nat} {x : Str} {pos : Pos} (h : S.N[i]? = some x) (hv : visB S.sc x = true) (hn : nameOk x = true) : PE X (.Name x pos) (rdE ε Γ (.var i)) := by
  simp only [nameOk, Bool.and_eq_true, Bool.not_eq_true'] at hn
  refine PE.imp (pe_var (i := i) (by rw [C.N]; exact h) (by rw [C.sc]; exact visB_ok hv) hn.1.1 hn.1.2) fun σ H Q ⟨φ, ρ, μ, d, μ', R, e, q⟩ => ?_
  simp only [evE, Option.map_eq_some_iff] at e
  obtain ⟨d', e, e2⟩ := e
  cases e2
  obtain ⟨v, h1, h2⟩ := R.slot e
  exact ⟨v, h1, q φ v H (.refl R.sto) h2⟩
theorem sd_own (C : CxOk ε T Γ S X) {i : Nat} {x : Str} {pos : Pos} (h : S.N[i]? = some x) (hv : visB S.sc x = true) (hn : nameOk x = true) : PE X (.Name x pos) (rdO ε Γ (.own i)) := by
  simp only [nameOk, Bool.and_eq_true, Bool.not_eq_true'] at hn
  refine PE.imp (pe_var (i := i) (by rw [C.N]; exact h) (by rw [C.sc]; exact visB_ok hv) hn.1.1 hn.1.2) fun σ H Q ⟨φ, ρ, μ, d, μ', R, e, q⟩ => ?_
  simp only [evE, Option.map_eq_some_iff] at e
  obtain ⟨d', e, e2⟩ := e
  cases e2
  unfold ownD at e
  split at e
  · rename_i ds ei
    cases e
    obtain ⟨a, h1, h2, h3, h4⟩ := R.own ei
    refine ⟨_, h1, q φ _ H (.refl R.sto) ?_⟩
    cases h2 with
    | lst q1 q2 => exact .inr ⟨a, _, ds, rfl, rfl, q1, h3, q2⟩
  · rename_i ds ei
    cases e
    obtain ⟨a, h1, h2, h3, h4⟩ := R.own ei
    refine ⟨_, h1, q φ _ H (.refl R.sto) ?_⟩
    cases h2 with
    | tup q1 _ _ q2 => exact .inl (.tup (.inl (.inr ⟨_, q1⟩)) q2)
  · cases e
def glB (sc : Scope) (x : Str) : Bool := decide (sc.names.lookup x = some .globalImplicit)
theorem glB_ok (C : CxOk ε T Γ S X) {x : Str} (h : glB S.sc x = true) : Gl X x := by
  have e : S.sc.names.lookup x = some .globalImplicit := of_decide_eq_true h
  show X.env.scope.names.lookup x = _
  rw [C.sc]; exact e
theorem sd_glob (C : CxOk ε T Γ S X) {x : Str} {d : D} {pos : Pos} (hg : glB S.sc x = true) (hn : nameOk x = true) (ht : T.look x = .con d) : PE X (.Name x pos) (rdE ε Γ (.glob x d)) := by
  simp only [nameOk, Bool.and_eq_true, Bool.not_eq_true'] at hn
  have g := C.gl x
  rw [ht] at g
  obtain ⟨u, v, h1, h2, h3⟩ := g
  refine PE.imp (pe_glob (glB_ok C hg) h1 h2 hn.1.1) fun σ H Q ⟨φ, ρ, μ, d, μ', R, e, q⟩ => ?_
  cases e
  exact q φ v H (.refl R.sto) (h3 φ H)
theorem sd_gfn (C : CxOk ε T Γ S X) {x : Str} {f : Nat} {pos : Pos} (hg : glB S.sc x = true) (hn : nameOk x = true) (ht : T.look x = .fn f) : PE X (.Name x pos) (rdE ε Γ (.glob x (.fn f))) := by
  simp only [nameOk, Bool.and_eq_true, Bool.not_eq_true'] at hn
  have g := C.gl x
  rw [ht] at g
  refine PE.imp (pe_glob (v := .ref (ε.fa f)) (glB_ok C hg) g rfl hn.1.1) fun σ H Q ⟨φ, ρ, μ, d, μ', R, e, q⟩ => ?_
  cases e
  exact q φ _ H (.refl R.sto) (.fn f)
/-- a built-in type's name as a value -/
theorem sd_ty (C : CxOk ε T Γ S X) {x : Str} {n : String} {pos : Pos} (hg : glB S.sc x = true) (hn : nameOk x = true) (ht : T.look x = .no) (hb : bootBuiltins x = some (.type n)) : PE X (.Name x pos) (rdE ε Γ (.glob x (.ty n))) := by
  simp only [nameOk, Bool.and_eq_true, Bool.not_eq_true'] at hn
  have g := C.gl x
  rw [ht] at g
  refine PE.imp (pe_bltn (v := .ty n) (glB_ok C hg) g hb rfl (by
    intro z; rw [z] at hn; simp at hn) hn.1.1) fun σ H Q ⟨φ, ρ, μ, d, μ', R, e, q⟩ => ?_
  cases e
  exact q φ _ H (.refl R.sto) (.ty n)

/-! ### lists of operands -/
def okE : Expr → Bool
  | .Starred .. => false | .Set .. => false | .Slice .. => false | _ => true
theorem star_cons {e : Expr} {es : List Expr} {env : Env} (h : okE e = true) : starEach (e :: es) env = (false, eval e env) :: starEach es env := by
  cases e <;> first | rfl | (simp [okE] at h)
theorem star_plain : ∀ {es : List Expr} {env : Env} {pos : Pos}, es.all okE = true → (backTo pos (starEach es env)).any (·.1) = false
  | [], _, _, _ => rfl
  | e :: es, env, pos, h => by
    simp only [List.all_cons, Bool.and_eq_true] at h
    rw [star_cons h.1]
    have ih := star_plain (env := env) (pos := pos) h.2
    simpa [backTo] using ih
theorem sa_nil : PA X [] (rdA ε Γ .nil) := PA.imp pa_nil fun σ H Q ⟨φ, ρ, μ, ds, μ', R, e, q⟩ => by cases e; exact q φ _ H (.refl R.sto) .nil
theorem sa_cons {e : Expr} {es : List Expr} {ie : IE} {ies : IEs} (he : PE X e (rdE ε Γ ie)) (hs : PA X es (rdA ε Γ ies)) (ok : okE e = true) : PA X (e :: es) (rdA ε Γ (.cons ie ies)) := by
  refine PA.imp (pa_cons he hs (star_cons ok)) fun σ H Q ⟨φ, ρ, μ, ds, μ', R, e, q⟩ => ?_
  simp only [evEs, Option.bind_eq_some_iff, Option.map_eq_some_iff] at e
  obtain ⟨⟨d, μ1⟩, e1, ⟨ds', μ2⟩, e2, e3⟩ := e
  cases e3
  refine ⟨φ, ρ, μ, d, μ1, R, e1, fun φ1 v H1 x1 y1 => ⟨φ1, ρ, μ1, ds', _, R.step x1, e2, fun φ2 vs H2 x2 y2 => ?_⟩⟩
  exact q φ2 (v :: vs) H2 (x1.trans x2) (.cons (x2.ext.enc y1) y2)
theorem so_nil : PA X [] (rdAO ε Γ .nil) := PA.imp pa_nil fun σ H Q ⟨φ, ρ, μ, ds, μ', R, e, q⟩ => by cases e; exact q φ _ H (.refl R.sto) .nil
theorem so_cons {e : Expr} {es : List Expr} {ie : IE} {ies : IEs} (he : PE X e (rdO ε Γ ie)) (hs : PA X es (rdAO ε Γ ies)) (ok : okE e = true) : PA X (e :: es) (rdAO ε Γ (.cons ie ies)) := by
  refine PA.imp (pa_cons he hs (star_cons ok)) fun σ H Q ⟨φ, ρ, μ, ds, μ', R, e, q⟩ => ?_
  simp only [evEs, Option.bind_eq_some_iff, Option.map_eq_some_iff] at e
  obtain ⟨⟨d, μ1⟩, e1, ⟨ds', μ2⟩, e2, e3⟩ := e
  cases e3
  refine ⟨φ, ρ, μ, d, μ1, R, e1, fun φ1 v H1 x1 y1 => ⟨φ1, ρ, μ1, ds', _, R.step x1, e2, fun φ2 vs H2 x2 y2 => ?_⟩⟩
  exact q φ2 (v :: vs) H2 (x1.trans x2) (.cons (y1.step x2.ext) y2)

/-! ### plain operations -/
theorem fin_ex {φ : List Addr} {ρ : Slots} {μ : Store} {H0 H : Hp} {φ0 : List Addr} {z : D} {Q : VK} (x : Res ε φ0 H0 φ μ H) (q : ∀ φ' v H', Res ε φ0 H0 φ' μ H' → Enc ε φ' H' v z → Q v H') :
    ∀ v H', Ex H H' → Enc ε φ H' v z → Q v H' := fun v H' g y => q φ v H' (x.trans (.ex x.sto g)) y
theorem ev2 {p : P} {a b : IE} {ρ : Slots} {μ : Store} {r : D × Store} (h : evE Γ (.prim p (.cons a (.cons b .nil))) ρ μ = some r) :
    ∃ x μ1 y μ2 z, evE Γ a ρ μ = some (x, μ1) ∧ evE Γ b ρ μ1 = some (y, μ2) ∧ primD p [viewD μ2 x, viewD μ2 y] = some z ∧ r = (z, μ2) := by
  simp only [evE, evEs, Option.bind_eq_some_iff, Option.map_eq_some_iff] at h
  obtain ⟨⟨ds, μ'⟩, ⟨⟨x, μ1⟩, e1, ⟨es, μ3⟩, ⟨⟨y, μ2⟩, e2, ⟨fs, μ4⟩, e3, e4⟩, e5⟩, z, e6, e7⟩ := h
  cases e3; cases e4; cases e5
  exact ⟨x, μ1, y, _, z, e1, e2, e6, e7.symm⟩
theorem ev1 {p : P} {a : IE} {ρ : Slots} {μ : Store} {r : D × Store} (h : evE Γ (.prim p (.cons a .nil)) ρ μ = some r) :
    ∃ x μ1 z, evE Γ a ρ μ = some (x, μ1) ∧ primD p [viewD μ1 x] = some z ∧ r = (z, μ1) := by
  simp only [evE, evEs, Option.bind_eq_some_iff, Option.map_eq_some_iff] at h
  obtain ⟨⟨ds, μ'⟩, ⟨⟨x, μ1⟩, e1, ⟨es, μ3⟩, e3, e5⟩, z, e6, e7⟩ := h
  cases e3; cases e5
  exact ⟨x, _, z, e1, e6, e7.symm⟩
theorem rd2 {p : P} {f : D → D → Option D} (hp : ∀ c d, primD p [c, d] = f c d) {a b : IE} {σ : L2.St} {H : Hp} {Q : VK} (h : rdE ε Γ (.prim p (.cons a (.cons b .nil))) σ H Q) : tOp (rP2 ε f) (rdO ε Γ a) (rdO ε Γ b) σ H Q := by
  obtain ⟨φ, ρ, μ, d, μ', R, e, q⟩ := h
  obtain ⟨x, μ1, y, μ2, z, e1, e2, e3, e4⟩ := ev2 e
  cases e4
  rw [hp] at e3
  refine ⟨φ, ρ, μ, x, μ1, R, e1, fun φ1 v1 H1 x1 y1 => ⟨φ1, ρ, μ1, y, _, R.step x1, e2, fun φ2 v2 H2 x2 y2 => ?_⟩⟩
  exact ⟨φ2, _, _, _, (y1.step x2.ext).view x2.sto, y2.view x2.sto, e3, fin_ex (ρ := ρ) (x1.trans x2) q⟩
theorem sp_bin (C : CxOk ε T Γ S X) {op : Operator} {a b : Expr} {ia ib : IE} {pos : Pos} (ha : PE X a (rdO ε Γ ia)) (hb : PE X b (rdO ε Γ ib)) : PE X (.BinOp a op b pos) (rdE ε Γ (.prim (.bin op) (.cons ia (.cons ib .nil)))) :=
  PE.imp (pe_op (op_binD C.K op) ha hb) fun σ H Q h => rd2 (fun _ _ => rfl) h
theorem mark_ok {op : CmpOp} {b : Expr} (h : okE b = true) : behindInMarks op b = false := by
  cases b <;> first | rfl | (simp [okE] at h)
theorem sp_cmp (C : CxOk ε T Γ S X) {op : CmpOp} {a b : Expr} {ia ib : IE} {pos : Pos} (ok : okE b = true) (ha : PE X a (rdO ε Γ ia)) (hb : PE X b (rdO ε Γ ib)) : PE X (.Compare a [op] [b] pos) (rdE ε Γ (.prim (.cmp op) (.cons ia (.cons ib .nil)))) :=
  PE.imp (pe_cmpR (op_cmpD C.K (by have := C.hu; omega) op) ha hb (mark_ok ok)) fun σ H Q h => rd2 (fun _ _ => rfl) h
theorem plain_ix {b : Expr} (h : okE b = true) : PlainIx b := fun o i => by cases b <;> first | rfl | (simp [okE] at h)
theorem sp_ix (C : CxOk ε T Γ S X) {a b : Expr} {ia ib : IE} {pos : Pos} (ok : okE b = true) (ha : PE X a (rdO ε Γ ia)) (hb : PE X b (rdO ε Γ ib)) : PE X (.Subscript a b pos) (rdE ε Γ (.prim .ix (.cons ia (.cons ib .nil)))) :=
  PE.imp (pe_ix (ix_DD C.K) ha hb (plain_ix ok)) fun σ H Q h => rd2 (fun _ _ => rfl) h
theorem sp_neg {a : Expr} {ia : IE} {pos : Pos} (ha : PE X a (rdO ε Γ ia)) : PE X (.UnaryOp .USub a pos) (rdE ε Γ (.prim .neg (.cons ia .nil))) := by
  refine PE.imp (pe_un (un_negD (ε := ε)) ha) fun σ H Q h => ?_
  obtain ⟨φ, ρ, μ, d, μ', R, e, q⟩ := h
  obtain ⟨x, μ1, z, e1, e3, e4⟩ := ev1 e
  cases e4
  exact ⟨φ, ρ, μ, x, _, R, e1, fun φ1 v1 H1 x1 y1 => ⟨φ1, _, _, .cons (y1.view x1.sto) .nil, e3, fin_ex (ρ := ρ) x1 q⟩⟩
theorem rdL {p : P} {es : IEs} {σ : L2.St} {H : Hp} {Q : VK} (h : rdE ε Γ (.prim p es) σ H Q) : tCB (rPL ε p) (rdAO ε Γ es) σ H Q := by
  obtain ⟨φ, ρ, μ, d, μ', R, e, q⟩ := h
  simp only [evE, Option.bind_eq_some_iff, Option.map_eq_some_iff] at e
  obtain ⟨⟨ds, μ1⟩, e1, z, e2, e3⟩ := e
  cases e3
  exact ⟨φ, ρ, μ, ds, _, R, e1, fun φ1 vs H1 x1 y1 => ⟨φ1, _, _, y1.view x1.sto, e2, fin_ex (ρ := ρ) x1 q⟩⟩
/-- the built-in functions: name, what they are -/
def bltOf : P → Option (String × Value)
  | .len => some ("len", .builtin "len") | .abs => some ("abs", .builtin "abs") | .repr => some ("repr", .builtin "repr") | .ord => some ("ord", .builtin "ord")
  | .isi => some ("isinstance", .builtin "isinstance") | .all => some ("all", .builtin "all") | .any => some ("any", .builtin "any") | .sum => some ("sum", .builtin "sum")
  | .min => some ("min", .builtin "min") | .max => some ("max", .builtin "max") | .int => some ("int", .type "int") | .str => some ("str", .type "str") | .tuple => some ("tuple", .type "tuple")
  | _ => none
theorem sp_blt (C : CxOk ε T Γ S X) {p : P} {x : Str} {n : String} {u : Value} {e : Expr} {es : List Expr} {ies : IEs} {xp pos : Pos} (hb : bltOf p = some (n, u)) (hx : x = (n : Str)) (hg : glB S.sc x = true) (ht : T.look x = .no)
    (ha : PA X (e :: es) (rdAO ε Γ ies)) (ok : (e :: es).all okE = true) : PE X (.Call (.Name x xp) (e :: es) [] pos) (rdE ε Γ (.prim p ies)) := by
  have g := C.gl x
  rw [ht] at g
  simp only [List.all_cons, Bool.and_eq_true] at ok
  have h1 := star_cons (es := es) (env := X.env) ok.1
  have h2 := star_plain (env := X.env) (pos := pos) ok.2
  have gx := glB_ok C hg
  have hu := C.hu
  subst hx
  cases p <;> simp only [bltOf, Option.some.injEq, Prod.mk.injEq, reduceCtorEq] at hb <;> (obtain ⟨rfl, rfl⟩ := hb)
  · exact PE.imp (pe_callB (call_lenD C.K) gx g (by decide +kernel) ha (by decide +kernel) (by decide +kernel) h1 h2) fun σ H Q h => rdL h
  · exact PE.imp (pe_callB call_absD gx g (by decide +kernel) ha (by decide +kernel) (by decide +kernel) h1 h2) fun σ H Q h => rdL h
  · exact PE.imp (pe_callTy call_intD gx g (by decide +kernel) ha (by decide +kernel) (by decide +kernel) h1 h2) fun σ H Q h => rdL h
  · exact PE.imp (pe_callTy call_strD gx g (by decide +kernel) ha (by decide +kernel) (by decide +kernel) h1 h2) fun σ H Q h => rdL h
  · exact PE.imp (pe_callB (call_reprD C.K C.gd (by omega)) gx g (by decide +kernel) ha (by decide +kernel) (by decide +kernel) h1 h2) fun σ H Q h => rdL h
  · exact PE.imp (pe_callB call_ordD gx g (by decide +kernel) ha (by decide +kernel) (by decide +kernel) h1 h2) fun σ H Q h => rdL h
  · exact PE.imp (pe_callB (call_isiD C.K) gx g (by decide +kernel) ha (by decide +kernel) (by decide +kernel) h1 h2) fun σ H Q h => rdL h
  · exact PE.imp (pe_callTy (call_tupleD C.K) gx g (by decide +kernel) ha (by decide +kernel) (by decide +kernel) h1 h2) fun σ H Q h => rdL h
  · exact PE.imp (pe_callB (call_allD C.K C.calm) gx g (by decide +kernel) ha (by decide +kernel) (by decide +kernel) h1 h2) fun σ H Q h => rdL h
  · exact PE.imp (pe_callB (call_anyD C.K C.calm) gx g (by decide +kernel) ha (by decide +kernel) (by decide +kernel) h1 h2) fun σ H Q h => rdL h
  · exact PE.imp (pe_callB (call_sumD C.K C.calm) gx g (by decide +kernel) ha (by decide +kernel) (by decide +kernel) h1 h2) fun σ H Q h => rdL h
  · exact PE.imp (pe_callB (call_min2D C.calm) gx g (by decide +kernel) ha (by decide +kernel) (by decide +kernel) h1 h2) fun σ H Q h => rdL h
  · exact PE.imp (pe_callB (call_max2D C.calm) gx g (by decide +kernel) ha (by decide +kernel) (by decide +kernel) h1 h2) fun σ H Q h => rdL h
end
end FH
end
section
/-! FH5: truth, and, or, displays, calls, objects, dicts. -/
namespace FH
open PySem PySem.Spec PyProof.Rows L2
section
variable {ε : Ev} {T : Tab} {Γ : Env2} {S : SC} {X : Cx}

/-! ### truth -/
theorem tru_ok {φ : List Addr} {H : Hp} {v : V} {d : D} {k : Bool} (h : Vw ε φ H v d) (e : truD d = some k) : TruV ε.K v H k := by
  cases d <;> (first | (simp [truD] at e; done) | skip)
  · cases e; rw [h.non]; rfl
  · cases e; rw [h.bl]; rfl
  · cases e; rw [h.int]; rfl
  · simp only [truD] at e
    split at e
    · rename_i x hz
      cases e; rw [h.str]
      refine ⟨hz, ?_⟩
      cases hx : x.length
      · rfl
      · simp; omega
    · cases e
  · rename_i ds
    cases e
    obtain ⟨a, vs, rfl, h1, h2⟩ := h.tup
    refine .inr (.inl ⟨vs, h1, ?_⟩)
    cases ds <;> cases h2 <;> rfl
  · rename_i ds
    cases e
    obtain ⟨a, vs, rfl, h1, h2⟩ := h.lst
    refine .inl ⟨vs, h1.sq, ?_⟩
    cases ds <;> cases h2 <;> rfl
theorem sd_pt (C : CxOk ε T Γ S X) {e : Expr} {ie : IE} (h : PE X e (rdE ε Γ ie)) (he : ∀ whole, isTrue e X.env whole = (do let v ← whole; standAt e.pos; holding [v] (truthy v))) : PT X e (rdT ε Γ ie) := by
  refine PT.imp (pt_truth h he) fun σ H Q ⟨φ, ρ, μ, d, μ', k, R, e, et, q⟩ => ?_
  refine ⟨φ, ρ, μ, d, μ', R, e, fun φ1 v H1 x1 y1 => ⟨k, ?_, q φ1 H1 x1⟩⟩
  rw [← C.K]
  exact tru_ok (ArgOk.view x1.sto (.inl y1)) et
theorem cmpD_bl {op : CmpOp} {a b z : D} (h : cmpD op a b = some z) : ∃ k, z = .bl k := by
  unfold cmpD at h
  split at h <;> (first | (simp only [Option.map_eq_some_iff] at h; obtain ⟨k, _, rfl⟩ := h; exact ⟨_, rfl⟩) | (cases h; exact ⟨_, rfl⟩) | skip)
  all_goals (first | (cases h; done) | (split at h <;> (cases h; try exact ⟨_, rfl⟩)))
/-- a comparison as a test -/
theorem st_cmp (C : CxOk ε T Γ S X) {op : CmpOp} {a b : Expr} {ia ib : IE} {pos : Pos} (ok : okE b = true) (ha : PE X a (rdO ε Γ ia)) (hb : PE X b (rdO ε Γ ib)) : PT X (.Compare a [op] [b] pos) (rdT ε Γ (.prim (.cmp op) (.cons ia (.cons ib .nil)))) := by
  refine PT.imp (pt_cmpR (op_cmpD C.K (by have := C.hu; omega) op) ha hb (mark_ok ok)) fun σ H Q ⟨φ, ρ, μ, d, μ', k, R, e, et, q⟩ => ?_
  refine rd2 (fun _ _ => rfl) ⟨φ, ρ, μ, d, μ', R, e, fun φ1 v H1 x1 y1 => ?_⟩
  obtain ⟨x, m1, y, m2, z, _, _, e3, e4⟩ := ev2 e
  cases e4
  have hz : ∃ b, d = .bl b := cmpD_bl e3
  obtain ⟨b, rfl⟩ := hz
  cases y1
  cases et
  exact ⟨_, rfl, q φ1 H1 x1⟩
theorem sd_not (C : CxOk ε T Γ S X) {a : Expr} {ia : IE} {pos : Pos} (ha : PE X a (rdE ε Γ ia)) : PE X (.UnaryOp .Not a pos) (rdE ε Γ (.nott ia)) := by
  refine PE.imp (pe_notT ha) fun σ H Q ⟨φ, ρ, μ, d, μ', R, e, q⟩ => ?_
  simp only [evE, Option.bind_eq_some_iff, Option.map_eq_some_iff] at e
  obtain ⟨⟨x, μ1⟩, e1, k, e2, e3⟩ := e
  cases e3
  refine ⟨φ, ρ, μ, x, _, R, e1, fun φ1 v H1 x1 y1 => ⟨k, ?_, q φ1 _ H1 x1 (.bl _)⟩⟩
  rw [← C.K]
  exact tru_ok (ArgOk.view x1.sto (.inl y1)) e2
theorem st_not {a : Expr} {ia : IE} {pos : Pos} (ha : PT X a (rdT ε Γ ia)) : PT X (.UnaryOp .Not a pos) (rdT ε Γ (.nott ia)) := by
  refine PT.imp (pt_not ha) fun σ H Q ⟨φ, ρ, μ, d, μ', k, R, e, et, q⟩ => ?_
  simp only [evE, Option.bind_eq_some_iff, Option.map_eq_some_iff] at e
  obtain ⟨⟨x, μ1⟩, e1, k1, e2, e3⟩ := e
  cases e3
  cases et
  exact ⟨φ, ρ, μ, x, _, k1, R, e1, e2, fun φ1 H1 x1 => q φ1 H1 x1⟩
theorem sd_and (C : CxOk ε T Γ S X) {a b : Expr} {rest : List Expr} {ia ib : IE} {pos : Pos} (ha : PE X a (rdE ε Γ ia)) (hb : PE X (.BoolOp .And (b :: rest) pos) (rdE ε Γ ib)) : PE X (.BoolOp .And (a :: b :: rest) pos) (rdE ε Γ (.andd ia ib)) := by
  refine PE.imp (pe_andT ha hb) fun σ H Q ⟨φ, ρ, μ, d, μ', R, e, q⟩ => ?_
  simp only [evE, Option.bind_eq_some_iff] at e
  obtain ⟨⟨x, μ1⟩, e1, k, e2, e3⟩ := e
  refine ⟨φ, ρ, μ, x, _, R, e1, fun φ1 v H1 x1 y1 => ⟨k, ?_, ?_⟩⟩
  · rw [← C.K]; exact tru_ok (ArgOk.view x1.sto (.inl y1)) e2
  · cases k with
    | true => exact ⟨φ1, ρ, μ1, d, μ', R.step x1, by simpa using e3, fun φ2 w H2 x2 y2 => q φ2 w H2 (x1.trans x2) y2⟩
    | false =>
      simp at e3
      obtain ⟨rfl, rfl⟩ := e3
      exact q φ1 v H1 x1 y1
theorem sd_or (C : CxOk ε T Γ S X) {a b : Expr} {rest : List Expr} {ia ib : IE} {pos : Pos} (ha : PE X a (rdE ε Γ ia)) (hb : PE X (.BoolOp .Or (b :: rest) pos) (rdE ε Γ ib)) : PE X (.BoolOp .Or (a :: b :: rest) pos) (rdE ε Γ (.orr ia ib)) := by
  refine PE.imp (pe_orT ha hb) fun σ H Q ⟨φ, ρ, μ, d, μ', R, e, q⟩ => ?_
  simp only [evE, Option.bind_eq_some_iff] at e
  obtain ⟨⟨x, μ1⟩, e1, k, e2, e3⟩ := e
  refine ⟨φ, ρ, μ, x, _, R, e1, fun φ1 v H1 x1 y1 => ⟨k, ?_, ?_⟩⟩
  · rw [← C.K]; exact tru_ok (ArgOk.view x1.sto (.inl y1)) e2
  · cases k with
    | false => exact ⟨φ1, ρ, μ1, d, μ', R.step x1, by simpa using e3, fun φ2 w H2 x2 y2 => q φ2 w H2 (x1.trans x2) y2⟩
    | true =>
      simp at e3
      obtain ⟨rfl, rfl⟩ := e3
      exact q φ1 v H1 x1 y1
theorem sw_and {a b : Expr} {rest : List Expr} {ia ib : IE} {pos : Pos} (ha : PT X a (rdT ε Γ ia)) (hb : PW X (.BoolOp .And (b :: rest) pos) (rdT ε Γ ib)) : PW X (.BoolOp .And (a :: b :: rest) pos) (rdT ε Γ (.andd ia ib)) := by
  refine PW.imp (pw_and ha hb) fun σ H Q ⟨φ, ρ, μ, d, μ', k, R, e, et, q⟩ => ?_
  simp only [evE, Option.bind_eq_some_iff] at e
  obtain ⟨⟨x, μ1⟩, e1, k1, e2, e3⟩ := e
  refine ⟨φ, ρ, μ, x, μ1, k1, R, e1, e2, fun φ1 H1 x1 => ?_⟩
  cases k1 with
  | true => exact ⟨φ1, ρ, μ1, d, μ', k, R.step x1, by simpa using e3, et, fun φ2 H2 x2 => q φ2 H2 (x1.trans x2)⟩
  | false =>
    simp at e3
    obtain ⟨rfl, rfl⟩ := e3
    rw [e2] at et; cases et
    exact q φ1 H1 x1
theorem sw_or {a b : Expr} {rest : List Expr} {ia ib : IE} {pos : Pos} (ha : PT X a (rdT ε Γ ia)) (hb : PW X (.BoolOp .Or (b :: rest) pos) (rdT ε Γ ib)) : PW X (.BoolOp .Or (a :: b :: rest) pos) (rdT ε Γ (.orr ia ib)) := by
  refine PW.imp (pw_or ha hb) fun σ H Q ⟨φ, ρ, μ, d, μ', k, R, e, et, q⟩ => ?_
  simp only [evE, Option.bind_eq_some_iff] at e
  obtain ⟨⟨x, μ1⟩, e1, k1, e2, e3⟩ := e
  refine ⟨φ, ρ, μ, x, μ1, k1, R, e1, e2, fun φ1 H1 x1 => ?_⟩
  cases k1 with
  | false => exact ⟨φ1, ρ, μ1, d, μ', k, R.step x1, by simpa using e3, et, fun φ2 H2 x2 => q φ2 H2 (x1.trans x2)⟩
  | true =>
    simp at e3
    obtain ⟨rfl, rfl⟩ := e3
    rw [e2] at et; cases et
    exact q φ1 H1 x1
theorem ev_cond {c a b : IE} {ρ : Slots} {μ : Store} {r : D × Store} (h : evE Γ (.cond c a b) ρ μ = some r) : ∃ x μ1 k, evE Γ c ρ μ = some (x, μ1) ∧ truD (viewD μ1 x) = some k ∧ (if k = true then evE Γ a ρ μ1 = some r else evE Γ b ρ μ1 = some r) := by
  simp only [evE, Option.bind_eq_some_iff] at h
  obtain ⟨⟨x, μ1⟩, e1, k, e2, e3⟩ := h
  exact ⟨x, μ1, k, e1, e2, by cases k <;> simpa using e3⟩
theorem sd_cond {c a b : Expr} {ic ia ib : IE} {pos : Pos} (hc : PT X c (rdT ε Γ ic)) (ha : PE X a (rdE ε Γ ia)) (hb : PE X b (rdE ε Γ ib)) : PE X (.IfExp c a b pos) (rdE ε Γ (.cond ic ia ib)) := by
  refine PE.imp (pe_ifExp hc ha hb) fun σ H Q ⟨φ, ρ, μ, d, μ', R, e, q⟩ => ?_
  obtain ⟨x, μ1, k, e1, e2, e3⟩ := ev_cond e
  refine ⟨φ, ρ, μ, x, μ1, k, R, e1, e2, fun φ1 H1 x1 => ?_⟩
  cases k with
  | true => exact ⟨φ1, ρ, μ1, d, μ', R.step x1, by simpa using e3, fun φ2 w H2 x2 y2 => q φ2 w H2 (x1.trans x2) y2⟩
  | false => exact ⟨φ1, ρ, μ1, d, μ', R.step x1, by simpa using e3, fun φ2 w H2 x2 y2 => q φ2 w H2 (x1.trans x2) y2⟩
def tIfT (c t u : TT) : TT := fun σ H Q => c σ H fun k H1 => if k = true then t σ H1 Q else u σ H1 Q
theorem pt_ifExp {c a b : Expr} {tc ta tb : TT} {pos : Pos} (hc : PT X c tc) (ha : PT X a ta) (hb : PT X b tb) : PT X (.IfExp c a b pos) (tIfT tc ta tb) := by
  refine ⟨fun pins s σ H Q I h => ?_⟩
  refine isTrue_IfExp (thn (hc.run pins s σ H _ I h) fun k s1 ⟨H1, I1, q1⟩ => ?_)
  cases k with
  | true => exact ha.run pins s1 σ H1 Q I1 q1
  | false => exact hb.run pins s1 σ H1 Q I1 q1
theorem st_cond {c a b : Expr} {ic ia ib : IE} {pos : Pos} (hc : PT X c (rdT ε Γ ic)) (ha : PT X a (rdT ε Γ ia)) (hb : PT X b (rdT ε Γ ib)) : PT X (.IfExp c a b pos) (rdT ε Γ (.cond ic ia ib)) := by
  refine PT.imp (pt_ifExp hc ha hb) fun σ H Q ⟨φ, ρ, μ, d, μ', kk, R, e, et, q⟩ => ?_
  obtain ⟨x, μ1, k, e1, e2, e3⟩ := ev_cond e
  refine ⟨φ, ρ, μ, x, μ1, k, R, e1, e2, fun φ1 H1 x1 => ?_⟩
  cases k with
  | true => exact ⟨φ1, ρ, μ1, d, μ', kk, R.step x1, by simpa using e3, et, fun φ2 H2 x2 => q φ2 H2 (x1.trans x2)⟩
  | false => exact ⟨φ1, ρ, μ1, d, μ', kk, R.step x1, by simpa using e3, et, fun φ2 H2 x2 => q φ2 H2 (x1.trans x2)⟩
/-- two comparisons in a chain -/
theorem rd_chain {o1 o2 : CmpOp} {a b c : IE} {σ : L2.St} {H : Hp} {Q : VK} (h : rdE ε Γ (.cmp2 o1 o2 a b c) σ H Q) : tChain (rP2 ε (cmpD o1)) (rP2 ε (cmpD o2)) (rdO ε Γ a) (rdO ε Γ b) (rdO ε Γ c) σ H Q := by
  obtain ⟨φ, ρ, μ, d, μ', R, e, q⟩ := h
  simp only [evE, Option.bind_eq_some_iff] at e
  obtain ⟨⟨x, μ1⟩, e1, ⟨y, μ2⟩, e2, k, e3, e4⟩ := e
  refine ⟨φ, ρ, μ, x, μ1, R, e1, fun φ1 v1 H1 x1 y1 => ⟨φ1, ρ, μ1, y, μ2, R.step x1, e2, fun φ2 v2 H2 x2 y2 => ?_⟩⟩
  refine ⟨φ2, _, _, k, (y1.step x2.ext).view x2.sto, y2.view x2.sto, e3, fun v H3 g3 y3 => ?_⟩
  have x3 : Res ε φ2 H2 φ2 μ2 H3 := .ex x2.sto g3
  split at e4
  · cases y3
    refine ⟨true, rfl, ?_⟩
    simp only [if_true]
    simp only [Option.bind_eq_some_iff, Option.map_eq_some_iff] at e4
    obtain ⟨⟨z, μ3⟩, e5, d', e6, e7⟩ := e4
    cases e7
    refine ⟨φ2, ρ, μ2, z, _, (R.step (x1.trans x2)).step x3, e5, fun φ4 v4 H4 x4 y4 => ?_⟩
    exact ⟨φ4, _, _, _, ((y2.step x3.ext).step x4.ext).view x4.sto, y4.view x4.sto, e6, fin_ex (ρ := ρ) (((x1.trans x2).trans x3).trans x4) q⟩
  · cases y3
    cases e4
    refine ⟨false, rfl, ?_⟩
    simp only [Bool.false_eq_true, if_false]
    exact q φ2 _ H3 ((x1.trans x2).trans x3) (.bl _)
  · cases e4
theorem mark2 {o1 o2 : CmpOp} {b c : Expr} (h2 : okE c = true) : lastMarks [o1, o2] [b, c] = false := by
  show behindInMarks o2 c = false
  exact mark_ok h2
theorem sd_chain (C : CxOk ε T Γ S X) {o1 o2 : CmpOp} {a b c : Expr} {ia ib ic : IE} {pos : Pos} (ok : okE c = true) (ha : PE X a (rdO ε Γ ia)) (hb : PE X b (rdO ε Γ ib)) (hc : PE X c (rdO ε Γ ic)) :
    PE X (.Compare a [o1, o2] [b, c] pos) (rdE ε Γ (.cmp2 o1 o2 ia ib ic)) :=
  PE.imp (pe_chain (op_cmpD C.K (by have := C.hu; omega) o1) (op_cmpD C.K (by have := C.hu; omega) o2) ha hb hc (mark2 ok)) fun σ H Q h => rd_chain h
theorem st_chain (C : CxOk ε T Γ S X) {o1 o2 : CmpOp} {a b c : Expr} {ia ib ic : IE} {pos : Pos} (ok : okE c = true) (ha : PE X a (rdO ε Γ ia)) (hb : PE X b (rdO ε Γ ib)) (hc : PE X c (rdO ε Γ ic)) :
    PT X (.Compare a [o1, o2] [b, c] pos) (rdT ε Γ (.cmp2 o1 o2 ia ib ic)) := by
  refine PT.imp (pt_chain (op_cmpD C.K (by have := C.hu; omega) o1) (op_cmpD C.K (by have := C.hu; omega) o2) ha hb hc (mark2 ok)) fun σ H Q ⟨φ, ρ, μ, d, μ', k, R, e, et, q⟩ => ?_
  refine rd_chain ⟨φ, ρ, μ, d, μ', R, e, fun φ1 v H1 x1 y1 => ?_⟩
  have hz : ∃ b, d = .bl b := by
    simp only [evE, Option.bind_eq_some_iff] at e
    obtain ⟨_, _, _, _, k, _, e⟩ := e
    split at e
    · simp only [Option.bind_eq_some_iff, Option.map_eq_some_iff] at e
      obtain ⟨_, _, d', e6, e7⟩ := e
      cases e7
      exact cmpD_bl e6
    · cases e; exact ⟨_, rfl⟩
    · cases e
  obtain ⟨b, rfl⟩ := hz
  cases y1
  cases et
  exact ⟨_, rfl, q φ1 H1 x1⟩

/-! ### tuples, new lists -/
theorem sd_tup {es : List Expr} {ies : IEs} {j : Nat} {pos : Pos} (h : PA X es (rdA ε Γ ies)) : PE X (.Tuple es j pos) (rdE ε Γ (.tup ies)) := by
  refine PE.imp (pe_tup h) fun σ H Q ⟨φ, ρ, μ, d, μ', R, e, q⟩ => ?_
  simp only [evE, Option.bind_eq_some_iff] at e
  obtain ⟨⟨ds, μ1⟩, e1, e2⟩ := e
  split at e2
  · rename_i hz
    cases e2
    refine ⟨φ, ρ, μ, ds, _, R, e1, fun φ1 vs H1 x1 y1 => ⟨by rw [y1.length]; exact hz, fun p hp => ?_⟩⟩
    have g : Ex H1 (upd H1 p (.tup vs)) := Ex.new hp
    exact q φ1 _ _ (x1.trans (.ex x1.sto g)) (.tup (SqT.of upd_same) (y1.grow g.grow))
  · cases e2
/-- a new list, alone as yet -/
structure NewL (ε : Ev) (φ : List Addr) (H : Hp) (φ' : List Addr) (μ' : Store) (H' : Hp) (p : Addr) (ds : List D) : Prop where
  res : Res ε φ H φ' μ' H'
  free : H p = none
  out : p ∉ φ'
  it : ∃ vs, H' p = some (.lst vs) ∧ EncL ε φ' H' vs ds
def rdF (ε : Ev) (Γ : Env2) (f : FE) : TE := fun σ H Q => ∃ φ ρ μ ds μ', Rel ε φ ρ μ σ H ∧ evF Γ f ρ μ = some (ds, μ') ∧ ∀ φ' H' p, NewL ε φ H φ' μ' H' p ds → Q (.ref p) H'
theorem NewL.mk' {φ φ1 : List Addr} {H H1 : Hp} {μ1 : Store} {p : Addr} {vs : List V} {ds : List D} (x : Res ε φ H φ1 μ1 H1) (hp : H1 p = none) (y : EncL ε φ1 H1 vs ds) : NewL ε φ H φ1 μ1 (upd H1 p (.lst vs)) p ds := by
  have g : Ex H1 (upd H1 p (.lst vs)) := Ex.new hp
  refine ⟨x.trans (.ex x.sto g), ?_, fun z => ?_, vs, upd_same, y.grow g.grow⟩
  · cases e : H p with
    | none => rfl
    | some o => exact absurd hp (x.ext.there p (by rw [e]; simp))
  · obtain ⟨o, e⟩ := x.sto.there z
    rw [hp] at e; cases e
theorem NewL.frz {φ φ' : List Addr} {H H' : Hp} {μ' : Store} {p : Addr} {ds : List D} (n : NewL ε φ H φ' μ' H' p ds) : ∃ ys, H' p = some (.lst ys) ∧ ∀ o, Res ε φ H φ' μ' (upd H' p (.frz o (.lst ys))) ∧ Enc ε φ' (upd H' p (.frz o (.lst ys))) (.ref p) (.lst ds) := by
  obtain ⟨vs, h1, h2⟩ := n.it
  refine ⟨vs, h1, fun o => ?_⟩
  have ne : ∀ b u, H b = some u → b ≠ p := fun b u e z => by rw [z, n.free] at e; cases e
  have g : Grow H' (upd H' p (.frz o (.lst vs))) := ⟨fun b xs e => by rw [upd_ne (fun z => by rw [z, h1] at e; cases e)]; exact e, fun b q u e => by rw [upd_ne (fun z => by rw [z, h1] at e; cases e)]; exact e⟩
  obtain ⟨⟨⟨p2, e2, f2⟩, gr, kp, th⟩, S⟩ := n.res
  refine ⟨⟨⟨⟨p2, e2, f2⟩, gr.trans g, fun b u e nb => ?_, fun b e z => ?_⟩, ⟨S.len, S.nd, fun m a c e1 e2 => ?_⟩⟩, .lst (.inl ⟨o, upd_same⟩) (h2.grow g)⟩
  · rw [upd_ne (ne b u e)]; exact kp b u e nb
  · by_cases hb : b = p
    · rw [hb, upd_same] at z; cases z
    · rw [upd_ne hb] at z; exact th b e z
  · have q := (S.at_ m a c e1 e2).mono [] g fun u e => by rw [upd_ne (fun z => n.out (by rw [← z]; exact List.mem_of_getElem? e1))]; exact e
    rwa [List.append_nil] at q
theorem NewL.cell {φ φ' : List Addr} {H H' : Hp} {μ' : Store} {p : Addr} {ds : List D} (n : NewL ε φ H φ' μ' H' p ds) : Res ε φ H (φ' ++ [p]) (μ' ++ [.lst ds]) H' ∧ Enc ε (φ' ++ [p]) H' (.ref p) (.ref μ'.length) := by
  obtain ⟨vs, h1, h2⟩ := n.it
  obtain ⟨⟨⟨p2, e2, f2⟩, gr, kp, th⟩, S⟩ := n.res
  refine ⟨⟨⟨⟨p2 ++ [p], by rw [e2, List.append_assoc], fun b hb => ?_⟩, gr, kp, th⟩, ⟨by simp [S.len], ?_, fun m a c q1 q2 => ?_⟩⟩, .ref ?_⟩
  · rcases List.mem_append.mp hb with hb | hb
    · exact f2 b hb
    · rw [List.mem_singleton.mp hb]; exact n.free
  · exact List.nodup_append.mpr ⟨S.nd, by simp, fun a ha b hb => by rw [List.mem_singleton.mp hb]; exact fun z => n.out (z ▸ ha)⟩
  · by_cases hm : m < φ'.length
    · rw [List.getElem?_append_left hm] at q1
      rw [List.getElem?_append_left (by rw [← S.len]; exact hm)] at q2
      exact (S.at_ m a c q1 q2).mono [p] .refl fun _ e => e
    · rw [List.getElem?_append_right (by omega)] at q1
      rw [List.getElem?_append_right (by rw [← S.len]; omega), ← S.len] at q2
      have h0 : m - φ'.length = 0 := by
        have := (List.getElem?_eq_some_iff.mp q1).1
        simp at this; omega
      rw [h0] at q1 q2
      simp at q1 q2
      subst q1; subst q2
      exact .lst h1 (h2.mono [p] .refl)
  · rw [← S.len]; simp
theorem sd_frz {e : Expr} {f : FE} (h : PE X e (rdF ε Γ f)) : PE X e (rdE ε Γ (.frz f)) := by
  refine ⟨fun pins s σ H Q I ⟨φ, ρ, μ, d, μ', R, e, q⟩ => ?_⟩
  simp only [evE, Option.map_eq_some_iff] at e
  obtain ⟨⟨ds, μ1⟩, e1, e2⟩ := e
  cases e2
  refine thn (h.run pins s σ H (fun v H' => ∃ p ys, v = .ref p ∧ H' p = some (.lst ys) ∧ ∀ o, Q v (upd H' p (.frz o (.lst ys)))) I ⟨φ, ρ, μ, ds, _, R, e1, fun φ1 H1 p n => ?_⟩) fun _ _ z => EP.frz z
  obtain ⟨ys, h1, h2⟩ := n.frz
  exact ⟨p, ys, rfl, h1, fun o => q φ1 _ _ (h2 o).1 (h2 o).2⟩
theorem sd_cell {e : Expr} {f : FE} (h : PE X e (rdF ε Γ f)) : PE X e (rdE ε Γ (.cell f)) := by
  refine PE.imp h fun σ H Q ⟨φ, ρ, μ, d, μ', R, e, q⟩ => ?_
  simp only [evE, Option.map_eq_some_iff] at e
  obtain ⟨⟨ds, μ1⟩, e1, e2⟩ := e
  cases e2
  exact ⟨φ, ρ, μ, ds, _, R, e1, fun φ1 H1 p n => q _ _ _ n.cell.1 n.cell.2⟩
theorem sf_disp {es : List Expr} {ies : IEs} {pos : Pos} (h : PA X es (rdA ε Γ ies)) : PE X (.List es pos) (rdF ε Γ (.disp ies)) := by
  refine PE.imp (pe_lst h) fun σ H Q ⟨φ, ρ, μ, ds, μ', R, e, q⟩ => ?_
  simp only [evF, Option.bind_eq_some_iff] at e
  obtain ⟨⟨es', μ1⟩, e1, e2⟩ := e
  split at e2
  · rename_i hz
    cases e2
    exact ⟨φ, ρ, μ, ds, _, R, e1, fun φ1 vs H1 x1 y1 => ⟨by rw [y1.length]; exact hz, fun p hp => q φ1 _ p (.mk' x1 hp y1)⟩⟩
  · cases e2
theorem sf_list (C : CxOk ε T Γ S X) {a : Expr} {ia : IE} {xp pos : Pos} (hg : glB S.sc "list" = true) (ht : T.look "list" = .no) (ha : PE X a (rdO ε Γ ia)) (ok : okE a = true) : PE X (.Call (.Name "list" xp) [a] [] pos) (rdF ε Γ (.list ia)) := by
  have g := C.gl "list"
  rw [ht] at g
  refine PE.imp (pe_callTy call_list_of (glB_ok C hg) g (by decide +kernel) (pa_cons ha pa_nil (star_cons ok)) (by decide +kernel) (by decide +kernel) (star_cons ok) rfl) fun σ H Q ⟨φ, ρ, μ, ds, μ', R, e, q⟩ => ?_
  simp only [evF, Option.bind_eq_some_iff] at e
  obtain ⟨⟨x, μ1⟩, e1, e2⟩ := e
  refine ⟨φ, ρ, μ, x, μ1, R, e1, fun φ1 v H1 x1 y1 => ?_⟩
  have w := y1.view x1.sto
  split at e2
  · rename_i es ev
    cases e2
    rw [ev] at w
    obtain ⟨a, vs, rfl, h1, h2⟩ := w.tup
    exact ⟨a, vs, rfl, .inr (by rw [← C.K]; exact h1), fun l hl => q φ1 _ l (.mk' x1 hl h2)⟩
  · rename_i es ev
    cases e2
    rw [ev] at w
    obtain ⟨a, vs, rfl, h1, h2⟩ := w.lst
    exact ⟨a, vs, rfl, .inl (C.K ▸ h1.sq), fun l hl => q φ1 _ l (.mk' x1 hl h2)⟩
  · cases e2
theorem sf_cat (C : CxOk ε T Γ S X) {a b : Expr} {ia ib : IE} {pos : Pos} (ha : PE X a (rdO ε Γ ia)) (hb : PE X b (rdO ε Γ ib)) : PE X (.BinOp a .Add b pos) (rdF ε Γ (.cat ia ib)) := by
  refine PE.imp (pe_op op_catL ha hb) fun σ H Q ⟨φ, ρ, μ, ds, μ', R, e, q⟩ => ?_
  simp only [evF, Option.bind_eq_some_iff] at e
  obtain ⟨⟨x, μ1⟩, e1, ⟨y, μ2⟩, e2, e3⟩ := e
  refine ⟨φ, ρ, μ, x, μ1, R, e1, fun φ1 v1 H1 x1 y1 => ⟨φ1, ρ, μ1, y, μ2, R.step x1, e2, fun φ2 v2 H2 x2 y2 => ?_⟩⟩
  have w1 := (y1.step x2.ext).view x2.sto
  have w2 := y2.view x2.sto
  split at e3
  · rename_i xs ys ev1 ev2
    split at e3
    · rename_i hz
      cases e3
      rw [ev1] at w1
      rw [ev2] at w2
      obtain ⟨a, vs, rfl, h1, h2⟩ := w1.lst
      obtain ⟨b, ws, rfl, k1, k2⟩ := w2.lst
      have l1 := h2.length
      have l2 := k2.length
      exact ⟨a, b, vs, ws, rfl, rfl, C.K ▸ h1, C.K ▸ k1, by omega, fun p hp => q φ2 _ p (.mk' (x1.trans x2) hp (h2.app k2))⟩
    · cases e3
  · cases e3
theorem sd_celld {pos : Pos} : PE X (.Dict [] [] pos) (rdE ε Γ .celld) := by
  refine PE.imp pe_dnewK fun σ H Q ⟨φ, ρ, μ, d, μ', R, e, q⟩ => ?_
  simp only [evE, Option.some.injEq, Prod.mk.injEq] at e
  obtain ⟨rfl, rfl⟩ := e
  intro p hp
  refine q _ _ _ (Res.new R.sto hp (.dic upd_same .nil)) (.ref ?_)
  rw [← R.sto.len]; simp

/-! ### slices -/
def rdP (ε : Ev) (Γ : Env2) (o : IO) : TO := fun σ H Q => ∃ φ ρ μ d μ', Rel ε φ ρ μ σ H ∧ evO Γ o ρ μ = some (d, μ') ∧ ∀ φ' H', Res ε φ H φ' μ' H' → Q d H'
theorem PO.imp {e : Option Expr} {t t' : TO} (h : PO X e t) (k : ∀ σ H Q, t' σ H Q → t σ H Q) : PO X e t' := ⟨fun pins s σ H Q I q => h.run pins s σ H Q I (k σ H Q q)⟩
theorem so_no : PO X none (rdP ε Γ .no) := PO.imp po_none fun σ H Q ⟨φ, ρ, μ, d, μ', R, e, q⟩ => by cases e; exact q φ H (.refl R.sto)
theorem so_som {e : Expr} {ie : IE} (h : PE X e (rdE ε Γ ie)) : PO X (some e) (rdP ε Γ (.som ie)) := PO.imp (po_some h) fun σ H Q ⟨φ, ρ, μ, d, μ', R, e, q⟩ => by
  simp only [evO, Option.bind_eq_some_iff] at e
  obtain ⟨⟨x, μ1⟩, e1, e2⟩ := e
  split at e2
  · rename_i i ei
    cases e2
    subst ei
    exact ⟨φ, ρ, μ, .int i, _, R, e1, fun φ1 v H1 x1 y1 => by cases y1; exact ⟨i, rfl, q φ1 H1 x1⟩⟩
  · cases e2
def rSlD (ε : Ev) : V → Option Int → Option Int → Hp → VK → Prop := fun x lo hi H Q =>
  (∃ z, x = .str z ∧ z.length ≤ sizeLine ∧ Q (.str (cutS z lo hi)) H) ∨ rSlA ε.K x lo hi H Q ∨ rSlL ε.K x lo hi H (fun v H' => ∃ p ys, v = .ref p ∧ H' p = some (.lst ys) ∧ ∀ o, Q v (upd H' p (.frz o (.lst ys))))
theorem SlR.frz {r : V → Option Int → Option Int → Hp → VK → Prop} (h : SlR X r) : SlR X (fun x lo hi H Q => r x lo hi H (fun v H' => ∃ p ys, v = .ref p ∧ H' p = some (.lst ys) ∧ ∀ o, Q v (upd H' p (.frz o (.lst ys))))) :=
  fun pins s σ H x v vl vu lo hi sl Q I rx hs pl pu q => by
    obtain ⟨T, id, h1, h2, h3⟩ := h pins s σ H x v vl vu lo hi sl _ I rx hs pl pu q
    exact ⟨T, id, h1, h2, thn h3 fun _ _ e => EP.frz e⟩
theorem sl_D (hK : ε.K = X.K) : SlR X (rSlD ε) := by
  have h := (sl_str (X := X)).or (sl_tupA.or (SlR.frz sl_list))
  unfold rSlD
  rw [hK]
  exact h
theorem EncL.cut {φ : List Addr} {H : Hp} {vs : List V} {ds : List D} (h : EncL ε φ H vs ds) (a b : Nat) : EncL ε φ H ((vs.drop a).take b) ((ds.drop a).take b) := (h.drop a).take b
theorem sd_slice (C : CxOk ε T Γ S X) {e : Expr} {lo hi : Option Expr} {ie : IE} {il ih : IO} {p2 pos : Pos} (he : PE X e (rdO ε Γ ie)) (hl : PO X lo (rdP ε Γ il)) (hh : PO X hi (rdP ε Γ ih)) :
    PE X (.Subscript e (.Slice lo hi none p2) pos) (rdE ε Γ (.slice ie il ih)) := by
  refine PE.imp (pe_slice (sl_D C.K) he hl hh) fun σ H Q ⟨φ, ρ, μ, d, μ', R, e, q⟩ => ?_
  simp only [evE, Option.bind_eq_some_iff] at e
  obtain ⟨⟨x, μ1⟩, e1, ⟨l, μ2⟩, e2, ⟨h, μ3⟩, e3, e4⟩ := e
  refine ⟨φ, ρ, μ, x, μ1, R, e1, fun φ1 v1 H1 x1 y1 => ⟨φ1, ρ, μ1, l, μ2, R.step x1, e2, fun φ2 H2 x2 => ⟨φ2, ρ, μ2, h, μ3, (R.step x1).step x2, e3, fun φ3 H3 x3 => ?_⟩⟩⟩
  have w := ((y1.step x2.ext).step x3.ext).view x3.sto
  have x := (x1.trans x2).trans x3
  split at e4
  · rename_i ds ev
    cases e4
    rw [ev] at w
    obtain ⟨a, vs, rfl, h1, h2⟩ := w.tup
    have l1 := h2.length
    refine .inr (.inl ⟨a, vs, rfl, h1, fun hw => ?_, fun hw p hp => ?_⟩)
    · have eq : (ds.drop (HT.sIx ds.length 0 l)).take (HT.sIx ds.length ds.length h - HT.sIx ds.length 0 l) = ds := by
        rw [l1] at hw
        rw [hw.1, hw.2]; simp
      rw [eq] at q
      exact q φ3 _ H3 x (.tup h1 h2)
    · have g : Ex H3 (upd H3 p (.tup (cutV vs l h))) := Ex.new hp
      have cu : EncL ε φ3 H3 (cutV vs l h) ((ds.drop (HT.sIx ds.length 0 l)).take (HT.sIx ds.length ds.length h - HT.sIx ds.length 0 l)) := by
        unfold cutV
        rw [l1]
        exact h2.cut _ _
      exact q φ3 _ _ (x.trans (.ex x.sto g)) (.tup (SqT.of upd_same) (cu.grow g.grow))
  · rename_i ds ev
    cases e4
    rw [ev] at w
    obtain ⟨a, vs, rfl, h1, h2⟩ := w.lst
    have l1 := h2.length
    refine .inr (.inr ⟨a, vs, rfl, C.K ▸ h1.sq, fun p hp => ⟨p, _, rfl, upd_same, fun o => ?_⟩⟩)
    have g : Ex H3 (upd (upd H3 p (.lst (cutV vs l h))) p (.frz o (.lst (cutV vs l h)))) := frz_new hp
    have cu : EncL ε φ3 H3 (cutV vs l h) ((ds.drop (HT.sIx ds.length 0 l)).take (HT.sIx ds.length ds.length h - HT.sIx ds.length 0 l)) := by
      unfold cutV
      rw [l1]
      exact h2.cut _ _
    exact q φ3 _ _ (x.trans (.ex x.sto g)) (.lst (.inl ⟨o, upd_same⟩) (cu.grow g.grow))
  · rename_i z ev
    split at e4
    · rename_i hz
      cases e4
      rw [ev] at w
      exact .inl ⟨z, w.str, hz, q φ3 _ H3 x (.str _)⟩
    · cases e4
  · cases e4
end
end FH
end
section
/-! FH6: calls, objects, dicts. -/
namespace FH
open PySem PySem.Spec PyProof.Rows L2
section
variable {ε : Ev} {T : Tab} {Γ : Env2} {S : SC} {X : Cx}
/-- a def runs -/
theorem runG {k f : Nat} {fa : Addr} {fd : FuncData} {ps : List Str} {sp : Sp} {pins : List (Addr × Obj)} {σ : L2.St} {H : Hp} {s : Shared} {Q : VK} {us : List Value} {vs : List V} (C : CxOk ε T Γ S X)
    (F : FnG X.prog X.w X.K X.mg X.base k fa fd ps sp) (hr : Room k X.A) (hb : Binds X.K fd ps []) (I : L2.Inv X pins σ H s) (r : Vals vs us) (h : sp vs H Q E0) :
    wpAny (model X.prog X.w) X.A (call (.ref fa) us) (EP X pins σ Q) X.xe s := by
  have hl : us.length = ps.length := by rw [← r.length]; exact F.len _ _ _ _ h
  have hb' := hb s us I.kIn (by simpa using hl)
  rw [List.append_nil] at hb'
  refine wpAny_call (codeAny_mono (F.run X.A X.stack s H ⟨us, []⟩ us vs Q hr C.gd I.env0 hb' r h) fun res s' hq => ?_)
  cases res with
  | error e => exact False.elim hq
  | ok fl => cases fl with
    | ret u => exact I.after hq
    | next => exact False.elim hq
    | brk => exact False.elim hq
    | cont => exact False.elim hq
/-- a def by its plain meaning, called -/
theorem callG (C : CxOk ε T Γ S X) {f : Nat} {pins : List (Addr × Obj)} {σ : L2.St} {H : Hp} {s : Shared} {Q : VK} {us : List Value} {vs : List V} {φ : List Addr} {ds : List D} {μ μ' : Store} {r : D}
    (I : L2.Inv X pins σ H s) (rv : Vals vs us) (hv : EncL ε φ H vs ds) (St : Sto ε φ μ H) (e : Γ.fns f ds μ = some (r, μ')) (q : ∀ φ' v H', Res ε φ H φ' μ' H' → Enc ε φ' H' v r → Q v H') :
    wpAny (model X.prog X.w) X.A (call (.ref (ε.fa f)) us) (EP X pins σ Q) X.xe s := by
  obtain ⟨k, hr, hf⟩ := C.fns
  obtain ⟨fd, ps, F, hb, hk⟩ := hf f ⟨ds, μ, _, e⟩
  exact runG (f := f) C F hr hb I rv ⟨φ, ds, μ, r, μ', hv, St, e, q⟩
theorem kpG (C : CxOk ε T Γ S X) {f : Nat} {ds : List D} {μ : Store} {r : D × Store} (e : Γ.fns f ds μ = some r) : PySem.W.keepIn X.K (.ref (ε.fa f)) = true := by
  obtain ⟨k, hr, hf⟩ := C.fns
  obtain ⟨fd, ps, F, hb, hk⟩ := hf f ⟨ds, μ, _, e⟩
  exact hk
theorem noDebug {x : Str} (hn : nameOk x = true) : (x == ("__debug__" : Str)) = false := by
  simp only [nameOk, Bool.and_eq_true, Bool.not_eq_true'] at hn
  exact hn.1.1
/-- what is wanted of the operands, from what is wanted of the call -/
theorem ev_call {f : Nat} {x : Str} {es : IEs} {ρ : Slots} {μ : Store} {r : D × Store} (h : evE Γ (.call x f es) ρ μ = some r) : ∃ ds μ1, evEs Γ es ρ μ = some (ds, μ1) ∧ Γ.fns f ds μ1 = some r := by
  simp only [evE, Option.bind_eq_some_iff] at h
  obtain ⟨⟨ds, μ1⟩, e1, e2⟩ := h
  exact ⟨ds, μ1, e1, e2⟩
theorem sd_call0 (C : CxOk ε T Γ S X) {x : Str} {f : Nat} {xp pos : Pos} (hg : glB S.sc x = true) (hn : nameOk x = true) (ht : T.look x = .fn f) :
    PE X (.Call (.Name x xp) [] [] pos) (rdE ε Γ (.call x f .nil)) := by
  have g := C.gl x
  rw [ht] at g
  refine ⟨fun pins s σ H Q I ⟨φ, ρ, μ, d, μ', R, e, q⟩ => ?_⟩
  obtain ⟨ds, μ1, e1, e2⟩ := ev_call e
  cases e1
  refine wpAny_Call_Name_kw (ld_glob I (glB_ok C hg) g ?_ (noDebug hn))
  exact PySem.W.callWith_K0 I.kIn (kpG C e2) (callG C I .nil .nil R.sto e2 q)
theorem sd_call (C : CxOk ε T Γ S X) {x : Str} {f : Nat} {e : Expr} {es : List Expr} {ies : IEs} {xp pos : Pos} (hg : glB S.sc x = true) (hn : nameOk x = true) (ht : T.look x = .fn f) (ha : PA X (e :: es) (rdA ε Γ ies)) (ok : (e :: es).all okE = true) :
    PE X (.Call (.Name x xp) (e :: es) [] pos) (rdE ε Γ (.call x f ies)) := by
  have g := C.gl x
  rw [ht] at g
  simp only [List.all_cons, Bool.and_eq_true] at ok
  refine ⟨fun pins s σ H Q I ⟨φ, ρ, μ, d, μ', R, e, q⟩ => ?_⟩
  obtain ⟨ds, μ1, e1, e2⟩ := ev_call e
  refine wpAny_Call_Name_kw (ld_glob I (glB_ok C hg) g ?_ (noDebug hn))
  refine PySem.W.callWith_K (h₀ := X.base) I.ok.mod.kin (kpG C e2) (thn (ha.run pos pins s σ H (fun vs H1 => ∃ φ1, Res ε φ H φ1 μ1 H1 ∧ EncL ε φ1 H1 vs ds) I ⟨φ, ρ, μ, ds, μ1, R, e1, fun φ1 vs H1 x1 y1 => ⟨φ1, x1, y1⟩⟩) fun us s1 ⟨vs, H1, I1, r, φ1, x1, y1⟩ => ⟨I1.kIn, ?_⟩) (star_cons ok.1) (star_plain ok.2)
  exact callG C I1 r y1 x1.sto e2 fun φ2 v H2 x2 y2 => q φ2 v H2 (x1.trans x2) y2
/-- a local name that holds a def, called -/
theorem sd_callv (C : CxOk ε T Γ S X) {i : Nat} {x : Str} {e : Expr} {es : List Expr} {ies : IEs} {xp pos : Pos} (h : S.N[i]? = some x) (hv : visB S.sc x = true) (hn : nameOk x = true) (ha : PA X (e :: es) (rdA ε Γ ies)) (ok : (e :: es).all okE = true) :
    PE X (.Call (.Name x xp) (e :: es) [] pos) (rdE ε Γ (.callv i ies)) := by
  simp only [List.all_cons, Bool.and_eq_true] at ok
  refine ⟨fun pins s σ H Q I ⟨φ, ρ, μ, d, μ', R, e, q⟩ => ?_⟩
  simp only [evE, Option.bind_eq_some_iff] at e
  obtain ⟨c, e0, e⟩ := e
  split at e
  · rename_i f
    simp only [Option.bind_eq_some_iff] at e
    obtain ⟨⟨ds, μ1⟩, e1, e2⟩ := e
    refine wpAny_Call_Name_kw (thn ((sd_var (Γ := Γ) C (pos := xp) h hv hn).run pins s σ H (fun v H' => ∃ φ', Res ε φ H φ' μ H' ∧ Enc ε φ' H' v (.fn f)) I ⟨φ, ρ, μ, .fn f, μ, R, by simp [evE, e0], fun φ1 v H1 x1 y1 => ⟨φ1, x1, y1⟩⟩) fun u s1 ⟨v, H1, I1, r1, φ1, x1, y1⟩ => ?_)
    cases y1
    cases r1
    refine PySem.W.callWith_K (h₀ := X.base) I.ok.mod.kin (kpG C e2) (thn (ha.run pos pins s1 σ H1 (fun vs H2 => ∃ φ2, Res ε φ H φ2 μ1 H2 ∧ EncL ε φ2 H2 vs ds) I1 ⟨φ1, ρ, μ, ds, μ1, R.step x1, e1, fun φ2 vs H2 x2 y2 => ⟨φ2, x1.trans x2, y2⟩⟩) fun us s2 ⟨vs, H2, I2, r, φ2, x2, y2⟩ => ⟨I2.kIn, ?_⟩) (star_cons ok.1) (star_plain ok.2)
    exact callG C I2 r y2 x2.sto e2 fun φ3 v H3 x3 y3 => q φ3 v H3 (x2.trans x3) y3
  · cases e

/-! ### objects -/
/-- what a field is read of here -/
def objB : Expr → Bool
  | .Name .. => true | .Attribute .. => true | .Subscript .. => true | .Constant .. => true | .JoinedStr .. => true | _ => false
theorem base_ok {o : Expr} {f : Str} {env : Env} (h : objB o = true) : attributeBase o f env (eval o env) = eval o env := by
  cases o <;> first | rfl | (simp [objB] at h)
theorem EncK.look {φ : List Addr} {H : Hp} {f : Str} {d : D} : ∀ {fs : List (Str × V)} {ds : List (Str × D)}, EncK ε φ H fs ds → ds.lookup f = some d → ∃ v, fs.lookup f = some v ∧ Enc ε φ H v d
  | _, _, .nil, e => by simp at e
  | (g, v) :: fs, (_, c) :: ds, .cons ⟨rfl, h⟩ t, e => by
    simp only [List.lookup_cons] at e ⊢
    cases hg : f == g with
    | true => simp only [hg] at e ⊢; cases e; exact ⟨v, rfl, h⟩
    | false => simp only [hg] at e ⊢; exact EncK.look t e
theorem EncK.no {φ : List Addr} {H : Hp} {f : Str} : ∀ {fs : List (Str × V)} {ds : List (Str × D)}, EncK ε φ H fs ds → ds.lookup f = none → fs.lookup f = none
  | _, _, .nil, e => by simp
  | (g, v) :: fs, (_, c) :: ds, .cons ⟨rfl, h⟩ t, e => by
    simp only [List.lookup_cons] at e ⊢
    cases hg : f == g with
    | true => simp only [hg] at e; cases e
    | false => simp only [hg] at e ⊢; exact EncK.no t e
theorem EncK.put {φ : List Addr} {H : Hp} {f : Str} {v : V} {d : D} (hd : Enc ε φ H v d) : ∀ {fs : List (Str × V)} {ds : List (Str × D)}, EncK ε φ H fs ds → EncK ε φ H (putF f v fs) (putD f d ds)
  | _, _, .nil => .cons ⟨rfl, hd⟩ .nil
  | (g, w) :: fs, (_, c) :: ds, .cons ⟨rfl, h⟩ t => by
    unfold putF putD
    by_cases hg : g = f
    · simp only [hg, if_true]; exact .cons ⟨rfl, hd⟩ t
    · simp only [hg, if_false]; exact .cons ⟨rfl, h⟩ (EncK.put hd t)
theorem EncK.len {κ : Type} {φ : List Addr} {H : Hp} {fs : List (κ × V)} {ds : List (κ × D)} (h : EncK ε φ H fs ds) : fs.length = ds.length := Paired.length h
/-- which classes have which fields: told by the table -/
def fldB (T : Tab) (f : Str) : Bool := T.c.all fun I => I.flds.contains f
theorem ins_cls (C : CxOk ε T Γ S X) {φ : List Addr} {H : Hp} {n : Nat} {μ : Store} {c : Nat} {fs : List (Str × D)} (St : Sto ε φ μ H) (e : μ[n]? = some (.ins c fs)) :
    ∃ a dx vs, φ[n]? = some a ∧ H a = some (.ins (ε.ca c) dx vs) ∧ EncK ε φ H vs fs := by
  obtain ⟨a, h1, h2⟩ := St.get e
  cases h2 with
  | ins q r => exact ⟨a, _, _, h1, q, r⟩
theorem sd_attr (C : CxOk ε T Γ S X) {o : Expr} {io : IE} {c : Nat} {f : Str} {I0 : CI} {pos : Pos} (ok : objB o = true) (hc : T.c[c]? = some I0) (hf : I0.flds.contains f = true) (ho : PE X o (rdE ε Γ io)) : PE X (.Attribute o f pos) (rdE ε Γ (.attr c io f)) := by
  refine PE.imp (pe_fld ho (base_ok ok)) fun σ H Q ⟨φ, ρ, μ, d, μ', R, e, q⟩ => ?_
  simp only [evE, Option.bind_eq_some_iff] at e
  obtain ⟨⟨x, μ1⟩, e1, e2⟩ := e
  refine ⟨φ, ρ, μ, x, μ1, R, e1, fun φ1 v H1 x1 y1 => ?_⟩
  split at e2
  · rename_i n hx
    obtain rfl : x = .ref n := hx
    split at e2
    · rename_i c' fs en
      split at e2
      · rename_i hcc
        subst hcc
        simp only [Option.map_eq_some_iff] at e2
        obtain ⟨d', e3, e4⟩ := e2
        cases e4
        cases y1 with
        | ref hn =>
          obtain ⟨a, dx, vs, h1, h2, h3⟩ := ins_cls C x1.sto en
          rw [hn] at h1; cases h1
          obtain ⟨w, h4, h5⟩ := h3.look e3
          have K := C.cls _ _ hc
          exact ⟨_, _, dx, vs, w, rfl, h2, K.cl, K.fld f hf, h4, q φ1 w H1 x1 h5⟩
      · cases e2
    · cases e2
  · cases e2
theorem few_ok {args : List Expr} {env : Env} {pos : Pos} (ok : args.all okE = true) (hl : args.length < 30) : methodCallForm (args.length + ([] : List Keyword).length) (backTo pos (starEach args env)) (backToKw pos (keywordEach [] env)) = true := by
  have h := star_plain (env := env) (pos := pos) ok
  unfold methodCallForm
  have h2 : (backTo pos (starEach args env)).all (fun x => !x.1) = true := by
    rw [List.all_eq_true]
    intro x hx
    cases e : x.1 with
    | false => rfl
    | true =>
      have : (backTo pos (starEach args env)).any (·.1) = true := List.any_eq_true.mpr ⟨x, hx, e⟩
      rw [h] at this; cases this
  rw [h2]
  have e0 : backToKw pos (keywordEach ([] : List Keyword) env) = [] := rfl
  rw [e0]
  simpa using hl
theorem eval_meth {o : Expr} {m : Str} {apos pos : Pos} {args : List Expr} {env : Env} (h : objB o = true) (ok : args.all okE = true) (hl : args.length < 30) (line : (apos.endLine == pos.line) = true) :
    eval (.Call (.Attribute o m apos) args [] pos) env = (do
      let ov ← eval o env
      standAt apos.atName
      let (f, first) ← holding [ov] (getMethod ov m (do return (← importBound o env).getD true))
      callWith pos f first (backTo pos (starEach args env)) (backToKw pos (keywordEach [] env))) := by
  have e1 : eval (.Call (.Attribute o m apos) args [] pos) env = (do
      let ov ← attributeBase o m env (eval o env)
      standAt apos.atName
      methodCall o m apos pos env ov (args.length + ([] : List Keyword).length) (backTo pos (starEach args env)) (backToKw pos (keywordEach [] env))) := rfl
  rw [e1, base_ok h]
  unfold methodCall calleeOf methodCallPos
  rw [few_ok ok hl, line]
  rfl
theorem sd_mcall (C : CxOk ε T Γ S X) {o : Expr} {io : IE} {c f : Nat} {m : Str} {I0 : CI} {es : List Expr} {ies : IEs} {apos pos : Pos} (ok : objB o = true) (hc : T.c[c]? = some I0) (hm : I0.meths.lookup m = some f) (ho : PE X o (rdE ε Γ io))
    (ha : PA X es (rdA ε Γ ies)) (oks : es.all okE = true) (hl : es.length < 30) (line : (apos.endLine == pos.line) = true) (hn : es = [] → ies = .nil) : PE X (.Call (.Attribute o m apos) es [] pos) (rdE ε Γ (.mcall c m f io ies)) := by
  have ht := eval_meth (m := m) (apos := apos) (pos := pos) (args := es) (env := X.env) ok oks hl line
  have K := C.cls _ _ hc
  have M := K.meth m f hm
  refine ⟨fun pins s σ H Q I ⟨φ, ρ, μ, d, μ', R, e, q⟩ => ?_⟩
  simp only [evE, Option.bind_eq_some_iff] at e
  obtain ⟨⟨x, μ1⟩, e1, e2⟩ := e
  refine PySem.W.methodCall_KW (thn (ho.run pins s σ H (fun v H1 => ∃ φ1, Res ε φ H φ1 μ1 H1 ∧ Enc ε φ1 H1 v x) I ⟨φ, ρ, μ, x, μ1, R, e1, fun φ1 v H1 x1 y1 => ⟨φ1, x1, y1⟩⟩) fun u s1 ⟨v, H1, I1, rx, φ1, x1, y1⟩ => ?_) ht
  split at e2
  · rename_i n hx
    obtain rfl : x = .ref n := hx
    split at e2
    · rename_i c' fs en
      split at e2
      · rename_i hcc
        obtain ⟨rfl, hno⟩ := hcc
        simp only [Option.bind_eq_some_iff] at e2
        obtain ⟨⟨ds, μ2⟩, e3, e4⟩ := e2
        cases y1 with
        | ref hn1 =>
          rename_i a
          obtain ⟨a', dx, vs, h1, h2, h3⟩ := ins_cls C x1.sto en
          rw [hn1] at h1; cases h1
          obtain rfl : u = Value.ref a := rx
          refine getmeth_ok I1 h2 K.cl M (h3.no hno) ?_
          have fin : ∀ {s2 : Shared} {us : List Value} {ws : List V} {φ2 : List Addr} {H2 : Hp}, L2.Inv X pins σ H2 s2 → Vals ws us → Res ε φ1 H1 φ2 μ2 H2 → EncL ε φ2 H2 ws ds → wpAny (model X.prog X.w) X.A (call (.ref (ε.fa f)) (.ref a :: us)) (EP X pins σ Q) X.xe s2 :=
            fun I2 r x2 y2 => callG C I2 (.cons (show L2.RelV (.ref a) (.ref a) from rfl) r) (.cons (x2.ext.enc (.ref hn1)) y2) x2.sto e4 fun φ3 v H3 x3 y3 => q φ3 v H3 ((x1.trans x2).trans x3) y3
          cases es with
          | nil =>
            rw [hn rfl] at e3
            cases e3
            exact PySem.W.callWith_K0 (first := [.ref a]) I1.kIn M.kp (fin I1 .nil (.refl x1.sto) .nil)
          | cons b bs =>
            simp only [List.all_cons, Bool.and_eq_true] at oks
            exact PySem.W.callWith_K (first := [.ref a]) (h₀ := X.base) I.ok.mod.kin M.kp (thn (ha.run pos pins s1 σ H1 (fun ws H2 => ∃ φ2, Res ε φ1 H1 φ2 μ2 H2 ∧ EncL ε φ2 H2 ws ds) I1 ⟨φ1, ρ, μ1, ds, μ2, R.step x1, e3, fun φ2 ws H2 x2 y2 => ⟨φ2, x2, y2⟩⟩) fun us s2 ⟨ws, H2, I2, r, φ2, x2, y2⟩ => ⟨I2.kIn, fin I2 r x2 y2⟩) (star_cons oks.1) (star_plain oks.2)
      · cases e2
    · cases e2
  · cases e2
/-- C(..) -/
theorem makeG (C : CxOk ε T Γ S X) {c f : Nat} {I0 : CI} (hc : T.c[c]? = some I0) (hi : I0.init = some f) {pins : List (Addr × Obj)} {σ : L2.St} {H : Hp} {s : Shared} {Q : VK} {us : List Value} {vs : List V} {φ : List Addr} {ds : List D} {μ μ' : Store}
    (I : L2.Inv X pins σ H s) (rv : Vals vs us) (hv : EncL ε φ H vs ds) (St : Sto ε φ μ H) (e : Γ.inits f (.ref μ.length :: ds) (μ ++ [.ins c []]) = some (.non, μ'))
    (q : ∀ φ' v H', Res ε φ H φ' μ' H' → Enc ε φ' H' v (.ref μ.length) → Q v H') : wpAny (model X.prog X.w) X.A (call (.ref (ε.ca c)) us) (EP X pins σ Q) X.xe s := by
  have K := C.cls _ _ hc
  have M := K.made f hi
  obtain ⟨k, ⟨hr, hf⟩ | hno⟩ := C.inits
  · obtain ⟨fd, ps, F, hb, hk⟩ := hf f ⟨_, _, _, e⟩
    have hx : H (s.heap.objs.size + 1) = none := I.hok.fresh (Nat.le_succ _)
    have hdx : H s.heap.objs.size = none := I.hok.fresh (Nat.le_refl _)
    have ne : s.heap.objs.size ≠ s.heap.objs.size + 1 := Nat.ne_of_lt (Nat.lt_succ_self _)
    have I2 := Inv.made (C := ε.ca c) I
    have g1 : Ex H (upd H s.heap.objs.size (.own (s.heap.objs.size + 1))) := Ex.new hdx
    have hx1 : (upd H s.heap.objs.size (.own (s.heap.objs.size + 1))) (s.heap.objs.size + 1) = none := by rw [upd_ne (Ne.symm ne)]; exact hx
    have x1 : Res ε φ H φ μ (upd H s.heap.objs.size (.own (s.heap.objs.size + 1))) := .ex St g1
    have x2 : Res ε φ H (φ ++ [s.heap.objs.size + 1]) (μ ++ [.ins c []]) (upd (upd H s.heap.objs.size (.own (s.heap.objs.size + 1))) (s.heap.objs.size + 1) (.ins (ε.ca c) s.heap.objs.size [])) := x1.trans (Res.new x1.sto hx1 (.ins upd_same .nil))
    have r2 : Vals (V.ref (s.heap.objs.size + 1) :: vs) (Value.ref (s.heap.objs.size + 1) :: us) := .cons rfl rv
    have self : (φ ++ [s.heap.objs.size + 1])[μ.length]? = some (s.heap.objs.size + 1) := by rw [← St.len]; simp
    have hsp : spOf ε (Γ.inits f) (V.ref (s.heap.objs.size + 1) :: vs) (upd (upd H s.heap.objs.size (.own (s.heap.objs.size + 1))) (s.heap.objs.size + 1) (.ins (ε.ca c) s.heap.objs.size [])) (fun v H2 => v = .non ∧ Q (.ref (s.heap.objs.size + 1)) H2) E0 :=
      ⟨_, _, _, .non, μ', .cons (.ref self) (x2.ext.encL hv), x2.sto, e, fun φ3 v H3 x3 y3 => by
        cases y3
        refine ⟨rfl, q φ3 _ H3 (x2.trans x3) (.ref ?_)⟩
        obtain ⟨p3, rfl, _⟩ := x3.ext.more
        exact get_app self⟩
    have hl : (Value.ref (s.heap.objs.size + 1) :: us).length = ps.length := by rw [← r2.length]; exact F.len _ _ _ _ hsp
    have hb' := hb _ (Value.ref (s.heap.objs.size + 1) :: us) I2.kIn (by simpa using hl)
    rw [List.append_nil] at hb'
    have hgd : (X.A.under (.builtin "type.__call__" ⟨.ref (ε.ca c) :: us, []⟩)).guards = some [] := by
      have := C.gd
      simp [Around.under, Code.guards, pushGuards, this, Code.isGuard, guardIds]
    refine wpAny_call (make_map (f := ε.fa f) I.kIn M.makes M.init (beq_iff_eq.mp M.fn) (codeAny_mono (F.run _ X.stack _ _ ⟨Value.ref (s.heap.objs.size + 1) :: us, []⟩ _ _ _ (hr.make _ us []) hgd (I2.env0.make _ us []) hb' r2 hsp) fun res s' hq' => ?_))
    cases res with
    | error e => exact False.elim hq'
    | ok fl => cases fl with
      | ret u =>
        obtain ⟨v, H', I3, rv, ev, q3⟩ := I2.after hq'
        subst ev
        exact ⟨rv, ⟨V.ref (s.heap.objs.size + 1), H', I3, rfl, q3⟩⟩
      | next => exact False.elim hq'
      | brk => exact False.elim hq'
      | cont => exact False.elim hq'
  · rw [hno] at e; cases e
theorem sd_make (C : CxOk ε T Γ S X) {x : Str} {c f : Nat} {I0 : CI} {es : List Expr} {ies : IEs} {xp pos : Pos} (hg : glB S.sc x = true) (hn : nameOk x = true) (ht : T.look x = .cls c) (hc : T.c[c]? = some I0) (hi : I0.init = some f)
    (ha : PA X es (rdA ε Γ ies)) (oks : es.all okE = true) (hnil : es = [] → ies = .nil) : PE X (.Call (.Name x xp) es [] pos) (rdE ε Γ (.make x c f ies)) := by
  have g := C.gl x
  rw [ht] at g
  have M := (C.cls _ _ hc).made f hi
  refine ⟨fun pins s σ H Q I ⟨φ, ρ, μ, d, μ', R, e, q⟩ => ?_⟩
  simp only [evE, Option.bind_eq_some_iff] at e
  obtain ⟨⟨ds, μ1⟩, e1, ⟨z, μ2⟩, e2, e3⟩ := e
  split at e3
  · rename_i hz
    cases e3
    obtain rfl : z = .non := hz
    refine wpAny_Call_Name_kw (ld_glob I (glB_ok C hg) g ?_ (noDebug hn))
    have fin : ∀ {s1 : Shared} {us : List Value} {vs : List V} {φ1 : List Addr} {H1 : Hp}, L2.Inv X pins σ H1 s1 → Vals vs us → Res ε φ H φ1 μ1 H1 → EncL ε φ1 H1 vs ds → wpAny (model X.prog X.w) X.A (call (.ref (ε.ca c)) us) (EP X pins σ Q) X.xe s1 :=
      fun I1 r x1 y1 => makeG C hc hi I1 r y1 x1.sto e2 fun φ2 v H2 x2 y2 => q φ2 v H2 (x1.trans x2) y2
    cases es with
    | nil =>
      rw [hnil rfl] at e1
      cases e1
      exact PySem.W.callWith_K0 I.kIn M.kp (fin I .nil (.refl R.sto) .nil)
    | cons b bs =>
      simp only [List.all_cons, Bool.and_eq_true] at oks
      exact PySem.W.callWith_K (h₀ := X.base) I.ok.mod.kin M.kp (thn (ha.run pos pins s σ H (fun ws H2 => ∃ φ2, Res ε φ H φ2 μ1 H2 ∧ EncL ε φ2 H2 ws ds) I ⟨φ, ρ, μ, ds, μ1, R, e1, fun φ2 ws H2 x2 y2 => ⟨φ2, x2, y2⟩⟩) fun us s2 ⟨ws, H2, I2, r, φ2, x2, y2⟩ => ⟨I2.kIn, fin I2 r x2 y2⟩) (star_cons oks.1) (star_plain oks.2)
  · cases e3

/-! ### dicts -/
theorem keyD_ok {φ : List Addr} {H : Hp} {v : V} {d : D} {k : Key} (h : Enc ε φ H v d) (e : keyD d = some k) : v = kV k := by
  cases d <;> (first | (simp [keyD] at e; done) | skip) <;> (cases e; cases h; rfl)
theorem EncK.val {φ : List Addr} {H : Hp} {k : Key} : ∀ {ks : List (Key × V)} {ds : List (Key × D)}, EncK ε φ H ks ds → match getK ds k with
    | some d => ∃ v, valV ks k = some v ∧ Enc ε φ H v d
    | none => valV ks k = none
  | _, _, .nil => rfl
  | (g, v) :: ks, (_, c) :: ds, .cons ⟨rfl, h⟩ t => by
    have ih := EncK.val (k := k) t
    unfold getK valV at ih ⊢
    by_cases hg : g = k
    · simp only [List.find?_cons, hg, decide_true, Option.map_some]
      exact ⟨v, rfl, h⟩
    · simp only [List.find?_cons, hg, decide_false]
      exact ih
theorem EncK.any {φ : List Addr} {H : Hp} {k : Key} : ∀ {ks : List (Key × V)} {ds : List (Key × D)}, EncK ε φ H ks ds → (ks.any fun kv => decide (kv.1 = k)) = ds.any fun kv => decide (kv.1 = k)
  | _, _, .nil => rfl
  | (g, v) :: ks, (_, c) :: ds, .cons ⟨rfl, h⟩ t => by simp only [List.any_cons, EncK.any t]
theorem EncK.repl {φ : List Addr} {H : Hp} {k : Key} {v : V} {d : D} (hd : Enc ε φ H v d) : ∀ {ks : List (Key × V)} {ds : List (Key × D)}, EncK ε φ H ks ds →
    EncK ε φ H (ks.map fun kv => if kv.1 = k then (kv.1, v) else kv) (ds.map fun kv => if kv.1 = k then (kv.1, d) else kv)
  | _, _, .nil => .nil
  | (g, w) :: ks, (_, c) :: ds, .cons ⟨rfl, h⟩ t => by
    simp only [List.map_cons]
    refine .cons ?_ (EncK.repl hd t)
    by_cases hg : g = k
    · simp only [hg, if_true]; exact ⟨trivial, hd⟩
    · simp only [hg, if_false]; exact ⟨trivial, h⟩
theorem EncK.app {κ : Type} {φ : List Addr} {H : Hp} {ks ls : List (κ × V)} {ds es : List (κ × D)} (h : EncK ε φ H ks ds) (t : EncK ε φ H ls es) : EncK ε φ H (ks ++ ls) (ds ++ es) := by
  induction h with
  | nil => exact t
  | cons q _ ih => exact .cons q ih
theorem EncK.setK {φ : List Addr} {H : Hp} {k : Key} {v : V} {d : D} {ks : List (Key × V)} {ds : List (Key × D)} (h : EncK ε φ H ks ds) (hd : Enc ε φ H v d) : EncK ε φ H (putK ks k v) (FH.setK ds k d) := by
  unfold putK FH.setK
  rw [h.any]
  split
  · exact h.repl hd
  · exact h.app (.cons ⟨rfl, hd⟩ .nil)
theorem dic_at {φ : List Addr} {H : Hp} {μ : Store} {n : Nat} {a : Addr} {kvs : List (Key × D)} (St : Sto ε φ μ H) (ha : φ[n]? = some a) (e : μ[n]? = some (.dic kvs)) : ∃ ks, H a = some (.dK ks) ∧ EncK ε φ H ks kvs := by
  have h := St.at_ n a _ ha e
  cases h with
  | dic q r => exact ⟨_, q, r⟩
theorem dhas_key {neg : Bool} {ii io : IE} {σ : L2.St} {H : Hp} {Q : VK} (h : rdE ε Γ (.dhas neg ii io) σ H Q) : rdE ε Γ ii σ H fun y H1 => rdE ε Γ io σ H1 fun x H2 => ∃ a o, x = .ref a ∧ DGet H2 a y o ∧ Q (.bl (if neg then !o.isSome else o.isSome)) H2 := by
  obtain ⟨φ, ρ, μ, d, μ', R, e, q⟩ := h
  simp only [evE, Option.bind_eq_some_iff] at e
  obtain ⟨⟨y, μ1⟩, e1, ⟨x, μ2⟩, e2, e3⟩ := e
  refine ⟨φ, ρ, μ, y, μ1, R, e1, fun φ1 v1 H1 x1 y1 => ⟨φ1, ρ, μ1, x, μ2, R.step x1, e2, fun φ2 v2 H2 x2 y2 => ?_⟩⟩
  split at e3
  · rename_i n hx
    obtain rfl : x = .ref n := hx
    split at e3
    · rename_i kvs en
      simp only [Option.map_eq_some_iff] at e3
      obtain ⟨k, ek, e4⟩ := e3
      cases e4
      cases y2 with
      | ref hn =>
        obtain ⟨ks, h1, h2⟩ := dic_at x2.sto hn en
        rw [keyD_ok (x2.ext.enc y1) ek]
        have hv := h2.val (k := k)
        refine ⟨_, _, rfl, DGet.k h1, ?_⟩
        cases eg : getK kvs k with
        | none =>
          rw [eg] at hv q
          rw [hv]
          exact q φ2 _ H2 (x1.trans x2) (.bl _)
        | some dd =>
          rw [eg] at hv q
          obtain ⟨w, hw, _⟩ := hv
          rw [hw]
          exact q φ2 _ H2 (x1.trans x2) (.bl _)
    · cases e3
  · cases e3
theorem sd_dhas (C : CxOk ε T Γ S X) {neg : Bool} {i o : Expr} {ii io : IE} {pos : Pos} (ok : okE o = true) (hi : PE X i (rdE ε Γ ii)) (ho : PE X o (rdE ε Γ io)) : PE X (.Compare i [if neg then .NotIn else .In] [o] pos) (rdE ε Γ (.dhas neg ii io)) := by
  have hu : X.A.units + 1 < cLine := by have := C.hu; omega
  cases neg with
  | true => exact PE.imp (pe_cmp (pc_dnotin hu hi ho) (mark_ok ok)) fun σ H Q h => dhas_key h
  | false => exact PE.imp (pe_cmp (pc_din hu hi ho) (mark_ok ok)) fun σ H Q h => dhas_key h
theorem dhas_bl {neg : Bool} {ii io : IE} {ρ : Slots} {μ μ' : Store} {d : D} (h : evE Γ (.dhas neg ii io) ρ μ = some (d, μ')) : ∃ b, d = .bl b := by
  simp only [evE, Option.bind_eq_some_iff] at h
  obtain ⟨⟨y, μ1⟩, e1, ⟨x, μ2⟩, e2, e3⟩ := h
  split at e3
  · split at e3
    · simp only [Option.map_eq_some_iff] at e3
      obtain ⟨k, ek, e4⟩ := e3
      cases e4; exact ⟨_, rfl⟩
    · cases e3
  · cases e3
theorem st_dhas (C : CxOk ε T Γ S X) {neg : Bool} {i o : Expr} {ii io : IE} {pos : Pos} (ok : okE o = true) (hi : PE X i (rdE ε Γ ii)) (ho : PE X o (rdE ε Γ io)) : PT X (.Compare i [if neg then .NotIn else .In] [o] pos) (rdT ε Γ (.dhas neg ii io)) := by
  have hu : X.A.units + 1 < cLine := by have := C.hu; omega
  have key : ∀ {σ : L2.St} {H : Hp} {Q : Bool → Hp → Prop}, rdT ε Γ (.dhas neg ii io) σ H Q → rdE ε Γ (.dhas neg ii io) σ H fun x H1 => ∃ c, x = .bl c ∧ Q c H1 := fun {σ H Q} ⟨φ, ρ, μ, d, μ', k, R, e, et, q⟩ => by
    refine ⟨φ, ρ, μ, d, μ', R, e, fun φ1 v H1 x1 y1 => ?_⟩
    obtain ⟨b, rfl⟩ := dhas_bl e
    cases y1
    cases et
    exact ⟨_, rfl, q φ1 H1 x1⟩
  cases neg with
  | true => exact PT.imp (pt_cmp (pc_dnotin hu hi ho) (mark_ok ok)) fun σ H Q h => dhas_key (key h)
  | false => exact PT.imp (pt_cmp (pc_din hu hi ho) (mark_ok ok)) fun σ H Q h => dhas_key (key h)
theorem sd_dget (C : CxOk ε T Γ S X) {i o : Expr} {ii io : IE} {pos : Pos} (ok : okE i = true) (ho : PE X o (rdE ε Γ io)) (hi : PE X i (rdE ε Γ ii)) : PE X (.Subscript o i pos) (rdE ε Γ (.dget io ii)) := by
  refine PE.imp (pe_dget (by have := C.hu; omega) ho hi (plain_ix ok)) fun σ H Q ⟨φ, ρ, μ, d, μ', R, e, q⟩ => ?_
  simp only [evE, Option.bind_eq_some_iff] at e
  obtain ⟨⟨x, μ1⟩, e1, ⟨y, μ2⟩, e2, e3⟩ := e
  refine ⟨φ, ρ, μ, x, μ1, R, e1, fun φ1 v1 H1 x1 y1 => ⟨φ1, ρ, μ1, y, μ2, R.step x1, e2, fun φ2 v2 H2 x2 y2 => ?_⟩⟩
  split at e3
  · rename_i n hx
    obtain rfl : x = .ref n := hx
    split at e3
    · rename_i kvs en
      simp only [Option.bind_eq_some_iff, Option.map_eq_some_iff] at e3
      obtain ⟨k, ek, dd, eg, e4⟩ := e3
      cases e4
      cases x2.ext.enc y1 with
      | ref hn =>
        obtain ⟨ks, h1, h2⟩ := dic_at x2.sto hn en
        rw [keyD_ok y2 ek]
        have hv := h2.val (k := k)
        rw [eg] at hv
        obtain ⟨w, hw, hd⟩ := hv
        exact ⟨_, w, rfl, by rw [← hw]; exact DGet.k h1, q φ2 w H2 (x1.trans x2) hd⟩
    · cases e3
  · cases e3
theorem m2_ok {o e f : Expr} {m : Str} {apos cpos : Pos} (ho : objB o = true) (he : okE e = true) (hf : okE f = true) (hl : (apos.endLine == cpos.line) = true) : M2 X o m apos e f cpos := by
  have h1 := star_cons (es := [f]) (env := X.env) he
  have h2 := star_cons (es := []) (env := X.env) hf
  have h3 : starEach ([] : List Expr) X.env = [] := rfl
  refine ⟨base_ok ho, ?_, hl, ?_⟩
  · rw [h1, h2, h3]; rfl
  · rw [h1, h2, h3]; rfl
theorem sd_dgetD (C : CxOk ε T Γ S X) {o i z : Expr} {io ii iz : IE} {apos cpos : Pos} (okO : objB o = true) (oki : okE i = true) (okz : okE z = true) (hl : (apos.endLine == cpos.line) = true) (ho : PE X o (rdE ε Γ io)) (hi : PE X i (rdE ε Γ ii)) (hz : PE X z (rdE ε Γ iz)) :
    PE X (.Call (.Attribute o "get" apos) [i, z] [] cpos) (rdE ε Γ (.dgetD io ii iz)) := by
  refine PE.imp (pe_dget2 (by have := C.hu; omega) ho hi hz (m2_ok okO oki okz hl)) fun σ H Q ⟨φ, ρ, μ, d, μ', R, e, q⟩ => ?_
  simp only [evE, Option.bind_eq_some_iff] at e
  obtain ⟨⟨x, μ1⟩, e1, e2⟩ := e
  refine ⟨φ, ρ, μ, x, μ1, R, e1, fun φ1 v1 H1 x1 y1 => ?_⟩
  split at e2
  · rename_i n hx
    obtain rfl : x = .ref n := hx
    split at e2
    · rename_i kvs0 en0
      simp only [Option.bind_eq_some_iff] at e2
      obtain ⟨⟨y, μ2⟩, e3, ⟨w, μ3⟩, e4, e5⟩ := e2
      have y1' := y1
      cases y1 with
      | ref hn =>
        obtain ⟨ks0, h0, _⟩ := dic_at x1.sto hn en0
        refine ⟨_, rfl, .inl ⟨ks0, .inl h0⟩, φ1, ρ, μ1, y, μ2, R.step x1, e3, fun φ2 v2 H2 x2 y2 => ⟨φ2, ρ, μ2, w, μ3, (R.step x1).step x2, e4, fun φ3 v3 H3 x3 y3 => ?_⟩⟩
        split at e5
        · rename_i kvs en
          simp only [Option.map_eq_some_iff] at e5
          obtain ⟨k, ek, e6⟩ := e5
          cases e6
          cases x3.ext.enc (x2.ext.enc y1') with
          | ref hn3 =>
            obtain ⟨ks, h1, h2⟩ := dic_at x3.sto hn3 en
            rw [keyD_ok (x3.ext.enc y2) ek]
            have hv := h2.val (k := k)
            refine ⟨_, DGet.k h1, ?_⟩
            have xx := (x1.trans x2).trans x3
            cases eg : getK kvs k with
            | none =>
              rw [eg] at hv q
              rw [hv]
              exact q φ3 _ H3 xx y3
            | some dd =>
              rw [eg] at hv q
              obtain ⟨u, hu, hd⟩ := hv
              rw [hu]
              exact q φ3 _ H3 xx hd
        · cases e5
    · cases e2
  · cases e2
theorem sd_dsetd (C : CxOk ε T Γ S X) {o i z : Expr} {io ii iz : IE} {apos cpos : Pos} (okO : objB o = true) (oki : okE i = true) (okz : okE z = true) (hl : (apos.endLine == cpos.line) = true) (ho : PE X o (rdE ε Γ io)) (hi : PE X i (rdE ε Γ ii)) (hz : PE X z (rdE ε Γ iz)) :
    PE X (.Call (.Attribute o "setdefault" apos) [i, z] [] cpos) (rdE ε Γ (.dsetd io ii iz)) := by
  refine PE.imp (pe_dsetd ho hi hz (m2_ok okO oki okz hl)) fun σ H Q ⟨φ, ρ, μ, d, μ', R, e, q⟩ => ?_
  simp only [evE, Option.bind_eq_some_iff] at e
  obtain ⟨⟨x, μ1⟩, e1, e2⟩ := e
  refine ⟨φ, ρ, μ, x, μ1, R, e1, fun φ1 v1 H1 x1 y1 => ?_⟩
  split at e2
  · rename_i n hx
    obtain rfl : x = .ref n := hx
    split at e2
    · rename_i kvs0 en0
      simp only [Option.bind_eq_some_iff] at e2
      obtain ⟨⟨y, μ2⟩, e3, ⟨w, μ3⟩, e4, e5⟩ := e2
      have y1' := y1
      cases y1 with
      | ref hn =>
        obtain ⟨ks0, h0, _⟩ := dic_at x1.sto hn en0
        refine ⟨_, rfl, .inl ⟨ks0, .inl h0⟩, φ1, ρ, μ1, y, μ2, R.step x1, e3, fun φ2 v2 H2 x2 y2 => ⟨φ2, ρ, μ2, w, μ3, (R.step x1).step x2, e4, fun φ3 v3 H3 x3 y3 => ?_⟩⟩
        split at e5
        · rename_i kvs en
          split at e5
          · rename_i hlen
            simp only [Option.map_eq_some_iff] at e5
            obtain ⟨k, ek, e6⟩ := e5
            cases x3.ext.enc (x2.ext.enc y1') with
            | ref hn3 =>
              obtain ⟨ks, h1, h2⟩ := dic_at x3.sto hn3 en
              have hk := keyD_ok (x3.ext.enc y2) ek
              have hv := h2.val (k := k)
              have xx := (x1.trans x2).trans x3
              refine ⟨ks, k, h1, hk, by rw [h2.len]; exact hlen, fun v ev => ?_, fun ev => ?_⟩
              · cases eg : getK kvs k with
                | none => rw [eg] at hv; rw [hv] at ev; cases ev
                | some dd =>
                  rw [eg] at hv e6
                  cases e6
                  obtain ⟨u, hu, hd⟩ := hv
                  rw [hu] at ev; cases ev
                  exact q φ3 _ H3 xx hd
              · cases eg : getK kvs k with
                | some dd => rw [eg] at hv; obtain ⟨u, hu, hd⟩ := hv; rw [hu] at ev; cases ev
                | none =>
                  rw [eg] at e6
                  cases e6
                  have c0 := x3.sto.at_ n _ _ hn3 en
                  have g : Grow H3 (upd H3 _ (.dK (putK ks k v3))) := ⟨fun b xs e => by rw [upd_ne (fun z => by rw [z] at e; exact dk_noT h1 _ e)]; exact e, fun b p u e => by rw [upd_ne (fun z => by rw [z] at e; exact dk_noF h1 _ _ e)]; exact e⟩
                  have hp : putK ks k v3 = ks ++ [(k, v3)] := putK_new _ ev
                  have x4 : Res ε φ3 H3 φ3 (μ3.set n (.dic (kvs ++ [(k, _)]))) (upd H3 _ (.dK (putK ks k v3))) := Res.set x3.sto hn3 (dk_noT h1) (dk_noF h1) (.dic upd_same (by
                    have c1 : EncK ε φ3 H3 [(k, v3)] [(k, d)] := .cons ⟨rfl, y3⟩ .nil
                    have m := (h2.app c1).mono [] g
                    rw [List.append_nil, ← hp] at m
                    exact m))
                  exact q φ3 _ _ (xx.trans x4) (x4.ext.enc y3)
          · cases e5
        · cases e5
    · cases e2
  · cases e2
theorem sd_dcopy (C : CxOk ε T Γ S X) {a : Expr} {ia : IE} {xp pos : Pos} (hg : glB S.sc "dict" = true) (ht : T.look "dict" = .no) (ha : PE X a (rdE ε Γ ia)) (ok : okE a = true) : PE X (.Call (.Name "dict" xp) [a] [] pos) (rdE ε Γ (.dcopy ia)) := by
  have g := C.gl "dict"
  rw [ht] at g
  have rule : CallR X (.type "dict") (fun xs H Q => ∃ p ks, xs = [.ref p] ∧ H p = some (.dK ks) ∧ ∀ l, H l = none → Q (.ref l) (upd H l (.dK ks))) := by
    intro pins s σ H xs us Q I r ⟨p, ks, e, hp, q⟩
    subst e
    obtain ⟨u, rfl, ru⟩ := vals1 r
    cases ru
    exact d_copyOf I (.inl hp) fun l s' hl I' => ⟨.ref l, _, I', rfl, q l hl⟩
  refine PE.imp (pe_callTy rule (glB_ok C hg) g (by decide +kernel) (pa_cons ha pa_nil (star_cons ok)) (by decide +kernel) (by decide +kernel) (star_cons ok) rfl) fun σ H Q ⟨φ, ρ, μ, d, μ', R, e, q⟩ => ?_
  simp only [evE, Option.bind_eq_some_iff] at e
  obtain ⟨⟨x, μ1⟩, e1, e2⟩ := e
  refine ⟨φ, ρ, μ, x, μ1, R, e1, fun φ1 v H1 x1 y1 => ?_⟩
  split at e2
  · rename_i n hx
    obtain rfl : x = .ref n := hx
    split at e2
    · rename_i kvs en
      cases e2
      cases y1 with
      | ref hn =>
        obtain ⟨ks, h1, h2⟩ := dic_at x1.sto hn en
        refine ⟨_, ks, rfl, h1, fun l hl => ?_⟩
        have x2 : Res ε φ1 H1 (φ1 ++ [l]) (μ1 ++ [.dic kvs]) (upd H1 l (.dK ks)) := Res.new x1.sto hl (.dic upd_same (h2.mono [l] (Ex.new hl).grow))
        exact q _ _ _ (x1.trans x2) (.ref (by rw [← x1.sto.len]; simp))
    · cases e2
  · cases e2
end
end FH
end
section
/-! FH7: targets, what is walked, comprehensions. -/
namespace FH
open PySem PySem.Spec PyProof.Rows L2
section
variable {ε : Ev} {T : Tab} {Γ : Env2} {S : SC} {X : Cx} {φ : List Addr} {H : Hp} {μ : Store} {ρ : Slots} {σ : L2.St}

/-! ### names changed -/
theorem ownA_sub {s : Slot} {o : Option V} : (ownA ρ σ).Sublist (ownA (s :: ρ) (o :: σ)) := by
  cases s <;> cases o <;> (try (rename_i v; cases v)) <;> (first | exact List.Sublist.refl _ | exact List.sublist_cons_self _ _ | skip)
  all_goals (first | (rename_i w _; cases w <;> first | exact List.Sublist.refl _ | exact List.sublist_cons_self _ _) | skip)
theorem ownA_skip {s : Slot} {o : Option V} (h : ∀ c, s ≠ .own c) : ownA (s :: ρ) (o :: σ) = ownA ρ σ := by
  cases s with
  | own c => exact absurd rfl (h c)
  | emp => rfl
  | val d => rfl
theorem mem_ownA_cons {s : Slot} {o : Option V} {b : Addr} (h : b ∈ ownA (s :: ρ) (o :: σ)) : b ∈ ownA ρ σ ∨ ∃ c, s = .own c ∧ o = some (.ref b) := by
  cases s with
  | emp => exact .inl h
  | val d => exact .inl h
  | own c =>
    cases o with
    | none => exact .inl h
    | some v =>
      cases v with
      | ref a =>
        simp only [ownA, List.mem_cons] at h
        rcases h with rfl | h
        · exact .inr ⟨c, rfl, rfl⟩
        · exact .inl h
      | _ => exact .inl h
theorem mem_ownA_set {s : Slot} {o : Option V} {b : Addr} : ∀ {ρ : Slots} {σ : L2.St} {i : Nat}, b ∈ ownA (ρ.set i s) (σ.set i o) → b ∈ ownA ρ σ ∨ ∃ c, s = .own c ∧ o = some (.ref b)
  | [], σ, i, h => by simp [ownA] at h
  | s0 :: ρ, [], i, h => by cases i <;> simp [ownA] at h
  | s0 :: ρ, o0 :: σ, 0, h => by
    rcases mem_ownA_cons (ρ := ρ) (σ := σ) h with h | h
    · exact .inl (ownA_cons h)
    · exact .inr h
  | s0 :: ρ, o0 :: σ, i + 1, h => by
    rcases mem_ownA_cons (ρ := ρ.set i s) (σ := σ.set i o) h with h | ⟨c, rfl, rfl⟩
    · rcases mem_ownA_set h with h | h
      · exact .inl (ownA_cons h)
      · exact .inr h
    · exact .inl (by simp [ownA])
theorem nodup_ownA_set {s : Slot} {o : Option V} (h : ∀ c a, s = .own c → o = some (.ref a) → a ∉ ownA ρ σ) : ∀ {i : Nat}, (ownA ρ σ).Nodup → (ownA (ρ.set i s) (σ.set i o)).Nodup := by
  induction ρ generalizing σ with
  | nil => intro i _; simp [ownA]
  | cons s0 ρ ih =>
    cases σ with
    | nil => intro i _; cases i <;> simp [ownA]
    | cons o0 σ =>
      intro i nd
      have nd' : (ownA ρ σ).Nodup := nd.sublist ownA_sub
      have h' : ∀ c a, s = .own c → o = some (.ref a) → a ∉ ownA ρ σ := fun c a e1 e2 z => h c a e1 e2 (ownA_cons z)
      cases i with
      | zero =>
        show (ownA (s :: ρ) (o :: σ)).Nodup
        cases s with
        | emp => exact nd'
        | val d => exact nd'
        | own c =>
          cases o with
          | none => exact nd'
          | some v =>
            cases v with
            | ref a => exact List.nodup_cons.mpr ⟨h' c a rfl rfl, nd'⟩
            | _ => exact nd'
      | succ i =>
        show (ownA (s0 :: ρ.set i s) (o0 :: σ.set i o)).Nodup
        have r := ih h' (i := i) nd'
        cases s0 with
        | emp => exact r
        | val d => exact r
        | own c0 =>
          cases o0 with
          | none => exact r
          | some v =>
            cases v with
            | ref a =>
              refine List.nodup_cons.mpr ⟨fun z => ?_, r⟩
              rcases mem_ownA_set z with z | ⟨c, e1, e2⟩
              · exact (List.nodup_cons.mp (show (a :: ownA ρ σ).Nodup from nd)).1 z
              · exact h c a e1 e2 (by simp [ownA])
            | _ => exact r
theorem Paired.put {α β : Type} {F : α → β → Prop} {a : α} {b : β} (h : F a b) : ∀ {l : List α} {m : List β} {i : Nat}, Paired F l m → Paired F (l.set i a) (m.set i b)
  | _, _, _, .nil => .nil
  | _, _, 0, .cons _ t => .cons h t
  | _, _, i + 1, .cons q t => .cons q (Paired.put h t)
theorem Rel.put {s : Slot} {o : Option V} {i : Nat} (R : Rel ε φ ρ μ σ H) (h : SlotOk ε φ H s o) (n : ∀ c a, s = .own c → o = some (.ref a) → a ∉ ownA ρ σ ∧ a ∉ φ) : Rel ε φ (ρ.set i s) μ (σ.set i o) H := by
  refine ⟨R.sto, Paired.put h R.slots, nodup_ownA_set (fun c a e1 e2 => (n c a e1 e2).1) R.nd, fun a ha => ?_⟩
  rcases mem_ownA_set ha with ha | ⟨c, e1, e2⟩
  · exact R.dj a ha
  · exact (n c a e1 e2).2
theorem Rel.val {v : V} {d : D} {i : Nat} (R : Rel ε φ ρ μ σ H) (h : Enc ε φ H v d) : Rel ε φ (ρ.set i (.val d)) μ (σ.set i (some v)) H := R.put ⟨v, rfl, h⟩ fun _ _ e => nomatch e
theorem Rel.emp {i : Nat} {o : Option V} (R : Rel ε φ ρ μ σ H) : Rel ε φ (ρ.set i .emp) μ (σ.set i o) H := R.put trivial fun _ _ e => nomatch e
theorem Rel.wipe (R : Rel ε φ ρ μ σ H) : ∀ vs : List Nat, Rel ε φ (wipeS ρ vs) μ (L2.wipe σ vs) H
  | [] => R
  | v :: vs => (Rel.wipe R vs).emp
theorem Rel.len (R : Rel ε φ ρ μ σ H) : ρ.length = σ.length := Paired.length R.slots

/-! ### targets -/
mutual
def tgI : Tg → List Nat
  | .nm i => [i]
  | .tp ts => tgsI ts
def tgsI : Tgs → List Nat
  | .nil => []
  | .cons t ts => tgI t ++ tgsI ts
end
structure Out (is : List Nat) (σ σ' : L2.St) : Prop where
  len : σ'.length = σ.length
  out : ∀ i, i ∉ is → σ'[i]? = σ[i]?
theorem Out.refl {is : List Nat} : Out is σ σ := ⟨rfl, fun _ _ => rfl⟩
theorem Out.trans {is js : List Nat} {σ1 σ2 : L2.St} (a : Out is σ σ1) (b : Out js σ1 σ2) : Out (is ++ js) σ σ2 := ⟨b.len.trans a.len, fun i h => by
  simp only [List.mem_append, not_or] at h
  rw [b.out i h.2, a.out i h.1]⟩
def OwnLe (ρ : Slots) (σ : L2.St) (ρ' : Slots) (σ' : L2.St) : Prop := ∀ a ∈ ownA ρ' σ', a ∈ ownA ρ σ
def rdG (ε : Ev) (g : Tg) : TG := fun v σ H Q => ∃ φ ρ μ d ρ', Rel ε φ ρ μ σ H ∧ Enc ε φ H v d ∧ asgT g d ρ = some ρ' ∧ ∀ σ', Rel ε φ ρ' μ σ' H → Out (tgI g) σ σ' → OwnLe ρ σ ρ' σ' → Q σ' H
def rdGs (ε : Ev) (g : Tgs) : TGs := fun vs σ H Q => ∃ φ ρ μ ds ρ', Rel ε φ ρ μ σ H ∧ EncL ε φ H vs ds ∧ asgTs g ds ρ = some ρ' ∧ ∀ σ', Rel ε φ ρ' μ σ' H → Out (tgsI g) σ σ' → OwnLe ρ σ ρ' σ' → Q σ' H
theorem PG.imp {e : Expr} {t t' : TG} (h : PG X e t) (k : ∀ v σ H Q, t' v σ H Q → t v σ H Q) : PG X e t' := ⟨fun pins s σ H v u Q I r q => h.run pins s σ H v u Q I r (k v σ H Q q)⟩
theorem PGs.imp {e : List Expr} {t t' : TGs} (h : PGs X e t) (k : ∀ v σ H Q, t' v σ H Q → t v σ H Q) : PGs X e t' := ⟨fun pins s σ H v u Q I r q => h.run pins s σ H v u Q I r (k v σ H Q q)⟩
theorem out_set {i : Nat} {o : Option V} : Out [i] σ (σ.set i o) := ⟨by simp, fun j h => by
  rw [List.getElem?_set_ne (fun e => h (by simp [e]))]⟩
theorem own_set {s : Slot} {o : Option V} {i : Nat} (n : ∀ c, s ≠ .own c) : OwnLe ρ σ (ρ.set i s) (σ.set i o) := fun a h => by
  rcases mem_ownA_set h with h | ⟨c, e, _⟩
  · exact h
  · exact absurd e (n c)
def locB (S : SC) (x : Str) : Bool := match S.sc.names.lookup x with
  | some .local => true | some .cell => (match S.bs with | none => true | some sc => sc.names.lookup x == some .cell) | _ => false
theorem locB_ok (C : CxOk ε T Γ S X) {x : Str} (h : locB S x = true) : L2.Loc X.env.scope x ∧ (X.fn x = true ∨ X.env.scope.names.lookup x = some .local) := by
  unfold locB at h
  rw [C.sc]
  unfold L2.Loc
  split at h
  · rename_i e; exact ⟨.inl e, .inr e⟩
  · rename_i e
    refine ⟨.inr e, .inl ?_⟩
    have q := C.fn x
    split at h
    · rename_i eb; rw [eb] at q; exact q
    · rename_i sc eb
      rw [eb] at q
      rw [q]; exact h
  · cases h
theorem sg_nm (C : CxOk ε T Γ S X) {i : Nat} {x : Str} {pos : Pos} (h : S.N[i]? = some x) (hl : locB S x = true) : PG X (.Name x pos) (rdG ε (.nm i)) := by
  obtain ⟨h1, h2⟩ := locB_ok C hl
  refine PG.imp (pg_name (i := i) (by rw [C.N]; exact C.nd) (by rw [C.N]; exact h) h1 h2) fun v σ H Q ⟨φ, ρ, μ, d, ρ', R, hv, e, q⟩ => ?_
  unfold asgT at e
  split at e
  · cases e
    exact q _ (R.val hv) out_set (own_set fun _ z => nomatch z)
  · cases e
theorem sgs_nil : PGs X [] (rdGs ε .nil) := by
  refine PGs.imp pgs_nil fun vs σ H Q ⟨φ, ρ, μ, ds, ρ', R, hv, e, q⟩ => ?_
  cases ds with
  | nil => cases hv; cases e; exact ⟨rfl, q σ R .refl fun _ z => z⟩
  | cons d ds => cases e
def tgE : Expr → Bool
  | .Name .. => true | .Tuple .. => true | _ => false
theorem each_cons {e : Expr} {es : List Expr} {env : Env} (h : tgE e = true) : (assignEach (e :: es) env).map (·.2) = assign e env :: (assignEach es env).map (·.2) := by
  cases e <;> first | rfl | (simp [tgE] at h)
theorem each_len : ∀ {es : List Expr} {env : Env}, es.all tgE = true → (assignEach es env).length = es.length ∧ (assignEach es env).findIdx? (·.1) = none
  | [], env, _ => ⟨rfl, rfl⟩
  | e :: es, env, h => by
    simp only [List.all_cons, Bool.and_eq_true] at h
    obtain ⟨h1, h2⟩ := each_len (env := env) h.2
    have key : assignEach (e :: es) env = (false, assign e env) :: assignEach es env := by
      cases e <;> first | rfl | (simp [tgE] at h)
    rw [key]
    refine ⟨by simp [h1], ?_⟩
    simp [List.findIdx?_cons, h2]
theorem sgs_cons {e : Expr} {es : List Expr} {t : Tg} {ts : Tgs} (ht : tgE e = true) (h1 : PG X e (rdG ε t)) (h2 : PGs X es (rdGs ε ts)) : PGs X (e :: es) (rdGs ε (.cons t ts)) := by
  refine PGs.imp (pgs_cons h1 h2 (each_cons ht)) fun vs σ H Q ⟨φ, ρ, μ, ds, ρ', R, hv, e, q⟩ => ?_
  cases ds with
  | nil => cases e
  | cons d ds =>
    cases hv with
    | cons hv1 hv2 =>
      simp only [asgTs, Option.bind_eq_some_iff] at e
      obtain ⟨ρ1, e1, e2⟩ := e
      refine ⟨_, _, rfl, φ, ρ, μ, d, ρ1, R, hv1, e1, fun σ1 R1 o1 w1 => ⟨φ, ρ1, μ, ds, ρ', R1, hv2, e2, fun σ2 R2 o2 w2 => ?_⟩⟩
      exact q σ2 R2 (o1.trans o2) fun a h => w1 a (w2 a h)
theorem asgTs_len : ∀ {ts : Tgs} {ds : List D} {ρ ρ' : Slots} {n : Nat} (es : List Expr), asgTs ts ds ρ = some ρ' → (∀ _ : True, True) → True
  | _, _, _, _, _, _, _, _ => trivial
def tgsN : Tgs → Nat
  | .nil => 0
  | .cons _ ts => tgsN ts + 1
theorem asgTs_n : ∀ {ts : Tgs} {ds : List D} {ρ ρ' : Slots}, asgTs ts ds ρ = some ρ' → ds.length = tgsN ts
  | .nil, [], _, _, _ => rfl
  | .nil, _ :: _, _, _, h => by cases h
  | .cons _ _, [], _, _, h => by cases h
  | .cons t ts, d :: ds, _, _, h => by
    simp only [asgTs, Option.bind_eq_some_iff] at h
    obtain ⟨_, _, h⟩ := h
    simp [tgsN, asgTs_n h]
theorem sg_tp (C : CxOk ε T Γ S X) {es : List Expr} {ts : Tgs} {j : Nat} {pos : Pos} (hn : es.length = tgsN ts) (ht : es.all tgE = true) (h : PGs X es (rdGs ε ts)) : PG X (.Tuple es j pos) (rdG ε (.tp ts)) := by
  obtain ⟨l1, l2⟩ := each_len (env := X.env) ht
  refine PG.imp (pg_tup C.calm h l1 l2) fun v σ H Q ⟨φ, ρ, μ, d, ρ', R, hv, e, q⟩ => ?_
  cases d <;> (first | (exfalso; simp [asgT] at e; done) | skip)
  rename_i ds
  simp only [asgT] at e
  cases hv with
  | tup h1 h2 => exact ⟨_, _, rfl, by rw [← C.K]; exact h1, by rw [h2.length, asgTs_n e, hn], φ, ρ, μ, ds, ρ', R, h2, e, q⟩

/-! ### what is walked -/
/-- the iterator yields these, whatever else happens meanwhile -/
structure ItOk (ε : Ev) (φ : List Addr) (H : Hp) (ds : List D) (J : It) : Prop where
  go : ∀ H1, Grow H H1 → ∀ (i : Nat) (d : D), ds[i]? = some d → J.go i H1 ∧ ∀ x H2, J.yld i H1 x H2 → Ex H1 H2 ∧ Enc ε φ H2 x d
  stop : ∀ H1, Grow H H1 → J.stop ds.length H1
def SrOk (ε : Ev) (φ : List Addr) (H : Hp) : Sr → It → Prop
  | .items ds, J => ItOk ε φ H ds J
  | .cel n, J => ∃ a, φ[n]? = some a ∧ J = Itl ε.K a
def rdS (ε : Ev) (Γ : Env2) (s : Src) : TI := fun σ H R => ∃ φ ρ μ sr μ', Rel ε φ ρ μ σ H ∧ evSrc Γ s ρ μ = some (sr, μ') ∧ ∀ φ' J H', Res ε φ H φ' μ' H' → SrOk ε φ' H' sr J → R J H'
theorem PI.imp {tg e : Expr} {t t' : TI} (h : PI X tg e t) (k : ∀ σ H Q, t' σ H Q → t σ H Q) : PI X tg e t' := ⟨fun pins s σ H Q I q => h.run pins s σ H Q I (k σ H Q q)⟩
theorem PI.or {tg e : Expr} {t t' : TI} (h : PI X tg e t) (k : PI X tg e t') : PI X tg e (fun σ H Q => t σ H Q ∨ t' σ H Q) := ⟨fun pins s σ H Q I q => q.elim (fun q => h.run pins s σ H Q I q) fun q => k.run pins s σ H Q I q⟩
theorem it_list {a : Addr} {vs : List V} {ds : List D} (h : FzL ε.K H a vs) (hl : EncL ε φ H vs ds) : ItOk ε φ H ds (Itl ε.K a) := by
  refine ⟨fun H1 g i d e => ?_, fun H1 g => ⟨vs, (FzL.grow g h).rd.sq, by rw [hl.length]; exact Nat.le_refl _⟩⟩
  have hl1 := hl.grow g
  obtain ⟨v, h1, h2⟩ := hl1.get e
  have q : SqL ε.K H1 a vs := (FzL.grow g h).rd.sq
  refine ⟨⟨vs, v, q, h1⟩, fun x H2 ⟨e2, y⟩ => ?_⟩
  subst e2
  have := y vs q
  rw [h1] at this; cases this
  exact ⟨.refl, h2⟩
theorem it_tup {a : Addr} {vs : List V} {ds : List D} (h : SqT ε.K H a vs) (hl : EncL ε φ H vs ds) : ItOk ε φ H ds (Itt ε.K a) := by
  refine ⟨fun H1 g i d e => ?_, fun H1 g => ⟨vs, SqT.grow g h, by rw [hl.length]; exact Nat.le_refl _⟩⟩
  have hl1 := hl.grow g
  obtain ⟨v, h1, h2⟩ := hl1.get e
  have q := SqT.grow g h
  refine ⟨⟨vs, v, q, h1⟩, fun x H2 ⟨e2, y⟩ => ?_⟩
  subst e2
  have := y vs q
  rw [h1] at this; cases this
  exact ⟨.refl, h2⟩
theorem it_str {z : Str} : ItOk ε φ H (z.cps.toList.map fun c => D.str ⟨#[c]⟩) (Its z) := by
  refine ⟨fun H1 g i d e => ?_, fun H1 g => by show z.cps.size ≤ _; simp⟩
  rw [List.getElem?_map] at e
  cases ec : z.cps.toList[i]? with
  | none => rw [ec] at e; cases e
  | some c =>
    rw [ec] at e; cases e
    have hi := (List.getElem?_eq_some_iff.mp ec).1
    refine ⟨by show i < z.cps.size; simpa using hi, fun x H2 ⟨e2, c', e3, e4⟩ => ?_⟩
    subst e2; subst e4
    have : z.cps[i]? = some c := by simpa using ec
    rw [this] at e3; cases e3
    exact ⟨.refl, .str _⟩
theorem it_range {lo : Int} {n : Nat} : ItOk ε φ H (rangeD lo n) (Itr lo n) := by
  refine ⟨fun H1 g i d e => ?_, fun H1 g => by show n ≤ _; simp [rangeD]⟩
  unfold rangeD at e
  rw [List.getElem?_map] at e
  cases ec : (List.range n)[i]? with
  | none => rw [ec] at e; cases e
  | some k =>
    rw [ec] at e; cases e
    have hi := (List.getElem?_eq_some_iff.mp ec).1
    rw [List.length_range] at hi
    have hk : k = i := by
      rw [List.getElem?_range hi] at ec; cases ec; rfl
    subst hk
    refine ⟨hi, fun x H2 ⟨e2, e3⟩ => ?_⟩
    subst e2; subst e3
    exact ⟨.refl, .int _⟩
theorem ss_it (C : CxOk ε T Γ S X) {tg e : Expr} {ie : IE} (h : PE X e (rdE ε Γ ie)) : PI X tg e (rdS ε Γ (.it ie)) := by
  refine PI.imp (FH.PI.or (pi_list h) (FH.PI.or (pi_tup h) (pi_str h))) fun σ H R ⟨φ, ρ, μ, sr, μ', Rl, e, q⟩ => ?_
  simp only [evSrc, Option.bind_eq_some_iff, Option.map_eq_some_iff] at e
  obtain ⟨⟨x, μ1⟩, e1, ds, e2, e3⟩ := e
  cases e3
  cases x <;> (first | (exfalso; simp [itemsD] at e2; done) | skip)
  · cases e2
    exact .inr (.inr ⟨φ, ρ, μ, _, _, Rl, e1, fun φ1 v H1 x1 y1 => by cases y1; exact ⟨_, rfl, q φ1 _ H1 x1 it_str⟩⟩)
  · cases e2
    refine .inr (.inl ⟨φ, ρ, μ, _, _, Rl, e1, fun φ1 v H1 x1 y1 => ?_⟩)
    cases y1 with
    | tup h1 h2 => exact ⟨_, rfl, ⟨_, by rw [← C.K]; exact h1⟩, q φ1 _ H1 x1 (by rw [← C.K]; exact it_tup h1 h2)⟩
  · cases e2
    refine .inl ⟨φ, ρ, μ, _, _, Rl, e1, fun φ1 v H1 x1 y1 => ?_⟩
    cases y1 with
    | lst h1 h2 => exact ⟨_, rfl, ⟨_, (C.K ▸ h1.rd.sq)⟩, q φ1 _ H1 x1 (by rw [← C.K]; exact it_list h1 h2)⟩
theorem ss_cel (C : CxOk ε T Γ S X) {tg e : Expr} {ie : IE} (h : PE X e (rdE ε Γ ie)) : PI X tg e (rdS ε Γ (.cel ie)) := by
  refine PI.imp (pi_list h) fun σ H R ⟨φ, ρ, μ, sr, μ', Rl, e, q⟩ => ?_
  simp only [evSrc, Option.bind_eq_some_iff] at e
  obtain ⟨⟨x, μ1⟩, e1, e2⟩ := e
  refine ⟨φ, ρ, μ, x, μ1, Rl, e1, fun φ1 v H1 x1 y1 => ?_⟩
  split at e2
  · rename_i n hx
    obtain rfl : x = .ref n := hx
    split at e2
    · rename_i ds en
      cases e2
      cases y1 with
      | ref hn =>
        have c := x1.sto.at_ n _ _ hn en
        cases c with
        | lst c1 c2 => exact ⟨_, rfl, ⟨_, SqL.of c1⟩, q φ1 _ H1 x1 (by rw [← C.K]; exact ⟨_, hn, rfl⟩)⟩
    · cases e2
  · cases e2
theorem ss_range1 (C : CxOk ε T Γ S X) {tg a : Expr} {ia : IE} {xp pos : Pos} (hg : glB S.sc "range" = true) (ht : T.look "range" = .no) (ha : PE X a (rdE ε Γ ia)) (ok : okE a = true) : PI X tg (.Call (.Name "range" xp) [a] [] pos) (rdS ε Γ (.range1 ia)) := by
  have g := C.gl "range"
  rw [ht] at g
  refine PI.imp (pi_range1 (glB_ok C hg) g (pa_cons ha pa_nil (star_cons ok)) (star_cons ok)) fun σ H R ⟨φ, ρ, μ, sr, μ', Rl, e, q⟩ => ?_
  simp only [evSrc, Option.bind_eq_some_iff] at e
  obtain ⟨⟨x, μ1⟩, e1, e2⟩ := e
  refine ⟨φ, ρ, μ, x, μ1, Rl, e1, fun φ1 v H1 x1 y1 => ?_⟩
  split at e2
  · rename_i j hx
    obtain rfl : x = .int j := hx
    split at e2
    · rename_i hz
      cases e2
      cases y1
      exact ⟨j, rfl, hz.1, hz.2, q φ1 _ H1 x1 it_range⟩
    · cases e2
  · cases e2
theorem ss_range2 (C : CxOk ε T Γ S X) {tg a b : Expr} {ia ib : IE} {xp pos : Pos} (hg : glB S.sc "range" = true) (ht : T.look "range" = .no) (ha : PE X a (rdE ε Γ ia)) (hb : PE X b (rdE ε Γ ib)) (ok : okE a = true) (ok2 : okE b = true) :
    PI X tg (.Call (.Name "range" xp) [a, b] [] pos) (rdS ε Γ (.range2 ia ib)) := by
  have g := C.gl "range"
  rw [ht] at g
  have st2 : starEach [b] X.env = [(false, eval b X.env)] := star_cons ok2
  have st1 : starEach [a, b] X.env = [(false, eval a X.env), (false, eval b X.env)] := by rw [star_cons ok, st2]
  refine PI.imp (pi_range2 (glB_ok C hg) g (pa_cons ha (pa_cons hb pa_nil (star_cons ok2)) (star_cons ok)) st1 st2) fun σ H R ⟨φ, ρ, μ, sr, μ', Rl, e, q⟩ => ?_
  simp only [evSrc, Option.bind_eq_some_iff] at e
  obtain ⟨⟨x, μ1⟩, e1, ⟨y, μ2⟩, e2, e3⟩ := e
  refine ⟨φ, ρ, μ, x, μ1, Rl, e1, fun φ1 v H1 x1 y1 => ⟨φ1, ρ, μ1, y, μ2, Rl.step x1, e2, fun φ2 w H2 x2 y2 => ?_⟩⟩
  split at e3
  · rename_i i j hx hy
    obtain rfl : x = .int i := hx
    obtain rfl : y = .int j := hy
    split at e3
    · rename_i hz
      cases e3
      cases y1
      cases y2
      exact ⟨i, j, rfl, hz, q φ2 _ H2 (x1.trans x2) it_range⟩
    · cases e3
  · cases e3
theorem ss_enum (C : CxOk ε T Γ S X) {a : Expr} {ia : IE} {xp pos tpos : Pos} {elts : List Expr} {kk : Nat} (hg : glB S.sc "enumerate" = true) (ht : T.look "enumerate" = .no) (ha : PE X a (rdE ε Γ ia)) (ok : okE a = true) :
    PI X (.Tuple elts kk tpos) (.Call (.Name "enumerate" xp) [a] [] pos) (rdS ε Γ (.enum ia)) := by
  have g := C.gl "enumerate"
  rw [ht] at g
  refine PI.imp (pi_enum (glB_ok C hg) g (pa_cons ha pa_nil (star_cons ok)) (star_cons ok)) fun σ H R ⟨φ, ρ, μ, sr, μ', Rl, e, q⟩ => ?_
  simp only [evSrc, Option.bind_eq_some_iff] at e
  obtain ⟨⟨x, μ1⟩, e1, e2⟩ := e
  refine ⟨φ, ρ, μ, x, μ1, Rl, e1, fun φ1 v H1 x1 y1 => ?_⟩
  split at e2
  · rename_i ds hx
    obtain rfl : x = .lst ds := hx
    cases e2
    cases y1 with
    | lst h1 h2 =>
      rename_i a vs
      refine ⟨_, vs, rfl, (C.K ▸ h1.rd.sq), q φ1 _ H1 x1 ?_⟩
      refine ⟨fun H2 gr i d e => ?_, fun H2 gr => ⟨vs, (C.K ▸ (FzL.grow gr h1).rd.sq), by simp [h2.length]⟩⟩
      rw [List.getElem?_map, List.getElem?_zipIdx] at e
      cases ed : ds[i]? with
      | none => rw [ed] at e; cases e
      | some c =>
        rw [ed] at e
        simp at e
        subst e
        obtain ⟨w, hw1, hw2⟩ := (h2.grow gr).get ed
        have hq : SqL X.K H2 a vs := (C.K ▸ (FzL.grow gr h1).rd.sq)
        refine ⟨⟨vs, w, hq, hw1⟩, fun z H3 ⟨p, y, e1, e2, e3, e4⟩ => ?_⟩
        subst e1; subst e3
        have := e4 vs hq
        rw [hw1] at this; cases this
        have gx : Ex H2 (upd H2 p (.tup [.int (i : Nat), w])) := Ex.new e2
        exact ⟨gx, .tup (SqT.of upd_same) (.cons (.int _) (.cons (hw2.grow gx.grow) .nil))⟩
  · cases e2
theorem zip2_get : ∀ {xs ys : List D} {i : Nat} {d : D}, (zip2 xs ys)[i]? = some d → ∃ x y, xs[i]? = some x ∧ ys[i]? = some y ∧ d = .tup [x, y]
  | [], _, i, d, h => by simp [zip2] at h
  | _ :: _, [], i, d, h => by simp [zip2] at h
  | x :: xs, y :: ys, 0, d, h => by simp [zip2] at h; exact ⟨x, y, rfl, rfl, h.symm⟩
  | x :: xs, y :: ys, i + 1, d, h => by
    simp only [zip2, List.getElem?_cons_succ] at h ⊢
    exact zip2_get h
theorem zip2_end : ∀ {xs ys : List D}, xs[(zip2 xs ys).length]? = none ∨ ys[(zip2 xs ys).length]? = none
  | [], _ => .inl (by simp [zip2])
  | _ :: _, [] => .inr (by simp [zip2])
  | x :: xs, y :: ys => by
    simp only [zip2, List.length_cons, List.getElem?_cons_succ]
    exact zip2_end
theorem zip3_get : ∀ {xs ys zs : List D} {i : Nat} {d : D}, (zip3 xs ys zs)[i]? = some d → ∃ x y z, xs[i]? = some x ∧ ys[i]? = some y ∧ zs[i]? = some z ∧ d = .tup [x, y, z]
  | [], _, _, i, d, h => by simp [zip3] at h
  | _ :: _, [], _, i, d, h => by simp [zip3] at h
  | _ :: _, _ :: _, [], i, d, h => by simp [zip3] at h
  | x :: xs, y :: ys, z :: zs, 0, d, h => by simp [zip3] at h; exact ⟨x, y, z, rfl, rfl, rfl, h.symm⟩
  | x :: xs, y :: ys, z :: zs, i + 1, d, h => by
    simp only [zip3, List.getElem?_cons_succ] at h ⊢
    exact zip3_get h
theorem zip3_end : ∀ {xs ys zs : List D}, xs[(zip3 xs ys zs).length]? = none ∨ ys[(zip3 xs ys zs).length]? = none ∨ zs[(zip3 xs ys zs).length]? = none
  | [], _, _ => .inl (by simp [zip3])
  | _ :: _, [], _ => .inr (.inl (by simp [zip3]))
  | _ :: _, _ :: _, [] => .inr (.inr (by simp [zip3]))
  | x :: xs, y :: ys, z :: zs => by
    simp only [zip3, List.length_cons, List.getElem?_cons_succ]
    exact zip3_end
theorem seqD_sq {φ : List Addr} {H : Hp} {d : D} {v : V} {ds : List D} (h : Enc ε φ H v d) (e : seqD d = some ds) :
    ∃ (s : Bool × Addr) (vs : List V), v = .ref s.2 ∧ EncL ε φ H vs ds ∧ ∀ H1, Grow H H1 → Zp.SqB ε.K H1 s vs := by
  cases h with
  | tup h1 h2 => cases e; exact ⟨(false, _), _, rfl, h2, fun H1 g => SqT.grow g h1⟩
  | lst h1 h2 => cases e; exact ⟨(true, _), _, rfl, h2, fun H1 g => (FzL.grow g h1).rd.sq⟩
  | _ => cases e
theorem ss_zip (C : CxOk ε T Γ S X) {a b : Expr} {es : List Expr} {ies : IEs} {xp pos tpos : Pos} {elts : List Expr} {kk : Nat} (hg : glB S.sc "zip" = true) (ht : T.look "zip" = .no) (ha : PA X (a :: b :: es) (rdA ε Γ ies)) (ok : okE a = true) (ok2 : (b :: es).all okE = true) :
    PI X (.Tuple elts kk tpos) (.Call (.Name "zip" xp) (a :: b :: es) [] pos) (rdS ε Γ (.zip ies)) := by
  have g := C.gl "zip"
  rw [ht] at g
  refine PI.imp (Zp.pi_zipN (glB_ok C hg) g ha (star_cons ok) (star_plain ok2)) fun σ H R ⟨φ, ρ, μ, sr, μ', Rl, e, q⟩ => ?_
  simp only [evSrc, Option.bind_eq_some_iff, Option.map_eq_some_iff] at e
  obtain ⟨⟨xs, μ1⟩, e1, ds, e2, e3⟩ := e
  cases e3
  refine ⟨φ, ρ, μ, xs, _, Rl, e1, fun φ1 vs H1 x1 y1 => ?_⟩
  change zipD xs = some ds at e2
  unfold zipD at e2
  split at e2
  · split at e2
    · rename_i ds1 ds2 h1 h2
      cases e2
      cases y1 with
      | cons k1 t =>
        cases t with
        | cons k2 t =>
          cases t
          obtain ⟨s1, vs1, rfl, l1, m1⟩ := seqD_sq k1 h1
          obtain ⟨s2, vs2, rfl, l2, m2⟩ := seqD_sq k2 h2
          rw [C.K] at m1 m2
          refine ⟨[s1, s2], [vs1, vs2], rfl, .inl rfl, .cons (m1 _ .refl) (.cons (m2 _ .refl) .nil), q φ1 _ H1 x1 ⟨fun H2 gr i d e => ?_, fun H2 gr => ⟨[vs1, vs2], .cons (C.K ▸ m1 _ gr) (.cons (C.K ▸ m2 _ gr) .nil), ?_⟩⟩⟩
          · obtain ⟨x, y, hx, hy, rfl⟩ := zip2_get e
            obtain ⟨w1, a1, a2⟩ := (l1.grow gr).get hx
            obtain ⟨w2, b1, b2⟩ := (l2.grow gr).get hy
            have hX : Zp.SqBs X.K H2 [s1, s2] [vs1, vs2] := .cons (m1 _ gr) (.cons (m2 _ gr) .nil)
            refine ⟨⟨[vs1, vs2], [w1, w2], hX, by simp [a1, b1]⟩, fun z H4 ⟨T, ys, e1, e2, e3, e4⟩ => ?_⟩
            have := e4 _ hX
            simp only [List.map_cons, List.map_nil, a1, b1] at this
            have hys : ys = [w1, w2] := by
              match ys, this with
              | [u1, u2], this => simp at this; rw [this.1, this.2]
            subst hys; subst e1; subst e3
            have gx : Ex H2 (upd H2 T (.tup [w1, w2])) := Ex.new e2
            exact ⟨gx, .tup (SqT.of upd_same) (.cons (a2.grow gx.grow) (.cons (b2.grow gx.grow) .nil))⟩
          · rcases zip2_end (xs := ds1) (ys := ds2) with h | h
            · exact ⟨vs1, by simp, by rw [List.getElem?_eq_none_iff] at h ⊢; rw [l1.length]; exact h⟩
            · exact ⟨vs2, by simp, by rw [List.getElem?_eq_none_iff] at h ⊢; rw [l2.length]; exact h⟩
    · cases e2
  · split at e2
    · rename_i ds1 ds2 ds3 h1 h2 h3
      cases e2
      cases y1 with
      | cons k1 t =>
        cases t with
        | cons k2 t =>
          cases t with
          | cons k3 t =>
            cases t
            obtain ⟨s1, vs1, rfl, l1, m1⟩ := seqD_sq k1 h1
            obtain ⟨s2, vs2, rfl, l2, m2⟩ := seqD_sq k2 h2
            obtain ⟨s3, vs3, rfl, l3, m3⟩ := seqD_sq k3 h3
            rw [C.K] at m1 m2 m3
            refine ⟨[s1, s2, s3], [vs1, vs2, vs3], rfl, .inr rfl, .cons (m1 _ .refl) (.cons (m2 _ .refl) (.cons (m3 _ .refl) .nil)), q φ1 _ H1 x1 ⟨fun H2 gr i d e => ?_, fun H2 gr => ⟨[vs1, vs2, vs3], .cons (C.K ▸ m1 _ gr) (.cons (C.K ▸ m2 _ gr) (.cons (C.K ▸ m3 _ gr) .nil)), ?_⟩⟩⟩
            · obtain ⟨x, y, z, hx, hy, hz, rfl⟩ := zip3_get e
              obtain ⟨w1, a1, a2⟩ := (l1.grow gr).get hx
              obtain ⟨w2, b1, b2⟩ := (l2.grow gr).get hy
              obtain ⟨w3, c1, c2⟩ := (l3.grow gr).get hz
              have hX : Zp.SqBs X.K H2 [s1, s2, s3] [vs1, vs2, vs3] := .cons (m1 _ gr) (.cons (m2 _ gr) (.cons (m3 _ gr) .nil))
              refine ⟨⟨[vs1, vs2, vs3], [w1, w2, w3], hX, by simp [a1, b1, c1]⟩, fun z H4 ⟨T, ys, e1, e2, e3, e4⟩ => ?_⟩
              have := e4 _ hX
              simp only [List.map_cons, List.map_nil, a1, b1, c1] at this
              have hys : ys = [w1, w2, w3] := by
                match ys, this with
                | [u1, u2, u3], this => simp at this; rw [this.1, this.2.1, this.2.2]
              subst hys; subst e1; subst e3
              have gx : Ex H2 (upd H2 T (.tup [w1, w2, w3])) := Ex.new e2
              exact ⟨gx, .tup (SqT.of upd_same) (.cons (a2.grow gx.grow) (.cons (b2.grow gx.grow) (.cons (c2.grow gx.grow) .nil)))⟩
            · rcases zip3_end (xs := ds1) (ys := ds2) (zs := ds3) with h | h | h
              · exact ⟨vs1, by simp, by rw [List.getElem?_eq_none_iff] at h ⊢; rw [l1.length]; exact h⟩
              · exact ⟨vs2, by simp, by rw [List.getElem?_eq_none_iff] at h ⊢; rw [l2.length]; exact h⟩
              · exact ⟨vs3, by simp, by rw [List.getElem?_eq_none_iff] at h ⊢; rw [l3.length]; exact h⟩
    · cases e2
  · cases e2
end
end FH
end
section
/-! FH8: comprehensions. -/
namespace FH
open PySem PySem.Spec PyProof.Rows L2
section
variable {ε : Ev} {T : Tab} {Γ : Env2} {S : SC} {X : Cx}
theorem wipe_get {σ : L2.St} {i : Nat} : ∀ {vs : List Nat}, (L2.wipe σ vs)[i]? = if i ∈ vs then (if i < σ.length then some none else none) else σ[i]?
  | [] => by simp [L2.wipe]
  | v :: vs => by
    have ih := @wipe_get σ i vs
    unfold L2.wipe
    by_cases h : v = i
    · subst h
      rw [List.getElem?_set_self']
      rw [if_pos List.mem_cons_self]
      have hl := L2.wipe_length σ vs
      by_cases hv : v < σ.length
      · rw [if_pos hv]
        have : v < (L2.wipe σ vs).length := by omega
        simp [this]
      · rw [if_neg hv]
        simp; omega
    · rw [List.getElem?_set_ne h, ih]
      by_cases hm : i ∈ vs
      · rw [if_pos hm, if_pos (List.mem_cons_of_mem _ hm)]
      · rw [if_neg hm, if_neg (by simp only [List.mem_cons, not_or]; exact ⟨fun e => h e.symm, hm⟩)]
theorem wipe_out {σ σ' : L2.St} {is vs : List Nat} (h : Out is (L2.wipe σ vs) σ') (sub : ∀ i ∈ is, i ∈ vs) : L2.wipe σ' vs = L2.wipe σ vs := by
  apply List.ext_getElem?
  intro i
  have hl := h.len
  rw [L2.wipe_length] at hl
  rw [wipe_get, wipe_get, hl]
  by_cases hm : i ∈ vs
  · rw [if_pos hm, if_pos hm]
  · rw [if_neg hm, if_neg hm, h.out i (fun z => hm (sub i z)), wipe_get, if_neg hm]
def rdC (ε : Ev) (Γ : Env2) (c : IO) : TT := fun σ H Q => ∃ φ ρ μ k μ', Rel ε φ ρ μ σ H ∧ evC Γ c ρ μ = some (k, μ') ∧ ∀ φ' H', Res ε φ H φ' μ' H' → Q k H'
theorem PTs.imp {e : List Expr} {t t' : TT} (h : PTs X e t) (k : ∀ σ H Q, t' σ H Q → t σ H Q) : PTs X e t' := ⟨fun pins s σ H Q I q => h.run pins s σ H Q I (k σ H Q q)⟩
theorem sc_no : PTs X [] (rdC ε Γ .no) := PTs.imp pts_nil fun σ H Q ⟨φ, ρ, μ, k, μ', R, e, q⟩ => by cases e; exact q φ H (.refl R.sto)
theorem sc_som {e : Expr} {ie : IE} (h : PT X e (rdT ε Γ ie)) : PTs X [e] (rdC ε Γ (.som ie)) := PTs.imp (pts_one h) fun σ H Q ⟨φ, ρ, μ, k, μ', R, e, q⟩ => by
  simp only [evC, Option.bind_eq_some_iff, Option.map_eq_some_iff] at e
  obtain ⟨⟨d, μ1⟩, e1, b, e2, e3⟩ := e
  cases e3
  exact ⟨φ, ρ, μ, d, _, k, R, e1, e2, q⟩
/-- the list that grows is written -/
theorem grow_lst {H : Hp} {D : Addr} {xs ys : List V} (h : H D = some (.lst xs)) : Grow H (upd H D (.lst ys)) :=
  ⟨fun b zs e => by rw [upd_ne (fun z => by rw [z, h] at e; cases e)]; exact e, fun b q u e => by rw [upd_ne (fun z => by rw [z, h] at e; cases e)]; exact e⟩
theorem Res.upd {φ φ' : List Addr} {H H' : Hp} {μ' : Store} {D : Addr} {xs ys : List V} (x : Res ε φ H φ' μ' H') (h : H' D = some (.lst xs)) (out : D ∉ φ') (free : H D = none) : Res ε φ H φ' μ' (L2.upd H' D (.lst ys)) := by
  have ne : ∀ b u, H b = some u → b ≠ D := fun b u e z => by rw [z, free] at e; cases e
  have g := grow_lst (ys := ys) h
  obtain ⟨⟨⟨p2, e2, f2⟩, gr, kp, th⟩, S⟩ := x
  refine ⟨⟨⟨p2, e2, f2⟩, gr.trans g, fun b u e nb => ?_, fun b e z => ?_⟩, ⟨S.len, S.nd, fun m a c e1 e2 => ?_⟩⟩
  · rw [upd_ne (ne b u e)]; exact kp b u e nb
  · by_cases hb : b = D
    · rw [hb, upd_same] at z; cases z
    · rw [upd_ne hb] at z; exact th b e z
  · have q := (S.at_ m a c e1 e2).mono [] g fun u e => by rw [upd_ne (fun z => out (by rw [← z]; exact List.mem_of_getElem? e1))]; exact e
    rwa [List.append_nil] at q
theorem Res.outs {φ φ' : List Addr} {H H' : Hp} {μ' : Store} {D : Addr} {o : HO} (x : Res ε φ H φ' μ' H') (h : H D = some o) (out : D ∉ φ) : D ∉ φ' ∧ H' D = some o := by
  refine ⟨fun z => ?_, x.ext.keep D o h out⟩
  obtain ⟨p2, rfl, f2⟩ := x.ext.more
  rcases List.mem_append.mp z with z | z
  · exact out z
  · rw [f2 D z] at h; cases h
def consO : Option D → List D → List D
  | some y, zs => y :: zs
  | none, zs => zs
def snocO : Option D → List D → List D
  | some y, a => a ++ [y]
  | none, a => a
/-- one turn of a comprehension -/
def turnC (Γ : Env2) (g : Tg) (ρ0 : Slots) (c : IO) (e : IE) : D → Store → Option (Option D × Store) := fun x μ => (asgT g x ρ0).bind fun ρ' => (evC Γ c ρ' μ).bind fun k =>
  if k.1 then (evE Γ e ρ' k.2).map fun q => (some q.1, q.2) else some (none, k.2)
theorem turn_read {g : Tg} {own : List (Str × Nat)} {c : IO} {e : IE} (sub : ∀ i ∈ tgI g, i ∈ own.map (·.2)) {φ φi : List Addr} {H Hi H' : Hp} {ρ : Slots} {μ μi μ2 : Store} {σ : L2.St} {d : D} {o : Option D} {x : V} {D : Addr} {accV : List V} {accD : List FH.D} {Nx : Hp → Prop}
    (R : Rel ε φ ρ μ σ H) (xi : Res ε φ H φi μi Hi) (free : H D = none) (hD : Hi D = some (.lst accV)) (out : D ∉ φi) (hacc : EncL ε φi Hi accV accD) (hl : accD.length < sizeLine) (hx : Ex Hi H') (hv : Enc ε φi H' x d)
    (ht : turnC Γ g (wipeS ρ (own.map (·.2))) c e d μi = some (o, μ2))
    (nx : ∀ φ4 H4 accV4, Res ε φ H φ4 μ2 H4 → Grow Hi H4 → H4 D = some (.lst accV4) → D ∉ φ4 → (∃ p2, φ4 = φi ++ p2) → EncL ε φ4 H4 accV4 (snocO o accD) → Nx H4) :
    rdG ε g x (L2.wipe σ (own.map (·.2))) H' fun σ2 H2 => L2.wipe σ2 (own.map (·.2)) = L2.wipe σ (own.map (·.2)) ∧ rdC ε Γ c σ2 H2 fun b H3 =>
      if b = true then rdE ε Γ e σ2 H3 fun y H4 => ∃ acc, H4 D = some (.lst acc) ∧ acc.length < sizeLine ∧ Nx (upd H4 D (.lst (acc ++ [y]))) else Nx H3 := by
  unfold turnC at ht
  simp only [Option.bind_eq_some_iff] at ht
  obtain ⟨ρ', e1, ⟨k, μ3⟩, e2, e3⟩ := ht
  have x0 : Res ε φi Hi φi μi H' := .ex xi.sto hx
  refine ⟨φi, _, μi, d, ρ', ((R.step xi).step x0).wipe _, hv, e1, fun σ2 R2 o2 w2 => ⟨wipe_out o2 sub, φi, ρ', μi, k, μ3, R2, e2, fun φ3 H3 x3 => ?_⟩⟩
  have hD' : H' D = some (.lst accV) := hx D _ hD
  obtain ⟨out3, hD3⟩ := x3.outs hD' out
  have xx := (xi.trans x0).trans x3
  have g3 : Grow Hi H3 := hx.grow.trans x3.ext.grow
  cases k with
  | false =>
    simp at e3
    obtain ⟨rfl, rfl⟩ := e3
    simp only [Bool.false_eq_true, if_false]
    exact nx φ3 H3 accV xx g3 hD3 out3 (x3.ext.more.imp fun _ h => h.1) ((x0.trans x3).ext.encL hacc)
  | true =>
    simp only [if_true, Option.map_eq_some_iff] at e3
    obtain ⟨⟨y, μ4⟩, e4, e5⟩ := e3
    cases e5
    simp only [if_true]
    refine ⟨φ3, ρ', μ3, y, _, R2.step x3, e4, fun φ4 v H4 x4 y4 => ⟨accV, ?_, ?_, ?_⟩⟩
    · exact (x4.outs hD3 out3).2
    · rw [hacc.length]; exact hl
    · obtain ⟨out4, hD4⟩ := x4.outs hD3 out3
      have g4 := grow_lst (ys := accV ++ [v]) hD4
      have ha : EncL ε φ4 H4 (accV ++ [v]) (accD ++ [y]) := ((x0.trans x3).trans x4).ext.encL hacc |>.app (.cons y4 .nil)
      exact nx φ4 _ _ ((xx.trans x4).upd hD4 out4 free) ((g3.trans x4.ext.grow).trans g4) upd_same out4 (by
        obtain ⟨p3, rfl, _⟩ := x3.ext.more
        obtain ⟨p4, rfl, _⟩ := x4.ext.more
        exact ⟨p3 ++ p4, by rw [List.append_assoc]⟩) (ha.grow g4)
theorem loopC_cons {f : D → Store → Option (Option D × Store)} {x : D} {xs ys : List D} {μ μ' : Store} (h : loopC f (x :: xs) μ = some (ys, μ')) :
    ∃ o μ1 zs, f x μ = some (o, μ1) ∧ loopC f xs μ1 = some (zs, μ') ∧ ys = consO o zs := by
  simp only [loopC, Option.bind_eq_some_iff] at h
  obtain ⟨⟨o, μ1⟩, e1, ⟨zs, μ2⟩, e2, e3⟩ := h
  cases e3
  exact ⟨o, μ1, zs, e1, e2, by cases o <;> rfl⟩
theorem acc_next {o : Option D} {a zs ds ys : List D} (h : a ++ ys = ds) (hy : ys = consO o zs) : snocO o a ++ zs = ds := by
  subst hy
  cases o with
  | none => exact h
  | some y => simpa [snocO, consO] using h
theorem acc_len {o : Option D} {a : List D} {i : Nat} (h : a.length ≤ i) : (snocO o a).length ≤ i + 1 := by
  cases o with
  | none => exact Nat.le_succ_of_le h
  | some y => simpa [snocO] using h
theorem comp_read {g : Tg} {own : List (Str × Nat)} {s : Src} {c : IO} {e : IE} (sub : ∀ i ∈ tgI g, i ∈ own.map (·.2)) {σ : L2.St} {H : Hp} {Q : VK} (h : rdF ε Γ (.comp g own s c e) σ H Q) :
    tLc (rdS ε Γ s) (rdG ε g) (rdC ε Γ c) (rdE ε Γ e) (own.map (·.2)) σ H Q := by
  obtain ⟨φ, ρ, μ, ds, μ', R, ev, q⟩ := h
  simp only [evF, Option.bind_eq_some_iff] at ev
  obtain ⟨⟨sr, μ1⟩, e1, e2⟩ := ev
  refine ⟨φ, ρ, μ, sr, μ1, R, e1, fun φ1 J H1 x1 hJ D hD => ?_⟩
  have free : H D = none := by
    cases ed : H D with
    | none => rfl
    | some o => exact absurd hD (x1.ext.there D (by rw [ed]; simp))
  have out1 : D ∉ φ1 := fun z => by
    obtain ⟨o, eo⟩ := x1.sto.there z
    rw [hD] at eo; cases eo
  have g0 : Ex H1 (upd H1 D (.lst [])) := Ex.new hD
  cases sr with
  | items its =>
    simp only at e2
    split at e2
    · rename_i hz
      have e2 : loopC (turnC Γ g (wipeS ρ (own.map (·.2))) c e) its μ1 = some (ds, μ') := e2
      refine ⟨fun i m Hi => m = its.length - i ∧ i ≤ its.length ∧ ∃ φi μi accV accD restD, loopC (turnC Γ g (wipeS ρ (own.map (·.2))) c e) (its.drop i) μi = some (restD, μ') ∧ accD ++ restD = ds ∧ accD.length ≤ i ∧
        Res ε φ H φi μi Hi ∧ Grow H1 Hi ∧ Hi D = some (.lst accV) ∧ D ∉ φi ∧ EncL ε φi Hi accV accD ∧ ∃ p2, φi = φ1 ++ p2,
        ⟨its.length, by simp, Nat.zero_le _, φ1, μ1, [], [], ds, by simpa using e2, rfl, Nat.le_refl _, x1.trans (.ex x1.sto g0), g0.grow, upd_same, out1, .nil, [], by simp⟩, ?_⟩
      rintro i m Hi ⟨rfl, hi, φi, μi, accV, accD, restD, el, ea, hl, xi, gi, hDi, oi, hacc, p2, hp⟩
      by_cases hlt : i < its.length
      · obtain ⟨d, ed⟩ : ∃ d, its[i]? = some d := ⟨its[i], by simp [hlt]⟩
        obtain ⟨hgo, hy⟩ := hJ.go Hi gi i d ed
        have edrop : its.drop i = d :: its.drop (i + 1) := by
          rw [List.drop_eq_getElem_cons hlt]
          have : its[i] = d := by simpa [hlt] using ed
          rw [this]
        rw [edrop] at el
        obtain ⟨o, μ2, zs, f1, f2, f3⟩ := loopC_cons el
        refine .inr ⟨hgo, fun H' => its.length - (i + 1) = its.length - (i + 1) ∧ i + 1 ≤ its.length ∧ ∃ φi μi accV accD restD, loopC (turnC Γ g (wipeS ρ (own.map (·.2))) c e) (its.drop (i + 1)) μi = some (restD, μ') ∧ accD ++ restD = ds ∧ accD.length ≤ i + 1 ∧
          Res ε φ H φi μi H' ∧ Grow H1 H' ∧ H' D = some (.lst accV) ∧ D ∉ φi ∧ EncL ε φi H' accV accD ∧ ∃ p2, φi = φ1 ++ p2, fun H' w => ⟨_, by omega, w⟩, fun x H' yl => ?_⟩
        obtain ⟨hx, hv⟩ := hy x H' yl
        refine turn_read sub R xi free hDi oi hacc (by omega) hx (by rw [hp]; exact hv.mono p2 .refl) f1 fun φ4 H4 accV4 x4 g4 hD4 o4 hp4 ha4 => ?_
        obtain ⟨p4, hp4⟩ := hp4
        exact ⟨rfl, hlt, φ4, μ2, accV4, _, zs, f2, acc_next ea f3, acc_len hl, x4, gi.trans g4, hD4, o4, ha4, p2 ++ p4, by rw [hp4, hp, List.append_assoc]⟩
      · have hi' : i = its.length := by omega
        subst hi'
        rw [List.drop_length] at el
        cases el
        rw [List.append_nil] at ea
        subst ea
        exact .inl ⟨hJ.stop Hi gi, q φi Hi D ⟨xi, free, oi, accV, hDi, hacc⟩⟩
    · cases e2
  | cel n =>
    have e2 : loopCC (turnC Γ g (wipeS ρ (own.map (·.2))) c e) n sizeLine 0 μ1 = some (ds, μ') := e2
    obtain ⟨a, hn, rfl⟩ := hJ
    refine ⟨fun i m Hi => m = sizeLine - i ∧ ∃ φi μi accV accD restD, loopCC (turnC Γ g (wipeS ρ (own.map (·.2))) c e) n (sizeLine - i) i μi = some (restD, μ') ∧ accD ++ restD = ds ∧ accD.length ≤ i ∧
      Res ε φ H φi μi Hi ∧ Hi D = some (.lst accV) ∧ D ∉ φi ∧ EncL ε φi Hi accV accD ∧ ∃ p2, φi = φ1 ++ p2,
      ⟨sizeLine, by simp, φ1, μ1, [], [], ds, by simpa using e2, rfl, Nat.le_refl _, x1.trans (.ex x1.sto g0), upd_same, out1, .nil, [], by simp⟩, ?_⟩
    rintro i m Hi ⟨rfl, φi, μi, accV, accD, restD, el, ea, hl, xi, hDi, oi, hacc, p2, hp⟩
    have hni : φi[n]? = some a := by rw [hp]; exact get_app hn
    cases hk : sizeLine - i with
    | zero => rw [hk] at el; cases el
    | succ k =>
      rw [hk] at el
      simp only [loopCC] at el
      split at el
      · rename_i es en
        have cel := xi.sto.at_ n a _ hni en
        cases cel with
        | lst c1 c2 =>
          rename_i vs
          split at el
          · rename_i ed
            cases el
            rw [List.append_nil] at ea
            subst ea
            have hv : vs[i]? = none := by
              have l := c2.length
              rw [List.getElem?_eq_none_iff] at ed ⊢
              omega
            exact .inl ⟨⟨vs, SqL.of c1, by rw [List.getElem?_eq_none_iff] at hv; exact hv⟩, q φi Hi D ⟨xi, free, oi, accV, hDi, hacc⟩⟩
          · rename_i d ed
            simp only [Option.bind_eq_some_iff] at el
            obtain ⟨⟨o, μ2⟩, f1, ⟨zs, μ3⟩, f2, f3⟩ := el
            obtain ⟨f5, f6⟩ := Prod.mk.inj (Option.some.inj f3)
            have f6 : μ3 = μ' := f6
            subst f6
            have f7 : restD = consO o zs := by rw [← f5]; cases o <;> rfl
            obtain ⟨v, hv, hvd⟩ := c2.get ed
            have hsk : sizeLine - (i + 1) = k := by omega
            refine .inr ⟨⟨vs, v, SqL.of c1, hv⟩, fun H' => k = sizeLine - (i + 1) ∧ ∃ φi μi accV accD restD, loopCC (turnC Γ g (wipeS ρ (own.map (·.2))) c e) n (sizeLine - (i + 1)) (i + 1) μi = some (restD, μ3) ∧ accD ++ restD = ds ∧ accD.length ≤ i + 1 ∧
              Res ε φ H φi μi H' ∧ H' D = some (.lst accV) ∧ D ∉ φi ∧ EncL ε φi H' accV accD ∧ ∃ p2, φi = φ1 ++ p2, fun H' w => ⟨_, by omega, w⟩, fun x H' yl => ?_⟩
            obtain ⟨rfl, yl⟩ := yl
            have hx := yl vs (SqL.of c1)
            rw [hv] at hx; cases hx
            refine turn_read sub R xi free hDi oi hacc (by omega) Ex.refl hvd f1 fun φ4 H4 accV4 x4 g4 hD4 o4 hp4 ha4 => ?_
            obtain ⟨p4, hp4⟩ := hp4
            exact ⟨hsk.symm, φ4, _, accV4, _, zs, by rw [hsk]; exact f2, acc_next ea f7, acc_len hl, x4, hD4, o4, ha4, p2 ++ p4, by rw [hp4, hp, List.append_assoc]⟩
      · cases el
def setB : Expr → Bool
  | .Set .. => false | _ => true
theorem folded_ok {e : Expr} {env : Env} (h : setB e = true) : ∀ x, foldedSetIterable e env x = pure x := fun x => by
  cases e <;> first | rfl | (simp [setB] at h)
/-- a block's names -/
def SC.inner (S : SC) (scope : Scope) : SC := ⟨S.N, relS scope S.sc, some scope⟩
theorem CxOk.inner (C : CxOk ε T Γ S X) (scope : Scope) (s : Shared) (H : Hp) (CC : Addr) (cl : List (Str × Addr)) (fp : List Addr) : CxOk ε T Γ (S.inner scope) (X.blk s H scope (compEnvC scope cl CC X.env) fp) where
  K := C.K
  N := C.N
  nd := C.nd
  sc := by
    show relS scope X.env.scope = relS scope S.sc
    rw [C.sc]
  calm := C.calm
  xe := rfl
  gd := C.gd
  hu := C.hu
  fn := fun x => rfl
  gl := C.gl
  fns := C.fns
  inits := C.inits
  cls := fun c I h => ⟨(C.cls c I h).cl, (C.cls c I h).meth, (C.cls c I h).fld, (C.cls c I h).made⟩
theorem sf_comp (C : CxOk ε T Γ S X) {elt tg iter : Expr} {ifs : List Expr} {scope : Scope} {own : List (Str × Nat)} {pos : Pos} {g : Tg} {s : Src} {c : IO} {e : IE} (hi : PI X tg iter (rdS ε Γ s)) (ok : blkC S.N S.sc scope own = true)
    (hg : ∀ Y, CxOk ε T Γ (S.inner scope) Y → PG Y tg (rdG ε g)) (ht : ∀ Y, CxOk ε T Γ (S.inner scope) Y → PTs Y ifs (rdC ε Γ c)) (he : ∀ Y, CxOk ε T Γ (S.inner scope) Y → PE Y elt (rdE ε Γ e))
    (sub : ∀ i ∈ tgI g, i ∈ own.map (·.2)) (hs : setB iter = true) : PE X (.ListComp elt [⟨tg, iter, ifs, 0⟩] scope pos) (rdF ε Γ (.comp g own s c e)) :=
  PE.imp (pe_lc C.calm (by rw [C.N]; exact C.nd) hi (by rw [C.N, C.sc]; exact blkOk_by ok) (fun s H CC cl fp => hg _ (C.inner scope s H CC cl fp)) (fun s H CC cl fp => ht _ (C.inner scope s H CC cl fp)) (fun s H CC cl fp => he _ (C.inner scope s H CC cl fp)) (folded_ok hs)) fun σ H Q h => comp_read sub h
end
end FH
end
section
/-! FH9: statements. -/
namespace FH
open PySem PySem.Spec PyProof.Rows L2
section
variable {ε : Ev} {T : Tab} {Γ : Env2} {S : SC} {X : Cx} {φ φ' φ'' : List Addr} {H H' H'' : Hp} {μ μ' μ'' : Store} {ρ ρ' ρ'' : Slots} {σ σ' σ'' : L2.St}
/-- how a statement leaves things -/
structure StP (ε : Ev) (φ : List Addr) (ρ : Slots) (σ : L2.St) (H : Hp) (φ' : List Addr) (ρ' : Slots) (μ' : Store) (σ' : L2.St) (H' : Hp) : Prop where
  rel : Rel ε φ' ρ' μ' σ' H'
  more : ∃ φ2, φ' = φ ++ φ2 ∧ ∀ b ∈ φ2, H b = none
  grow : Grow H H'
  there : ∀ b, H b ≠ none → H' b ≠ none
  keep : ∀ b o, H b = some o → b ∉ φ → b ∉ ownA ρ σ → H' b = some o
  own : ∀ a ∈ ownA ρ' σ', a ∈ ownA ρ σ ∨ H a = none
theorem StP.of (R : Rel ε φ ρ μ σ H) (x : Res ε φ H φ' μ' H') : StP ε φ ρ σ H φ' ρ μ' σ H' :=
  ⟨R.step x, x.ext.more, x.ext.grow, x.ext.there, fun b o e n _ => x.ext.keep b o e n, fun _ h => .inl h⟩
theorem StP.refl (R : Rel ε φ ρ μ σ H) : StP ε φ ρ σ H φ ρ μ σ H := .of R (.refl R.sto)
theorem StP.trans {ρ1 : Slots} {σ1 : L2.St} (a : StP ε φ ρ σ H φ' ρ1 μ' σ1 H') (b : StP ε φ' ρ1 σ1 H' φ'' ρ'' μ'' σ'' H'') : StP ε φ ρ σ H φ'' ρ'' μ'' σ'' H'' := by
  obtain ⟨p2, rfl, f2⟩ := a.more
  obtain ⟨p3, rfl, f3⟩ := b.more
  have fr : ∀ c, H' c = none → H c = none := fun c hc => by
    cases e : H c with
    | none => rfl
    | some o => exact absurd hc (a.there c (by rw [e]; simp))
  refine ⟨b.rel, ⟨p2 ++ p3, by simp, fun c hc => ?_⟩, a.grow.trans b.grow, fun c e => b.there c (a.there c e), fun c o e n m => ?_, fun c hc => ?_⟩
  · rcases List.mem_append.mp hc with h | h
    · exact f2 c h
    · exact fr c (f3 c h)
  · refine b.keep c o (a.keep c o e n m) (fun z => ?_) fun z => ?_
    · rcases List.mem_append.mp z with z | z
      · exact n z
      · rw [f2 c z] at e; cases e
    · rcases a.own c z with z | z
      · exact m z
      · rw [z] at e; cases e
  · rcases b.own c hc with h | h
    · exact a.own c h
    · exact .inr (fr c h)
theorem StP.slots {ρ1 : Slots} {σ1 : L2.St} (a : StP ε φ ρ σ H φ' ρ1 μ' σ1 H') (R : Rel ε φ' ρ' μ' σ' H') (w : OwnLe ρ1 σ1 ρ' σ') : StP ε φ ρ σ H φ' ρ' μ' σ' H' :=
  ⟨R, a.more, a.grow, a.there, a.keep, fun c hc => a.own c (w c hc)⟩
theorem StP.enc (x : StP ε φ ρ σ H φ' ρ' μ' σ' H') {v : V} {d : D} (h : Enc ε φ H v d) : Enc ε φ' H' v d := by
  obtain ⟨p2, rfl, _⟩ := x.more
  exact h.mono p2 x.grow
theorem StP.pre {φ' φ'' : List Addr} {μ' μ'' : Store} (R : Rel ε φ ρ μ σ H) (x : Res ε φ H φ' μ' H') (b : StP ε φ' ρ σ H' φ'' ρ'' μ'' σ'' H'') : StP ε φ ρ σ H φ'' ρ'' μ'' σ'' H'' := (StP.of R x).trans b

/-- what is wanted behind it -/
def EndP (ε : Ev) (φ : List Addr) (ρ : Slots) (σ : L2.St) (H : Hp) (D : Ends) (fl : Fl) (ρ' : Slots) (μ' : Store) : Prop :=
  ∀ φ' σ' H', StP ε φ ρ σ H φ' ρ' μ' σ' H' → match fl with
    | .nx => D.nx σ' H'
    | .brk => D.bk σ' H'
    | .ct => D.ct σ' H'
    | .ret d => ∀ v, Enc ε φ' H' v d → D.rt v H'
def rdSt (ε : Ev) (Γ : Env2) (i : IS) : TS := fun D σ H => ∃ φ ρ μ fl ρ' μ', Rel ε φ ρ μ σ H ∧ evS Γ i ρ μ = some (fl, ρ', μ') ∧ EndP ε φ ρ σ H D fl ρ' μ'
def rdSs (ε : Ev) (Γ : Env2) (i : ISs) : TS := fun D σ H => ∃ φ ρ μ fl ρ' μ', Rel ε φ ρ μ σ H ∧ evSs Γ i ρ μ = some (fl, ρ', μ') ∧ EndP ε φ ρ σ H D fl ρ' μ'
theorem EndP.pre {ρ1 : Slots} {μ1 : Store} {σ1 : L2.St} {D : Ends} {fl : Fl} (q : EndP ε φ ρ σ H D fl ρ' μ') (x : StP ε φ ρ σ H φ' ρ1 μ1 σ1 H') : EndP ε φ' ρ1 σ1 H' D fl ρ' μ' := by
  intro φ2 σ2 H2 y
  exact q φ2 σ2 H2 (x.trans y)
theorem PS.imp {e : Stmt} {t t' : TS} (h : PS X e t) (k : ∀ D σ H, t' D σ H → t D σ H) : PS X e t' := ⟨fun pins s σ H D I q => h.run pins s σ H D I (k D σ H q)⟩
theorem PSs.imp {e : List Stmt} {t t' : TS} (h : PSs X e t) (k : ∀ D σ H, t' D σ H → t D σ H) : PSs X e t' := ⟨fun pins s σ H D I q => h.run pins s σ H D I (k D σ H q)⟩
theorem ss_nil : PSs X [] (rdSs ε Γ .nil) := PSs.imp pss_nil fun D σ H ⟨φ, ρ, μ, fl, ρ', μ', R, e, q⟩ => by
  cases e; exact q φ σ H (.refl R)
theorem ss_cons {st : Stmt} {sts : List Stmt} {i : IS} {is : ISs} (h1 : PS X st (rdSt ε Γ i)) (h2 : PSs X sts (rdSs ε Γ is)) : PSs X (st :: sts) (rdSs ε Γ (.cons i is)) := by
  refine PSs.imp (pss_cons h1 h2) fun D σ H ⟨φ, ρ, μ, fl, ρ', μ', R, e, q⟩ => ?_
  simp only [evSs, Option.bind_eq_some_iff] at e
  obtain ⟨⟨fl1, ρ1, μ1⟩, e1, e2⟩ := e
  refine ⟨φ, ρ, μ, fl1, ρ1, μ1, R, e1, fun φ1 σ1 H1 x1 => ?_⟩
  cases fl1 with
  | nx => exact ⟨φ1, ρ1, μ1, fl, ρ', μ', x1.rel, e2, q.pre x1⟩
  | brk => cases e2; exact q φ1 σ1 H1 x1
  | ct => cases e2; exact q φ1 σ1 H1 x1
  | ret d => cases e2; exact q φ1 σ1 H1 x1
theorem st_pass {pos : Pos} : PS X (.Pass pos) (rdSt ε Γ .pass) := PS.imp ps_pass fun D σ H ⟨φ, ρ, μ, fl, ρ', μ', R, e, q⟩ => by cases e; exact q φ σ H (.refl R)
theorem st_brk {pos : Pos} : PS X (.Break pos) (rdSt ε Γ .brk) := PS.imp ps_break fun D σ H ⟨φ, ρ, μ, fl, ρ', μ', R, e, q⟩ => by cases e; exact q φ σ H (.refl R)
theorem st_cnt {pos : Pos} : PS X (.Continue pos) (rdSt ε Γ .cnt) := PS.imp ps_continue fun D σ H ⟨φ, ρ, μ, fl, ρ', μ', R, e, q⟩ => by cases e; exact q φ σ H (.refl R)
theorem st_retN {pos : Pos} : PS X (.Return none pos) (rdSt ε Γ .retN) := PS.imp ps_retN fun D σ H ⟨φ, ρ, μ, fl, ρ', μ', R, e, q⟩ => by cases e; exact q φ σ H (.refl R) _ .non
def notComp : Expr → Bool
  | .ListComp .. => false | .SetComp .. => false | .DictComp .. => false | _ => true
theorem swap_no {e : Expr} {t : Option Expr} {l : Nat} {env : Env} (h : notComp e = true) : swapsWith e t l env = pure false := by
  cases e <;> first | rfl | (simp [notComp] at h)
theorem st_expr {e : Expr} {ie : IE} {pos : Pos} (nc : notComp e = true) (h : PE X e (rdE ε Γ ie)) : PS X (.Expr e pos) (rdSt ε Γ (.expr ie)) := by
  refine PS.imp (ps_expr h (swap_no nc)) fun D σ H ⟨φ, ρ, μ, fl, ρ', μ', R, e, q⟩ => ?_
  simp only [evS, Option.map_eq_some_iff] at e
  obtain ⟨⟨d, μ1⟩, e1, e2⟩ := e
  cases e2
  exact ⟨φ, ρ, μ, d, _, R, e1, fun φ1 v H1 x1 y1 => q φ1 σ H1 (.of R x1)⟩
theorem st_ret {e : Expr} {ie : IE} {pos : Pos} (h : PE X e (rdE ε Γ ie)) : PS X (.Return (some e) pos) (rdSt ε Γ (.ret ie)) := by
  refine PS.imp (ps_ret h) fun D σ H ⟨φ, ρ, μ, fl, ρ', μ', R, e, q⟩ => ?_
  simp only [evS, Option.map_eq_some_iff] at e
  obtain ⟨⟨d, μ1⟩, e1, e2⟩ := e
  cases e2
  exact ⟨φ, ρ, μ, d, _, R, e1, fun φ1 v H1 x1 y1 => q φ1 σ H1 (.of R x1) v y1⟩
theorem setS_ok {i : Nat} {s : Slot} (h : setS ρ i s = some ρ') : ρ' = ρ.set i s ∧ i < ρ.length := by
  unfold setS at h
  split at h
  · rename_i hi; cases h; exact ⟨rfl, hi⟩
  · cases h
theorem StP.val {v : V} {d : D} {i : Nat} (x : StP ε φ ρ σ H φ' ρ' μ' σ' H') (y : Enc ε φ' H' v d) : StP ε φ ρ σ H φ' (ρ'.set i (.val d)) μ' (σ'.set i (some v)) H' :=
  x.slots (x.rel.val y) (own_set fun _ z => nomatch z)
theorem st_set (C : CxOk ε T Γ S X) {i : Nat} {x : Str} {e : Expr} {ie : IE} {pos pos' : Pos} (nc : notComp e = true) (h : S.N[i]? = some x) (hl : locB S x = true) (he : PE X e (rdE ε Γ ie)) : PS X (.Assign [.Name x pos'] e pos) (rdSt ε Γ (.set i ie)) := by
  obtain ⟨h1, h2⟩ := locB_ok C hl
  refine PS.imp (ps_set (i := i) (by rw [C.N]; exact C.nd) (by rw [C.N]; exact h) h1 he (swap_no nc) h2) fun D σ H ⟨φ, ρ, μ, fl, ρ', μ', R, e, q⟩ => ?_
  simp only [evS, Option.bind_eq_some_iff, Option.map_eq_some_iff] at e
  obtain ⟨⟨d, μ1⟩, e1, ρ1, e2, e3⟩ := e
  cases e3
  obtain ⟨rfl, _⟩ := setS_ok e2
  exact ⟨φ, ρ, μ, d, _, R, e1, fun φ1 v H1 x1 y1 => q φ1 _ H1 ((StP.of R x1).val y1)⟩
/-- a name is given a new list -/
def PSF (ε : Ev) (Γ : Env2) (X : Cx) (st : Stmt) (i : Nat) (f : FE) : Prop := PS X st (tAsg (rdF ε Γ f) (gName i))
theorem psf_set (C : CxOk ε T Γ S X) {i : Nat} {x : Str} {e : Expr} {f : FE} {pos pos' : Pos} (nc : notComp e = true) (h : S.N[i]? = some x) (hl : locB S x = true) (he : PE X e (rdF ε Γ f)) : PSF ε Γ X (.Assign [.Name x pos'] e pos) i f := by
  obtain ⟨h1, h2⟩ := locB_ok C hl
  exact ps_set (i := i) (by rw [C.N]; exact C.nd) (by rw [C.N]; exact h) h1 he (swap_no nc) h2
def lineB (p q : Pos) : Bool := p.line == q.line
theorem psf_comp (C : CxOk ε T Γ S X) {i : Nat} {y : Str} {elt tg iter : Expr} {ifs : List Expr} {scope : Scope} {own : List (Str × Nat)} {pos py spos : Pos} {g : Tg} {s : Src} {c : IO} {e : IE} (hk : S.sc.kind = .function) (h : S.N[i]? = some y) (hy : S.sc.names.lookup y = some .local)
    (hl : lineB py pos = true) (ha : (scope.names.any fun p => p.1 == y && (p.2 == .local || p.2 == .cell)) = false)
    (hi : PI X tg iter (rdS ε Γ s)) (ok : blkC S.N S.sc scope own = true)
    (hg : ∀ Y, CxOk ε T Γ (S.inner scope) Y → PG Y tg (rdG ε g)) (ht : ∀ Y, CxOk ε T Γ (S.inner scope) Y → PTs Y ifs (rdC ε Γ c)) (he : ∀ Y, CxOk ε T Γ (S.inner scope) Y → PE Y elt (rdE ε Γ e))
    (sub : ∀ i ∈ tgI g, i ∈ own.map (·.2)) (hs : setB iter = true) : PSF ε Γ X (.Assign [.Name y py] (.ListComp elt [⟨tg, iter, ifs, 0⟩] scope pos) spos) i (.comp g own s c e) :=
  PS.imp (ps_setLc C.calm (by rw [C.N]; exact C.nd) (by rw [C.N]; exact h) (by rw [C.sc]; exact hy) (sw_true (by rw [C.sc]; exact hk) (by rw [C.sc]; exact hy) hl ha) hi (by rw [C.N, C.sc]; exact blkOk_by ok)
    (fun s H CC cl fp => hg _ (C.inner scope s H CC cl fp)) (fun s H CC cl fp => ht _ (C.inner scope s H CC cl fp)) (fun s H CC cl fp => he _ (C.inner scope s H CC cl fp)) (folded_ok hs)) fun D σ H q => comp_read sub q
theorem StP.ownl {p : Addr} {ds : List D} {i : Nat} (R : Rel ε φ ρ μ σ H) (n : NewL ε φ H φ' μ' H' p ds) : StP ε φ ρ σ H φ' (ρ.set i (.own (.lst ds))) μ' (σ.set i (some (.ref p))) H' := by
  have x := StP.of R n.res
  obtain ⟨vs, h1, h2⟩ := n.it
  have np : p ∉ ownA ρ σ := fun z => by
    obtain ⟨o, e⟩ := ownA_there R.slots p z
    rw [n.free] at e; cases e
  refine ⟨x.rel.put ⟨p, rfl, .lst h1 h2⟩ fun c a e1 e2 => ?_, x.more, x.grow, x.there, x.keep, fun a ha => ?_⟩
  · cases e2; exact ⟨np, n.out⟩
  · rcases mem_ownA_set ha with ha | ⟨c, e1, e2⟩
    · exact .inl ha
    · cases e2; exact .inr n.free
theorem st_setOwn {st : Stmt} {i : Nat} {f : FE} (h : PSF ε Γ X st i f) : PS X st (rdSt ε Γ (.setOwn i f)) := by
  refine PS.imp h fun D σ H ⟨φ, ρ, μ, fl, ρ', μ', R, e, q⟩ => ?_
  simp only [evS, Option.bind_eq_some_iff, Option.map_eq_some_iff] at e
  obtain ⟨⟨ds, μ1⟩, e1, ρ1, e2, e3⟩ := e
  cases e3
  obtain ⟨rfl, _⟩ := setS_ok e2
  exact ⟨φ, ρ, μ, ds, _, R, e1, fun φ1 H1 p n => q φ1 _ H1 (.ownl R n)⟩
theorem st_setCell {st : Stmt} {i : Nat} {f : FE} (h : PSF ε Γ X st i f) : PS X st (rdSt ε Γ (.set i (.cell f))) := by
  refine PS.imp h fun D σ H ⟨φ, ρ, μ, fl, ρ', μ', R, e, q⟩ => ?_
  simp only [evS, evE, Option.bind_eq_some_iff, Option.map_eq_some_iff] at e
  obtain ⟨⟨d, μ1⟩, ⟨⟨ds, μ2⟩, e1, e0⟩, ρ1, e2, e3⟩ := e
  cases e0
  cases e3
  obtain ⟨rfl, _⟩ := setS_ok e2
  exact ⟨φ, ρ, μ, ds, _, R, e1, fun φ1 H1 p n => q _ _ H1 ((StP.of R n.cell.1).val n.cell.2)⟩
theorem st_setFrz {st : Stmt} {i : Nat} {f : FE} (h : PSF ε Γ X st i f) : PS X st (rdSt ε Γ (.set i (.frz f))) := by
  refine ⟨fun pins s σ H D I ⟨φ, ρ, μ, fl, ρ', μ', R, e, q⟩ => ?_⟩
  simp only [evS, evE, Option.bind_eq_some_iff, Option.map_eq_some_iff] at e
  obtain ⟨⟨d, μ1⟩, ⟨⟨ds, μ2⟩, e1, e0⟩, ρ1, e2, e3⟩ := e
  cases e0
  cases e3
  obtain ⟨rfl, _⟩ := setS_ok e2
  refine thn (h.run pins s σ H ⟨fun σ' H' => ∃ φ' p, NewL ε φ H φ' μ2 H' p ds ∧ σ' = σ.set i (some (.ref p)), D.rt, D.bk, D.ct⟩ I ⟨φ, ρ, μ, ds, _, R, e1, fun φ1 H1 p n => ⟨φ1, p, n, rfl⟩⟩) fun f s1 z => ?_
  cases f with
  | next =>
    obtain ⟨σ1, H1, I1, φ1, p, n, rfl⟩ := z
    obtain ⟨ys, hp, k⟩ := n.frz
    obtain ⟨od, I2⟩ := I1.lock hp trivial
    obtain ⟨x, y⟩ := k od
    exact ⟨_, _, I2, q φ1 _ _ ((StP.of R x).val y)⟩
  | ret v => exact z
  | brk => exact z
  | cont => exact z
theorem st_unp {tg e : Expr} {g : Tg} {ie : IE} {pos : Pos} (hw : swappedStores [tg] e X.env = pure none) (nc : notComp e = true) (ht : tgE tg = true) (hg : PG X tg (rdG ε g)) (he : PE X e (rdE ε Γ ie)) : PS X (.Assign [tg] e pos) (rdSt ε Γ (.unp g ie)) := by
  refine PS.imp (ps_asg he hg (swap_no nc) hw (each_cons ht)) fun D σ H ⟨φ, ρ, μ, fl, ρ', μ', R, e, q⟩ => ?_
  simp only [evS, Option.bind_eq_some_iff, Option.map_eq_some_iff] at e
  obtain ⟨⟨d, μ1⟩, e1, ρ1, e2, e3⟩ := e
  cases e3
  exact ⟨φ, ρ, μ, d, _, R, e1, fun φ1 v H1 x1 y1 => ⟨φ1, ρ, _, d, _, R.step x1, y1, e2, fun σ2 R2 o2 w2 => q φ1 σ2 H1 ((StP.of R x1).slots R2 w2)⟩⟩
theorem st_ifs {c : Expr} {a b : List Stmt} {ic : IE} {ia ib : ISs} {pos : Pos} (hc : PT X c (rdT ε Γ ic)) (ha : PSs X a (rdSs ε Γ ia)) (hb : PSs X b (rdSs ε Γ ib)) : PS X (.If c a b pos) (rdSt ε Γ (.ifs ic ia ib)) := by
  refine PS.imp (ps_if hc ha hb) fun D σ H ⟨φ, ρ, μ, fl, ρ', μ', R, e, q⟩ => ?_
  simp only [evS, Option.bind_eq_some_iff] at e
  obtain ⟨⟨d, μ1⟩, e1, k, e2, e3⟩ := e
  refine ⟨φ, ρ, μ, d, μ1, k, R, e1, e2, fun φ1 H1 x1 => ?_⟩
  cases k with
  | true => exact ⟨φ1, ρ, μ1, fl, ρ', μ', R.step x1, by simpa using e3, q.pre (.of R x1)⟩
  | false => exact ⟨φ1, ρ, μ1, fl, ρ', μ', R.step x1, by simpa using e3, q.pre (.of R x1)⟩
end
end FH
end
section
/-! FH10: statements: loops. -/
namespace FH
open PySem PySem.Spec PyProof.Rows L2
section
variable {ε : Ev} {T : Tab} {Γ : Env2} {S : SC} {X : Cx}
theorem own_passes (C : CxOk ε T Γ S X) : PassesOwn (model X.prog X.w) X.A X.env X.xe := by
  rw [C.xe]; exact PassesOwn.never
theorem st_fors (C : CxOk ε T Γ S X) {tg iter : Expr} {body : List Stmt} {g : Tg} {s : Src} {b : ISs} {pos : Pos} (hi : PI X tg iter (rdS ε Γ s)) (hg : PG X tg (rdG ε g)) (hb : PSs X body (rdSs ε Γ b)) (hs : setB iter = true) :
    PS X (.For tg iter body [] pos) (rdSt ε Γ (.fors g s b)) := by
  refine PS.imp (ps_for (own_passes C) C.calm hi hg hb (folded_ok hs)) fun D σ H ⟨φ, ρ, μ, fl, ρ', μ', R, e, q⟩ => ?_
  simp only [evS, Option.bind_eq_some_iff] at e
  obtain ⟨⟨sr, μ1⟩, e1, e2⟩ := e
  refine ⟨φ, ρ, μ, sr, μ1, R, e1, fun φ1 J H1 x1 hJ => ?_⟩
  cases sr with
  | cel n => cases e2
  | items ds =>
    have e2 : loopF (fun x ρ μ => (asgT g x ρ).bind fun ρ' => evSs Γ b ρ' μ) ds ρ μ1 = some (fl, ρ', μ') := e2
    have hJ : ItOk ε φ1 H1 ds J := hJ
    refine ⟨fun i m σi Hi => m = ds.length - i ∧ i ≤ ds.length ∧ ∃ φi ρi μi, StP ε φ ρ σ H φi ρi μi σi Hi ∧ Grow H1 Hi ∧ (∃ p2, φi = φ1 ++ p2) ∧
      loopF (fun x ρ μ => (asgT g x ρ).bind fun ρ' => evSs Γ b ρ' μ) (ds.drop i) ρi μi = some (fl, ρ', μ'), ⟨ds.length, by simp, Nat.zero_le _, φ1, ρ, μ1, .of R x1, .refl, ⟨[], by simp⟩, by simpa using e2⟩, ?_⟩
    rintro i m σi Hi ⟨rfl, hi, φi, ρi, μi, xi, gi, ⟨p2, hp⟩, el⟩
    by_cases hlt : i < ds.length
    · obtain ⟨d, ed⟩ : ∃ d, ds[i]? = some d := ⟨ds[i], by simp [hlt]⟩
      obtain ⟨hgo, hy⟩ := hJ.go Hi gi i d ed
      have edrop : ds.drop i = d :: ds.drop (i + 1) := by
        rw [List.drop_eq_getElem_cons hlt]
        have : ds[i] = d := by simpa [hlt] using ed
        rw [this]
      rw [edrop] at el
      simp only [loopF, Option.bind_eq_some_iff] at el
      obtain ⟨⟨f2, ρ2, μ2⟩, ⟨ρ1, f0, f1⟩, f3⟩ := el
      refine .inr ⟨hgo, fun σn Hn => ∃ φi ρi μi, StP ε φ ρ σ H φi ρi μi σn Hn ∧ Grow H1 Hn ∧ (∃ p2, φi = φ1 ++ p2) ∧
        loopF (fun x ρ μ => (asgT g x ρ).bind fun ρ' => evSs Γ b ρ' μ) (ds.drop (i + 1)) ρi μi = some (fl, ρ', μ'), fun σn Hn w => ⟨ds.length - (i + 1), by omega, rfl, hlt, w⟩, fun x H' yl => ?_⟩
      obtain ⟨hx, hv⟩ := hy x H' yl
      have hv' : Enc ε φi H' x d := by rw [hp]; exact hv.mono p2 .refl
      have x0 : Res ε φi Hi φi μi H' := .ex xi.rel.sto hx
      have Ri := xi.rel.step x0
      have xi' := xi.trans (.of xi.rel x0)
      refine ⟨φi, ρi, μi, d, ρ1, Ri, hv', f0, fun σ2 R2 o2 w2 => ?_⟩
      have x2 := xi'.slots R2 w2
      refine ⟨φi, ρ1, μi, f2, ρ2, μ2, R2, f1, fun φ3 σ3 H3 x3 => ?_⟩
      have x4 := x2.trans x3
      have again : ∀ f', (f' = loopF (fun x ρ μ => (asgT g x ρ).bind fun ρ' => evSs Γ b ρ' μ) (ds.drop (i + 1)) ρ2 μ2) → f' = some (fl, ρ', μ') → ∃ φi ρi μi, StP ε φ ρ σ H φi ρi μi σ3 H3 ∧ Grow H1 H3 ∧ (∃ p2, φi = φ1 ++ p2) ∧
        loopF (fun x ρ μ => (asgT g x ρ).bind fun ρ' => evSs Γ b ρ' μ) (ds.drop (i + 1)) ρi μi = some (fl, ρ', μ') := fun f' e5 e6 => by
        obtain ⟨p3, hp3, _⟩ := x3.more
        exact ⟨φ3, ρ2, μ2, x4, (gi.trans hx.grow).trans x3.grow, ⟨p2 ++ p3, by rw [hp3, hp, List.append_assoc]⟩, by rw [← e5]; exact e6⟩
      cases f2 with
      | nx => exact again _ rfl f3
      | ct => exact again _ rfl f3
      | brk => cases f3; exact q φ3 σ3 H3 x4
      | ret d => cases f3; exact q φ3 σ3 H3 x4
    · have hi' : i = ds.length := by omega
      subst hi'
      rw [List.drop_length] at el
      cases el
      exact .inl ⟨hJ.stop Hi gi, q φi σi Hi xi⟩
theorem st_whil (C : CxOk ε T Γ S X) {c : Expr} {body : List Stmt} {ic : IE} {b : ISs} {pos : Pos} (hc : PT X c (rdT ε Γ ic)) (hb : PSs X body (rdSs ε Γ b)) : PS X (.While c body [] pos) (rdSt ε Γ (.whil ic b)) := by
  refine PS.imp (ps_while (own_passes C) hc hb) fun D σ H ⟨φ, ρ, μ, fl, ρ', μ', R, e, q⟩ => ?_
  simp only [evS] at e
  refine ⟨fun m σi Hi => ∃ φi ρi μi, StP ε φ ρ σ H φi ρi μi σi Hi ∧ loopW (fun ρ μ => (evE Γ ic ρ μ).bind fun r => (truD (viewD r.2 r.1)).map fun k => (k, r.2)) (fun ρ μ => evSs Γ b ρ μ) m ρi μi = some (fl, ρ', μ'), ⟨fuelW, φ, ρ, μ, .refl R, e⟩, ?_⟩
  rintro m σi Hi ⟨φi, ρi, μi, xi, el⟩
  cases m with
  | zero => cases el
  | succ m =>
    simp only [loopW, Option.bind_eq_some_iff, Option.map_eq_some_iff] at el
    obtain ⟨⟨k, μ1⟩, ⟨⟨d, μ2⟩, e1, k', e2, e3⟩, e4⟩ := el
    cases e3
    refine ⟨φi, ρi, μi, d, _, k, xi.rel, e1, e2, fun φ1 H1 x1 => ?_⟩
    have y1 := xi.trans (.of xi.rel x1)
    cases k with
    | false =>
      simp at e4
      obtain ⟨rfl, rfl, rfl⟩ := e4
      simp only [Bool.false_eq_true, if_false]
      exact q φ1 σi H1 y1
    | true =>
      simp only [if_true, Option.bind_eq_some_iff] at e4 ⊢
      obtain ⟨⟨f2, ρ2, μ3⟩, f1, f3⟩ := e4
      refine ⟨fun σn Hn => ∃ φi ρi μi, StP ε φ ρ σ H φi ρi μi σn Hn ∧ loopW (fun ρ μ => (evE Γ ic ρ μ).bind fun r => (truD (viewD r.2 r.1)).map fun k => (k, r.2)) (fun ρ μ => evSs Γ b ρ μ) m ρi μi = some (fl, ρ', μ'), fun σn Hn w => ⟨m, Nat.lt_succ_self m, w⟩, ?_⟩
      refine ⟨φ1, ρi, _, f2, ρ2, μ3, y1.rel, f1, fun φ3 σ3 H3 x3 => ?_⟩
      have x4 := y1.trans x3
      cases f2 with
      | nx => exact ⟨φ3, ρ2, μ3, x4, f3⟩
      | ct => exact ⟨φ3, ρ2, μ3, x4, f3⟩
      | brk => cases f3; exact q φ3 σ3 H3 x4
      | ret d => cases f3; exact q φ3 σ3 H3 x4
end
end FH
end
section
/-! FH11: statements: what is changed. -/
namespace FH
open PySem PySem.Spec PyProof.Rows L2
section
variable {ε : Ev} {T : Tab} {Γ : Env2} {S : SC} {X : Cx} {φ φ' : List Addr} {H H' : Hp} {μ μ' : Store} {ρ ρ' : Slots} {σ σ' : L2.St}
theorem lstAt_ok {d : D} {n : Nat} {ds : List D} (h : lstAt μ d = some (n, ds)) : d = .ref n ∧ μ[n]? = some (.lst ds) := by
  unfold lstAt at h
  split at h
  · split at h
    · rename_i e; cases h; exact ⟨rfl, e⟩
    · cases h
  · cases h
theorem insAt_ok {d : D} {n c : Nat} {fs : List (Str × D)} (h : insAt μ c d = some (n, fs)) : d = .ref n ∧ μ[n]? = some (.ins c fs) := by
  unfold insAt at h
  split at h
  · split at h
    · rename_i e
      split at h
      · rename_i hc; cases h; subst hc; exact ⟨rfl, e⟩
      · cases h
    · cases h
  · cases h
theorem lst_at {v : V} {d : D} {n : Nat} {ds : List D} (St : Sto ε φ μ H) (y : Enc ε φ H v d) (h : lstAt μ d = some (n, ds)) : ∃ a vs, v = .ref a ∧ φ[n]? = some a ∧ H a = some (.lst vs) ∧ EncL ε φ H vs ds := by
  obtain ⟨rfl, e⟩ := lstAt_ok h
  cases y with
  | ref hn =>
    rename_i a
    have c := St.at_ n _ _ hn e
    cases c with
    | lst c1 c2 => exact ⟨a, _, rfl, hn, c1, c2⟩
theorem ins_at {v : V} {d : D} {n c : Nat} {ds : List (Str × D)} (St : Sto ε φ μ H) (y : Enc ε φ H v d) (h : insAt μ c d = some (n, ds)) : ∃ a dx fs, v = .ref a ∧ φ[n]? = some a ∧ H a = some (.ins (ε.ca c) dx fs) ∧ EncK ε φ H fs ds := by
  obtain ⟨rfl, e⟩ := insAt_ok h
  cases y with
  | ref hn =>
    rename_i a
    have c := St.at_ n _ _ hn e
    cases c with
    | ins c1 c2 => exact ⟨a, _, _, rfl, hn, c1, c2⟩
theorem grow_upd {a : Addr} {o : HO} (nt : ∀ xs, H a ≠ some (.tup xs)) (nf : ∀ q u, H a ≠ some (.frz q u)) : Grow H (upd H a o) :=
  ⟨fun b xs e => by rw [upd_ne (fun z => by rw [z] at e; exact nt _ e)]; exact e, fun b q u e => by rw [upd_ne (fun z => by rw [z] at e; exact nf _ _ e)]; exact e⟩
theorem no_t {a : Addr} {vs : List V} (h : H a = some (.lst vs)) : ∀ xs, H a ≠ some (.tup xs) := fun xs e => by rw [h] at e; cases e
theorem no_f {a : Addr} {vs : List V} (h : H a = some (.lst vs)) : ∀ q u, H a ≠ some (.frz q u) := fun q u e => by rw [h] at e; cases e
/-- a list that may change is given other items -/
theorem Res.lset {n : Nat} {a : Addr} {vs ws : List V} {ds : List D} (St : Sto ε φ μ H) (hn : φ[n]? = some a) (h : H a = some (.lst vs)) (y : EncL ε φ H ws ds) : Res ε φ H φ (μ.set n (.lst ds)) (L2.upd H a (.lst ws)) :=
  Res.set St hn (no_t h) (no_f h) (.lst upd_same (y.grow (grow_upd (no_t h) (no_f h))))
theorem Sto.out {a : Addr} {o : HO} (St : Sto ε φ μ H) (na : a ∉ φ) (g : Grow H (upd H a o)) : Sto ε φ μ (upd H a o) := ⟨St.len, St.nd, fun m b c e1 e2 => by
  have q := (St.at_ m b c e1 e2).mono [] g fun u e => by rw [upd_ne (fun z => na (by rw [← z]; exact List.mem_of_getElem? e1))]; exact e
  rwa [List.append_nil] at q⟩
theorem slots_other {a : Addr} {o : HO} (g : Grow H (upd H a o)) : ∀ {ρ : Slots} {σ : L2.St}, Paired (SlotOk ε φ H) ρ σ → a ∉ ownA ρ σ → Paired (SlotOk ε φ (upd H a o)) ρ σ
  | _, _, .nil, _ => .nil
  | s :: ρ, u :: σ, .cons q r, h => by
    refine .cons ?_ (slots_other g r fun z => h (ownA_cons z))
    cases s with
    | emp => trivial
    | val d => obtain ⟨v, rfl, e⟩ := q; exact ⟨v, rfl, e.grow g⟩
    | own c =>
      obtain ⟨b, rfl, e⟩ := q
      have hb : b ≠ a := by rintro rfl; exact h (by simp [ownA])
      have e' := e.mono [] g fun u z => by rw [upd_ne hb]; exact z
      rw [List.append_nil] at e'
      exact ⟨b, rfl, e'⟩
theorem slots_at {a : Addr} {o : HO} {s : Slot} {c0 : Cell} (g : Grow H (upd H a o)) (hs : SlotOk ε φ (upd H a o) s (some (.ref a))) : ∀ {ρ : Slots} {σ : L2.St} {i : Nat}, Paired (SlotOk ε φ H) ρ σ → ρ[i]? = some (.own c0) → σ[i]? = some (some (.ref a)) → (ownA ρ σ).Nodup →
    Paired (SlotOk ε φ (upd H a o)) (ρ.set i s) σ
  | [], _, i, .nil, h, _, _ => by simp at h
  | s0 :: ρ, u :: σ, 0, .cons q r, h, k, nd => by
    simp at h k
    subst h; subst k
    refine .cons hs (slots_other g r ?_)
    simp only [ownA, List.nodup_cons] at nd
    exact nd.1
  | s0 :: ρ, u :: σ, i + 1, .cons q r, h, k, nd => by
    have h' : ρ[i]? = some (.own c0) := by simpa using h
    have k' : σ[i]? = some (some (.ref a)) := by simpa using k
    refine .cons ?_ (slots_at g hs r h' k' (nd.sublist ownA_sub))
    cases s0 with
    | emp => trivial
    | val d => obtain ⟨v, rfl, e⟩ := q; exact ⟨v, rfl, e.grow g⟩
    | own c =>
      obtain ⟨b, rfl, e⟩ := q
      have m := ownA_get h' k'
      simp only [ownA, List.nodup_cons] at nd
      have hb : b ≠ a := by rintro rfl; exact nd.1 m
      have e' := e.mono [] g fun u z => by rw [upd_ne hb]; exact z
      rw [List.append_nil] at e'
      exact ⟨b, rfl, e'⟩
theorem ownA_repl {c0 c : Cell} : ∀ {ρ : Slots} {σ : L2.St} {i : Nat}, ρ[i]? = some (.own c0) → ownA (ρ.set i (.own c)) σ = ownA ρ σ
  | [], _, _, h => by simp at h
  | s0 :: ρ, [], i, h => by cases i <;> simp [ownA]
  | s0 :: ρ, u :: σ, 0, h => by
    simp at h; subst h
    cases u with
    | none => rfl
    | some v => cases v <;> rfl
  | s0 :: ρ, u :: σ, i + 1, h => by
    have ih := @ownA_repl c0 c ρ σ i (by simpa using h)
    cases s0 with
    | emp => exact ih
    | val d => exact ih
    | own c1 =>
      cases u with
      | none => exact ih
      | some v => cases v <;> first | exact ih | (show _ :: _ = _ :: _; rw [ih])
/-- a list that a name alone holds is given other items -/
theorem StP.oset {i : Nat} {a : Addr} {vs ws : List V} {c0 : Cell} {ds : List D} (R : Rel ε φ ρ μ σ H) (hi : ρ[i]? = some (.own c0)) (hs : σ[i]? = some (some (.ref a))) (h : H a = some (.lst vs)) (y : EncL ε φ H ws ds) :
    StP ε φ ρ σ H φ (ρ.set i (.own (.lst ds))) μ σ (upd H a (.lst ws)) := by
  have g : Grow H (upd H a (.lst ws)) := grow_upd (no_t h) (no_f h)
  have m := ownA_get hi hs
  have er : ownA (ρ.set i (.own (.lst ds))) σ = ownA ρ σ := ownA_repl hi
  refine ⟨⟨R.sto.out (R.dj a m) g, slots_at (s := .own (.lst ds)) g ⟨a, rfl, .lst upd_same (y.grow g)⟩ R.slots hi hs R.nd, by rw [er]; exact R.nd, by rw [er]; exact R.dj⟩, ⟨[], by simp, fun _ h => by simp at h⟩, g, fun b e z => ?_, fun b o e n1 n2 => ?_, fun b hb => .inl (by rw [er] at hb; exact hb)⟩
  · by_cases hb : b = a
    · rw [hb, upd_same] at z; cases z
    · rw [upd_ne hb] at z; exact e z
  · rw [upd_ne (fun z => n2 (by rw [z]; exact m))]; exact e
theorem StP.ofrz {i : Nat} {a : Addr} {vs : List V} {c0 : Cell} {od : Obj} {ds : List D} (R : Rel ε φ ρ μ σ H) (hi : ρ[i]? = some (.own c0)) (hs : σ[i]? = some (some (.ref a))) (h : H a = some (.lst vs)) (y : EncL ε φ H vs ds) :
    StP ε φ ρ σ H φ (ρ.set i (.val (.lst ds))) μ σ (upd H a (.frz od (.lst vs))) := by
  have g : Grow H (upd H a (.frz od (.lst vs))) := grow_upd (no_t h) (no_f h)
  have m := ownA_get hi hs
  have es : σ.set i (some (.ref a)) = σ := by
    apply List.ext_getElem?
    intro k
    by_cases hk : i = k
    · subst hk
      rw [List.getElem?_set_self (List.getElem?_eq_some_iff.mp hs).1, hs]
    · rw [List.getElem?_set_ne hk]
  have sub : ∀ b ∈ ownA (ρ.set i (.val (.lst ds))) σ, b ∈ ownA ρ σ := fun b hb => by
    rw [← es] at hb
    exact own_set (s := .val (.lst ds)) (fun _ z => nomatch z) b hb
  have nd : (ownA (ρ.set i (.val (.lst ds))) σ).Nodup := by
    rw [← es]
    exact nodup_ownA_set (s := .val (.lst ds)) (fun _ _ z => nomatch z) R.nd
  refine ⟨⟨R.sto.out (R.dj a m) g, slots_at (s := .val (.lst ds)) g ⟨.ref a, rfl, .lst (.inl ⟨od, upd_same⟩) (y.grow g)⟩ R.slots hi hs R.nd, nd, fun b hb => R.dj b (sub b hb)⟩, ⟨[], by simp, fun _ h => by simp at h⟩, g, fun b e z => ?_, fun b o e n1 n2 => ?_, fun b hb => .inl (sub b hb)⟩
  · by_cases hb : b = a
    · rw [hb, upd_same] at z; cases z
    · rw [upd_ne hb] at z; exact e z
  · rw [upd_ne (fun z => n2 (by rw [z]; exact m))]; exact e
theorem ownS_ok {i : Nat} {ds : List D} (h : ownS ρ i = some ds) : ρ[i]? = some (.own (.lst ds)) := by
  unfold ownS at h
  split at h
  · rename_i e; cases h; exact e
  · cases h
theorem st_freeze {st : Stmt} {i : Nat} {is : IS} (h : PS X st (rdSt ε Γ is)) : PS X st (rdSt ε Γ (.freeze i is)) := by
  refine ⟨fun pins s σ H D I ⟨φ, ρ, μ, fl, ρ', μ', R, e, q⟩ => ?_⟩
  simp only [evS, Option.bind_eq_some_iff] at e
  obtain ⟨ds, e1, e2⟩ := e
  have hi := ownS_ok e1
  obtain ⟨a, hs, hc, _, _⟩ := R.own hi
  cases hc with
  | lst h1 h2 =>
    obtain ⟨od, I1⟩ := I.lock h1 trivial
    have x := StP.ofrz (od := od) R hi hs h1 h2
    exact h.run pins s σ _ D I1 ⟨φ, _, μ, fl, ρ', μ', x.rel, e2, q.pre x⟩

/-! ### o[i] = e and kin -/
theorem st_setIx {o i e : Expr} {io ii ie : IE} {pos pos' : Pos} (nc : notComp e = true) (ok : okE i = true) (ho : PE X o (rdE ε Γ io)) (hi : PE X i (rdE ε Γ ii)) (he : PE X e (rdE ε Γ ie)) :
    PS X (.Assign [.Subscript o i pos'] e pos) (rdSt ε Γ (.setIx io ii ie)) := by
  have ha : ∀ v, assign (.Subscript o i pos') X.env v = (do
      let ov ← holding [v] (eval o X.env)
      let iv ← holding [v, ov] (eval i X.env)
      standAt pos'
      holding [v, ov, iv] (setItem ov iv v)
      release [v, ov, iv] []) := fun v => by cases i <;> first | rfl | (simp [okE] at ok)
  have sw : swapsWithSole [.Subscript o i pos'] e pos.line X.env = pure false := by
    show swapsWith e (some (.Subscript o i pos')) pos.line X.env = pure false
    exact swap_no nc
  refine PS.imp (ps_asg he (pg_sub ho hi set_list ha) sw) fun D σ H ⟨φ, ρ, μ, fl, ρ', μ', R, e, q⟩ => ?_
  simp only [evS, Option.bind_eq_some_iff] at e
  obtain ⟨⟨d, μ1⟩, e1, ⟨r, μ2⟩, e2, ⟨k, μ3⟩, e3, e4⟩ := e
  refine ⟨φ, ρ, μ, d, μ1, R, e1, fun φ1 v1 H1 x1 y1 => ⟨φ1, ρ, μ1, r, μ2, R.step x1, e2, fun φ2 v2 H2 x2 y2 => ⟨φ2, ρ, μ2, k, μ3, (R.step x1).step x2, e3, fun φ3 v3 H3 x3 y3 => ?_⟩⟩⟩
  split at e4
  · rename_i n ds m hl hk
    obtain rfl : k = .int m := hk
    simp only [Option.map_eq_some_iff] at e4
    obtain ⟨j, ej, e5⟩ := e4
    cases e5
    cases y3
    obtain ⟨a, vs, rfl, hn, h1, h2⟩ := lst_at x3.sto (x3.ext.enc y2) hl
    refine ⟨a, vs, m, j, rfl, rfl, h1, by rw [h2.length]; exact ej, ?_⟩
    have x4 := Res.lset x3.sto hn h1 (EncL.set j h2 ((x2.trans x3).ext.enc y1))
    exact q φ3 σ _ (.of R (((x1.trans x2).trans x3).trans x4))
  · cases e4
theorem st_setKy (C : CxOk ε T Γ S X) {o i e : Expr} {io ii ie : IE} {pos pos' : Pos} (nc : notComp e = true) (ho : PE X o (rdE ε Γ io)) (hi : PE X i (rdE ε Γ ii)) (he : PE X e (rdE ε Γ ie)) :
    PS X (.Assign [.Subscript o i pos'] e pos) (rdSt ε Γ (.setKy io ii ie)) := by
  refine PS.imp (ps_dput (by have := C.hu; omega) ho hi he (swap_no nc)) fun D σ H ⟨φ, ρ, μ, fl, ρ', μ', R, e, q⟩ => ?_
  simp only [evS, Option.bind_eq_some_iff] at e
  obtain ⟨⟨d, μ1⟩, e1, ⟨r, μ2⟩, e2, ⟨k, μ3⟩, e3, e4⟩ := e
  refine ⟨φ, ρ, μ, d, μ1, R, e1, fun φ1 v1 H1 x1 y1 => ⟨φ1, ρ, μ1, r, μ2, R.step x1, e2, fun φ2 v2 H2 x2 y2 => ⟨φ2, ρ, μ2, k, μ3, (R.step x1).step x2, e3, fun φ3 v3 H3 x3 y3 => ?_⟩⟩⟩
  split at e4
  · rename_i n hk
    obtain rfl : r = .ref n := hk
    split at e4
    · rename_i kvs en
      split at e4
      · rename_i hz
        simp only [Option.map_eq_some_iff] at e4
        obtain ⟨y, ek, e5⟩ := e4
        cases e5
        cases x3.ext.enc y2 with
        | ref hn =>
          rename_i a
          obtain ⟨ks, h1, h2⟩ := dic_at x3.sto hn en
          rw [keyD_ok y3 ek]
          refine ⟨a, _, rfl, DPut.k h1 (by rw [h2.len]; exact hz), ?_⟩
          have nt : ∀ xs, H3 a ≠ some (.tup xs) := fun xs e => by rw [h1] at e; cases e
          have nf : ∀ q u, H3 a ≠ some (.frz q u) := fun q u e => by rw [h1] at e; cases e
          have x4 : Res ε φ3 H3 φ3 (μ3.set n (.dic (FH.setK kvs y d))) (upd H3 a (.dK (putK ks y v1))) := Res.set x3.sto hn nt nf (.dic upd_same (by
            have z := (h2.setK (k := y) ((x2.trans x3).ext.enc y1)).mono [] (grow_upd (o := .dK (putK ks y v1)) nt nf)
            rwa [List.append_nil] at z))
          exact q φ3 σ _ (.of R (((x1.trans x2).trans x3).trans x4))
      · cases e4
    · cases e4
  · cases e4
end
end FH
end
section
/-! FH12: statements: more of what is changed. -/
namespace FH
open PySem PySem.Spec PyProof.Rows L2
section
variable {ε : Ev} {T : Tab} {Γ : Env2} {S : SC} {X : Cx} {φ φ' : List Addr} {H H' : Hp} {μ μ' : Store} {ρ ρ' : Slots} {σ σ' : L2.St}
/-- an item of a tracked list, by values -/
def rGetL : V → V → Hp → VK → Prop := fun o i H Q => ∃ p xs k v, o = .ref p ∧ i = .int k ∧ H p = some (.lst xs) ∧ atI xs k = some v ∧ Q v H
theorem get_list : PGet X rGetL := by
  intro pins s σ H o i ov iv Q I ro ri ⟨p, xs, k, v, e1, e2, hp, hv, q⟩
  subst e1; subst e2
  cases ro
  obtain ⟨t, rfl⟩ := ri
  obtain ⟨its, n, r, ho, hz⟩ := I.lst hp
  obtain ⟨j, h1, h2, h3, h4, h5⟩ := atI_get hv
  have hl := r.length
  have hn := line63
  obtain ⟨u, hu, ru⟩ := r.get h2
  have hlist : s.heap.IsList p its.toArray := ⟨_, ho, rfl, _, rfl⟩
  by_cases h0 : 0 ≤ k
  · have hk : k.toNat = j := by
      rw [seqIndex_of h0 h5] at h1
      exact Option.some.inj h1
    exact wpAny_getItem_list (x := u) hlist h0 (by omega) (by rw [hk]; simpa using hu) ⟨v, H, I, ru, q⟩
  · have hk : (k + (its.toArray.size : Int)).toNat = j := by
      rw [seqIndex_neg (by omega) h4] at h1
      rw [List.size_toArray, ← hl]
      exact Option.some.inj h1
    exact wpAny_getItem_list_neg (x := u) hlist (by omega) (by rw [List.size_toArray, ← hl]; exact h4) (by omega) (by rw [hk]; simpa using hu) ⟨v, H, I, ru, q⟩
theorem EncL.atI {vs : List V} {ds : List D} {i : Int} {d : D} (h : EncL ε φ H vs ds) (e : L2.atI ds i = some d) : ∃ v, L2.atI vs i = some v ∧ Enc ε φ H v d := by
  unfold L2.atI at e ⊢
  rw [h.length]
  cases ej : ixN ds.length i with
  | none => rw [ej] at e; cases e
  | some j => rw [ej] at e; exact h.get e
theorem st_augIx {o i e : Expr} {io ii ie : IE} {op : Operator} {pos tpos : Pos} (ok : okE i = true) (hop : op = .Add) (ho : PE X o (rdE ε Γ io)) (hi : PE X i (rdE ε Γ ii)) (he : PE X e (rdE ε Γ ie)) :
    PS X (.AugAssign (.Subscript o i tpos) op e pos) (rdSt ε Γ (.augIx op io ii ie)) := by
  subst hop
  have ha : ∀ ov iv new, augStore i ov iv new = (do holding [new, ov, iv] (setItem ov iv new); release [new, ov, iv] []; pure .next) := fun ov iv new => by cases i <;> first | rfl | (simp [okE] at ok)
  refine PS.imp (ps_augS ho hi get_list he ip_add set_list ha) fun D σ H ⟨φ, ρ, μ, fl, ρ', μ', R, e, q⟩ => ?_
  simp only [evS, Option.bind_eq_some_iff] at e
  obtain ⟨⟨r, μ1⟩, e1, ⟨k, μ2⟩, e2, e3⟩ := e
  refine ⟨φ, ρ, μ, r, μ1, R, e1, fun φ1 v1 H1 x1 y1 => ⟨φ1, ρ, μ1, k, μ2, R.step x1, e2, fun φ2 v2 H2 x2 y2 => ?_⟩⟩
  split at e3
  · rename_i n0 ds0 m hl hk
    obtain rfl : k = .int m := hk
    simp only [Option.bind_eq_some_iff] at e3
    obtain ⟨v, ev, ⟨x, μ3⟩, e4, e5⟩ := e3
    obtain ⟨a, vs, rfl, hn, h1, h2⟩ := lst_at x2.sto (x2.ext.enc y1) hl
    obtain ⟨w, hw, yw⟩ := h2.atI ev
    cases y2
    refine ⟨a, vs, m, w, rfl, rfl, h1, hw, φ2, ρ, μ2, x, μ3, (R.step x1).step x2, e4, fun φ3 v3 H3 x3 y3 => ?_⟩
    have key : ∃ p b, v = .int p ∧ x = .int b := by cases v <;> cases x <;> first | exact ⟨_, _, rfl, rfl⟩ | (simp at e5)
    obtain ⟨p, b, rfl, rfl⟩ := key
    simp only at e5
    cases yw
    cases y3
    split at e5
    · rename_i n es hl2
      simp only [Option.map_eq_some_iff] at e5
      obtain ⟨j, ej, e6⟩ := e5
      cases e6
      obtain ⟨a', ws, ea, hn', k1, k2⟩ := lst_at x3.sto ((x2.trans x3).ext.enc y1) hl2
      cases ea
      refine ⟨p, b, rfl, rfl, a, ws, m, j, rfl, rfl, k1, by rw [k2.length]; exact ej, ?_⟩
      have x4 := Res.lset x3.sto hn' k1 (EncL.set j k2 (.int (p + b)))
      exact q φ3 σ _ (.of R (((x1.trans x2).trans x3).trans x4))
    · cases e5
  · cases e3
theorem st_aug (C : CxOk ε T Γ S X) {i : Nat} {x : Str} {e : Expr} {ie : IE} {op : Operator} {pos pos' : Pos} (hop : op = .Add) (h : S.N[i]? = some x) (hl : locB S x = true) (he : PE X e (rdE ε Γ ie)) : PS X (.AugAssign (.Name x pos') op e pos) (rdSt ε Γ (.aug op i ie)) := by
  subst hop
  obtain ⟨h1, h2⟩ := locB_ok C hl
  refine PS.imp (ps_aug (i := i) (by rw [C.N]; exact C.nd) (by rw [C.N]; exact h) h1 he ip_add h2) fun D σ H ⟨φ, ρ, μ, fl, ρ', μ', R, e, q⟩ => ?_
  simp only [evS, Option.bind_eq_some_iff] at e
  obtain ⟨v, e1, ⟨x, μ1⟩, e2, e3⟩ := e
  obtain ⟨w, hw, yw⟩ := R.slot e1
  refine ⟨w, hw, φ, ρ, μ, x, μ1, R, e2, fun φ1 v1 H1 x1 y1 => ?_⟩
  have key : ∃ p b, v = .int p ∧ x = .int b := by cases v <;> cases x <;> first | exact ⟨_, _, rfl, rfl⟩ | (simp at e3)
  obtain ⟨p, b, rfl, rfl⟩ := key
  simp only at e3
  cases e3
  cases yw
  cases y1
  exact ⟨p, b, rfl, rfl, q φ1 _ H1 ((StP.of R x1).val (.int (p + b)))⟩

/-! ### fields -/
theorem Res.ins {n c : Nat} {a dx : Addr} {fs gs : List (Str × V)} {ds : List (Str × D)} (St : Sto ε φ μ H) (hn : φ[n]? = some a) (h : H a = some (.ins (ε.ca c) dx fs)) (y : EncK ε φ H gs ds) :
    Res ε φ H φ (μ.set n (.ins c ds)) (L2.upd H a (.ins (ε.ca c) dx gs)) := by
  have nt : ∀ xs, H a ≠ some (.tup xs) := fun xs e => by rw [h] at e; cases e
  have nf : ∀ q u, H a ≠ some (.frz q u) := fun q u e => by rw [h] at e; cases e
  refine Res.set St hn nt nf (.ins upd_same ?_)
  have z := y.mono [] (grow_upd (o := .ins (ε.ca c) dx gs) nt nf)
  rwa [List.append_nil] at z
theorem st_setAt (C : CxOk ε T Γ S X) {o e : Expr} {f : Str} {io ie : IE} {c : Nat} {I0 : CI} {pos pos' : Pos} (nc : notComp e = true) (hc : T.c[c]? = some I0) (hf : I0.flds.contains f = true) (ho : PE X o (rdE ε Γ io)) (he : PE X e (rdE ε Γ ie)) :
    PS X (.Assign [.Attribute o f pos'] e pos) (rdSt ε Γ (.setAt c io f ie)) := by
  have K := C.cls c I0 hc
  refine PS.imp (ps_fld ho he (swap_no nc)) fun D σ H ⟨φ, ρ, μ, fl, ρ', μ', R, e, q⟩ => ?_
  simp only [evS, Option.bind_eq_some_iff] at e
  obtain ⟨⟨x, μ1⟩, e1, ⟨r, μ2⟩, e2, ⟨n, fs⟩, e3, e4⟩ := e
  refine ⟨φ, ρ, μ, x, μ1, R, e1, fun φ1 v1 H1 x1 y1 => ⟨φ1, ρ, μ1, r, μ2, R.step x1, e2, fun φ2 v2 H2 x2 y2 => ?_⟩⟩
  obtain ⟨a, dx, gs, rfl, hn, h1, h2⟩ := ins_at x2.sto y2 e3
  split at e4
  · rename_i hz
    cases e4
    refine ⟨a, _, dx, gs, rfl, h1, K.cl, K.fld f hf, by rw [h2.len]; exact hz, ?_⟩
    exact q φ2 σ _ (.of R ((x1.trans x2).trans (Res.ins x2.sto hn h1 (h2.put (x2.ext.enc y1)))))
  · cases e4
/-- o.f = .. as one of several targets -/
def gAttr (K : PySem.W.Frag) (to : TE) (f : Str) : TG := fun v σ H Q => to σ H fun x H1 => ∃ a C dx fs, x = .ref a ∧ H1 a = some (.ins C dx fs) ∧ Cls K C ∧ NoAttr K C f ∧ fs.length < 1000 ∧ Q σ (upd H1 a (.ins C dx (putF f v fs)))
theorem pg_attr {o : Expr} {f : Str} {pos : Pos} {to : TE} (ho : PE X o to) : PG X (.Attribute o f pos) (gAttr X.K to f) := by
  refine ⟨fun pins s σ H v u Q I r h => ?_⟩
  show wpAny _ _ (do let ov ← holding [u] (eval o X.env); standAt pos.atName; holding [u, ov] (setAttr ov f u); release [u, ov] []) _ _ _
  refine wpAny_bind (wpAny_holding (thn (ho.run pins s σ H _ I h) fun ov s1 ⟨x, H1, I1, r1, a, C, dx, fs, ex, ea, c, n, l, q⟩ => ?_))
  subst ex
  obtain rfl : ov = Value.ref a := r1
  exact wpAny_bind (wpAny_standAt (wpAny_bind (wpAny_holding (setattr_ok I1 ea c n l r fun s2 I2 => wpAny_release ⟨σ, _, I2, q⟩))))
end
end FH
end
section
/-! FH13: statements: the rest. -/
namespace FH
open PySem PySem.Spec PyProof.Rows L2
section
variable {ε : Ev} {T : Tab} {Γ : Env2} {S : SC} {X : Cx} {φ φ' : List Addr} {H H' : Hp} {μ μ' : Store} {ρ ρ' : Slots} {σ σ' : L2.St}
def nameB : Expr → Bool
  | .Name .. => true | _ => false
def nmL (env : Env) (line : Nat) : Expr → Option Str
  | .Name id pos => if env.kindOf id == some .local && pos.line == line then some id else none
  | _ => none
theorem not_name {e : Expr} (h : nameB e = false) {env : Env} {line : Nat} : nmL env line e = none := by
  cases e <;> first | rfl | (simp [nameB] at h)
/-- stores that are not swapped -/
def noSwap : Expr → Expr → Bool
  | .Tuple ts _ _, .Tuple vs _ _ => !(ts.length == 2 || ts.length == 3) || vs.length != ts.length || ts.any fun t => !nameB t
  | .List .., _ => false
  | _, _ => true
theorem names_lt {ts : List Expr} {env : Env} {line : Nat} (h : (ts.any fun t => !nameB t) = true) : (ts.filterMap (nmL env line)).length < ts.length := by
  induction ts with
  | nil => cases h
  | cons t ts ih =>
    have le : (ts.filterMap (nmL env line)).length ≤ ts.length := List.length_filterMap_le _ _
    rw [List.any_cons] at h
    rw [List.filterMap_cons]
    cases ht : nameB t with
    | false =>
      rw [not_name ht]
      simp only [List.length_cons]
      omega
    | true =>
      rw [ht] at h
      have := ih (by simpa using h)
      split <;> simp only [List.length_cons] <;> omega
theorem noSwap_tup {ts vs : List Expr} {kt kv : Nat} {pt pv : Pos} {env : Env} (h : noSwap (.Tuple ts kt pt) (.Tuple vs kv pv) = true) : swappedStores [.Tuple ts kt pt] (.Tuple vs kv pv) env = pure none := by
  unfold swappedStores
  have h : (!(ts.length == 2 || ts.length == 3) || vs.length != ts.length || ts.any fun t => !nameB t) = true := h
  simp only [Bool.or_eq_true] at h
  show (if !(ts.length == 2 || ts.length == 3) || vs.length != ts.length || env.blockKind != .function then _ else _) = _
  split
  · rfl
  · rename_i hn
    simp only [Bool.or_eq_true, not_or] at hn
    have h3 : (ts.any fun t => !nameB t) = true := h.elim (fun h => h.elim (fun h => absurd h (by simpa using hn.1.1)) fun h => absurd h (by simpa using hn.1.2)) id
    split
    · rfl
    · have hl := names_lt (env := env) (line := (ts.head?.map (·.pos.line)).getD 0) h3
      show (if ((ts.filterMap (nmL env ((ts.head?.map (·.pos.line)).getD 0))).length != ts.length || _) = true then _ else _) = _
      rw [if_pos]
      simp only [Bool.or_eq_true, bne_iff_ne, ne_eq]
      left; omega
theorem noSwap_ok {t e : Expr} {env : Env} (h : noSwap t e = true) : swappedStores [t] e env = pure none := by
  cases t with
  | Tuple ts kt pt =>
    cases e with
    | Tuple vs kv pv => exact noSwap_tup h
    | _ => rfl
  | List ts pt => cases h
  | _ => rfl
/-- a pair of names stored from the right -/
def starB : Expr → Bool
  | .Starred .. => true | _ => false
def folds (a b : Expr) : Bool := (foldedForSure 8 a && foldedForSure 8 b) || (constantsAlone 8 a && constantsAlone 8 b)
theorem swap2 {x y : Str} {px py pt pt2 : Pos} {kt k2 : Nat} {a b : Expr} {env : Env} (hk : env.scope.kind = .function) (hx : env.scope.names.lookup x = some .local) (hy : env.scope.names.lookup y = some .local) (hl : lineB py px = true) (hxy : x ≠ y) (ha : starB a = false) (hb : starB b = false)
    (hf : folds a b = false) : swappedStores [.Tuple [.Name x px, .Name y py] kt pt] (.Tuple [a, b] k2 pt2) env = pure (some [x, y]) := by
  have kx : env.kindOf x = some .local := hx
  have ky : env.kindOf y = some .local := hy
  have kb : env.blockKind = .function := by unfold Env.blockKind; rw [hk]; rfl
  unfold folds at hf
  simp only [Bool.or_eq_false_iff] at hf
  unfold swappedStores
  show (if !(true || _) || _ || env.blockKind != .function then _ else _) = _
  rw [kb]
  show (if ([a, b].any fun | .Starred .. => true | _ => false) then _ else _) = _
  have hs : ([a, b].any fun | .Starred .. => true | _ => false) = false := by
    have k : [a, b].any starB = false := by simp [ha, hb]
    have e : (fun | .Starred .. => true | _ => false : Expr → Bool) = starB := by funext z; cases z <;> rfl
    rw [e]; exact k
  rw [hs]
  have hn : ([Expr.Name x px, Expr.Name y py].filterMap (nmL env px.line)) = [x, y] := by
    have hl' : (py.line == px.line) = true := hl
    simp [nmL, kx, ky, hl']
  show (if (([Expr.Name x px, Expr.Name y py].filterMap (nmL env px.line)).length != 2 || ([Expr.Name x px, Expr.Name y py].filterMap (nmL env px.line)).eraseDups.length != ([Expr.Name x px, Expr.Name y py].filterMap (nmL env px.line)).length) = true then _ else _) = _
  rw [hn]
  have he : [x, y].eraseDups = [x, y] := by
    rw [List.eraseDups_cons]
    have h1 : (y == x) = false := by simpa using fun e => hxy e.symm
    have h2 : (List.filter (fun b => !b == x) [y]) = [y] := by rw [List.filter_cons]; simp [h1]
    rw [h2]; rfl
  rw [he]
  show (if [a, b].all (foldedForSure 8) then _ else _) = _
  have h1 : [a, b].all (foldedForSure 8) = false := by simpa using hf.1
  have h2 : [a, b].all (constantsAlone 8) = false := by simpa using hf.2
  rw [h1]
  show (if [a, b].all (constantsAlone 8) then _ else _) = _
  rw [h2]
  show (pure (some ([Expr.Name x px, Expr.Name y py].filterMap (nmL env px.line))) : Sem (Option (List Str))) = _
  rw [hn]
theorem swap3 {x y z : Str} {px py pz pt pt2 : Pos} {kt k2 : Nat} {a b c : Expr} {env : Env} (hk : env.scope.kind = .function) (hx : env.scope.names.lookup x = some .local) (hy : env.scope.names.lookup y = some .local) (hz : env.scope.names.lookup z = some .local) (hl : lineB py px = true) (hl2 : lineB pz px = true)
    (hxy : x ≠ y) (hxz : x ≠ z) (hyz : y ≠ z) (ha : starB a = false) (hb : starB b = false) (hc : starB c = false)
    (hf : ([a, b, c].all (foldedForSure 8) || [a, b, c].all (constantsAlone 8)) = false) : swappedStores [.Tuple [.Name x px, .Name y py, .Name z pz] kt pt] (.Tuple [a, b, c] k2 pt2) env = pure (some [x, y, z]) := by
  have kx : env.kindOf x = some .local := hx
  have ky : env.kindOf y = some .local := hy
  have kz : env.kindOf z = some .local := hz
  have kb : env.blockKind = .function := by unfold Env.blockKind; rw [hk]; rfl
  simp only [Bool.or_eq_false_iff] at hf
  unfold swappedStores
  show (if !(_ || true) || _ || env.blockKind != .function then _ else _) = _
  rw [kb]
  show (if ([a, b, c].any fun | .Starred .. => true | _ => false) then _ else _) = _
  have hs : ([a, b, c].any fun | .Starred .. => true | _ => false) = false := by
    have k : [a, b, c].any starB = false := by simp [ha, hb, hc]
    have e : (fun | .Starred .. => true | _ => false : Expr → Bool) = starB := by funext z; cases z <;> rfl
    rw [e]; exact k
  rw [hs]
  have hn : ([Expr.Name x px, Expr.Name y py, Expr.Name z pz].filterMap (nmL env px.line)) = [x, y, z] := by
    have hl' : (py.line == px.line) = true := hl
    have hl2' : (pz.line == px.line) = true := hl2
    simp [nmL, kx, ky, kz, hl', hl2']
  show (if (([Expr.Name x px, Expr.Name y py, Expr.Name z pz].filterMap (nmL env px.line)).length != 3 || ([Expr.Name x px, Expr.Name y py, Expr.Name z pz].filterMap (nmL env px.line)).eraseDups.length != ([Expr.Name x px, Expr.Name y py, Expr.Name z pz].filterMap (nmL env px.line)).length) = true then _ else _) = _
  rw [hn]
  have he : [x, y, z].eraseDups = [x, y, z] := by
    have h1 : (y == x) = false := by simpa using fun e => hxy e.symm
    have h2 : (z == x) = false := by simpa using fun e => hxz e.symm
    have h3 : (z == y) = false := by simpa using fun e => hyz e.symm
    rw [List.eraseDups_cons]
    have f1 : (List.filter (fun b => !b == x) [y, z]) = [y, z] := by simp [List.filter_cons, h1, h2]
    rw [f1, List.eraseDups_cons]
    have f2 : (List.filter (fun b => !b == y) [z]) = [z] := by simp [List.filter_cons, h3]
    rw [f2]; rfl
  rw [he]
  show (if [a, b, c].all (foldedForSure 8) then _ else _) = _
  rw [hf.1]
  show (if [a, b, c].all (constantsAlone 8) then _ else _) = _
  rw [hf.2]
  show (pure (some ([Expr.Name x px, Expr.Name y py, Expr.Name z pz].filterMap (nmL env px.line))) : Sem (Option (List Str))) = _
  rw [hn]
end
end FH
end
section
/-! FH14: statements: pairs, fields two at once, lists that grow. -/
namespace FH
open PySem PySem.Spec PyProof.Rows L2
section
variable {ε : Ev} {T : Tab} {Γ : Env2} {S : SC} {X : Cx} {φ φ' : List Addr} {H H' : Hp} {μ μ' : Store} {ρ ρ' : Slots} {σ σ' : L2.St}
/-- what a name is to be given, ready -/
def InOk (ε : Ev) (H0 : Hp) (φ : List Addr) (H : Hp) (v : V) : Slot → Prop
  | .val d => Enc ε φ H v d
  | .own (.lst ds) => ∃ p vs, v = .ref p ∧ H0 p = none ∧ p ∉ φ ∧ H p = some (.lst vs) ∧ EncL ε φ H vs ds
  | _ => False
def rdIn (ε : Ev) (Γ : Env2) (i : In) : TE := fun σ H Q => ∃ φ ρ μ s μ', Rel ε φ ρ μ σ H ∧ evIn Γ i ρ μ = some (s, μ') ∧ ∀ φ' v H', Res ε φ H φ' μ' H' → InOk ε H φ' H' v s → Q v H'
theorem in_v {e : Expr} {ie : IE} (h : PE X e (rdE ε Γ ie)) : PE X e (rdIn ε Γ (.v ie)) := PE.imp h fun σ H Q ⟨φ, ρ, μ, s, μ', R, e, q⟩ => by
  simp only [evIn, Option.map_eq_some_iff] at e
  obtain ⟨⟨d, μ1⟩, e1, e2⟩ := e
  cases e2
  exact ⟨φ, ρ, μ, d, _, R, e1, fun φ1 v H1 x y => q φ1 v H1 x y⟩
theorem in_o {e : Expr} {f : FE} (h : PE X e (rdF ε Γ f)) : PE X e (rdIn ε Γ (.o f)) := PE.imp h fun σ H Q ⟨φ, ρ, μ, s, μ', R, e, q⟩ => by
  simp only [evIn, Option.map_eq_some_iff] at e
  obtain ⟨⟨ds, μ1⟩, e1, e2⟩ := e
  cases e2
  refine ⟨φ, ρ, μ, ds, _, R, e1, fun φ1 H1 p n => ?_⟩
  obtain ⟨vs, h1, h2⟩ := n.it
  exact q φ1 _ H1 n.res ⟨p, vs, rfl, n.free, n.out, h1, h2⟩
theorem InOk.step {H0 : Hp} {v : V} {s : Slot} (x : Ext φ H φ' H') (h : InOk ε H0 φ H v s) : InOk ε H0 φ' H' v s := by
  cases s with
  | emp => exact h
  | val d => exact x.enc h
  | own c =>
    cases c with
    | dic _ => exact h
    | tup _ => exact h
    | ins _ _ => exact h
    | lst ds =>
      obtain ⟨p, vs, e, f, o, h1, h2⟩ := h
      refine ⟨p, vs, e, f, fun z => ?_, x.keep p _ h1 o, x.encL h2⟩
      obtain ⟨p2, rfl, f2⟩ := x.more
      rcases List.mem_append.mp z with z | z
      · exact o z
      · rw [f2 p z] at h1; cases h1
theorem InOk.slot {H0 : Hp} {v : V} {s : Slot} (h : InOk ε H0 φ H v s) : SlotOk ε φ H s (some v) := by
  cases s with
  | emp => trivial
  | val d => exact ⟨v, rfl, h⟩
  | own c =>
    cases c with
    | dic _ => exact h.elim
    | tup _ => exact h.elim
    | ins _ _ => exact h.elim
    | lst ds =>
      obtain ⟨p, vs, rfl, f, o, h1, h2⟩ := h
      exact ⟨p, rfl, .lst h1 h2⟩
theorem InOk.free {H0 : Hp} {v : V} {c : Cell} {a : Addr} (h : InOk ε H0 φ H v (.own c)) (e : some v = some (.ref a)) : H0 a = none ∧ a ∉ φ ∧ ∃ o, H a = some o := by
  cases c with
  | dic _ => exact h.elim
  | tup _ => exact h.elim
  | ins _ _ => exact h.elim
  | lst ds =>
    obtain ⟨p, vs, rfl, f, o, h1, h2⟩ := h
    cases e
    exact ⟨f, o, _, h1⟩
theorem StP.two {φ1 φ2 : List Addr} {μ1 μ2 : Store} {H1 H2 : Hp} {i j : Nat} {s1 s2 : Slot} {v1 v2 : V} (R : Rel ε φ ρ μ σ H) (x1 : Res ε φ H φ1 μ1 H1) (y1 : InOk ε H φ1 H1 v1 s1) (x2 : Res ε φ1 H1 φ2 μ2 H2) (y2 : InOk ε H1 φ2 H2 v2 s2) :
    StP ε φ ρ σ H φ2 ((ρ.set i s1).set j s2) μ2 ((σ.set i (some v1)).set j (some v2)) H2 := by
  have x := x1.trans x2
  have z := StP.of R x
  have y1' := y1.step x2.ext
  have old : ∀ a ∈ ownA ρ σ, ∃ o, H a = some o := ownA_there R.slots
  have none1 : ∀ a, H1 a = none → H a = none := fun a ha => by
    cases e : H a with
    | none => rfl
    | some o => exact absurd ha (x1.ext.there a (by rw [e]; simp))
  have R1 : Rel ε φ2 (ρ.set i s1) μ2 (σ.set i (some v1)) H2 := z.rel.put y1'.slot fun c a e1 e2 => by
    subst e1
    obtain ⟨f, o, _⟩ := y1'.free e2
    refine ⟨fun m => ?_, o⟩
    obtain ⟨u, hu⟩ := old a m
    rw [f] at hu; cases hu
  refine ⟨R1.put y2.slot fun c a e1 e2 => ?_, z.more, z.grow, z.there, z.keep, fun a ha => ?_⟩
  · subst e1
    obtain ⟨f, o, _⟩ := y2.free e2
    refine ⟨fun m => ?_, o⟩
    rcases mem_ownA_set m with m | ⟨c', e3, e4⟩
    · obtain ⟨u, hu⟩ := old a m
      rw [none1 a f] at hu; cases hu
    · subst e3
      obtain ⟨_, _, u, hu⟩ := y1.free e4
      rw [f] at hu; cases hu
  · rcases mem_ownA_set ha with ha | ⟨c, e1, e2⟩
    · rcases mem_ownA_set ha with ha | ⟨c, e1, e2⟩
      · exact .inl ha
      · subst e1; exact .inr (y1.free e2).1
    · subst e1; exact .inr (none1 a (y2.free e2).1)
theorem st_par (C : CxOk ε T Γ S X) {i j : Nat} {x y : Str} {a b : Expr} {ia ib : In} {px py pt pos pt2 : Pos} {kt k2 : Nat} (hk : S.sc.kind = .function) (hi : S.N[i]? = some x) (hj : S.N[j]? = some y) (hij : i ≠ j) (hxy : x ≠ y) (hx : S.sc.names.lookup x = some .local) (hy : S.sc.names.lookup y = some .local)
    (hl : lineB py px = true) (oka : okE a = true) (okb : okE b = true) (hf : folds a b = false) (ha : PE X a (rdIn ε Γ ia)) (hb : PE X b (rdIn ε Γ ib)) :
    PS X (.Assign [.Tuple [.Name x px, .Name y py] kt pt] (.Tuple [a, b] k2 pt2) pos) (rdSt ε Γ (.par i j ia ib)) := by
  have sa : starB a = false := by cases a <;> first | rfl | (simp [okE] at oka)
  have sb : starB b = false := by cases b <;> first | rfl | (simp [okE] at okb)
  refine PS.imp (ps_par C.calm (by rw [C.N]; exact C.nd) (by rw [C.N]; exact hi) (by rw [C.N]; exact hj) hij (by rw [C.sc]; exact hx) (by rw [C.sc]; exact hy) (pa_cons ha (pa_cons hb pa_nil (star_cons okb)) (star_cons oka))
    (swap2 (by rw [C.sc]; exact hk) (by rw [C.sc]; exact hx) (by rw [C.sc]; exact hy) hl hxy sa sb hf)) fun D σ H ⟨φ, ρ, μ, fl, ρ', μ', R, e, q⟩ => ?_
  simp only [evS, Option.bind_eq_some_iff, Option.map_eq_some_iff] at e
  obtain ⟨⟨s1, μ1⟩, e1, ⟨s2, μ2⟩, e2, ρ1, e3, ρ2, e4, e5⟩ := e
  cases e5
  obtain ⟨rfl, _⟩ := setS_ok e3
  obtain ⟨rfl, _⟩ := setS_ok e4
  refine ⟨φ, ρ, μ, s1, μ1, R, e1, fun φ1 v1 H1 x1 y1 => ⟨φ1, ρ, μ1, s2, _, R.step x1, e2, fun φ2 v2 H2 x2 y2 => ⟨v1, v2, rfl, ?_⟩⟩⟩
  exact q φ2 _ H2 (.two R x1 y1 x2 y2)

/-! ### two fields at once -/
theorem putD_len (f : Str) (d : D) : ∀ fs : List (Str × D), (putD f d fs).length ≤ fs.length + 1
  | [] => Nat.le_refl _
  | (g, w) :: r => by
    have := putD_len f d r
    unfold putD
    split <;> simp only [List.length_cons] <;> omega
theorem st_setAt2 (C : CxOk ε T Γ S X) {x : Str} {f g : Str} {a b : Expr} {ia ib : IE} {i c : Nat} {I0 : CI} {p1 p2 p3 p4 pt pt2 pos : Pos} {kt k2 : Nat} (h : S.N[i]? = some x) (hv : visB S.sc x = true) (hn : nameOk x = true) (hc : T.c[c]? = some I0) (hf : I0.flds.contains f = true) (hg : I0.flds.contains g = true)
    (oka : okE a = true) (okb : okE b = true) (ha : PE X a (rdE ε Γ ia)) (hb : PE X b (rdE ε Γ ib)) :
    PS X (.Assign [.Tuple [.Attribute (.Name x p1) f p2, .Attribute (.Name x p3) g p4] kt pt] (.Tuple [a, b] k2 pt2) pos) (rdSt ε Γ (.setAt2 c i f g ia ib)) := by
  simp only [nameOk, Bool.and_eq_true, Bool.not_eq_true'] at hn
  have K := C.cls c I0 hc
  have vx : ∀ p, PE X (.Name x p) (tVar i) := fun p => pe_var (i := i) (by rw [C.N]; exact h) (by rw [C.sc]; exact visB_ok hv) hn.1.1 hn.1.2
  have sw : swappedStores [.Tuple [.Attribute (.Name x p1) f p2, .Attribute (.Name x p3) g p4] kt pt] (.Tuple [a, b] k2 pt2) X.env = pure none := noSwap_ok rfl
  refine PS.imp (ps_asg (pe_tup (pa_cons ha (pa_cons hb pa_nil (star_cons okb)) (star_cons oka))) (pg_tup (n := 2) C.calm (pgs_cons (pg_attr (f := f) (pos := p2) (vx p1)) (pgs_cons (pg_attr (f := g) (pos := p4) (vx p3)) pgs_nil))) (by rfl) sw) fun D σ H ⟨φ, ρ, μ, fl, ρ', μ', R, e, q⟩ => ?_
  simp only [evS, Option.bind_eq_some_iff] at e
  obtain ⟨⟨d1, μ1⟩, e1, ⟨d2, μ2⟩, e2, d, e3, ⟨n, fs⟩, e4, e5⟩ := e
  refine ⟨φ, ρ, μ, d1, μ1, R, e1, fun φ1 v1 H1 x1 y1 => ⟨φ1, ρ, μ1, d2, μ2, R.step x1, e2, fun φ2 v2 H2 x2 y2 => ?_⟩⟩
  split at e5
  · rename_i hz
    cases e5
    refine ⟨show 2 ≤ sizeLine by decide, fun p hp => ?_⟩
    have x3 : Res ε φ2 H2 φ2 μ2 (L2.upd H2 p (.tup [v1, v2])) := .ex x2.sto (Ex.new hp)
    have R3 := ((R.step x1).step x2).step x3
    obtain ⟨w, hw, yw⟩ := R3.slot e3
    obtain ⟨o, dx, gs, rfl, hn2, h1, h2⟩ := ins_at x3.sto yw e4
    have k1 := x3.ext.enc (x2.ext.enc y1)
    have k2 := x3.ext.enc y2
    have x4 := Res.ins x3.sto hn2 h1 (h2.put (f := f) k1)
    have h2' : EncK ε φ2 (L2.upd (L2.upd H2 p (.tup [v1, v2])) o (.ins (ε.ca c) dx (putF f v1 gs))) (putF f v1 gs) (putD f d1 fs) := by
      have z := (h2.put (f := f) k1).mono [] x4.ext.grow
      rwa [List.append_nil] at z
    have x5 := Res.ins (n := n) x4.sto hn2 upd_same (h2'.put (f := g) (x4.ext.enc k2))
    have hl := h2.len
    have hz : fs.length < 999 := hz
    refine ⟨p, [v1, v2], rfl, SqT.of upd_same, rfl, v1, [v2], rfl, .ref o, hw, o, _, dx, gs, rfl, h1, K.cl, K.fld f hf, by omega, v2, [], rfl, .ref o, hw, o, _, dx, _, rfl, upd_same, K.cl, K.fld g hg, ?_, rfl, ?_⟩
    · have := (h2.put (f := f) k1).len
      have l2 := putD_len f d1 fs
      omega
    · exact q φ2 σ _ (.of R ((((x1.trans x2).trans x3).trans x4).trans x5))
  · cases e5

/-! ### o.append(e), x.extend(..) -/
theorem bm1 {o e : Expr} {m : Str} {T : String} {id : String} {r : V → List V → Hp → VK → Prop} {to te : TE} {apos cpos : Pos} (pa : PlainAttrs T) (slot : PySem.Slot T m id) (hty : typeOf (.builtin id) = pure (.type "method_descriptor")) (hm : MtR X id r) (okO : objB o = true) (ok : okE e = true) (hl : (apos.endLine == cpos.line) = true)
    (ho : PE X o to) (he : PE X e te) : PE X (.Call (.Attribute o m apos) [e] [] cpos) (tBM X.K T r to (tCons te tNil)) := by
  have h1 := star_cons (es := []) (env := X.env) ok
  have h3 : starEach ([] : List Expr) X.env = [] := rfl
  exact pe_bm pa slot hty hm ho (pa_cons he pa_nil h1) (base_ok okO) (by rw [h1, h3]; rfl) hl h1 (by rw [h3]; rfl)
theorem tyV_lst {K : PySem.W.Frag} {a : Addr} {vs : List V} (h : H a = some (.lst vs)) : tyV K "list" (.ref a) H := .inl ⟨rfl, vs, SqL.of h⟩
theorem st_app {o e : Expr} {io ie : IE} {apos cpos pos : Pos} (okO : objB o = true) (ok : okE e = true) (hl : (apos.endLine == cpos.line) = true) (ho : PE X o (rdE ε Γ io)) (he : PE X e (rdE ε Γ ie)) :
    PS X (.Expr (.Call (.Attribute o "append" apos) [e] [] cpos) pos) (rdSt ε Γ (.app io ie)) := by
  refine PS.imp (ps_expr (bm1 PySem.F.plainAttrs_list PySem.F.slot_list_append PySem.F.type_list_append mt_append okO ok hl ho he)) fun D σ H ⟨φ, ρ, μ, fl, ρ', μ', R, e, q⟩ => ?_
  simp only [evS, Option.bind_eq_some_iff] at e
  obtain ⟨⟨r, μ1⟩, e1, ⟨n0, ds0⟩, e2, ⟨x, μ2⟩, e3, ⟨n, ds⟩, e4, e5⟩ := e
  refine ⟨φ, ρ, μ, r, μ1, R, e1, fun φ1 v1 H1 x1 y1 => ?_⟩
  obtain ⟨a0, vs0, rfl, _, g1, _⟩ := lst_at x1.sto y1 e2
  refine ⟨tyV_lst g1, φ1, ρ, μ1, x, μ2, R.step x1, e3, fun φ2 v2 H2 x2 y2 => ?_⟩
  obtain ⟨a, vs, ea, hn, h1, h2⟩ := lst_at x2.sto (x2.ext.enc y1) e4
  cases ea
  split at e5
  · rename_i hz
    cases e5
    refine ⟨a0, vs, v2, rfl, rfl, h1, by rw [h2.length]; exact hz, ?_⟩
    exact q φ2 σ _ (.of R ((x1.trans x2).trans (Res.lset x2.sto hn h1 (h2.app (.cons y2 .nil)))))
  · cases e5
theorem st_appOwn (C : CxOk ε T Γ S X) {x : Str} {e : Expr} {i : Nat} {ie : IE} {xp apos cpos pos : Pos} (h : S.N[i]? = some x) (hv : visB S.sc x = true) (hn : nameOk x = true) (ok : okE e = true) (hl : (apos.endLine == cpos.line) = true) (he : PE X e (rdE ε Γ ie)) :
    PS X (.Expr (.Call (.Attribute (.Name x xp) "append" apos) [e] [] cpos) pos) (rdSt ε Γ (.appOwn i ie)) := by
  simp only [nameOk, Bool.and_eq_true, Bool.not_eq_true'] at hn
  have vx : PE X (.Name x xp) (tVar i) := pe_var (i := i) (by rw [C.N]; exact h) (by rw [C.sc]; exact visB_ok hv) hn.1.1 hn.1.2
  refine PS.imp (ps_expr (bm1 PySem.F.plainAttrs_list PySem.F.slot_list_append PySem.F.type_list_append mt_append rfl ok hl vx he)) fun D σ H ⟨φ, ρ, μ, fl, ρ', μ', R, e, q⟩ => ?_
  simp only [evS, Option.bind_eq_some_iff] at e
  obtain ⟨ds, e1, ⟨x, μ1⟩, e2, e3⟩ := e
  have hi := ownS_ok e1
  obtain ⟨a, hs, hc, na, _⟩ := R.own hi
  cases hc with
  | lst c1 c2 =>
    rename_i vs
    refine ⟨_, hs, tyV_lst c1, φ, ρ, μ, x, μ1, R, e2, fun φ1 v1 H1 x1 y1 => ?_⟩
    split at e3
    · rename_i hz
      cases e3
      obtain ⟨_, k1⟩ := x1.outs c1 na
      refine ⟨a, vs, v1, rfl, rfl, k1, by rw [c2.length]; exact hz, ?_⟩
      exact q φ1 σ _ ((StP.of R x1).trans (.oset (R.step x1) hi hs k1 ((x1.ext.encL c2).app (.cons y1 .nil))))
    · cases e3
theorem st_extOwn (C : CxOk ε T Γ S X) {x : Str} {e : Expr} {i : Nat} {f : FE} {xp apos cpos pos : Pos} (h : S.N[i]? = some x) (hv : visB S.sc x = true) (hn : nameOk x = true) (ok : okE e = true) (hl : (apos.endLine == cpos.line) = true) (he : PE X e (rdF ε Γ f)) :
    PS X (.Expr (.Call (.Attribute (.Name x xp) "extend" apos) [e] [] cpos) pos) (rdSt ε Γ (.extOwn i f)) := by
  simp only [nameOk, Bool.and_eq_true, Bool.not_eq_true'] at hn
  have vx : PE X (.Name x xp) (tVar i) := pe_var (i := i) (by rw [C.N]; exact h) (by rw [C.sc]; exact visB_ok hv) hn.1.1 hn.1.2
  refine PS.imp (ps_expr (bm1 PySem.F.plainAttrs_list PySem.F.slot_list_extend PySem.F.type_list_extend mt_extend rfl ok hl vx he)) fun D σ H ⟨φ, ρ, μ, fl, ρ', μ', R, e, q⟩ => ?_
  simp only [evS, Option.bind_eq_some_iff] at e
  obtain ⟨ds, e1, ⟨es, μ1⟩, e2, e3⟩ := e
  have hi := ownS_ok e1
  obtain ⟨a, hs, hc, na, _⟩ := R.own hi
  cases hc with
  | lst c1 c2 =>
    rename_i vs
    refine ⟨_, hs, tyV_lst c1, φ, ρ, μ, es, μ1, R, e2, fun φ1 H1 p n => ?_⟩
    split at e3
    · rename_i hz
      cases e3
      obtain ⟨_, k1⟩ := n.res.outs c1 na
      obtain ⟨ws, n1, n2⟩ := n.it
      refine ⟨a, p, vs, ws, rfl, rfl, k1, n1, by rw [c2.length, n2.length]; exact hz, ?_⟩
      exact q φ1 σ _ ((StP.of R n.res).trans (.oset (R.step n.res) hi hs k1 ((n.res.ext.encL c2).app n2)))
    · cases e3
end
end FH
end
section
/-! FH15: methods of texts and tuples, a dict that the top wrote. -/
namespace FH
open PySem PySem.Spec PyProof.Rows L2
section
variable {ε : Ev} {T : Tab} {Γ : Env2} {S : SC} {X : Cx} {φ φ' : List Addr} {H H' : Hp} {μ' : Store} {ρ : Slots} {μ : Store} {σ : L2.St}
theorem strsD_ok : ∀ {ds : List D} {ys : List Str} {vs : List V}, EncL ε φ H vs ds → strsD ds = some ys → vs = ys.map V.str
  | [], _, _, h, e => by cases h; cases e; rfl
  | d :: ds, _, _, h, e => by
    cases h with
    | cons q r =>
      cases d <;> (first | (exfalso; simp [strsD] at e; done) | skip)
      simp only [strsD, Option.map_eq_some_iff] at e
      obtain ⟨zs, e1, rfl⟩ := e
      cases q
      rw [strsD_ok r e1]; rfl
theorem findI_ok {z : Str} : ∀ {ys : List Str} {j : Nat}, findI z ys = some j → ys[j]? = some z ∧ ∀ m, m < j → ys[m]? ≠ some z
  | [], _, h => by cases h
  | y :: ys, j, h => by
    unfold findI at h
    split at h
    · rename_i e; cases h; exact ⟨by rw [e]; rfl, fun m hm => absurd hm (Nat.not_lt_zero m)⟩
    · rename_i e
      simp only [Option.map_eq_some_iff] at h
      obtain ⟨i, hi, rfl⟩ := h
      obtain ⟨h1, h2⟩ := findI_ok hi
      refine ⟨by simpa using h1, fun m hm => ?_⟩
      cases m with
      | zero => simpa using e
      | succ m => simpa using h2 m (by omega)
/-- the name, the receiver's type, the function's id -/
def mthOf : M → String × String × String
  | .sindex => ("index", "str", "str.index") | .join => ("join", "str", "str.join")
def rM (ε : Ev) (m : M) : V → List V → Hp → VK → Prop := fun x vs H Q => ∃ φ d ds z, Enc ε φ H x d ∧ VwL ε φ H vs ds ∧ methD m d ds = some z ∧ ∀ v H', Ex H H' → Enc ε φ H' v z → Q v H'
theorem MtR.imp {id : String} {r r' : V → List V → Hp → VK → Prop} (h : MtR X id r) (k : ∀ x xs H Q, r' x xs H Q → r x xs H Q) : MtR X id r' := fun pins s σ H x xs v us Q I rx rs q => h pins s σ H x xs v us Q I rx rs (k x xs H Q q)
theorem mt_sindexD : MtR X "str.index" (rM ε .sindex) := by
  refine MtR.imp mt_sindex fun x xs H Q ⟨φ, d, ds, z, h1, h2, e, q⟩ => ?_
  unfold methD at e
  split at e <;> (first | (cases e; done) | skip)
  · cases h2 with
    | cons g1 g2 =>
      cases g2
      split at e
      · rename_i i rest ho
        cases e
        cases h1
        exact ⟨_, _, i, rest, rfl, by rw [g1.str], ho, q _ _ .refl (.int _)⟩
      · cases e
  · exact nomatch ‹M.sindex = M.join›
theorem mt_joinD (hK : ε.K = X.K) : MtR X "str.join" (rM ε .join) := by
  refine MtR.imp mt_join fun x xs H Q ⟨φ, d, ds, z, h1, h2, e, q⟩ => ?_
  unfold methD at e
  split at e <;> (first | (cases e; done) | skip)
  · exact nomatch ‹M.join = M.sindex›
  · cases h2 with
    | cons g1 g2 =>
      cases g2
      simp only [Option.bind_eq_some_iff] at e
      obtain ⟨ys, e1, e2⟩ := e
      split at e2
      · rename_i hz
        cases e2
        cases h1
        obtain ⟨a, vs, rfl, k1, k2⟩ := g1.lst
        rw [strsD_ok k2 e1] at k1
        exact ⟨_, a, ys, rfl, rfl, .inl (hK ▸ k1.sq), hz, q _ _ .refl (.str _)⟩
      · cases e2
theorem methD_ty {m : M} {d : D} {ds : List D} {z : D} {v : V} {K : PySem.W.Frag} (h : methD m d ds = some z) (y : Enc ε φ H v d) : tyV K "str" v H := by
  unfold methD at h
  split at h <;> (first | (cases h; done) | (cases y; rfl))
theorem bmS {o e : Expr} {m : Str} {T : String} {id : String} {r : V → List V → Hp → VK → Prop} {to : TE} {ta : TA} {apos cpos : Pos} (pa : PlainAttrs T) (slot : PySem.Slot T m id) (hty : typeOf (.builtin id) = pure (.type "method_descriptor")) (hm : MtR X id r) (okO : objB o = true) (ok : okE e = true) (hl : (apos.endLine == cpos.line) = true)
    (ho : PE X o to) (he : PA X [e] ta) : PE X (.Call (.Attribute o m apos) [e] [] cpos) (tBM X.K T r to ta) := by
  have h1 := star_cons (es := []) (env := X.env) ok
  have h3 : starEach ([] : List Expr) X.env = [] := rfl
  exact pe_bm pa slot hty hm ho he (base_ok okO) (by rw [h1, h3]; rfl) hl h1 (by rw [h3]; rfl)
theorem meth_read {m : M} {io ie : IE} {σ : L2.St} {H : Hp} {Q : VK} (h : rdE ε Γ (.meth m io (.cons ie .nil)) σ H Q) : tBM X.K "str" (rM ε m) (rdE ε Γ io) (rdAO ε Γ (.cons ie .nil)) σ H Q := by
  obtain ⟨φ, ρ, μ, d, μ', R, e, q⟩ := h
  simp only [evE, Option.bind_eq_some_iff, Option.map_eq_some_iff] at e
  obtain ⟨⟨x, μ1⟩, e1, ⟨ds, μ2⟩, e2, z, e3, e4⟩ := e
  cases e4
  refine ⟨φ, ρ, μ, x, μ1, R, e1, fun φ1 v H1 x1 y1 => ⟨methD_ty e3 y1, φ1, ρ, μ1, ds, _, R.step x1, e2, fun φ2 vs H2 x2 y2 => ?_⟩⟩
  exact ⟨φ2, x, _, _, x2.ext.enc y1, y2.view x2.sto, e3, fin_ex (ρ := ρ) (x1.trans x2) q⟩
theorem sd_sindex {o e : Expr} {io ie : IE} {apos cpos : Pos} (okO : objB o = true) (ok : okE e = true) (hl : (apos.endLine == cpos.line) = true) (ho : PE X o (rdE ε Γ io)) (he : PE X e (rdO ε Γ ie)) :
    PE X (.Call (.Attribute o "index" apos) [e] [] cpos) (rdE ε Γ (.meth .sindex io (.cons ie .nil))) :=
  PE.imp (bmS PySem.F.plainAttrs_str PySem.F.slot_str_index PySem.F.type_str_index (mt_sindexD (ε := ε)) okO ok hl ho (so_cons he so_nil ok)) fun σ H Q h => meth_read h
theorem sd_join (C : CxOk ε T Γ S X) {o e : Expr} {io ie : IE} {apos cpos : Pos} (okO : objB o = true) (ok : okE e = true) (hl : (apos.endLine == cpos.line) = true) (ho : PE X o (rdE ε Γ io)) (he : PE X e (rdO ε Γ ie)) :
    PE X (.Call (.Attribute o "join" apos) [e] [] cpos) (rdE ε Γ (.meth .join io (.cons ie .nil))) :=
  PE.imp (bmS PySem.F.plainAttrs_str PySem.F.slot_str_join PySem.F.type_str_join (mt_joinD C.K) okO ok hl ho (so_cons he so_nil ok)) fun σ H Q h => meth_read h

/-! ### a display whose tuple is known to the object -/
def tTupX (t : TA) : TE := fun σ H Q => t σ H fun xs H1 => xs.length ≤ sizeLine ∧ ∀ (p : Addr) (o : Obj), H1 p = none → o.cls = .type "tuple" → o.dict = none → Q (.ref p) (upd H1 p (.frz o (.tup xs)))
theorem pe_tupX {es : List Expr} {t : TA} {j : Nat} {pos : Pos} (h : PA X es t) : PE X (.Tuple es j pos) (tTupX t) := by
  refine ⟨fun pins s σ H Q I hq => ?_⟩
  refine wpAny_Tuple_spliced (thn (h.run pos pins s σ H _ I hq) fun us s1 ⟨xs, H1, I1, rel, hz, q⟩ => ⟨by rw [← rel.length]; exact hz, ?_⟩)
  have new : H1 s1.heap.objs.size = none := I1.hok.fresh (Nat.le_refl _)
  have at_ := Heap.get?_push_size s1.heap (o := { cls := .type "tuple", data := .seq us.toArray }) rfl
  refine ⟨.ref s1.heap.objs.size, L2.upd H1 s1.heap.objs.size (.frz { cls := .type "tuple", data := .seq us.toArray } (.tup xs)), I1.laid (t' := s1.toks) (fun b u e => Heap.get?_push_of_some _ e) (Nat.le_refl _) ?_, rfl, q _ _ new rfl rfl⟩
  exact ⟨at_, hz, us, rel, _, at_, rfl, _, rfl⟩
theorem st_setTup (C : CxOk ε T Γ S X) {i : Nat} {x : Str} {es : List Expr} {ies : IEs} {j : Nat} {p2 pos pos' : Pos} (h : S.N[i]? = some x) (hl : locB S x = true) (he : PA X es (rdA ε Γ ies)) : PS X (.Assign [.Name x pos'] (.Tuple es j p2) pos) (rdSt ε Γ (.setTup i ies)) := by
  obtain ⟨h1, h2⟩ := locB_ok C hl
  refine PS.imp (ps_set (i := i) (by rw [C.N]; exact C.nd) (by rw [C.N]; exact h) h1 (pe_tupX he) (swap_no rfl) h2) fun D σ H ⟨φ, ρ, μ, fl, ρ', μ', R, e, q⟩ => ?_
  simp only [evS, Option.bind_eq_some_iff] at e
  obtain ⟨⟨ds, μ1⟩, e1, e2⟩ := e
  refine ⟨φ, ρ, μ, ds, μ1, R, e1, fun φ1 vs H1 x1 y1 => ?_⟩
  split at e2
  · rename_i hz
    have hz : ds.length ≤ sizeLine := hz
    simp only [Option.map_eq_some_iff] at e2
    obtain ⟨ρ1, e3, e4⟩ := e2
    cases e4
    have e4' := (setS_ok e3).1
    subst e4'
    refine ⟨by rw [y1.length]; exact hz, fun p o hp hc hd => ?_⟩
    have g : Ex H1 (L2.upd H1 p (.frz o (.tup vs))) := Ex.new hp
    have x2 := x1.trans (Res.ex x1.sto g)
    have free : H p = none := by
      cases e : H p with
      | none => rfl
      | some u => exact absurd hp (x1.ext.there p (by rw [e]; simp))
    have z := StP.of R x2
    have np : p ∉ ownA ρ σ := fun m => by
      obtain ⟨u, e⟩ := ownA_there R.slots p m
      rw [free] at e; cases e
    have np2 : p ∉ φ1 := fun m => by
      obtain ⟨u, e⟩ := x1.sto.there m
      rw [hp] at e; cases e
    refine q φ1 _ _ ⟨z.rel.put (s := .own (.tup ds)) (o := some (.ref p)) ⟨p, rfl, .tup upd_same hc hd (y1.grow g.grow)⟩ fun c a e5 e6 => ?_, z.more, z.grow, z.there, z.keep, fun a ha => ?_⟩
    · cases e6; exact ⟨np, np2⟩
    · rcases mem_ownA_set ha with ha | ⟨c, e5, e6⟩
      · exact .inl ha
      · cases e6; exact .inr free
  · cases e2
theorem tupS_ok {i : Nat} {ds : List D} (h : tupS ρ i = some ds) : ρ[i]? = some (.own (.tup ds)) := by
  unfold tupS at h
  split at h
  · rename_i e; cases h; exact e
  · cases h
theorem sd_tindex (C : CxOk ε T Γ S X) {i : Nat} {x : Str} {e : Expr} {ie : IE} {xp apos cpos : Pos} (h : S.N[i]? = some x) (hv : visB S.sc x = true) (hn : nameOk x = true) (ok : okE e = true) (hl : (apos.endLine == cpos.line) = true) (he : PE X e (rdE ε Γ ie)) :
    PE X (.Call (.Attribute (.Name x xp) "index" apos) [e] [] cpos) (rdE ε Γ (.tindex i ie)) := by
  simp only [nameOk, Bool.and_eq_true, Bool.not_eq_true'] at hn
  have vx : PE X (.Name x xp) (tVar i) := pe_var (i := i) (by rw [C.N]; exact h) (by rw [C.sc]; exact visB_ok hv) hn.1.1 hn.1.2
  have h1 := star_cons (es := []) (env := X.env) ok
  have h3 : starEach ([] : List Expr) X.env = [] := rfl
  refine ⟨fun pins s σ H Q I ⟨φ, ρ, μ, d, μ', R, ev, q⟩ => ?_⟩
  simp only [evE, Option.bind_eq_some_iff] at ev
  obtain ⟨ds, e1, ⟨z0, μ1⟩, e2, e3⟩ := ev
  split at e3
  · rename_i z hz
    obtain rfl : z0 = .str z := hz
    simp only [Option.bind_eq_some_iff, Option.map_eq_some_iff] at e3
    obtain ⟨ys, e4, k, e5, e6⟩ := e3
    cases e6
    have hi := tupS_ok e1
    obtain ⟨a, hs, hc, na, _⟩ := R.own hi
    cases hc with
    | tup c1 c2 c3 c4 =>
      rename_i o vs
      refine wpAny_Call_method_late (base_ok rfl) (by rw [h1, h3]; rfl) hl rfl (thn (vx.run pins s σ H (fun v H1 => v = .ref a ∧ H1 = H) I ⟨_, hs, rfl, rfl⟩) fun u s1 ⟨v, H1, I1, r1, w1, w2⟩ => ?_)
      subst w1; subst w2
      obtain rfl : u = Value.ref a := r1
      obtain ⟨g1, _⟩ := I1.hok a _ c1
      refine ⟨"tuple", "tuple.index", PySem.F.plainAttrs_tuple, PySem.F.slot_tuple_index, PySem.F.type_tuple_index, ⟨o, g1, c2⟩, fun b e => by cases e; exact ⟨o, g1, c3⟩, ?_⟩
      have hA := (pa_cons he pa_nil h1).run cpos pins s1 σ _ _ I1 (show tCons (rdE ε Γ ie) tNil σ _ (fun vs1 H2 => vs1 = [.str z] ∧ ∃ φ2, Res ε φ _ φ2 _ H2) from
        ⟨φ, ρ, μ, .str z, _, R, e2, fun φ2 v2 H2 x2 y2 => by cases y2; exact ⟨rfl, φ2, x2⟩⟩)
      rw [h1] at hA ⊢
      refine Calls.callWith_builtin (by show (false || (backTo cpos (starEach ([] : List Expr) X.env)).any (·.1)) = false; rw [h3]; rfl) (Calls.evalArgs_plain ?_)
      refine thn hA fun us s2 ⟨vs2, H2, I2, r2, w3, φ2, x2⟩ => ?_
      subst w3
      obtain ⟨f1, f2⟩ := findI_ok e5
      obtain ⟨_, k1⟩ := x2.outs c1 na
      have hq : SqT X.K H2 a (ys.map V.str) := by rw [← strsD_ok c4 e4]; exact .inl (.inr ⟨_, k1⟩)
      exact mt_tup_index pins s2 σ H2 (.ref a) [.str z] (.ref a) us Q I2 rfl r2 ⟨a, ys, z, k, rfl, rfl, hq, f1, f2, q φ2 _ H2 x2 (.int _)⟩
  · cases e3
/-! ### a dict that the top wrote, texts its keys -/
theorem sd_gdget (C : CxOk ε T Γ S X) {x : Str} {kvs : List (Str × D)} {k : Expr} {ik : IE} {xp pos : Pos} (hg : glB S.sc x = true) (hn : nameOk x = true) (ht : T.look x = .dct kvs) (ok : okE k = true) (hk : PE X k (rdE ε Γ ik)) : PE X (.Subscript (.Name x xp) k pos) (rdE ε Γ (.gdget x kvs ik)) := by
  simp only [nameOk, Bool.and_eq_true, Bool.not_eq_true'] at hn
  have g := C.gl x
  rw [ht] at g
  obtain ⟨a, g1, g2⟩ := g
  refine PE.imp (pe_ix ix_kdict (pe_glob (v := .ref a) (glB_ok C hg) g1 rfl hn.1.1) hk (plain_ix ok)) fun σ H Q ⟨φ, ρ, μ, d, μ', R, e, q⟩ => ?_
  simp only [evE, Option.bind_eq_some_iff] at e
  obtain ⟨⟨z0, μ1⟩, e1, e2⟩ := e
  refine ⟨φ, ρ, μ, z0, μ1, R, e1, fun φ1 v H1 x1 y1 => ?_⟩
  split at e2
  · rename_i z hz
    obtain rfl : z0 = .str z := hz
    simp only [Option.map_eq_some_iff] at e2
    obtain ⟨d1, e3, e4⟩ := e2
    cases e4
    cases y1
    obtain ⟨w, w1, w2⟩ := g2 z _ e3
    exact ⟨a, z, w, rfl, rfl, w1, q φ1 w H1 x1 (w2 φ1 H1)⟩
  · cases e2
/-- len(d) -/
theorem sd_dlen (C : CxOk ε T Γ S X) {a : Expr} {ia : IE} {xp pos : Pos} (hg : glB S.sc "len" = true) (ht : T.look "len" = .no) (ha : PE X a (rdE ε Γ ia)) (ok : okE a = true) : PE X (.Call (.Name "len" xp) [a] [] pos) (rdE ε Γ (.dlen ia)) := by
  have g := C.gl "len"
  rw [ht] at g
  refine PE.imp (pe_callB L2.call_lenD (glB_ok C hg) g (by decide +kernel) (pa_cons ha pa_nil (star_cons ok)) (by decide +kernel) (by decide +kernel) (star_cons ok) rfl) fun σ H Q ⟨φ, ρ, μ, d, μ', R, e, q⟩ => ?_
  simp only [evE, Option.bind_eq_some_iff] at e
  obtain ⟨⟨x, μ1⟩, e1, e2⟩ := e
  refine ⟨φ, ρ, μ, x, μ1, R, e1, fun φ1 v H1 x1 y1 => ?_⟩
  split at e2
  · rename_i n hx
    obtain rfl : x = .ref n := hx
    split at e2
    · rename_i kvs en
      cases e2
      cases y1 with
      | ref hn =>
        obtain ⟨ks, h1, h2⟩ := dic_at x1.sto hn en
        exact ⟨_, ks, rfl, h1, by rw [h2.len]; exact q φ1 _ H1 x1 (.int _)⟩
    · cases e2
  · cases e2
/-- x.split(y): a new list -/
theorem sf_split {o e : Expr} {io ie : IE} {apos cpos : Pos} (okO : objB o = true) (ok : okE e = true) (hl : (apos.endLine == cpos.line) = true) (ho : PE X o (rdE ε Γ io)) (he : PE X e (rdE ε Γ ie)) :
    PE X (.Call (.Attribute o "split" apos) [e] [] cpos) (rdF ε Γ (.split io ie)) := by
  refine PE.imp (bmS PySem.F.plainAttrs_str PySem.F.slot_str_split PySem.F.type_str_split mt_split okO ok hl ho (sa_cons he sa_nil ok)) fun σ H Q ⟨φ, ρ, μ, ds, μ', R, e, q⟩ => ?_
  simp only [evF, Option.bind_eq_some_iff] at e
  obtain ⟨⟨x, μ1⟩, e1, ⟨y, μ2⟩, e2, e3⟩ := e
  split at e3
  · rename_i z w hz hw
    obtain rfl : x = .str z := hz
    obtain rfl : y = .str w := hw
    split at e3
    · rename_i hc
      cases e3
      refine ⟨φ, ρ, μ, .str z, μ1, R, e1, fun φ1 v H1 x1 y1 => ?_⟩
      cases y1
      refine ⟨rfl, φ1, ρ, μ1, [.str w], μ2, R.step x1, by simp only [evEs, Option.bind_eq_some_iff, Option.map_eq_some_iff]; exact ⟨_, e2, _, rfl, rfl⟩, fun φ2 vs H2 x2 y2 => ?_⟩
      cases y2 with
      | cons h1 h2 =>
        cases h1; cases h2
        refine ⟨z, w, rfl, rfl, by simpa using hc.1, hc.2, fun p hp => q φ2 _ p (.mk' (x1.trans x2) hp ?_)⟩
        have all : ∀ l : List Str, EncL ε φ2 H2 (l.map V.str) (l.map D.str) := fun l => by
          induction l with
          | nil => exact .nil
          | cons a l ih => exact .cons (.str a) ih
        exact all _
    · cases e3
  · cases e3
theorem st_par3 (C : CxOk ε T Γ S X) {i j l : Nat} {x y z : Str} {a b c : Expr} {ies : IEs} {px py pz pt pos pt2 : Pos} {kt k2 : Nat} (hk : S.sc.kind = .function) (hi : S.N[i]? = some x) (hj : S.N[j]? = some y) (hl : S.N[l]? = some z) (hij : i ≠ j) (hil : i ≠ l) (hjl : j ≠ l)
    (hxy : x ≠ y) (hxz : x ≠ z) (hyz : y ≠ z) (lx : S.sc.names.lookup x = some .local) (ly : S.sc.names.lookup y = some .local) (lz : S.sc.names.lookup z = some .local) (h1 : lineB py px = true) (h2 : lineB pz px = true) (oka : okE a = true) (okb : okE b = true) (okc : okE c = true)
    (hf : ([a, b, c].all (foldedForSure 8) || [a, b, c].all (constantsAlone 8)) = false) (ha : PA X [a, b, c] (rdA ε Γ ies)) :
    PS X (.Assign [.Tuple [.Name x px, .Name y py, .Name z pz] kt pt] (.Tuple [a, b, c] k2 pt2) pos) (rdSt ε Γ (.par3 i j l ies)) := by
  have sa : ∀ {a}, okE a = true → starB a = false := fun {a} h => by cases a <;> first | rfl | (simp [okE] at h)
  refine PS.imp (ps_par3 C.calm (by rw [C.N]; exact C.nd) (by rw [C.N]; exact hi) (by rw [C.N]; exact hj) (by rw [C.N]; exact hl) hij hil hjl (by rw [C.sc]; exact lx) (by rw [C.sc]; exact ly) (by rw [C.sc]; exact lz) ha
    (swap3 (by rw [C.sc]; exact hk) (by rw [C.sc]; exact lx) (by rw [C.sc]; exact ly) (by rw [C.sc]; exact lz) h1 h2 hxy hxz hyz (sa oka) (sa okb) (sa okc) hf)) fun D σ H ⟨φ, ρ, μ, fl, ρ', μ', R, e, q⟩ => ?_
  simp only [evS, Option.bind_eq_some_iff] at e
  obtain ⟨⟨ds, μ1⟩, e1, e2⟩ := e
  refine ⟨φ, ρ, μ, ds, μ1, R, e1, fun φ1 vs H1 x1 y1 => ?_⟩
  split at e2
  · rename_i u v w hd
    obtain rfl : ds = [u, v, w] := hd
    simp only [Option.bind_eq_some_iff, Option.map_eq_some_iff] at e2
    obtain ⟨ρ1, e3, ρ2, e4, ρ3, e5, e6⟩ := e2
    cases e6
    obtain ⟨rfl, _⟩ := setS_ok e3
    obtain ⟨rfl, _⟩ := setS_ok e4
    obtain ⟨rfl, _⟩ := setS_ok e5
    cases y1 with
    | cons k1 t =>
      cases t with
      | cons k2 t =>
        cases t with
        | cons k3 t =>
          cases t
          exact ⟨_, _, _, rfl, q φ1 _ H1 ((((StP.of R x1).val k1).val k2).val k3)⟩
  · cases e2
/-! f'..' -/
def partB : IE → Expr → Bool
  | .lit (.str _), .Constant (.str _) _ _ => true
  | _, .FormattedValue _ c none _ => decide (c = -1)
  | _, _ => false
def unF : Expr → Expr
  | .FormattedValue e _ _ _ => e
  | e => e
def partsB : IEs → List Expr → Bool
  | .nil, [] => true
  | .cons i is, e :: es => partB i e && partsB is es
  | _, _ => false
inductive AllPV (ε : Ev) (Γ : Env2) (X : Cx) : IEs → List Expr → Prop
  | nil : AllPV ε Γ X .nil []
  | cons {i : IE} {is : IEs} {e : Expr} {es : List Expr} : PE X e (rdE ε Γ i) → AllPV ε Γ X is es → AllPV ε Γ X (.cons i is) (e :: es)
theorem part_read {p : Expr} {i : IE} (hp : partB i p = true) (h : PE X (unF p) (rdE ε Γ i)) : ∃ t, PE X p t ∧ ∀ φ ρ μ d μ' y σ H (Q : VK), Rel ε φ ρ μ σ H → evE Γ i ρ μ = some (d, μ') → txtD d = some y → (∀ φ' H', Res ε φ H φ' μ' H' → Q (.str y) H') → t σ H Q := by
  cases p with
  | FormattedValue e c sp pos =>
    cases sp with
    | none =>
      have hc : c = -1 := by cases i <;> simpa [partB] using hp
      subst hc
      refine ⟨_, pe_fmt h, fun φ ρ μ d μ' y σ H Q R e ht q => ⟨φ, ρ, μ, d, μ', R, e, fun φ' v H' x y' => ?_⟩⟩
      cases d <;> simp only [txtD, reduceCtorEq] at ht
      · split at ht
        · cases ht; cases y'; exact .inr ⟨_, rfl, by assumption, q φ' H' x⟩
        · cases ht
      · split at ht
        · cases ht; cases y'; exact .inl ⟨_, rfl, by assumption, q φ' H' x⟩
        · cases ht
    | some _ => cases i <;> simp [partB] at hp
  | Constant k a b =>
    have hk : (∃ z, k = .str z) ∧ ∃ z, i = .lit (.str z) := by
      cases i <;> first | (simp [partB] at hp; done) | skip
      rename_i d
      cases d <;> first | (simp [partB] at hp; done) | skip
      cases k <;> first | (simp [partB] at hp; done) | skip
      exact ⟨⟨_, rfl⟩, _, rfl⟩
    obtain ⟨⟨z, rfl⟩, z', rfl⟩ := hk
    refine ⟨rdE ε Γ _, h, fun φ ρ μ d μ' y σ H Q R e ht q => ⟨φ, ρ, μ, d, μ', R, e, fun φ' v H' x y' => ?_⟩⟩
    simp only [evE, Option.some.injEq, Prod.mk.injEq] at e
    obtain ⟨rfl, rfl⟩ := e
    simp only [txtD] at ht
    split at ht
    · cases ht; cases y'; exact q φ' H' x
    · cases ht
  | _ => cases i <;> first | (simp [partB] at hp; done) | (rename_i d; cases d <;> simp [partB] at hp)
theorem parts_read : ∀ {ps : List Expr} {is : IEs}, partsB is ps = true → AllPV ε Γ X is (ps.map unF) → ∃ ts, PJ X ps ts ∧ ∀ φ ρ μ ds μ' acc z σ H (Q : Str → Hp → Prop), Rel ε φ ρ μ σ H → evEs Γ is ρ μ = some (ds, μ') → fstD acc ds = some z → (∀ φ' H', Res ε φ H φ' μ' H' → Q z H') → tJs ts acc σ H Q
  | [], is, hp, h => by
    cases h
    refine ⟨[], .nil, fun φ ρ μ ds μ' acc z σ H Q R e hf q => ?_⟩
    cases e; cases hf
    exact q φ H (.refl R.sto)
  | p :: ps, is, hp, h => by
    cases h with
    | @cons i is _ _ h1 h2 =>
      simp only [partsB, Bool.and_eq_true] at hp
      obtain ⟨t, ht, rt⟩ := part_read hp.1 h1
      obtain ⟨ts, hts, rts⟩ := parts_read hp.2 h2
      refine ⟨t :: ts, .cons ht hts, fun φ ρ μ ds μ' acc z σ H Q R e hf q => ?_⟩
      simp only [evEs, Option.bind_eq_some_iff, Option.map_eq_some_iff] at e
      obtain ⟨⟨d, μ1⟩, e1, ⟨ds', μ2⟩, e2, e3⟩ := e
      cases e3
      simp only [fstD, Option.bind_eq_some_iff] at hf
      obtain ⟨y, hy, hf⟩ := hf
      split at hf
      · refine rt φ ρ μ d μ1 y σ H _ R e1 hy fun φ' H' x => ⟨y, rfl, by assumption, ?_⟩
        exact rts φ' ρ μ1 ds' _ _ z σ H' Q (R.step x) e2 hf fun φ2 H2 x2 => q φ2 H2 (x.trans x2)
      · cases hf
theorem empty_add (y : Str) : Str.empty ++ y = y := by
  cases y with
  | mk c => show Str.mk (#[] ++ c) = _; simp
theorem sd_fstr {p : Expr} {ps : List Expr} {is : IEs} {pos : Pos} (hp : partsB is (p :: ps) = true) (h : AllPV ε Γ X is ((p :: ps).map unF)) : PE X (.JoinedStr (p :: ps) pos) (rdE ε Γ (.fstr is)) := by
  have rd : ∀ σ H Q, rdE ε Γ (.fstr is) σ H Q → ∃ φ ρ μ ds μ' z, Rel ε φ ρ μ σ H ∧ evEs Γ is ρ μ = some (ds, μ') ∧ fstD Str.empty ds = some z ∧ ∀ φ' H', Res ε φ H φ' μ' H' → Q (.str z) H' := by
    intro σ H Q ⟨φ, ρ, μ, d, μ', R, e, q⟩
    simp only [evE, Option.bind_eq_some_iff, Option.map_eq_some_iff] at e
    obtain ⟨⟨ds, μ1⟩, e1, z, e2, e3⟩ := e
    cases e3
    exact ⟨φ, ρ, μ, ds, _, z, R, e1, e2, fun φ' H' x => q φ' _ H' x (.str z)⟩
  cases ps with
  | cons p2 ps =>
    obtain ⟨ts, hts, r⟩ := parts_read hp h
    refine PE.imp (pe_joined hts) fun σ H Q q => ?_
    obtain ⟨φ, ρ, μ, ds, μ', z, R, e1, e2, q⟩ := rd σ H Q q
    exact r φ ρ μ ds μ' _ z σ H _ R e1 e2 q
  | nil =>
    cases h with
    | @cons i is _ _ h1 h2 =>
      cases h2
      simp only [partsB, Bool.and_true] at hp
      obtain ⟨t, ht, rt⟩ := part_read hp h1
      refine PE.imp (pe_joined1 ht) fun σ H Q q => ?_
      obtain ⟨φ, ρ, μ, ds, μ', z, R, e1, e2, q⟩ := rd σ H Q q
      simp only [evEs, Option.bind_eq_some_iff, Option.map_eq_some_iff] at e1
      obtain ⟨⟨d, μ1⟩, f1, ⟨ds', μ2⟩, f2, f3⟩ := e1
      cases f2; cases f3
      simp only [fstD, Option.bind_eq_some_iff] at e2
      obtain ⟨y, hy, e2⟩ := e2
      split at e2
      · cases e2
        rw [empty_add] at q
        exact rt φ ρ μ d _ y σ H Q R f1 hy q
      · cases e2
end
end FH
end
section
/-! FH16: the look that ties a term to a piece of the text. -/
namespace FH
open PySem PySem.Spec PyProof.Rows L2
mutual
def D.same : D → D → Bool
  | .non, .non => true
  | .bl a, .bl b => a == b
  | .int a, .int b => decide (a = b)
  | .str a, .str b => decide (a = b)
  | .tup a, .tup b => sameL a b
  | .lst a, .lst b => sameL a b
  | .fn a, .fn b => decide (a = b)
  | .ref a, .ref b => decide (a = b)
  | .ty a, .ty b => decide (a = b)
  | _, _ => false
def sameL : List D → List D → Bool
  | [], [] => true
  | a :: as, b :: bs => a.same b && sameL as bs
  | _, _ => false
end
mutual
theorem same_ok : ∀ {a b : D}, D.same a b = true → a = b
  | a, b, h => by
    cases a <;> cases b <;> simp only [D.same, beq_iff_eq, decide_eq_true_eq, Bool.false_eq_true] at h <;> (first | rfl | (rw [h]; done) | (rw [sameL_ok h]; done))
theorem sameL_ok : ∀ {a b : List D}, sameL a b = true → a = b
  | [], [], _ => rfl
  | [], _ :: _, h => by simp [sameL] at h
  | _ :: _, [], h => by simp [sameL] at h
  | a :: as, b :: bs, h => by
    simp only [sameL, Bool.and_eq_true] at h
    rw [same_ok h.1, sameL_ok h.2]
end
def sameKv : List (Str × D) → List (Str × D) → Bool
  | [], [] => true
  | a :: as, b :: bs => decide (a.1 = b.1) && a.2.same b.2 && sameKv as bs
  | _, _ => false
theorem sameKv_ok : ∀ {a b : List (Str × D)}, sameKv a b = true → a = b
  | [], [], _ => rfl
  | [], _ :: _, h => by simp [sameKv] at h
  | _ :: _, [], h => by simp [sameKv] at h
  | (a, c) :: as, (b, d) :: bs, h => by
    simp only [sameKv, Bool.and_eq_true, decide_eq_true_eq] at h
    rw [h.1.1, same_ok h.1.2, sameKv_ok h.2]
def noG : G → Bool
  | .no => true | _ => false
def conG (d : D) : G → Bool
  | .con e => e.same d | _ => false
def fnG (f : Nat) : G → Bool
  | .fn g => decide (g = f) | _ => false
def clsG (c : Nat) : G → Bool
  | .cls d => decide (d = c) | _ => false
def dctG (k : List (Str × D)) : G → Bool
  | .dct d => sameKv d k | _ => false
theorem noG_ok {g : G} (h : noG g = true) : g = .no := by cases g <;> first | rfl | (simp [noG] at h)
theorem conG_ok {g : G} {d : D} (h : conG d g = true) : g = .con d := by cases g <;> simp only [conG, Bool.false_eq_true] at h; rw [same_ok h]
theorem fnG_ok {g : G} {d : Nat} (h : fnG d g = true) : g = .fn d := by cases g <;> simp only [fnG, Bool.false_eq_true, decide_eq_true_eq] at h; rw [h]
theorem clsG_ok {g : G} {d : Nat} (h : clsG d g = true) : g = .cls d := by cases g <;> simp only [clsG, Bool.false_eq_true, decide_eq_true_eq] at h; rw [h]
theorem dctG_ok {g : G} {d : List (Str × D)} (h : dctG d g = true) : g = .dct d := by cases g <;> simp only [dctG, Bool.false_eq_true] at h; rw [sameKv_ok h]
def litB : D → Expr → Bool
  | .int i, .Constant (.int j) _ _ => decide (i = j)
  | .str i, .Constant (.str j) _ _ => decide (i = j)
  | .bl i, .Constant (.bool j) _ _ => i == j
  | .non, .Constant .none _ _ => true
  | _, _ => false
def nmB (S : SC) (i : Nat) : Expr → Bool
  | .Name x _ => decide (S.N[i]? = some x) && visB S.sc x && nameOk x
  | _ => false
/-- a name of the module that is read as a value -/
def globB (T : Tab) (S : SC) (x : Str) (d : D) : Expr → Bool
  | .Name y _ => decide (y = x) && glB S.sc x && nameOk x && (conG d (T.look x) || (match d with
    | .fn f => fnG f (T.look x)
    | .ty n => noG (T.look x) && decide (bootBuiltins x = some (.type n))
    | _ => false))
  | _ => false
/-- an operation's operands -/
def shapeP (T : Tab) (S : SC) : P → Expr → Option (List Expr)
  | .bin op, .BinOp a op' b _ => if op = op' then some [a, b] else none
  | .cmp op, .Compare a [op'] [b] _ => if op = op' then some [a, b] else none
  | .ix, .Subscript a b _ => some [a, b]
  | .neg, .UnaryOp .USub a _ => some [a]
  | p, .Call (.Name x _) (e :: es) [] _ => match bltOf p with
    | some (n, _) => if x = (n : Str) ∧ glB S.sc x = true ∧ noG (T.look x) = true then some (e :: es) else none
    | none => none
  | _, _ => none
def restB (op : BoolOp) (y : Expr) (rest : List Expr) (pos : Pos) : Expr := match rest with
  | [] => y
  | z :: zs => .BoolOp op (y :: z :: zs) pos
def fldC (T : Tab) (c : Nat) (f : Str) : Bool := match T.c[c]? with
  | some I => I.flds.contains f | none => false
def mthC (T : Tab) (c : Nat) (m : Str) (f : Nat) : Bool := match T.c[c]? with
  | some I => decide (I.meths.lookup m = some f) | none => false
def iniC (T : Tab) (c : Nat) (f : Nat) : Bool := match T.c[c]? with
  | some I => decide (I.init = some f) | none => false
/-- o.m(a ..): the receiver, the arguments -/
def shapeM (m : Str) : Expr → Option (Expr × List Expr)
  | .Call (.Attribute o n apos) l [] cpos => if n = m ∧ objB o = true ∧ (apos.endLine == cpos.line) = true then some (o, l) else none
  | _ => none
def shapeN (m : Str) : Expr → Option (List Expr)
  | .Call (.Name x _) l [] _ => if x = m then some l else none
  | _ => none
def mthName : M → Str
  | .sindex => "index" | .join => "join"
mutual
def chkTg : Tg → SC → Expr → Bool
  | .nm i, S, .Name x _ => decide (S.N[i]? = some x) && locB S x
  | .tp ts, S, .Tuple es _ _ => decide (es.length = tgsN ts) && es.all tgE && chkTgs ts S es
  | _, _, _ => false
def chkTgs : Tgs → SC → List Expr → Bool
  | .nil, _, [] => true
  | .cons t ts, S, e :: es => chkTg t S e && chkTgs ts S es
  | _, _, _ => false
end
mutual
def chkE (T : Tab) : IE → Bool → SC → Expr → Bool
  | .lit d, _, _, e => litB d e
  | .var i, _, S, e => nmB S i e
  | .own i, o, S, e => o && nmB S i e
  | .glob x d, _, S, e => globB T S x d e
  | .prim p es, _, S, e => match shapeP T S p e with
    | some l => chkEs T es true S l
    | none => false
  | .tindex i a, _, S, e => match shapeM "index" e with
    | some (x, [z]) => nmB S i x && okE z && chkE T a false S z
    | _ => false
  | .meth m a es, _, S, e => match shapeM (mthName m) e with
    | some (x, [z]) => chkE T a false S x && chkEs T es true S [z]
    | _ => false
  | .gdget x kvs k, _, S, e => match e with
    | .Subscript (.Name y _) z _ => decide (y = x) && glB S.sc x && nameOk x && dctG kvs (T.look x) && okE z && chkE T k false S z
    | _ => false
  | .fstr es, _, S, e => match e with
    | .JoinedStr (p :: ps) _ => partsB es (p :: ps) && chkEs T es false S ((p :: ps).map unF)
    | _ => false
  | .slice a lo hi, _, S, e => match e with
    | .Subscript x (.Slice l h none _) _ => chkE T a true S x && chkO T lo S l && chkO T hi S h
    | _ => false
  | .nott a, _, S, e => match e with
    | .UnaryOp .Not x _ => chkE T a false S x
    | _ => false
  | .andd a b, _, S, e => match e with
    | .BoolOp .And (x :: y :: rest) pos => chkE T a false S x && chkE T b false S (restB .And y rest pos)
    | _ => false
  | .orr a b, _, S, e => match e with
    | .BoolOp .Or (x :: y :: rest) pos => chkE T a false S x && chkE T b false S (restB .Or y rest pos)
    | _ => false
  | .cond c a b, _, S, e => match e with
    | .IfExp x y z _ => chkE T c false S x && chkE T a false S y && chkE T b false S z
    | _ => false
  | .cmp2 o1 o2 a b c, _, S, e => match e with
    | .Compare x [p1, p2] [y, z] _ => decide (p1 = o1) && decide (p2 = o2) && okE z && chkE T a true S x && chkE T b true S y && chkE T c true S z
    | _ => false
  | .tup es, _, S, e => match e with
    | .Tuple l _ _ => chkEs T es false S l
    | _ => false
  | .frz f, _, S, e => chkF T f S e
  | .cell f, _, S, e => chkF T f S e
  | .celld, _, _, e => match e with
    | .Dict [] [] _ => true
    | _ => false
  | .dcopy a, _, S, e => match shapeN "dict" e with
    | some [z] => glB S.sc "dict" && noG (T.look "dict") && okE z && chkE T a false S z
    | _ => false
  | .dlen a, _, S, e => match shapeN "len" e with
    | some [z] => glB S.sc "len" && noG (T.look "len") && okE z && chkE T a false S z
    | _ => false
  | .call x f es, _, S, e => match shapeN x e with
    | some l => glB S.sc x && nameOk x && fnG f (T.look x) && chkEs T es false S l
    | none => false
  | .callv i es, _, S, e => match e with
    | .Call (.Name y _) (z :: l) [] _ => decide (S.N[i]? = some y) && visB S.sc y && nameOk y && chkEs T es false S (z :: l)
    | _ => false
  | .attr c a f, _, S, e => match e with
    | .Attribute x g _ => decide (g = f) && objB x && fldC T c f && chkE T a false S x
    | _ => false
  | .mcall c m f a es, _, S, e => match shapeM m e with
    | some (x, l) => mthC T c m f && decide (l.length < 30) && chkE T a false S x && chkEs T es false S l
    | none => false
  | .make x c f es, _, S, e => match shapeN x e with
    | some l => glB S.sc x && nameOk x && clsG c (T.look x) && iniC T c f && chkEs T es false S l
    | none => false
  | .dhas neg k d, _, S, e => match e with
    | .Compare x [op] [y] _ => decide (op = if neg then .NotIn else .In) && okE y && chkE T k false S x && chkE T d false S y
    | _ => false
  | .dget d k, _, S, e => match e with
    | .Subscript x y _ => okE y && chkE T d false S x && chkE T k false S y
    | _ => false
  | .dgetD d k z, _, S, e => match shapeM "get" e with
    | some (x, [y, w]) => okE y && okE w && chkE T d false S x && chkE T k false S y && chkE T z false S w
    | _ => false
  | .dsetd d k z, _, S, e => match shapeM "setdefault" e with
    | some (x, [y, w]) => okE y && okE w && chkE T d false S x && chkE T k false S y && chkE T z false S w
    | _ => false
def chkEs (T : Tab) : IEs → Bool → SC → List Expr → Bool
  | .nil, _, _, [] => true
  | .cons i is, o, S, e :: es => okE e && chkE T i o S e && chkEs T is o S es
  | _, _, _, _ => false
def chkO (T : Tab) : IO → SC → Option Expr → Bool
  | .no, _, none => true
  | .som i, S, some e => chkE T i false S e
  | _, _, _ => false
def chkC (T : Tab) : IO → SC → List Expr → Bool
  | .no, _, [] => true
  | .som i, S, [e] => chkE T i false S e
  | _, _, _ => false
def chkF (T : Tab) : FE → SC → Expr → Bool
  | .disp es, S, e => match e with
    | .List l _ => chkEs T es false S l
    | _ => false
  | .list a, S, e => match shapeN "list" e with
    | some [z] => glB S.sc "list" && noG (T.look "list") && okE z && chkE T a true S z
    | _ => false
  | .split a b, S, e => match shapeM "split" e with
    | some (x, [y]) => okE y && chkE T a false S x && chkE T b false S y
    | _ => false
  | .cat a b, S, e => match e with
    | .BinOp x .Add y _ => chkE T a true S x && chkE T b true S y
    | _ => false
  | .comp g own s c i, S, e => match e with
    | .ListComp elt [⟨tg, iter, ifs, z⟩] scope _ => decide (z = 0) && chkS T s S tg iter && blkC S.N S.sc scope own && chkTg g (S.inner scope) tg && chkC T c (S.inner scope) ifs && chkE T i false (S.inner scope) elt &&
        (tgI g).all (fun i => decide (i ∈ own.map (·.2))) && setB iter
    | _ => false
def chkS (T : Tab) : Src → SC → Expr → Expr → Bool
  | .it a, S, _, e => chkE T a false S e
  | .cel a, S, _, e => chkE T a false S e
  | .range1 a, S, _, e => match shapeN "range" e with
    | some [x] => glB S.sc "range" && noG (T.look "range") && okE x && chkE T a false S x
    | _ => false
  | .range2 a b, S, _, e => match shapeN "range" e with
    | some [x, y] => glB S.sc "range" && noG (T.look "range") && okE x && okE y && chkE T a false S x && chkE T b false S y
    | _ => false
  | .enum a, S, tg, e => match tg, shapeN "enumerate" e with
    | .Tuple _ _ _, some [x] => glB S.sc "enumerate" && noG (T.look "enumerate") && okE x && chkE T a false S x
    | _, _ => false
  | .zip es, S, tg, e => match tg, shapeN "zip" e with
    | .Tuple _ _ _, some (x :: y :: l) => glB S.sc "zip" && noG (T.look "zip") && chkEs T es false S (x :: y :: l)
    | _, _ => false
end
end FH
end
section
/-! FH17: the look is right, for expressions. -/
namespace FH
open PySem PySem.Spec PyProof.Rows L2
structure Okay (ε : Ev) (Γ : Env2) (X : Cx) (e : Expr) (ie : IE) : Prop where
  pe : PE X e (rdE ε Γ ie)
  pt : PT X e (rdT ε Γ ie)
  pw : ∀ op l pos, e = .BoolOp op l pos → PW X e (rdT ε Γ ie)
def ptB : Expr → Bool
  | .UnaryOp .Not _ _ => false
  | .BoolOp .. => false
  | .IfExp .. => false
  | .Compare .. => false
  | _ => true
theorem isT_plain {e : Expr} (h : ptB e = true) (env : Env) (whole : Sem Value) : isTrue e env whole = (do let v ← whole; standAt e.pos; holding [v] (truthy v)) := by
  cases e with
  | UnaryOp op _ _ => cases op <;> first | rfl | (simp [ptB] at h)
  | _ => first | rfl | (simp [ptB] at h)
section
variable {ε : Ev} {T : Tab} {Γ : Env2} {S : SC} {X : Cx}
theorem Okay.of (C : CxOk ε T Γ S X) {e : Expr} {ie : IE} (hp : ptB e = true) (h : PE X e (rdE ε Γ ie)) : Okay ε Γ X e ie :=
  ⟨h, sd_pt C h (isT_plain hp X.env), fun op l pos z => by rw [z] at hp; simp [ptB] at hp⟩
def rdB (ε : Ev) (Γ : Env2) : Bool → IE → TE
  | true, i => rdO ε Γ i
  | false, i => rdE ε Γ i
def AllPE (ε : Ev) (Γ : Env2) (X : Cx) (o : Bool) : IEs → List Expr → Prop
  | .nil, [] => True
  | .cons i is, e :: es => okE e = true ∧ PE X e (rdB ε Γ o i) ∧ AllPE ε Γ X o is es
  | _, _ => False
theorem AllPE.pa : ∀ {is : IEs} {es : List Expr}, AllPE ε Γ X false is es → PA X es (rdA ε Γ is)
  | .nil, [], _ => sa_nil
  | .cons _ _, _ :: _, h => sa_cons h.2.1 (AllPE.pa h.2.2) h.1
  | .nil, _ :: _, h => h.elim
  | .cons _ _, [], h => h.elim
theorem AllPE.po : ∀ {is : IEs} {es : List Expr}, AllPE ε Γ X true is es → PA X es (rdAO ε Γ is)
  | .nil, [], _ => so_nil
  | .cons _ _, _ :: _, h => so_cons h.2.1 (AllPE.po h.2.2) h.1
  | .nil, _ :: _, h => h.elim
  | .cons _ _, [], h => h.elim
theorem AllPE.ok {o : Bool} : ∀ {is : IEs} {es : List Expr}, AllPE ε Γ X o is es → es.all okE = true
  | .nil, [], _ => rfl
  | .cons _ _, _ :: _, h => by rw [List.all_cons, h.1, AllPE.ok h.2.2]; rfl
  | .nil, _ :: _, h => h.elim
  | .cons _ _, [], h => h.elim
theorem AllPE.none {o : Bool} {is : IEs} {es : List Expr} (h : AllPE ε Γ X o is es) (e : es = []) : is = .nil := by
  subst e
  cases is with
  | nil => rfl
  | cons _ _ => exact h.elim
theorem AllPE.one {o : Bool} {is : IEs} {e : Expr} (h : AllPE ε Γ X o is [e]) : ∃ i, is = .cons i .nil ∧ okE e = true ∧ PE X e (rdB ε Γ o i) := by
  cases is with
  | nil => exact h.elim
  | cons i is => exact ⟨i, by rw [AllPE.none h.2.2 rfl], h.1, h.2.1⟩
theorem AllPE.two {o : Bool} {is : IEs} {e f : Expr} (h : AllPE ε Γ X o is [e, f]) : ∃ i j, is = .cons i (.cons j .nil) ∧ okE e = true ∧ PE X e (rdB ε Γ o i) ∧ okE f = true ∧ PE X f (rdB ε Γ o j) := by
  cases is with
  | nil => exact h.elim
  | cons i is =>
    obtain ⟨j, rfl, h1, h2⟩ := AllPE.one h.2.2
    exact ⟨i, j, rfl, h.1, h.2.1, h1, h2⟩
def SndE (ε : Ev) (T : Tab) (Γ : Env2) (ie : IE) : Prop := ∀ (S : SC) (X : Cx) (e : Expr), CxOk ε T Γ S X → (chkE T ie false S e = true → Okay ε Γ X e ie) ∧ (chkE T ie true S e = true → PE X e (rdO ε Γ ie))
def SndEs (ε : Ev) (T : Tab) (Γ : Env2) (is : IEs) : Prop := ∀ (S : SC) (X : Cx) (es : List Expr) (o : Bool), CxOk ε T Γ S X → chkEs T is o S es = true → AllPE ε Γ X o is es
def SndO (ε : Ev) (T : Tab) (Γ : Env2) (i : IO) : Prop := (∀ (S : SC) (X : Cx) (e : Option Expr), CxOk ε T Γ S X → chkO T i S e = true → PO X e (rdP ε Γ i)) ∧ ∀ (S : SC) (X : Cx) (e : List Expr), CxOk ε T Γ S X → chkC T i S e = true → PTs X e (rdC ε Γ i)
def SndS (ε : Ev) (T : Tab) (Γ : Env2) (s : Src) : Prop := ∀ (S : SC) (X : Cx) (tg e : Expr), CxOk ε T Γ S X → chkS T s S tg e = true → PI X tg e (rdS ε Γ s)
/-- a name is given a new list on one line -/
def setLcB (S : SC) (i : Nat) (y : Str) (py : Pos) : Expr → Bool
  | .ListComp _ _ scope pos => decide (S.sc.kind = .function) && decide (S.N[i]? = some y) && decide (S.sc.names.lookup y = some .local) && lineB py pos && !(scope.names.any fun p => p.1 == y && (p.2 == .local || p.2 == .cell))
  | e => notComp e && decide (S.N[i]? = some y) && locB S y
def SndF (ε : Ev) (T : Tab) (Γ : Env2) (f : FE) : Prop := ∀ (S : SC) (X : Cx) (e : Expr), CxOk ε T Γ S X → chkF T f S e = true → PE X e (rdF ε Γ f) ∧ ∀ i y py spos, setLcB S i y py e = true → PSF ε Γ X (.Assign [.Name y py] e spos) i f
theorem sndE_of {ie : IE} (h : ∀ (S : SC) (X : Cx) (e : Expr), CxOk ε T Γ S X → chkE T ie false S e = true → Okay ε Γ X e ie) (hh : ∀ S e, chkE T ie true S e = chkE T ie false S e) : SndE ε T Γ ie :=
  fun S X e C => ⟨h S X e C, fun q => FH.PE.rdO (h S X e C ((hh S e).symm.trans q)).pe⟩
theorem SndE.v {ie : IE} (h : SndE ε T Γ ie) (C : CxOk ε T Γ S X) {e : Expr} (q : chkE T ie false S e = true) : PE X e (rdE ε Γ ie) := ((h S X e C).1 q).pe
theorem SndE.o {ie : IE} (h : SndE ε T Γ ie) (C : CxOk ε T Γ S X) {e : Expr} (q : chkE T ie true S e = true) : PE X e (rdO ε Γ ie) := (h S X e C).2 q
theorem SndE.t {ie : IE} (h : SndE ε T Γ ie) (C : CxOk ε T Γ S X) {e : Expr} (q : chkE T ie false S e = true) : PT X e (rdT ε Γ ie) := ((h S X e C).1 q).pt
theorem sndF_of {f : FE} (h : ∀ (S : SC) (X : Cx) (e : Expr), CxOk ε T Γ S X → chkF T f S e = true → notComp e = true ∧ PE X e (rdF ε Γ f)) : SndF ε T Γ f := fun S X e C q => by
  obtain ⟨h1, h2⟩ := h S X e C q
  refine ⟨h2, fun i y py spos z => ?_⟩
  have z' : (notComp e && decide (S.N[i]? = some y) && locB S y) = true := by
    cases e <;> first | exact z | (simp [notComp] at h1)
  simp only [Bool.and_eq_true, decide_eq_true_eq] at z'
  exact psf_set C h1 z'.1.2 z'.2 h2
/-! ### one lemma a term -/
theorem nmB_ok {i : Nat} {e : Expr} (h : nmB S i e = true) : ∃ x p, e = .Name x p ∧ S.N[i]? = some x ∧ visB S.sc x = true ∧ nameOk x = true := by
  unfold nmB at h
  split at h
  · rename_i x p
    simp only [Bool.and_eq_true, decide_eq_true_eq] at h
    exact ⟨x, p, rfl, h.1.1, h.1.2, h.2⟩
  · cases h
theorem s_lit {d : D} : SndE ε T Γ (.lit d) := sndE_of (fun S X e C h => by
  simp only [chkE] at h
  unfold litB at h
  split at h
  · rw [of_decide_eq_true h]; exact .of C rfl sd_int
  · rw [of_decide_eq_true h]; exact .of C rfl sd_str
  · rw [beq_iff_eq.mp h]; exact .of C rfl sd_bl
  · exact .of C rfl sd_non
  · cases h) fun _ _ => rfl
theorem s_var {i : Nat} : SndE ε T Γ (.var i) := sndE_of (fun S X e C h => by
  simp only [chkE] at h
  obtain ⟨x, p, rfl, h1, h2, h3⟩ := nmB_ok h
  exact .of C rfl (sd_var C h1 h2 h3)) fun _ _ => rfl
theorem s_own {i : Nat} : SndE ε T Γ (.own i) := fun S X e C => ⟨fun h => by simp [chkE] at h, fun h => by
  simp only [chkE, Bool.true_and] at h
  obtain ⟨x, p, rfl, h1, h2, h3⟩ := nmB_ok h
  exact sd_own C h1 h2 h3⟩
theorem s_glob {x : Str} {d : D} : SndE ε T Γ (.glob x d) := sndE_of (fun S X e C h => by
  simp only [chkE] at h
  unfold globB at h
  split at h
  · rename_i y p
    simp only [Bool.and_eq_true, decide_eq_true_eq, Bool.or_eq_true] at h
    obtain ⟨⟨⟨rfl, h1⟩, h2⟩, h3⟩ := h
    rcases h3 with h3 | h3
    · exact .of C rfl (sd_glob C h1 h2 (conG_ok h3))
    · split at h3
      · exact .of C rfl (sd_gfn C h1 h2 (fnG_ok h3))
      · simp only [Bool.and_eq_true, decide_eq_true_eq] at h3
        exact .of C rfl (sd_ty C h1 h2 (noG_ok h3.1) h3.2)
      · cases h3
  · cases h) fun _ _ => rfl
theorem s_prim {p : P} {es : IEs} (h : SndEs ε T Γ es) : SndE ε T Γ (.prim p es) := sndE_of (fun S X e C q => by
  simp only [chkE] at q
  split at q
  · rename_i l hl
    have a := h S X l true C q
    unfold shapeP at hl
    split at hl
    · split at hl
      · rename_i ho; cases hl; subst ho
        obtain ⟨i, j, rfl, _, h1, _, h2⟩ := a.two
        exact .of C rfl (sp_bin C h1 h2)
      · cases hl
    · split at hl
      · rename_i ho; cases hl; subst ho
        obtain ⟨i, j, rfl, _, h1, ok, h2⟩ := a.two
        exact ⟨sp_cmp C ok h1 h2, st_cmp C ok h1 h2, fun _ _ _ z => nomatch z⟩
      · cases hl
    · cases hl
      obtain ⟨i, j, rfl, _, h1, ok, h2⟩ := a.two
      exact .of C rfl (sp_ix C ok h1 h2)
    · cases hl
      obtain ⟨i, rfl, _, h1⟩ := a.one
      exact .of C rfl (sp_neg h1)
    · split at hl
      · rename_i n u hb
        split at hl
        · rename_i hc
          cases hl
          exact .of C rfl (sp_blt C hb hc.1 hc.2.1 (noG_ok hc.2.2) a.po a.ok)
        · cases hl
      · cases hl
    · cases hl
  · cases q) fun _ _ => rfl
theorem shapeM_ok {m : Str} {e o : Expr} {l : List Expr} (h : shapeM m e = some (o, l)) : ∃ apos cpos, e = .Call (.Attribute o m apos) l [] cpos ∧ objB o = true ∧ (apos.endLine == cpos.line) = true := by
  unfold shapeM at h
  split at h
  · split at h
    · rename_i hc; cases h; obtain ⟨rfl, h2, h3⟩ := hc; exact ⟨_, _, rfl, h2, h3⟩
    · cases h
  · cases h
theorem shapeN_ok {m : Str} {e : Expr} {l : List Expr} (h : shapeN m e = some l) : ∃ xp cpos, e = .Call (.Name m xp) l [] cpos := by
  unfold shapeN at h
  split at h
  · split at h
    · rename_i hc; cases h; subst hc; exact ⟨_, _, rfl⟩
    · cases h
  · cases h
theorem s_tindex {i : Nat} {a : IE} (h : SndE ε T Γ a) : SndE ε T Γ (.tindex i a) := sndE_of (fun S X e C q => by
  simp only [chkE] at q
  split at q
  · rename_i x z hs
    obtain ⟨apos, cpos, rfl, h1, h2⟩ := shapeM_ok hs
    simp only [Bool.and_eq_true] at q
    obtain ⟨y, p, rfl, g1, g2, g3⟩ := nmB_ok q.1.1
    exact .of C rfl (sd_tindex C g1 g2 g3 q.1.2 h2 (h.v C q.2))
  · cases q) fun _ _ => rfl
theorem s_meth {m : M} {a : IE} {es : IEs} (h : SndE ε T Γ a) (hs : SndEs ε T Γ es) : SndE ε T Γ (.meth m a es) := sndE_of (fun S X e C q => by
  simp only [chkE] at q
  split at q
  · rename_i x z hh
    obtain ⟨apos, cpos, rfl, h1, h2⟩ := shapeM_ok hh
    simp only [Bool.and_eq_true] at q
    obtain ⟨i, rfl, ok, g⟩ := (hs S X [z] true C q.2).one
    cases m with
    | sindex => exact .of C rfl (sd_sindex h1 ok h2 (h.v C q.1) g)
    | join => exact .of C rfl (sd_join C h1 ok h2 (h.v C q.1) g)
  · cases q) fun _ _ => rfl
theorem s_fstr {es : IEs} (hs : SndEs ε T Γ es) : SndE ε T Γ (.fstr es) := sndE_of (fun S X e C q => by
  simp only [chkE] at q
  split at q
  · simp only [Bool.and_eq_true] at q
    refine .of C rfl (sd_fstr q.1 ?_)
    have all := hs S X _ false C q.2
    have conv : ∀ {is : IEs} {l : List Expr}, AllPE ε Γ X false is l → AllPV ε Γ X is l := by
      intro is l h
      induction l generalizing is with
      | nil => cases is with
        | nil => exact .nil
        | cons _ _ => exact h.elim
      | cons a l ih => cases is with
        | nil => exact h.elim
        | cons i is => exact .cons h.2.1 (ih h.2.2)
    exact conv all
  · cases q) fun _ _ => rfl
theorem s_gdget {x : Str} {kvs : List (Str × D)} {a : IE} (h : SndE ε T Γ a) : SndE ε T Γ (.gdget x kvs a) := sndE_of (fun S X e C q => by
  simp only [chkE] at q
  split at q
  · simp only [Bool.and_eq_true, decide_eq_true_eq] at q
    obtain ⟨⟨⟨⟨⟨rfl, q1⟩, q2⟩, q3⟩, q4⟩, q5⟩ := q
    exact .of C rfl (sd_gdget C q1 q2 (dctG_ok q3) q4 (h.v C q5))
  · cases q) fun _ _ => rfl
theorem s_slice {a : IE} {lo hi : IO} (h : SndE ε T Γ a) (h1 : SndO ε T Γ lo) (h2 : SndO ε T Γ hi) : SndE ε T Γ (.slice a lo hi) := sndE_of (fun S X e C q => by
  simp only [chkE] at q
  split at q
  · simp only [Bool.and_eq_true] at q
    exact .of C rfl (sd_slice C (h.o C q.1.1) (h1.1 S X _ C q.1.2) (h2.1 S X _ C q.2))
  · cases q) fun _ _ => rfl
theorem s_nott {a : IE} (h : SndE ε T Γ a) : SndE ε T Γ (.nott a) := sndE_of (fun S X e C q => by
  simp only [chkE] at q
  split at q
  · exact ⟨sd_not C (h.v C q), st_not (h.t C q), fun _ _ _ z => nomatch z⟩
  · cases q) fun _ _ => rfl
theorem rest_and {y : Expr} {rest : List Expr} {pos : Pos} {b : IE} (h : Okay ε Γ X (restB .And y rest pos) b) : PE X (.BoolOp .And (y :: rest) pos) (rdE ε Γ b) ∧ PW X (.BoolOp .And (y :: rest) pos) (rdT ε Γ b) := by
  cases rest with
  | nil => exact ⟨pe_one h.pe, pw_and1 h.pt⟩
  | cons z zs => exact ⟨h.pe, h.pw _ _ _ rfl⟩
theorem rest_or {y : Expr} {rest : List Expr} {pos : Pos} {b : IE} (h : Okay ε Γ X (restB .Or y rest pos) b) : PE X (.BoolOp .Or (y :: rest) pos) (rdE ε Γ b) ∧ PW X (.BoolOp .Or (y :: rest) pos) (rdT ε Γ b) := by
  cases rest with
  | nil => exact ⟨pe_one h.pe, pw_or1 h.pt⟩
  | cons z zs => exact ⟨h.pe, h.pw _ _ _ rfl⟩
theorem s_andd {a b : IE} (h : SndE ε T Γ a) (h2 : SndE ε T Γ b) : SndE ε T Γ (.andd a b) := sndE_of (fun S X e C q => by
  simp only [chkE] at q
  split at q
  · simp only [Bool.and_eq_true] at q
    obtain ⟨r1, r2⟩ := rest_and ((h2 S X _ C).1 q.2)
    exact ⟨sd_and C (h.v C q.1) r1, (sw_and (h.t C q.1) r2).pt, fun _ _ _ _ => sw_and (h.t C q.1) r2⟩
  · cases q) fun _ _ => rfl
theorem s_orr {a b : IE} (h : SndE ε T Γ a) (h2 : SndE ε T Γ b) : SndE ε T Γ (.orr a b) := sndE_of (fun S X e C q => by
  simp only [chkE] at q
  split at q
  · simp only [Bool.and_eq_true] at q
    obtain ⟨r1, r2⟩ := rest_or ((h2 S X _ C).1 q.2)
    exact ⟨sd_or C (h.v C q.1) r1, (sw_or (h.t C q.1) r2).pt, fun _ _ _ _ => sw_or (h.t C q.1) r2⟩
  · cases q) fun _ _ => rfl
theorem s_cond {c a b : IE} (h : SndE ε T Γ c) (h1 : SndE ε T Γ a) (h2 : SndE ε T Γ b) : SndE ε T Γ (.cond c a b) := sndE_of (fun S X e C q => by
  simp only [chkE] at q
  split at q
  · simp only [Bool.and_eq_true] at q
    exact ⟨sd_cond (h.t C q.1.1) (h1.v C q.1.2) (h2.v C q.2), st_cond (h.t C q.1.1) (h1.t C q.1.2) (h2.t C q.2), fun _ _ _ z => nomatch z⟩
  · cases q) fun _ _ => rfl
theorem s_cmp2 {o1 o2 : CmpOp} {a b c : IE} (h : SndE ε T Γ a) (h1 : SndE ε T Γ b) (h2 : SndE ε T Γ c) : SndE ε T Γ (.cmp2 o1 o2 a b c) := sndE_of (fun S X e C q => by
  simp only [chkE] at q
  split at q
  · simp only [Bool.and_eq_true, decide_eq_true_eq] at q
    obtain ⟨⟨⟨⟨⟨rfl, rfl⟩, q3⟩, q4⟩, q5⟩, q6⟩ := q
    exact ⟨sd_chain C q3 (h.o C q4) (h1.o C q5) (h2.o C q6), st_chain C q3 (h.o C q4) (h1.o C q5) (h2.o C q6), fun _ _ _ z => nomatch z⟩
  · cases q) fun _ _ => rfl
theorem s_tup {es : IEs} (h : SndEs ε T Γ es) : SndE ε T Γ (.tup es) := sndE_of (fun S X e C q => by
  simp only [chkE] at q
  split at q
  · exact .of C rfl (sd_tup (h S X _ false C q).pa)
  · cases q) fun _ _ => rfl
theorem chkF_pt {f : FE} {e : Expr} (h : chkF T f S e = true) : ptB e = true := by
  cases f <;> simp only [chkF] at h <;> split at h <;> (first | (cases h; done) | rfl | skip)
  all_goals (first | (rename_i hs; obtain ⟨_, _, rfl⟩ := shapeN_ok hs; rfl) | (rename_i hs; obtain ⟨_, _, rfl, _⟩ := shapeM_ok hs; rfl))
theorem s_frz {f : FE} (h : SndF ε T Γ f) : SndE ε T Γ (.frz f) := sndE_of (fun S X e C q => by
  simp only [chkE] at q
  exact .of C (chkF_pt q) (sd_frz (h S X e C q).1)) fun _ _ => rfl
theorem s_cell {f : FE} (h : SndF ε T Γ f) : SndE ε T Γ (.cell f) := sndE_of (fun S X e C q => by
  simp only [chkE] at q
  exact .of C (chkF_pt q) (sd_cell (h S X e C q).1)) fun _ _ => rfl
theorem s_celld : SndE ε T Γ .celld := sndE_of (fun S X e C q => by
  simp only [chkE] at q
  split at q
  · exact .of C rfl sd_celld
  · cases q) fun _ _ => rfl
theorem s_dcopy {a : IE} (h : SndE ε T Γ a) : SndE ε T Γ (.dcopy a) := sndE_of (fun S X e C q => by
  simp only [chkE] at q
  split at q
  · rename_i hs
    obtain ⟨xp, cpos, rfl⟩ := shapeN_ok hs
    simp only [Bool.and_eq_true] at q
    exact .of C rfl (sd_dcopy C q.1.1.1 (noG_ok q.1.1.2) (h.v C q.2) q.1.2)
  · cases q) fun _ _ => rfl
theorem s_dlen {a : IE} (h : SndE ε T Γ a) : SndE ε T Γ (.dlen a) := sndE_of (fun S X e C q => by
  simp only [chkE] at q
  split at q
  · rename_i hs
    obtain ⟨xp, cpos, rfl⟩ := shapeN_ok hs
    simp only [Bool.and_eq_true] at q
    exact .of C rfl (sd_dlen C q.1.1.1 (noG_ok q.1.1.2) (h.v C q.2) q.1.2)
  · cases q) fun _ _ => rfl
theorem s_call {x : Str} {f : Nat} {es : IEs} (h : SndEs ε T Γ es) : SndE ε T Γ (.call x f es) := sndE_of (fun S X e C q => by
  simp only [chkE] at q
  split at q
  · rename_i l hs
    obtain ⟨xp, cpos, rfl⟩ := shapeN_ok hs
    simp only [Bool.and_eq_true] at q
    have a := h S X l false C q.2
    cases l with
    | nil =>
      have := a.none rfl
      subst this
      exact .of C rfl (sd_call0 C q.1.1.1 q.1.1.2 (fnG_ok q.1.2))
    | cons y ys => exact .of C rfl (sd_call C q.1.1.1 q.1.1.2 (fnG_ok q.1.2) a.pa a.ok)
  · cases q) fun _ _ => rfl
theorem s_callv {i : Nat} {es : IEs} (h : SndEs ε T Γ es) : SndE ε T Γ (.callv i es) := sndE_of (fun S X e C q => by
  simp only [chkE] at q
  split at q
  · simp only [Bool.and_eq_true, decide_eq_true_eq] at q
    have a := h S X _ false C q.2
    exact .of C rfl (sd_callv C q.1.1.1 q.1.1.2 q.1.2 a.pa a.ok)
  · cases q) fun _ _ => rfl
theorem fldC_ok {c : Nat} {f : Str} (h : fldC T c f = true) : ∃ I, T.c[c]? = some I ∧ I.flds.contains f = true := by
  unfold fldC at h
  split at h
  · exact ⟨_, by assumption, h⟩
  · cases h
theorem mthC_ok {c f : Nat} {m : Str} (h : mthC T c m f = true) : ∃ I, T.c[c]? = some I ∧ I.meths.lookup m = some f := by
  unfold mthC at h
  split at h
  · exact ⟨_, by assumption, of_decide_eq_true h⟩
  · cases h
theorem iniC_ok {c f : Nat} (h : iniC T c f = true) : ∃ I, T.c[c]? = some I ∧ I.init = some f := by
  unfold iniC at h
  split at h
  · exact ⟨_, by assumption, of_decide_eq_true h⟩
  · cases h
theorem s_attr {c : Nat} {a : IE} {f : Str} (h : SndE ε T Γ a) : SndE ε T Γ (.attr c a f) := sndE_of (fun S X e C q => by
  simp only [chkE] at q
  split at q
  · simp only [Bool.and_eq_true, decide_eq_true_eq] at q
    obtain ⟨⟨⟨rfl, q1⟩, q2⟩, q3⟩ := q
    obtain ⟨I, i1, i2⟩ := fldC_ok q2
    exact .of C rfl (sd_attr C q1 i1 i2 (h.v C q3))
  · cases q) fun _ _ => rfl
theorem s_mcall {c f : Nat} {m : Str} {a : IE} {es : IEs} (h : SndE ε T Γ a) (hs : SndEs ε T Γ es) : SndE ε T Γ (.mcall c m f a es) := sndE_of (fun S X e C q => by
  simp only [chkE] at q
  split at q
  · rename_i x l hh
    obtain ⟨apos, cpos, rfl, h1, h2⟩ := shapeM_ok hh
    simp only [Bool.and_eq_true, decide_eq_true_eq] at q
    obtain ⟨I, i1, i2⟩ := mthC_ok q.1.1.1
    have b := hs S X l false C q.2
    exact .of C rfl (sd_mcall C h1 i1 i2 (h.v C q.1.2) b.pa b.ok q.1.1.2 h2 b.none)
  · cases q) fun _ _ => rfl
theorem s_make {x : Str} {c f : Nat} {es : IEs} (hs : SndEs ε T Γ es) : SndE ε T Γ (.make x c f es) := sndE_of (fun S X e C q => by
  simp only [chkE] at q
  split at q
  · rename_i l hh
    obtain ⟨xp, cpos, rfl⟩ := shapeN_ok hh
    simp only [Bool.and_eq_true] at q
    obtain ⟨I, i1, i2⟩ := iniC_ok q.1.2
    have b := hs S X l false C q.2
    exact .of C rfl (sd_make C q.1.1.1.1 q.1.1.1.2 (clsG_ok q.1.1.2) i1 i2 b.pa b.ok b.none)
  · cases q) fun _ _ => rfl
theorem s_dhas {neg : Bool} {k d : IE} (h : SndE ε T Γ k) (h2 : SndE ε T Γ d) : SndE ε T Γ (.dhas neg k d) := sndE_of (fun S X e C q => by
  simp only [chkE] at q
  split at q
  · simp only [Bool.and_eq_true, decide_eq_true_eq] at q
    obtain ⟨⟨⟨rfl, q1⟩, q2⟩, q3⟩ := q
    exact ⟨sd_dhas C q1 (h.v C q2) (h2.v C q3), st_dhas C q1 (h.v C q2) (h2.v C q3), fun _ _ _ z => nomatch z⟩
  · cases q) fun _ _ => rfl
theorem s_dget {d k : IE} (h : SndE ε T Γ d) (h2 : SndE ε T Γ k) : SndE ε T Γ (.dget d k) := sndE_of (fun S X e C q => by
  simp only [chkE] at q
  split at q
  · simp only [Bool.and_eq_true] at q
    exact .of C rfl (sd_dget C q.1.1 (h.v C q.1.2) (h2.v C q.2))
  · cases q) fun _ _ => rfl
theorem s_dgetD {d k z : IE} (h : SndE ε T Γ d) (h2 : SndE ε T Γ k) (h3 : SndE ε T Γ z) : SndE ε T Γ (.dgetD d k z) := sndE_of (fun S X e C q => by
  simp only [chkE] at q
  split at q
  · rename_i hh
    obtain ⟨apos, cpos, rfl, h1, hl⟩ := shapeM_ok hh
    simp only [Bool.and_eq_true] at q
    exact .of C rfl (sd_dgetD C h1 q.1.1.1.1 q.1.1.1.2 hl (h.v C q.1.1.2) (h2.v C q.1.2) (h3.v C q.2))
  · cases q) fun _ _ => rfl
theorem s_dsetd {d k z : IE} (h : SndE ε T Γ d) (h2 : SndE ε T Γ k) (h3 : SndE ε T Γ z) : SndE ε T Γ (.dsetd d k z) := sndE_of (fun S X e C q => by
  simp only [chkE] at q
  split at q
  · rename_i hh
    obtain ⟨apos, cpos, rfl, h1, hl⟩ := shapeM_ok hh
    simp only [Bool.and_eq_true] at q
    exact .of C rfl (sd_dsetd C h1 q.1.1.1.1 q.1.1.1.2 hl (h.v C q.1.1.2) (h2.v C q.1.2) (h3.v C q.2))
  · cases q) fun _ _ => rfl
end
end FH
end
section
/-! FH18: the look is right: lists, what is walked, all together. -/
namespace FH
open PySem PySem.Spec PyProof.Rows L2
section
variable {ε : Ev} {T : Tab} {Γ : Env2} {S : SC} {X : Cx}
mutual
theorem sndTg : ∀ {g : Tg} {S : SC} {X : Cx} {e : Expr}, CxOk ε T Γ S X → chkTg g S e = true → PG X e (rdG ε g) ∧ tgE e = true
  | .nm i, S, X, e, C, h => by
    cases e <;> (first | (simp [chkTg] at h; done) | skip)
    simp only [chkTg, Bool.and_eq_true, decide_eq_true_eq] at h
    exact ⟨sg_nm C h.1 h.2, rfl⟩
  | .tp ts, S, X, e, C, h => by
    cases e <;> (first | (simp [chkTg] at h; done) | skip)
    simp only [chkTg, Bool.and_eq_true, decide_eq_true_eq] at h
    exact ⟨sg_tp C h.1.1 h.1.2 (sndTgs C h.2), rfl⟩
theorem sndTgs : ∀ {g : Tgs} {S : SC} {X : Cx} {es : List Expr}, CxOk ε T Γ S X → chkTgs g S es = true → PGs X es (rdGs ε g)
  | .nil, S, X, es, C, h => by
    cases es with
    | nil => exact sgs_nil
    | cons _ _ => simp [chkTgs] at h
  | .cons t ts, S, X, es, C, h => by
    cases es with
    | nil => simp [chkTgs] at h
    | cons e es =>
      simp only [chkTgs, Bool.and_eq_true] at h
      obtain ⟨h1, h2⟩ := sndTg C h.1
      exact sgs_cons h2 h1 (sndTgs C h.2)
end
theorem s_nil : SndEs ε T Γ .nil := fun S X es o C h => by
  cases es with
  | nil => trivial
  | cons _ _ => simp [chkEs] at h
theorem s_cons {i : IE} {is : IEs} (h1 : SndE ε T Γ i) (h2 : SndEs ε T Γ is) : SndEs ε T Γ (.cons i is) := fun S X es o C h => by
  cases es with
  | nil => simp [chkEs] at h
  | cons e es =>
    simp only [chkEs, Bool.and_eq_true] at h
    refine ⟨h.1.1, ?_, h2 S X es o C h.2⟩
    cases o with
    | true => exact h1.o C h.1.2
    | false => exact h1.v C h.1.2
theorem s_no : SndO ε T Γ .no := ⟨fun S X e C h => by
  cases e with
  | none => exact so_no
  | some _ => simp [chkO] at h, fun S X e C h => by
  cases e with
  | nil => exact sc_no
  | cons _ _ => simp [chkC] at h⟩
theorem s_som {i : IE} (h1 : SndE ε T Γ i) : SndO ε T Γ (.som i) := ⟨fun S X e C h => by
  cases e with
  | none => simp [chkO] at h
  | some e => simp only [chkO] at h; exact so_som (h1.v C h), fun S X e C h => by
  cases e with
  | nil => simp [chkC] at h
  | cons e es =>
    cases es with
    | nil => simp only [chkC] at h; exact sc_som (h1.t C h)
    | cons _ _ => simp [chkC] at h⟩
theorem f_disp {es : IEs} (h : SndEs ε T Γ es) : SndF ε T Γ (.disp es) := sndF_of fun S X e C q => by
  simp only [chkF] at q
  split at q
  · exact ⟨rfl, sf_disp (h S X _ false C q).pa⟩
  · cases q
theorem f_list {a : IE} (h : SndE ε T Γ a) : SndF ε T Γ (.list a) := sndF_of fun S X e C q => by
  simp only [chkF] at q
  split at q
  · rename_i hs
    obtain ⟨xp, cpos, rfl⟩ := shapeN_ok hs
    simp only [Bool.and_eq_true] at q
    exact ⟨rfl, sf_list C q.1.1.1 (noG_ok q.1.1.2) (h.o C q.2) q.1.2⟩
  · cases q
theorem f_split {a b : IE} (h : SndE ε T Γ a) (h2 : SndE ε T Γ b) : SndF ε T Γ (.split a b) := sndF_of fun S X e C q => by
  simp only [chkF] at q
  split at q
  · rename_i hs
    obtain ⟨apos, cpos, rfl, g1, g2⟩ := shapeM_ok hs
    simp only [Bool.and_eq_true] at q
    exact ⟨rfl, sf_split g1 q.1.1 g2 (h.v C q.1.2) (h2.v C q.2)⟩
  · cases q
theorem f_cat {a b : IE} (h : SndE ε T Γ a) (h2 : SndE ε T Γ b) : SndF ε T Γ (.cat a b) := sndF_of fun S X e C q => by
  simp only [chkF] at q
  split at q
  · simp only [Bool.and_eq_true] at q
    exact ⟨rfl, sf_cat C (h.o C q.1) (h2.o C q.2)⟩
  · cases q
theorem f_comp {g : Tg} {own : List (Str × Nat)} {s : Src} {c : IO} {i : IE} (hs : SndS ε T Γ s) (hc : SndO ε T Γ c) (hi : SndE ε T Γ i) : SndF ε T Γ (.comp g own s c i) := fun S X e C q => by
  simp only [chkF] at q
  split at q
  · rename_i elt tg iter ifs z scope pos
    simp only [Bool.and_eq_true, decide_eq_true_eq, List.all_eq_true] at q
    obtain ⟨⟨⟨⟨⟨⟨⟨rfl, q1⟩, q2⟩, q3⟩, q4⟩, q5⟩, q6⟩, q7⟩ := q
    have a1 := hs S X tg iter C q1
    have a2 : ∀ Y, CxOk ε T Γ (S.inner scope) Y → PG Y tg (rdG ε g) := fun Y D => (sndTg D q3).1
    have a3 : ∀ Y, CxOk ε T Γ (S.inner scope) Y → PTs Y ifs (rdC ε Γ c) := fun Y D => hc.2 _ Y ifs D q4
    have a4 : ∀ Y, CxOk ε T Γ (S.inner scope) Y → PE Y elt (rdE ε Γ i) := fun Y D => hi.v D q5
    refine ⟨sf_comp C a1 q2 a2 a3 a4 q6 q7, fun j y py spos w => ?_⟩
    simp only [setLcB, Bool.and_eq_true, decide_eq_true_eq, Bool.not_eq_true'] at w
    obtain ⟨⟨⟨⟨w1, w2⟩, w3⟩, w4⟩, w5⟩ := w
    exact psf_comp C w1 w2 w3 w4 w5 a1 q2 a2 a3 a4 q6 q7
  · cases q
theorem k_it {a : IE} (h : SndE ε T Γ a) : SndS ε T Γ (.it a) := fun S X tg e C q => by
  simp only [chkS] at q
  exact ss_it C (h.v C q)
theorem k_cel {a : IE} (h : SndE ε T Γ a) : SndS ε T Γ (.cel a) := fun S X tg e C q => by
  simp only [chkS] at q
  exact ss_cel C (h.v C q)
theorem k_range1 {a : IE} (h : SndE ε T Γ a) : SndS ε T Γ (.range1 a) := fun S X tg e C q => by
  simp only [chkS] at q
  split at q
  · rename_i hs
    obtain ⟨xp, cpos, rfl⟩ := shapeN_ok hs
    simp only [Bool.and_eq_true] at q
    exact ss_range1 C q.1.1.1 (noG_ok q.1.1.2) (h.v C q.2) q.1.2
  · cases q
theorem k_range2 {a b : IE} (h : SndE ε T Γ a) (h2 : SndE ε T Γ b) : SndS ε T Γ (.range2 a b) := fun S X tg e C q => by
  simp only [chkS] at q
  split at q
  · rename_i hs
    obtain ⟨xp, cpos, rfl⟩ := shapeN_ok hs
    simp only [Bool.and_eq_true] at q
    obtain ⟨⟨⟨⟨⟨q1, q2⟩, q3⟩, q4⟩, q5⟩, q6⟩ := q
    exact ss_range2 C q1 (noG_ok q2) (h.v C q5) (h2.v C q6) q3 q4
  · cases q
theorem k_enum {a : IE} (h : SndE ε T Γ a) : SndS ε T Γ (.enum a) := fun S X tg e C q => by
  simp only [chkS] at q
  split at q
  · rename_i hs
    obtain ⟨xp, cpos, rfl⟩ := shapeN_ok hs
    simp only [Bool.and_eq_true] at q
    exact ss_enum C q.1.1.1 (noG_ok q.1.1.2) (h.v C q.2) q.1.2
  · cases q
theorem k_zip {es : IEs} (h : SndEs ε T Γ es) : SndS ε T Γ (.zip es) := fun S X tg e C q => by
  simp only [chkS] at q
  split at q
  · rename_i hs
    obtain ⟨xp, cpos, rfl⟩ := shapeN_ok hs
    simp only [Bool.and_eq_true] at q
    obtain ⟨⟨q1, q2⟩, q3⟩ := q
    have all := h S X _ false C q3
    have ok := all.ok
    rw [List.all_cons, Bool.and_eq_true] at ok
    exact ss_zip C q1 (noG_ok q2) all.pa ok.1 ok.2
  · cases q
mutual
theorem sndE : ∀ ie : IE, SndE ε T Γ ie
  | .lit _ => s_lit
  | .var _ => s_var
  | .own _ => s_own
  | .glob _ _ => s_glob
  | .prim _ es => s_prim (sndEs es)
  | .tindex _ a => s_tindex (sndE a)
  | .meth _ a es => s_meth (sndE a) (sndEs es)
  | .gdget _ _ a => s_gdget (sndE a)
  | .fstr es => s_fstr (sndEs es)
  | .slice a lo hi => s_slice (sndE a) (sndO lo) (sndO hi)
  | .nott a => s_nott (sndE a)
  | .andd a b => s_andd (sndE a) (sndE b)
  | .orr a b => s_orr (sndE a) (sndE b)
  | .cond c a b => s_cond (sndE c) (sndE a) (sndE b)
  | .cmp2 _ _ a b c => s_cmp2 (sndE a) (sndE b) (sndE c)
  | .tup es => s_tup (sndEs es)
  | .frz f => s_frz (sndF f)
  | .cell f => s_cell (sndF f)
  | .celld => s_celld
  | .dcopy a => s_dcopy (sndE a)
  | .dlen a => s_dlen (sndE a)
  | .call _ _ es => s_call (sndEs es)
  | .callv _ es => s_callv (sndEs es)
  | .attr _ a _ => s_attr (sndE a)
  | .mcall _ _ _ a es => s_mcall (sndE a) (sndEs es)
  | .make _ _ _ es => s_make (sndEs es)
  | .dhas _ k d => s_dhas (sndE k) (sndE d)
  | .dget d k => s_dget (sndE d) (sndE k)
  | .dgetD d k z => s_dgetD (sndE d) (sndE k) (sndE z)
  | .dsetd d k z => s_dsetd (sndE d) (sndE k) (sndE z)
theorem sndEs : ∀ is : IEs, SndEs ε T Γ is
  | .nil => s_nil
  | .cons i is => s_cons (sndE i) (sndEs is)
theorem sndO : ∀ i : IO, SndO ε T Γ i
  | .no => s_no
  | .som i => s_som (sndE i)
theorem sndF : ∀ f : FE, SndF ε T Γ f
  | .disp es => f_disp (sndEs es)
  | .list a => f_list (sndE a)
  | .split a b => f_split (sndE a) (sndE b)
  | .cat a b => f_cat (sndE a) (sndE b)
  | .comp _ _ s c i => f_comp (sndS s) (sndO c) (sndE i)
theorem sndS : ∀ s : Src, SndS ε T Γ s
  | .it a => k_it (sndE a)
  | .range1 a => k_range1 (sndE a)
  | .range2 a b => k_range2 (sndE a) (sndE b)
  | .enum a => k_enum (sndE a)
  | .zip es => k_zip (sndEs es)
  | .cel a => k_cel (sndE a)
end
end
end FH
end
section
/-! FH19: the look at statements, and that it is right. -/
namespace FH
open PySem PySem.Spec PyProof.Rows L2
def chkIn (T : Tab) (S : SC) : In → Expr → Bool
  | .v e, x => chkE T e false S x
  | .o f, x => chkF T f S x
def newB (T : Tab) (S : SC) (i : Nat) (y : Str) (py : Pos) (v : Expr) : IE → Bool
  | .frz f => chkF T f S v && setLcB S i y py v
  | .cell f => chkF T f S v && setLcB S i y py v
  | _ => false
mutual
def chkSt (T : Tab) (S : SC) : IS → Stmt → Bool
  | .expr e, st => match st with
    | .Expr x _ => notComp x && chkE T e false S x
    | _ => false
  | .ret e, st => match st with
    | .Return (some x) _ => chkE T e false S x
    | _ => false
  | .retN, st => match st with
    | .Return none _ => true
    | _ => false
  | .set i e, st => match st with
    | .Assign [.Name y py] v _ => newB T S i y py v e || (notComp v && decide (S.N[i]? = some y) && locB S y && chkE T e false S v)
    | _ => false
  | .unp g e, st => match st with
    | .Assign [tg] v _ => noSwap tg v && notComp v && chkTg g S tg && chkE T e false S v
    | _ => false
  | .par i j a b, st => match st with
    | .Assign [.Tuple [.Name x px, .Name y py] _ _] (.Tuple [u, v] _ _) _ => decide (S.sc.kind = .function) && decide (S.N[i]? = some x) && decide (S.N[j]? = some y) && decide (i ≠ j) && decide (x ≠ y) && decide (S.sc.names.lookup x = some .local) &&
        decide (S.sc.names.lookup y = some .local) && lineB py px && okE u && okE v && !folds u v && chkIn T S a u && chkIn T S b v
    | _ => false
  | .par3 i j l es, st => match st with
    | .Assign [.Tuple [.Name x px, .Name y py, .Name z pz] _ _] (.Tuple [u, v, w] _ _) _ => decide (S.sc.kind = .function) && decide (S.N[i]? = some x) && decide (S.N[j]? = some y) && decide (S.N[l]? = some z) && decide (i ≠ j ∧ i ≠ l ∧ j ≠ l) && decide (x ≠ y ∧ x ≠ z ∧ y ≠ z) && decide (S.sc.names.lookup x = some .local) &&
        decide (S.sc.names.lookup y = some .local) && decide (S.sc.names.lookup z = some .local) && lineB py px && lineB pz px && okE u && okE v && okE w && !([u, v, w].all (foldedForSure 8) || [u, v, w].all (constantsAlone 8)) && chkEs T es false S [u, v, w]
    | _ => false
  | .setOwn i f, st => match st with
    | .Assign [.Name y py] v _ => chkF T f S v && setLcB S i y py v
    | _ => false
  | .setTup i es, st => match st with
    | .Assign [.Name y _] (.Tuple l _ _) _ => decide (S.N[i]? = some y) && locB S y && chkEs T es false S l
    | _ => false
  | .freeze _ s, st => chkSt T S s st
  | .ifs c a b, st => match st with
    | .If x p q _ => chkE T c false S x && chkSs T S a p && chkSs T S b q
    | _ => false
  | .fors g s b, st => match st with
    | .For tg iter body [] _ => chkTg g S tg && chkS T s S tg iter && chkSs T S b body && setB iter
    | _ => false
  | .whil c b, st => match st with
    | .While x body [] _ => chkE T c false S x && chkSs T S b body
    | _ => false
  | .brk, st => match st with
    | .Break _ => true
    | _ => false
  | .cnt, st => match st with
    | .Continue _ => true
    | _ => false
  | .pass, st => match st with
    | .Pass _ => true
    | _ => false
  | .setIx o i e, st => match st with
    | .Assign [.Subscript x y _] v _ => notComp v && okE y && chkE T o false S x && chkE T i false S y && chkE T e false S v
    | _ => false
  | .setKy o i e, st => match st with
    | .Assign [.Subscript x y _] v _ => notComp v && chkE T o false S x && chkE T i false S y && chkE T e false S v
    | _ => false
  | .augIx op o i e, st => match st with
    | .AugAssign (.Subscript x y _) op' v _ => decide (op' = op) && decide (op = .Add) && okE y && chkE T o false S x && chkE T i false S y && chkE T e false S v
    | _ => false
  | .aug op i e, st => match st with
    | .AugAssign (.Name x _) op' v _ => decide (op' = op) && decide (op = .Add) && decide (S.N[i]? = some x) && locB S x && chkE T e false S v
    | _ => false
  | .setAt c o f e, st => match st with
    | .Assign [.Attribute x g _] v _ => decide (g = f) && notComp v && fldC T c f && chkE T o false S x && chkE T e false S v
    | _ => false
  | .setAt2 c i f g a b, st => match st with
    | .Assign [.Tuple [.Attribute (.Name x _) f' _, .Attribute (.Name y _) g' _] _ _] (.Tuple [u, v] _ _) _ => decide (y = x) && decide (f' = f) && decide (g' = g) && decide (S.N[i]? = some x) && visB S.sc x && nameOk x && fldC T c f && fldC T c g && okE u && okE v && chkE T a false S u && chkE T b false S v
    | _ => false
  | .app o e, st => match st with
    | .Expr x _ => (match shapeM "append" x with
      | some (z, [w]) => okE w && chkE T o false S z && chkE T e false S w
      | _ => false)
    | _ => false
  | .appOwn i e, st => match st with
    | .Expr x _ => (match shapeM "append" x with
      | some (z, [w]) => nmB S i z && okE w && chkE T e false S w
      | _ => false)
    | _ => false
  | .extOwn i f, st => match st with
    | .Expr x _ => (match shapeM "extend" x with
      | some (z, [w]) => nmB S i z && okE w && chkF T f S w
      | _ => false)
    | _ => false
def chkSs (T : Tab) (S : SC) : ISs → List Stmt → Bool
  | .nil, [] => true
  | .cons i is, st :: sts => chkSt T S i st && chkSs T S is sts
  | _, _ => false
end
section
variable {ε : Ev} {T : Tab} {Γ : Env2} {S : SC} {X : Cx}
theorem inOk (C : CxOk ε T Γ S X) {i : In} {e : Expr} (h : chkIn T S i e = true) : PE X e (rdIn ε Γ i) := by
  cases i with
  | v a => exact in_v ((sndE a).v C h)
  | o f => exact in_o (sndF f S X e C h).1
theorem newOk (C : CxOk ε T Γ S X) {i : Nat} {y : Str} {py pos : Pos} {v : Expr} {e : IE} (h : newB T S i y py v e = true) : PS X (.Assign [.Name y py] v pos) (rdSt ε Γ (.set i e)) := by
  cases e <;> (first | (simp [newB] at h; done) | skip)
  · rename_i f
    simp only [newB, Bool.and_eq_true] at h
    exact st_setFrz ((sndF f S X v C h.1).2 i y py pos h.2)
  · rename_i f
    simp only [newB, Bool.and_eq_true] at h
    exact st_setCell ((sndF f S X v C h.1).2 i y py pos h.2)
mutual
theorem sndSt (C : CxOk ε T Γ S X) : ∀ (i : IS) (st : Stmt), chkSt T S i st = true → PS X st (rdSt ε Γ i)
  | .expr e, st, h => by
    simp only [chkSt] at h
    split at h
    · simp only [Bool.and_eq_true] at h
      exact st_expr h.1 ((sndE e).v C h.2)
    · cases h
  | .ret e, st, h => by
    simp only [chkSt] at h
    split at h
    · exact st_ret ((sndE e).v C h)
    · cases h
  | .retN, st, h => by
    simp only [chkSt] at h
    split at h
    · exact st_retN
    · cases h
  | .set i e, st, h => by
    simp only [chkSt] at h
    split at h
    · simp only [Bool.or_eq_true] at h
      rcases h with h | h
      · exact newOk C h
      · simp only [Bool.and_eq_true, decide_eq_true_eq] at h
        exact st_set C h.1.1.1 h.1.1.2 h.1.2 ((sndE e).v C h.2)
    · cases h
  | .unp g e, st, h => by
    simp only [chkSt] at h
    split at h
    · simp only [Bool.and_eq_true] at h
      obtain ⟨g1, g2⟩ := sndTg C h.1.2
      exact st_unp (noSwap_ok h.1.1.1) h.1.1.2 g2 g1 ((sndE e).v C h.2)
    · cases h
  | .par i j a b, st, h => by
    simp only [chkSt] at h
    split at h
    · simp only [Bool.and_eq_true, decide_eq_true_eq, Bool.not_eq_true'] at h
      obtain ⟨⟨⟨⟨⟨⟨⟨⟨⟨⟨⟨⟨h1, h2⟩, h3⟩, h4⟩, h5⟩, h6⟩, h7⟩, h8⟩, h9⟩, h10⟩, h11⟩, h12⟩, h13⟩ := h
      exact st_par C h1 h2 h3 h4 h5 h6 h7 h8 h9 h10 h11 (inOk C h12) (inOk C h13)
    · cases h
  | .par3 i j l es, st, h => by
    simp only [chkSt] at h
    split at h
    · simp only [Bool.and_eq_true, decide_eq_true_eq, Bool.not_eq_true'] at h
      obtain ⟨⟨⟨⟨⟨⟨⟨⟨⟨⟨⟨⟨⟨⟨⟨h1, h2⟩, h3⟩, h4⟩, h5⟩, h6⟩, h7⟩, h8⟩, h9⟩, h10⟩, h11⟩, h12⟩, h13⟩, h14⟩, h15⟩, h16⟩ := h
      exact st_par3 C h1 h2 h3 h4 h5.1 h5.2.1 h5.2.2 h6.1 h6.2.1 h6.2.2 h7 h8 h9 h10 h11 h12 h13 h14 h15 (sndEs es S X _ false C h16).pa
    · cases h
  | .setOwn i f, st, h => by
    simp only [chkSt] at h
    split at h
    · simp only [Bool.and_eq_true] at h
      exact st_setOwn ((sndF f S X _ C h.1).2 i _ _ _ h.2)
    · cases h
  | .setTup i es, st, h => by
    simp only [chkSt] at h
    split at h
    · simp only [Bool.and_eq_true, decide_eq_true_eq] at h
      exact st_setTup C h.1.1 h.1.2 (sndEs es S X _ false C h.2).pa
    · cases h
  | .freeze i s, st, h => by
    simp only [chkSt] at h
    exact st_freeze (sndSt C s st h)
  | .ifs c a b, st, h => by
    simp only [chkSt] at h
    split at h
    · simp only [Bool.and_eq_true] at h
      exact st_ifs ((sndE c).t C h.1.1) (sndSs C a _ h.1.2) (sndSs C b _ h.2)
    · cases h
  | .fors g s b, st, h => by
    simp only [chkSt] at h
    split at h
    · simp only [Bool.and_eq_true] at h
      exact st_fors C (sndS s S X _ _ C h.1.1.2) (sndTg C h.1.1.1).1 (sndSs C b _ h.1.2) h.2
    · cases h
  | .whil c b, st, h => by
    simp only [chkSt] at h
    split at h
    · simp only [Bool.and_eq_true] at h
      exact st_whil C ((sndE c).t C h.1) (sndSs C b _ h.2)
    · cases h
  | .brk, st, h => by
    simp only [chkSt] at h
    split at h
    · exact st_brk
    · cases h
  | .cnt, st, h => by
    simp only [chkSt] at h
    split at h
    · exact st_cnt
    · cases h
  | .pass, st, h => by
    simp only [chkSt] at h
    split at h
    · exact st_pass
    · cases h
  | .setIx o i e, st, h => by
    simp only [chkSt] at h
    split at h
    · simp only [Bool.and_eq_true] at h
      exact st_setIx h.1.1.1.1 h.1.1.1.2 ((sndE o).v C h.1.1.2) ((sndE i).v C h.1.2) ((sndE e).v C h.2)
    · cases h
  | .setKy o i e, st, h => by
    simp only [chkSt] at h
    split at h
    · simp only [Bool.and_eq_true] at h
      exact st_setKy C h.1.1.1 ((sndE o).v C h.1.1.2) ((sndE i).v C h.1.2) ((sndE e).v C h.2)
    · cases h
  | .augIx op o i e, st, h => by
    simp only [chkSt] at h
    split at h
    · simp only [Bool.and_eq_true, decide_eq_true_eq] at h
      obtain ⟨⟨⟨⟨⟨rfl, h2⟩, h3⟩, h4⟩, h5⟩, h6⟩ := h
      exact st_augIx h3 h2 ((sndE o).v C h4) ((sndE i).v C h5) ((sndE e).v C h6)
    · cases h
  | .aug op i e, st, h => by
    simp only [chkSt] at h
    split at h
    · simp only [Bool.and_eq_true, decide_eq_true_eq] at h
      obtain ⟨⟨⟨⟨rfl, h2⟩, h3⟩, h4⟩, h5⟩ := h
      exact st_aug C h2 h3 h4 ((sndE e).v C h5)
    · cases h
  | .setAt c o f e, st, h => by
    simp only [chkSt] at h
    split at h
    · simp only [Bool.and_eq_true, decide_eq_true_eq] at h
      obtain ⟨⟨⟨⟨rfl, h2⟩, h3⟩, h4⟩, h5⟩ := h
      obtain ⟨I, i1, i2⟩ := fldC_ok h3
      exact st_setAt C h2 i1 i2 ((sndE o).v C h4) ((sndE e).v C h5)
    · cases h
  | .setAt2 c i f g a b, st, h => by
    simp only [chkSt] at h
    split at h
    · simp only [Bool.and_eq_true, decide_eq_true_eq] at h
      obtain ⟨⟨⟨⟨⟨⟨⟨⟨⟨⟨⟨rfl, rfl⟩, rfl⟩, h4⟩, h5⟩, h6⟩, h7⟩, h8⟩, h9⟩, h10⟩, h11⟩, h12⟩ := h
      obtain ⟨I, i1, i2⟩ := fldC_ok h7
      obtain ⟨J, j1, j2⟩ := fldC_ok h8
      rw [i1] at j1; cases j1
      exact st_setAt2 C h4 h5 h6 i1 i2 j2 h9 h10 ((sndE a).v C h11) ((sndE b).v C h12)
    · cases h
  | .app o e, st, h => by
    simp only [chkSt] at h
    split at h
    · split at h
      · rename_i hs
        obtain ⟨apos, cpos, rfl, g1, g2⟩ := shapeM_ok hs
        simp only [Bool.and_eq_true] at h
        exact st_app g1 h.1.1 g2 ((sndE o).v C h.1.2) ((sndE e).v C h.2)
      · cases h
    · cases h
  | .appOwn i e, st, h => by
    simp only [chkSt] at h
    split at h
    · split at h
      · rename_i hs
        obtain ⟨apos, cpos, rfl, g1, g2⟩ := shapeM_ok hs
        simp only [Bool.and_eq_true] at h
        obtain ⟨x, p, rfl, n1, n2, n3⟩ := nmB_ok h.1.1
        exact st_appOwn C n1 n2 n3 h.1.2 g2 ((sndE e).v C h.2)
      · cases h
    · cases h
  | .extOwn i f, st, h => by
    simp only [chkSt] at h
    split at h
    · split at h
      · rename_i hs
        obtain ⟨apos, cpos, rfl, g1, g2⟩ := shapeM_ok hs
        simp only [Bool.and_eq_true] at h
        obtain ⟨x, p, rfl, n1, n2, n3⟩ := nmB_ok h.1.1
        exact st_extOwn C n1 n2 n3 h.1.2 g2 (sndF f S X _ C h.2).1
      · cases h
    · cases h
theorem sndSs (C : CxOk ε T Γ S X) : ∀ (is : ISs) (sts : List Stmt), chkSs T S is sts = true → PSs X sts (rdSs ε Γ is)
  | .nil, sts, h => by
    cases sts with
    | nil => exact ss_nil
    | cons _ _ => simp [chkSs] at h
  | .cons i is, sts, h => by
    cases sts with
    | nil => simp [chkSs] at h
    | cons st sts =>
      simp only [chkSs, Bool.and_eq_true] at h
      exact ss_cons (sndSt C i st h.1) (sndSs C is sts h.2)
end
end
end FH
end
section
/-! FH20: defs, and all defs together. -/
namespace FH
open PySem PySem.Spec PyProof.Rows L2
section
variable {ε : Ev} {P : Program} {w : World} {K : PySem.W.Frag} {mg : Str → Option Value} {base : Heap}
/-- a def by its body, where nothing is being shown -/
theorem fnG_by {x qual : Str} {st : Stmt} {f : Addr} {fd : FuncData} {N ps : List Str} {k : Nat} {sp : Sp} (F : Fun K x qual st f fd) (S : FnScope N ps (defScope st)) (hlen : ∀ vs H Q E, sp vs H Q E → vs.length = ps.length)
    (go : ∀ (cdv : Value) (A : Around) (outer : List Env) (s : Shared) (H : Hp) (vs : List V) (Q : VK), Room k (A.deeper (envOfC qual (defScope st) s.heap.objs.size f cdv)) → A.guards = some [] → sp vs H Q E0 →
      ∃ t : TS, PSs (cxOf CX0 P w K mg base N qual (defScope st) f cdv A outer s H E0).nox (defBody st) t ∧ t ⟨fun _ H' => Q .non H', Q, fun _ _ => False, fun _ _ => False⟩ (L2.start N vs) H) : FnG P w K mg base (k + 1) f fd ps sp := by
  obtain ⟨oc, od, kV, doc, pm, an, cdv, ct, osl, rfl, look, code⟩ := F.ex
  refine ⟨hlen, fun A outer s H args us vs Q room gd env bind rel hsp => ?_⟩
  have inK : K.In s.heap := env.mod.kin.keeps fun b o e => (env.bs b o e).1
  have free : s.heap.NoLimit := env.mod.nolimit.keeps fun b o e => (env.bs b o e).1
  have kinds : ∀ y ∈ ps.zip us, (defScope st).names.lookup y.1 = some .local ∨ ((defScope st).names.lookup y.1 = some .cell ∧ ((cellsFrom (s.heap.objs.size + 1) (defScope st).names []).lookup y.1).isSome = true) := by
    rintro ⟨n, v⟩ hy
    refine (S.par n (List.of_mem_zip hy).1).elim .inl fun q => .inr ⟨q, ?_⟩
    exact PySem.W.cellsFrom_some _ _ _ (.inl q)
  refine codeAny_call_function room.depth (inK _ _ look) rfl S.co S.gen rfl (PySem.W.codeRec_of inK code) (bind _ _ _ _ (wpAny_newFunctionEnv_cells S.kind kinds fun e he s1 x => ?_))
  subst he
  refine ⟨free.keeps x.toInCall.keep, codeAny_func ?_⟩
  obtain ⟨t, body, read⟩ := go cdv A outer s H vs Q (room.deeper _) gd hsp
  have start1 := inv_start (CX := CX0) (P := P) (w := w) (E := E0) (f := f) (cd := cdv) S room.hd env (hlen _ _ _ _ hsp) rel x
  refine wpAny_mono (body.nox.run [] s1 (L2.start N vs) H _ start1 read) (fun fl s2 hs => ?_) fun e s2 hs => hs
  cases fl with
  | ret u => obtain ⟨v, σ2, H2, J, r, q⟩ := hs; exact ⟨v, H2, J.os, J.bare, J.base, J.hok, r, q⟩
  | next => obtain ⟨σ2, H2, J, q⟩ := hs; exact ⟨.non, H2, J.os, J.bare, J.base, J.hok, rfl, q⟩
  | brk => obtain ⟨_, _, _, q⟩ := hs; exact q.elim
  | cont => obtain ⟨_, _, _, q⟩ := hs; exact q.elim
/-- a def of the program: its text and its term -/
structure FDef where
  at_ : Str × Option Str
  name : Str
  qual : Str
  st : Stmt
  ps : List Str
  N : List Str
  fn : FH.Fn
def scopeB (N ps : List Str) (sc : Scope) : Bool :=
  (match sc.kind with | .function => true | _ => false) && (!sc.isCoroutine && (!sc.isGenerator && (decide N.Nodup && (decide (N.take ps.length = ps) && (ps.all (fun x => match sc.names.lookup x with | some .local => true | some .cell => true | _ => false) &&
    sc.names.all fun y => match y.2 with | .free => false | _ => true)))))
theorem scopeB_ok {N ps : List Str} {sc : Scope} (h : scopeB N ps sc = true) : FnScope N ps sc := by
  simp only [scopeB, Bool.and_eq_true, Bool.not_eq_true', decide_eq_true_eq, List.all_eq_true] at h
  obtain ⟨h1, h2, h3, h4, h5, h6, h7⟩ := h
  refine ⟨?_, h2, h3, h4, h5, fun x hx => ?_, fun y hy e => ?_⟩
  · split at h1
    · assumption
    · cases h1
  · have q := h6 x hx
    split at q
    · exact .inl (by assumption)
    · exact .inr (by assumption)
    · cases q
  · have q := h7 y hy
    rw [e] at q; cases q
def FDef.ok (T : Tab) (F : FDef) : Bool :=
  scopeB F.N F.ps (defScope F.st) && decide (F.fn.np = F.ps.length) && decide (F.fn.size = F.N.length) && chkSs T ⟨F.N, defScope F.st, none⟩ F.fn.body (defBody F.st)
/-- what is known of the program behind its top -/
structure Mdl (ε : Ev) (T : Tab) (fs : List FDef) (w : World) (K : PySem.W.Frag) (mg : Str → Option Value) : Prop where
  k : ε.K = K
  gl : ∀ X : Cx, X.K = K → X.w = w → X.mg = mg → ∀ x, GOk ε X x (T.look x)
  cls : ∀ X : Cx, X.K = K → ∀ (c : Nat) (I : CI), T.c[c]? = some I → ClOk ε X c I
  fn : ∀ (i : Nat) (F : FDef), fs[i]? = some F → ∃ fd, Fun K F.name F.qual F.st (ε.fa i) fd ∧ Binds K fd F.ps []
  ok : ∀ (i : Nat) (F : FDef), fs[i]? = some F → F.ok T = true
theorem own_none : ∀ (ds : List D) (n : Nat) (σ : L2.St), ownA (ds.map Slot.val ++ List.replicate n .emp) σ = []
  | [], 0, σ => by cases σ <;> rfl
  | [], n + 1, [] => rfl
  | [], n + 1, o :: σ => by
    have ih := own_none [] n σ
    simpa [List.replicate_succ, ownA] using ih
  | d :: ds, n, [] => by simp [ownA]
  | d :: ds, n, o :: σ => by
    have ih := own_none ds n σ
    simpa [ownA] using ih
theorem slots0 {φ : List Addr} {H : Hp} : ∀ {ds : List D} {vs : List V} (n : Nat), EncL ε φ H vs ds → Paired (SlotOk ε φ H) (ds.map Slot.val ++ List.replicate n .emp) (vs.map some ++ List.replicate n none)
  | [], _, 0, h => by cases h; exact .nil
  | [], _, n + 1, h => by
    have h0 := h
    cases h
    exact .cons trivial (slots0 n h0)
  | d :: ds, _, n, h => by
    cases h with
    | cons q r => exact .cons ⟨_, rfl, q⟩ (slots0 n r)
def fnsOf (fs : List FDef) : List FH.Fn := fs.map (·.fn)
/-- one def, if those that it calls keep theirs -/
theorem def_ok {T : Tab} {fs : List FDef} (M : Mdl ε T fs w K mg) {k : Nat} {Γ : Env2} (hf : ∀ X : Cx, X.prog = P → X.w = w → X.K = K → X.mg = mg → X.base = base → ∀ f, FOk ε X k Γ.fns f)
    (hi : (∃ j, k = j + 1 ∧ ∀ X : Cx, X.prog = P → X.w = w → X.K = K → X.mg = mg → X.base = base → ∀ f, FOk ε X j Γ.inits f) ∨ ∀ f ds μ, Γ.inits f ds μ = none) (f : Nat) (some_ : ∃ ds μ r, callF (fnsOf fs) Γ f ds μ = some r) :
    ∃ fd ps, FnG P w K mg base (k + 1) (ε.fa f) fd ps (spOf ε (callF (fnsOf fs) Γ f)) ∧ Binds K fd ps [] ∧ PySem.W.keepIn K (.ref (ε.fa f)) = true := by
  obtain ⟨F, hF⟩ : ∃ F, fs[f]? = some F := by
    obtain ⟨ds, μ, r, e⟩ := some_
    unfold callF at e
    split at e
    · rename_i G hG
      simp only [fnsOf, List.getElem?_map, Option.map_eq_some_iff] at hG
      obtain ⟨F, hF, _⟩ := hG
      exact ⟨F, hF⟩
    · cases e
  have hG : (fnsOf fs)[f]? = some F.fn := by simp [fnsOf, hF]
  obtain ⟨fd, U, B⟩ := M.fn f F hF
  have ok := M.ok f F hF
  simp only [FDef.ok, Bool.and_eq_true, decide_eq_true_eq] at ok
  obtain ⟨⟨⟨k1, k2⟩, k3⟩, k4⟩ := ok
  have SC0 := scopeB_ok k1
  refine ⟨fd, F.ps, fnG_by U SC0 (fun vs H Q E h => ?_) (fun cdv A outer s H vs Q room gd h => ?_), B, U.kp⟩
  · obtain ⟨φ, ds, μ, r, μ', h1, h2, h3, h4⟩ := h
    unfold callF at h3
    rw [hG] at h3
    simp only at h3
    split at h3
    · rename_i hl; rw [h1.length, hl, k2]
    · cases h3
  · obtain ⟨φ, ds, μ, r, μ', h1, h2, h3, h4⟩ := h
    unfold callF at h3
    rw [hG] at h3
    simp only at h3
    split at h3
    · rename_i hl
      have C : CxOk ε T Γ ⟨F.N, defScope F.st, none⟩ (cxOf CX0 P w K mg base F.N F.qual (defScope F.st) (ε.fa f) cdv A outer s H E0).nox := {
        K := M.k
        N := rfl
        nd := SC0.nd
        sc := rfl
        calm := rfl
        xe := rfl
        gd := gd
        hu := by
          have h := room.un
          show (A.deeper (envOfC F.qual (defScope F.st) s.heap.objs.size (ε.fa f) cdv)).units + 200 < cLine
          omega
        fn := fun _ => rfl
        gl := M.gl _ rfl rfl rfl
        fns := ⟨k, room, hf _ rfl rfl rfl rfl rfl⟩
        inits := by
          rcases hi with ⟨j, rfl, hi⟩ | hi
          · exact ⟨j, .inl ⟨room, hi _ rfl rfl rfl rfl rfl⟩⟩
          · exact ⟨0, .inr hi⟩
        cls := M.cls _ rfl }
      refine ⟨_, sndSs C F.fn.body _ k4, ?_⟩
      have hn : F.fn.size - ds.length = F.N.length - vs.length := by rw [k3, h1.length]
      have own0 : ∀ σ, ownA (start0 F.fn ds) σ = [] := fun σ => own_none ds _ σ
      have R : Rel ε φ (start0 F.fn ds) μ (L2.start F.N vs) H := ⟨h2, by unfold start0 L2.start; rw [hn]; exact slots0 _ h1, by rw [own0]; exact List.nodup_nil, fun a ha => by rw [own0] at ha; simp at ha⟩
      have fin : ∀ {φ2 : List Addr} {ρ2 : Slots} {μ2 : Store} {σ2 : L2.St} {H2 : Hp}, StP ε φ (start0 F.fn ds) (L2.start F.N vs) H φ2 ρ2 μ2 σ2 H2 → Res ε φ H φ2 μ2 H2 := fun x => ⟨⟨x.more, x.grow, fun b o e nb => x.keep b o e nb (by rw [own0]; simp), x.there⟩, x.rel.sto⟩
      split at h3
      · rename_i d ρ2 μ2 he
        cases h3
        exact ⟨φ, _, μ, _, _, _, R, he, fun φ2 σ2 H2 x v y => h4 φ2 v H2 (fin x) y⟩
      · rename_i ρ2 μ2 he
        cases h3
        exact ⟨φ, _, μ, _, _, _, R, he, fun φ2 σ2 H2 x => h4 φ2 .non H2 (fin x) .non⟩
      · cases h3
    · cases h3
/-- all defs, to any depth -/
theorem all_ok {T : Tab} {fs : List FDef} (M : Mdl ε T fs w K mg) : ∀ k : Nat,
    (∀ X : Cx, X.prog = P → X.w = w → X.K = K → X.mg = mg → X.base = base → ∀ f, FOk ε X k (runP (fnsOf fs) k).1 f) ∧
    ((∃ j, k = j + 1 ∧ ∀ X : Cx, X.prog = P → X.w = w → X.K = K → X.mg = mg → X.base = base → ∀ f, FOk ε X j (runP (fnsOf fs) k).2 f) ∨ ∀ f ds μ, (runP (fnsOf fs) k).2 f ds μ = none)
  | 0 => ⟨fun X _ _ _ _ _ f ⟨ds, μ, r, e⟩ => (nomatch e), .inr fun _ _ _ => rfl⟩
  | k + 1 => by
    obtain ⟨h1, h2⟩ := all_ok M k
    refine ⟨fun X e1 e2 e3 e4 e5 f hs => ?_, .inl ⟨k, rfl, h1⟩⟩
    subst e1; subst e2; subst e3; subst e4; subst e5
    exact def_ok M (Γ := ⟨(runP (fnsOf fs) k).1, (runP (fnsOf fs) k).2⟩) h1 h2 f hs
end
end FH
end
section
/-! FH21: the law's own call. -/
namespace FH
open PySem PySem.Spec PyProof.Rows L2
section
variable {P : Program} {w : World} {K : PySem.W.Frag} {mg mb : Str → Option Value}
theorem enc_ints {ε : Ev} {φ : List Addr} {H : Hp} : ∀ ns : List Int, EncL ε φ H (ns.map V.int) (ns.map D.int)
  | [] => .nil
  | n :: ns => .cons (.int n) (enc_ints ns)
/-- what the caller wants of the law -/
def LawEnd (s : Shared) (r : Result) (s' : Shared) : Prop := r = .ok (.ret (.bool true)) ∧ OldK s.heap s'.heap ∧ s'.os = s.os ∧ AllBare s'.gens
/-- from an abstract heap that holds the script at most -/
theorem law_from {k : Nat} {fa a : Addr} {sp : Sp} {s : Shared} {vs : List Value} (inK : K.In s.heap) (names : s.heap.Ns mainGlobals mg) (builtins : s.heap.Ns builtinsNs mb) (bltOk : ∀ x : Str, x ≠ "__name__" → mb x = bootBuiltins x) (free : s.heap.NoLimit) (gens : s.gens = #[])
    (at_ : s.heap.get? a = some { cls := .type "list", data := .seq vs.toArray }) (room : Room k callerA) (F : ∀ base : Heap, ∃ fd ps, FnG P w K mg base k fa fd ps sp ∧ Binds K fd ps [])
    (H : Hp) (held : HOk P w H s.heap) (dom : ∀ b u, H b = some u → b = a ∧ K.lookup a = none ∧ ∃ o xs, u = .frz o (.lst xs)) (hsp : sp [.ref a] H (fun v _ => v = .bl true) E0) :
    codeAny (model P w) callerA (.call (.ref fa) ⟨[.ref a], []⟩) (LawEnd s) s := by
  have none_of : ∀ b, (b = a → K.lookup a ≠ none) → H b = none := fun b hb => by
    cases e : H b with
    | none => rfl
    | some u => obtain ⟨h1, h2, _⟩ := dom b u e; exact absurd h2 (hb h1)
  have base1 : K.In (hidT s.heap H) := fun b o e => hidT_get (inK b o e) (none_of b fun z h => by rw [← z, e] at h; cases h)
  have ns1 : ∀ {b : Addr} {m : Str → Option Value}, s.heap.Ns b m → (hidT s.heap H).Ns b m := by
    rintro b m ⟨o, es, ep, e, d, r⟩
    refine ⟨o, es, ep, hidT_get e ?_, d, r⟩
    cases q : H b with
    | none => rfl
    | some u =>
      obtain ⟨rfl, _⟩ := dom b u q
      rw [at_] at e; cases e
      exact absurd (show Data.seq vs.toArray _ = Data.dict es ep from d) (fun z => nomatch z)
  obtain ⟨mc, c1, c2⟩ := free
  have mod : Mod K mg (hidT s.heap H) := ⟨base1, ns1 names, ⟨mb, ns1 builtins, bltOk⟩, mc, ns1 c1, c2⟩
  have env : Env0 P w K mg (hidT s.heap H) callerA [] s H := {
    frames := rfl
    mod := mod
    bs := fun b o e => of_hidT e
    bsz := Nat.le_of_eq (hidT_size _ _)
    funs := trivial
    frf := fun b hb => nomatch (show b ∈ ([] : List Addr) from hb)
    hok := held
    bare := .of_eq gens }
  obtain ⟨fd, ps, prom, bnd⟩ := F (hidT s.heap H)
  have bind := bnd s [.ref a] inK (prom.len _ _ _ _ hsp)
  refine codeAny_mono (prom.run callerA [] s H ⟨[.ref a], []⟩ [.ref a] [.ref a] _ room rfl env bind (.cons rfl .nil) hsp) fun r s2 h => ?_
  cases r with
  | error e => exact False.elim h
  | ok fl =>
    cases fl with
    | ret u =>
      obtain ⟨v, H2, os, bare, un, held2, rel, rfl⟩ := h
      obtain rfl : u = Value.bool true := rel
      refine ⟨rfl, OldK.of_keep fun b o e => ?_, os, bare⟩
      cases q : H b with
      | none => exact un.keep b o e q (fun z => nomatch (show b ∈ ([] : List Addr) from z)) (by simp)
      | some u =>
        obtain ⟨_, _, ob, xs, rfl⟩ := dom b u q
        have q2 := un.frzs b ob _ q
        have g1 := (held b _ q).1
        have g2 := (held2 b _ q2).1
        rw [e] at g1; cases g1
        exact g2
    | next => exact False.elim h
    | brk => exact False.elim h
    | cont => exact False.elim h
theorem law_run {ε : Ev} {T : Tab} {fs : List FDef} {k i : Nat} {a : Addr} {s : Shared} {vs : List Value} {ns : List Int} {μ' : Store} (M : Mdl ε T fs w K mg)
    (inK : K.In s.heap) (names : s.heap.Ns mainGlobals mg) (builtins : s.heap.Ns builtinsNs mb) (bltOk : ∀ x : Str, x ≠ "__name__" → mb x = bootBuiltins x) (free : s.heap.NoLimit) (gens : s.gens = #[])
    (at_ : s.heap.get? a = some { cls := .type "list", data := .seq vs.toArray }) (hi : IntsAre vs ns) (hl : ns.length ≤ sizeLine) (room : Room k callerA) (hrun : run (fnsOf fs) k i [.lst (ns.map .int)] [] = some (.bl true, μ')) :
    codeAny (model P w) callerA (.call (.ref (ε.fa i)) ⟨[.ref a], []⟩) (LawEnd s) s := by
  have rel := vals_ints hi
  have prom : ∀ base : Heap, ∃ fd ps, FnG P w K mg base k (ε.fa i) fd ps (spOf ε (run (fnsOf fs) k i)) ∧ Binds K fd ps [] := fun base => by
    obtain ⟨fd, ps, h1, h2, _⟩ := (all_ok (P := P) (base := base) M k).1 (cxOf CX0 P w K mg base [] "" ⟨.function, [], false, false, []⟩ 0 .none callerA [] s (fun _ => none) E0) rfl rfl rfl rfl rfl i ⟨_, _, _, hrun⟩
    exact ⟨fd, ps, h1, h2⟩
  have ready : ∀ H : Hp, FzL K H a (ns.map V.int) → spOf ε (run (fnsOf fs) k i) [.ref a] H (fun v _ => v = .bl true) E0 := fun H hz =>
    ⟨[], [.lst (ns.map .int)], [], .bl true, μ', .cons (.lst (by rw [M.k]; exact hz) (enc_ints ns)) .nil, ⟨rfl, List.nodup_nil, fun n b c e => by simp at e⟩, hrun, fun φ' v H' _ y => by cases y; rfl⟩
  cases hk : K.lookup a with
  | some o =>
    have e := inK a o hk
    rw [at_] at e
    cases e
    exact law_from inK names builtins bltOk free gens at_ room prom (fun _ => none) (fun b u z => nomatch (show (none : Option HO) = some u from z)) (fun b u z => nomatch (show (none : Option HO) = some u from z)) (ready _ (.inr ⟨vs, _, hk, by rw [List.length_map]; exact hl, rel⟩))
  | none =>
    refine law_from inK names builtins bltOk free gens at_ room prom (L2.upd (fun _ => none) a (.frz { cls := .type "list", data := .seq vs.toArray } (.lst (ns.map V.int)))) (fun b u z => ?_) (fun b u z => ?_) (ready _ (.inl ⟨_, upd_same⟩))
    · by_cases hb : b = a
      · subst hb
        rw [upd_same] at z; cases z
        exact ⟨at_, by rw [List.length_map]; exact hl, vs, _, rel, at_⟩
      · rw [upd_ne hb] at z; cases z
    · by_cases hb : b = a
      · subst hb
        rw [upd_same] at z; cases z
        exact ⟨rfl, hk, _, _, rfl⟩
      · rw [upd_ne hb] at z; cases z
/-- THE END: the law's walk, from its plain meaning -/
theorem walk_fh {l : PySem.W.OpenLaw} {n : Nat} {q : Program} {loose : List Str} {XP : (Str → Option Value) → Heap → Prop} {YP : World → Heap → Prop} {d : DefRec} (hn : l.most = some n) (hn2 : n ≤ sizeLine) (hdf : d.params.defaults = [])
    {T : Tab} {fs : List FDef} {k i : Nat} (room : Room k callerA)
    (F : ∀ (w : World) (mg : Str → Option Value) (fa : Addr) (h : Heap), YP w h → h.Ns mainGlobals mg → mg d.name = some (.ref fa) → ∃ (K : PySem.W.Frag) (ε : Ev), K.In h ∧ Mdl ε T fs w K mg ∧ ε.fa i = fa)
    (law : ∀ ns : List Int, ns.length ≤ n → ∃ μ, run (fnsOf fs) k i [.lst (ns.map .int)] [] = some (.bl true, μ)) :
    PySem.W.WalkO q loose XP YP l.row.toRowW d [] (fun f vs => PySem.call f vs) := by
  refine Att.attach_call hn hdf fun w s₀ s₁ mg mb fa o pm cd doc a vs ns G Y ho hd hcd name obj its len gens => ?_
  obtain ⟨K, ε, inK, M, rfl⟩ := F w mg fa _ Y G.T.g name
  obtain ⟨μ, hrun⟩ := law ns len
  exact law_run M inK G.T.g G.T.b G.T.builtins G.T.nolimit gens obj its (Nat.le_trans len hn2) room hrun
end
end FH
end
section
/-! FH22: what the top has left, by names. -/
namespace FH
open PySem PySem.Spec PyProof.Rows L2
/-- a program: its names, its defs, its classes -/
structure Prg where
  T : Tab
  fs : List FDef
  cs : List Str
def gFa (x : Str) : G → List He.Fa
  | .no => [.free x]
  | .fn _ => [.glo x]
  | .cls _ => [.glo x]
  | .dct _ => [.glo x]
  | _ => []
def cFa (x : Str) (I : CI) : List He.Fa := .cls x :: ((match I.init with | some _ => [.mkr x] | none => []) ++ (I.flds.map (.noat x) ++ I.meths.map fun m => .meth x m.1))
def Prg.fa (P : Prg) : List He.Fa := (P.T.g.flatMap fun p => gFa p.1 p.2) ++ (P.cs.zip P.T.c).flatMap fun q => cFa q.1 q.2
def FDef.d (F : FDef) : He.DefD := ⟨F.at_, F.name, F.qual, defArgs F.st, defBody F.st, defScope F.st, [], []⟩
def Prg.fn (P : Prg) : List He.DefD := P.fs.map FDef.d
def Prg.ts (P : Prg) : List He.Tab := P.T.g.filterMap fun p => match p.2 with
  | .dct kvs => some (fun K => He.ga K p.1, kvs.map (·.1))
  | _ => none

mutual
def encB (K : PySem.W.Frag) : D → Value → Bool
  | .non, .none => true
  | .bl b, .bool c => b == c
  | .int i, .int j _ => decide (i = j)
  | .str x, .str y _ => decide (x = y)
  | .tup ds, .ref a => (match K.lookup a with
    | some ⟨.type c, _, .seq its _, _⟩ => decide (c = "tuple") && (decide (its.size ≤ sizeLine) && encBs K ds its.toList)
    | _ => false)
  | .lst ds, .ref a => (match K.lookup a with
    | some ⟨.type c, none, .seq its _, sl⟩ => decide (c = "list") && (sl.isEmpty && (decide (its.size ≤ sizeLine) && encBs K ds its.toList))
    | _ => false)
  | _, _ => false
def encBs (K : PySem.W.Frag) : List D → List Value → Bool
  | [], [] => true
  | d :: ds, u :: us => encB K d u && encBs K ds us
  | _, _ => false
end
def conB (K : PySem.W.Frag) (x : Str) (d : D) : Bool := match PySem.W.nsIn K mainGlobals x with
  | some (some u) => encB K d u
  | _ => false
def dctB (K : PySem.W.Frag) (x : Str) (kvs : List (Str × D)) : Bool := kvs.all fun q => match PySem.W.nsIn K (He.ga K x) q.1 with
  | some (some u) => encB K q.2 u
  | _ => false
def Prg.ex (P : Prg) (K : PySem.W.Frag) : Bool := P.T.g.all fun p => match p.2 with
  | .con d => conB K p.1 d
  | .dct kvs => dctB K p.1 kvs
  | _ => true
/-- where things stand, told by the tables alone -/
def Prg.atB (P : Prg) : Bool := (P.T.g.all fun p => match p.2 with
    | .fn f => decide ((P.fs[f]?).map (·.at_) = some (p.1, none))
    | .cls c => decide (P.cs[c]? = some p.1)
    | _ => true) && ((P.cs.zip P.T.c).all fun q => (match q.2.init with
    | some f => decide ((P.fs[f]?).map (·.at_) = some (q.1, some ("__init__" : Str)))
    | none => true) && q.2.meths.all fun m => decide ((P.fs[m.2]?).map (·.at_) = some (q.1, some m.1))) && decide (P.cs.length = P.T.c.length)
def Prg.okB (P : Prg) : Bool := P.fs.all (·.ok P.T)
/-- how a def's parameters bind -/
def FDef.BindsF (F : FDef) : Prop := ∀ (kV doc pm : Value) (an : Option Addr) (cdv ct : Value) (us : List Value), us.length = F.ps.length →
  bindArgs (PySem.W.fnOf F.name F.qual (defArgs F.st) (defBody F.st) (defScope F.st) .none kV doc pm an cdv ct) ⟨us, []⟩ = pure (F.ps.zip us)
def AllB : List FDef → Prop
  | [] => True
  | F :: r => F.BindsF ∧ AllB r
theorem AllB.at : ∀ {fs : List FDef} {i : Nat} {F : FDef}, AllB fs → fs[i]? = some F → F.BindsF
  | _ :: _, 0, F, h, e => by simp at e; subst e; exact h.1
  | _ :: _, i + 1, F, h, e => AllB.at h.2 (by simpa using e)
  | [], _, _, _, e => by simp at e
def Prg.ev (P : Prg) (K : PySem.W.Frag) : Ev where
  K := K
  fa := fun i => match P.fs[i]? with | some F => He.fAd K F.at_ | none => 0
  ca := fun c => match P.cs[c]? with | some x => He.ga K x | none => 0
section
variable {K : PySem.W.Frag}
mutual
theorem encB_ok : ∀ {d : D} {u : Value}, encB K d u = true → ∃ v, RelV v u ∧ ∀ (ε : Ev) (φ : List Addr) (H : Hp), ε.K = K → Enc ε φ H v d
  | .non, u, h => by cases u <;> (first | (simp [encB] at h; done) | exact ⟨.non, rfl, fun _ _ _ _ => .non⟩)
  | .bl b, u, h => by
    cases u <;> (first | (simp [encB] at h; done) | skip)
    have e := beq_iff_eq.mp (show (b == _) = true by simpa only [encB] using h)
    subst e
    exact ⟨.bl b, rfl, fun _ _ _ _ => .bl b⟩
  | .int b, u, h => by
    cases u <;> (first | (simp [encB] at h; done) | skip)
    simp only [encB, decide_eq_true_eq] at h
    subst h
    exact ⟨.int b, ⟨_, rfl⟩, fun _ _ _ _ => .int b⟩
  | .str b, u, h => by
    cases u <;> (first | (simp [encB] at h; done) | skip)
    simp only [encB, decide_eq_true_eq] at h
    subst h
    exact ⟨.str b, ⟨_, rfl⟩, fun _ _ _ _ => .str b⟩
  | .tup ds, u, h => by
    cases u <;> (first | (simp [encB] at h; done) | skip)
    rename_i a
    simp only [encB] at h
    split at h
    · rename_i c od its n sl e
      simp only [Bool.and_eq_true, decide_eq_true_eq] at h
      obtain ⟨rfl, h2, h3⟩ := h
      obtain ⟨vs, r, q⟩ := encBs_ok h3
      exact ⟨.ref a, rfl, fun ε φ H hk => .tup (.inr ⟨_, its, n, by rw [hk]; exact e, rfl, rfl, h2, r⟩) (q ε φ H hk)⟩
    · cases h
  | .lst ds, u, h => by
    cases u <;> (first | (simp [encB] at h; done) | skip)
    rename_i a
    simp only [encB] at h
    split at h
    · rename_i c its n sl e
      simp only [Bool.and_eq_true, decide_eq_true_eq] at h
      obtain ⟨rfl, h1, h2, h3⟩ := h
      obtain ⟨vs, r, q⟩ := encBs_ok h3
      have e2 := Array.isEmpty_iff.mp h1
      subst e2
      have hl := r.length
      refine ⟨.ref a, rfl, fun ε φ H hk => .lst (.inr ⟨its.toList, n, by rw [hk]; simpa using e, ?_, r⟩) (q ε φ H hk)⟩
      rw [hl, Array.length_toList]; exact h2
    · cases h
  | .ref _, u, h => by cases u <;> simp [encB] at h
  | .fn _, u, h => by cases u <;> simp [encB] at h
  | .ty _, u, h => by cases u <;> simp [encB] at h
theorem encBs_ok : ∀ {ds : List D} {us : List Value}, encBs K ds us = true → ∃ vs, Vals vs us ∧ ∀ (ε : Ev) (φ : List Addr) (H : Hp), ε.K = K → EncL ε φ H vs ds
  | [], [], _ => ⟨[], .nil, fun _ _ _ _ => .nil⟩
  | [], _ :: _, h => by simp [encBs] at h
  | _ :: _, [], h => by simp [encBs] at h
  | d :: ds, u :: us, h => by
    simp only [encBs, Bool.and_eq_true] at h
    obtain ⟨v, r, q⟩ := encB_ok h.1
    obtain ⟨vs, r2, q2⟩ := encBs_ok h.2
    exact ⟨v :: vs, .cons r r2, fun ε φ H hk => .cons (q ε φ H hk) (q2 ε φ H hk)⟩
end
theorem lookup_in {β : Type} {x : Str} {g : β} : ∀ {l : List (Str × β)}, l.lookup x = some g → (x, g) ∈ l
  | [], h => by cases h
  | (y, b) :: l, h => by
    rw [List.lookup_cons] at h
    split at h
    · rename_i e; cases h; rw [beq_iff_eq.mp e]; exact List.mem_cons_self
    · exact List.mem_cons_of_mem _ (lookup_in h)
theorem fun_of {F : FDef} {f : Addr} {fd : FuncData} (U : FunD K F.name F.qual (defArgs F.st) (defBody F.st) (defScope F.st) [] [] f fd) (B : F.BindsF) : Fun K F.name F.qual F.st f fd ∧ Binds K fd F.ps [] := by
  refine ⟨⟨?_, U.kp⟩, U.bindsN B⟩
  obtain ⟨oc, od, dV, kV, doc, pm, an, cdv, ct, osl, e, lk, hcd, hD, _⟩ := U.ex
  rcases hD with ⟨_, rfl⟩ | ⟨z, _⟩
  · exact ⟨oc, od, kV, doc, pm, an, cdv, ct, osl, e, lk, hcd⟩
  · exact absurd rfl z
theorem mdl_of {P : Prg} {w : World} {h : Heap} {mg : Str → Option Value} (a1 : P.atB = true) (a2 : P.okB = true) (bnd : AllB P.fs) (inK : K.In h) (ns : h.Ns mainGlobals mg) (c : He.SaysX P.fa P.fn P.ts [] P.ex w h K) : Mdl (P.ev K) P.T P.fs w K mg := by
  simp only [Prg.atB, Bool.and_eq_true, List.all_eq_true, decide_eq_true_eq] at a1
  obtain ⟨⟨at1, at2⟩, at3⟩ := a1
  have ex := List.all_eq_true.mp c.more
  have fact : ∀ f ∈ P.fa, f.ok K = true := fun f hf => c.t.d.facts hf
  have fg : ∀ x g f, (x, g) ∈ P.T.g → f ∈ gFa x g → f.ok K = true := fun x g f h1 h2 => fact f (List.mem_append_left _ (List.mem_flatMap.mpr ⟨(x, g), h1, h2⟩))
  refine ⟨rfl, fun X hK hw hm x => ?_, fun X hK cn I hI => ?_, fun i F hF => ?_, fun i F hF => List.all_eq_true.mp a2 F (List.mem_of_getElem? hF)⟩
  · subst hK; subst hw; subst hm
    unfold Tab.look
    cases e : P.T.g.lookup x with
    | none => trivial
    | some g =>
      have hx := lookup_in e
      cases g with
      | unk => trivial
      | no => exact He.free_ok inK ns (fg x _ _ hx (by simp [gFa]))
      | con d =>
        have z := ex (x, .con d) hx
        simp only [conB] at z
        split at z
        · rename_i u hu
          obtain ⟨v, r, q⟩ := encB_ok z
          exact ⟨u, v, PySem.W.mg_of inK ns hu, r, fun φ H => q _ φ H rfl⟩
        · cases z
      | fn f =>
        have z := at1 (x, .fn f) hx
        simp only [Option.map_eq_some_iff, decide_eq_true_eq] at z
        obtain ⟨F, z1, z2⟩ := z
        have g := He.glo_ok inK ns (fg x _ (.glo x) hx (by simp [gFa]))
        show X.mg x = some (.ref ((P.ev X.K).fa f))
        rw [g]
        show _ = some (Value.ref (match P.fs[f]? with | some F => He.fAd X.K F.at_ | none => 0))
        rw [z1]
        show _ = some (Value.ref (He.fAd X.K F.at_))
        rw [z2]; rfl
      | cls cn =>
        have z := at1 (x, .cls cn) hx
        simp only [decide_eq_true_eq] at z
        have g := He.glo_ok inK ns (fg x _ (.glo x) hx (by simp [gFa]))
        show X.mg x = some (.ref ((P.ev X.K).ca cn))
        rw [g]
        show _ = some (Value.ref (match P.cs[cn]? with | some x => He.ga X.K x | none => 0))
        rw [z]
      | dct kvs =>
        have z := ex (x, .dct kvs) hx
        have g := He.glo_ok inK ns (fg x _ (.glo x) hx (by simp [gFa]))
        refine ⟨_, g, fun y d hy => ?_⟩
        have hy2 := lookup_in hy
        have z2 := List.all_eq_true.mp (show (kvs.all fun q => match PySem.W.nsIn X.K (He.ga X.K x) q.1 with | some (some u) => encB X.K q.2 u | _ => false) = true from z) (y, d) hy2
        simp only at z2
        split at z2
        · rename_i u hu
          obtain ⟨v, r, q⟩ := encB_ok z2
          have ht : ((fun K => He.ga K x, kvs.map (·.1)) : He.Tab) ∈ P.ts := List.mem_filterMap.mpr ⟨(x, .dct kvs), hx, rfl⟩
          obtain ⟨i, hi, e2⟩ := List.mem_iff_getElem.mp ht
          obtain ⟨es, n, D⟩ := c.t.tab i (t := (fun K => He.ga K x, kvs.map (·.1))) (by rw [List.getElem?_eq_getElem hi, e2])
          exact ⟨v, ⟨es, n, u, D.at_, D.lit, hu, r⟩, fun φ H => q _ φ H rfl⟩
        · cases z2
  · subst hK
    have hl := (List.getElem?_eq_some_iff.mp hI).1
    obtain ⟨x, hx⟩ : ∃ x, P.cs[cn]? = some x := ⟨P.cs[cn], by simp [show cn < P.cs.length by omega]⟩
    have hz : (x, I) ∈ P.cs.zip P.T.c := List.mem_of_getElem? (i := cn) (List.getElem?_zip_eq_some.mpr ⟨hx, hI⟩)
    have fc : ∀ f, f ∈ cFa x I → f.ok X.K = true := fun f hf => fact f (List.mem_append_right _ (List.mem_flatMap.mpr ⟨(x, I), hz, hf⟩))
    have eca : (P.ev X.K).ca cn = He.ga X.K x := by
      show (match P.cs[cn]? with | some x => He.ga X.K x | none => 0) = _
      rw [hx]
    obtain ⟨q1, q2⟩ := at2 (x, I) hz
    refine ⟨?_, fun m f hm => ?_, fun f hf => ?_, fun f hf => ?_⟩
    · rw [eca]; exact He.cls_ok (fc (.cls x) List.mem_cons_self)
    · rw [eca]
      have hm2 := lookup_in hm
      have z := q2 (m, f) hm2
      simp only [Option.map_eq_some_iff, decide_eq_true_eq] at z
      obtain ⟨F, z1, z2⟩ := z
      have e : (P.ev X.K).fa f = He.ma X.K (He.ga X.K x) m := by
        show (match P.fs[f]? with | some F => He.fAd X.K F.at_ | none => 0) = _
        rw [z1]
        show He.fAd X.K F.at_ = _
        rw [z2]; rfl
      rw [e]
      exact He.meth_ok (fc (.meth x m) (List.mem_cons_of_mem _ (List.mem_append_right _ (List.mem_append_right _ (List.mem_map.mpr ⟨(m, f), hm2, rfl⟩)))))
    · rw [eca]
      exact He.noat_ok (fc (.noat x f) (List.mem_cons_of_mem _ (List.mem_append_right _ (List.mem_append_left _ (List.mem_map.mpr ⟨f, by simpa using hf, rfl⟩)))))
    · rw [eca]
      rw [hf] at q1
      simp only [Option.map_eq_some_iff, decide_eq_true_eq] at q1
      obtain ⟨F, z1, z2⟩ := q1
      have e : (P.ev X.K).fa f = He.ma X.K (He.ga X.K x) "__init__" := by
        show (match P.fs[f]? with | some F => He.fAd X.K F.at_ | none => 0) = _
        rw [z1]
        show He.fAd X.K F.at_ = _
        rw [z2]; rfl
      rw [e]
      exact He.mkr_ok (fc (.mkr x) (List.mem_cons_of_mem _ (List.mem_append_left _ (by rw [hf]; simp))))
  · have hd : F.d ∈ P.fn := List.mem_map.mpr ⟨F, List.mem_of_getElem? hF, rfl⟩
    obtain ⟨fd, U⟩ := c.t.d.defs hd
    obtain ⟨h1, h2⟩ := fun_of (F := F) U (bnd.at hF)
    have e : (P.ev K).fa i = He.fAd K F.at_ := by
      show (match P.fs[i]? with | some F => He.fAd K F.at_ | none => 0) = _
      rw [hF]
    exact ⟨fd, by rw [e]; exact h1, h2⟩
end
end FH
namespace FH
open PySem PySem.Spec PyProof.Rows L2
/-- what walk_fh asks, from the facts of a written part -/
theorem head_fh {P : Prg} {i : Nat} {K : PySem.W.Frag} {w : World} {h : Heap} {mg : Str → Option Value} {fa : Addr} {x : Str} (a1 : P.atB = true) (a2 : P.okB = true) (bnd : AllB P.fs) (lw : P.T.look x = .fn i) (inK : K.In h) (ns : h.Ns mainGlobals mg) (name : mg x = some (.ref fa))
    (c1 : He.SaysT P.fa P.fn P.ts w K) (c2 : P.ex K = true) : ∃ (K : PySem.W.Frag) (ε : Ev), K.In h ∧ Mdl ε P.T P.fs w K mg ∧ ε.fa i = fa := by
  have M := mdl_of a1 a2 bnd inK ns ⟨c1, c2, fun _ h => (nomatch h), fun _ h => (nomatch h), fun _ h => (nomatch h)⟩
  refine ⟨K, P.ev K, inK, M, ?_⟩
  have g := M.gl (cxOf CX0 default w K mg h [] "" ⟨.function, [], false, false, []⟩ 0 .none callerA [] {} (fun _ => none) E0) rfl rfl rfl x
  rw [lw] at g
  have g2 : mg x = some (.ref ((P.ev K).fa i)) := g
  rw [name] at g2
  cases g2; rfl
end FH
end
section
/-! FHP1: plain data that is like itself. -/
namespace FH
open PySem PySem.Spec PyProof.Rows L2
mutual
/-- data that can be compared and shown -/
def D.good : D → Bool
  | .non => true | .bl _ => true
  | .int i => decide (i.natAbs < 10 ^ 12)
  | .str x => PyData.strOk x
  | .tup ds => goodL ds
  | .lst ds => goodL ds
  | _ => false
def goodL : List D → Bool
  | [] => true
  | d :: ds => d.good && goodL ds
end
mutual
def D.wgt : D → Nat
  | .int _ => 41 | .str x => x.cps.size
  | .tup ds => wgtL ds | .lst ds => wgtL ds
  | _ => 0
def wgtL : List D → Nat
  | [] => 0
  | d :: ds => d.wgt + 1 + wgtL ds
end
mutual
def D.dep : D → Nat
  | .tup ds => depL ds + 1 | .lst ds => depL ds + 1
  | _ => 0
def depL : List D → Nat
  | [] => 0
  | d :: ds => max d.dep (depL ds)
end
structure Gd (d : D) (p : PyData) : Prop where
  py : d.py = some p
  lay : p.canLay0 = true
  short : p.leavesShort 13 = true
  show_ : p.showable = true
  w : p.weight ≤ d.wgt
  dp : p.depth = d.dep
structure GdL (d : List D) (p : List PyData) : Prop where
  py : pyL d = some p
  lay : PyData.canLayAll0 p = true
  short : PyData.leavesShortAll 13 p = true
  show_ : PyData.showableAll p = true
  w : PyData.weightAll p ≤ wgtL d
  dp : PyData.depthAll p = depL d
theorem int_small {i : Int} (h : i.natAbs < 10 ^ 12) : i.natAbs.log2 < 40 := by
  by_cases h0 : i.natAbs = 0
  · rw [h0]; decide
  · exact (Nat.log2_lt h0).mpr (Nat.lt_trans h (by decide))
mutual
theorem good_py : ∀ {d : D}, d.good = true → ∃ p, Gd d p
  | .non, _ => ⟨.none, rfl, rfl, rfl, rfl, Nat.le_refl _, rfl⟩
  | .bl b, _ => ⟨.bool b, rfl, rfl, rfl, rfl, Nat.le_refl _, rfl⟩
  | .int i, h => by
    simp only [D.good, decide_eq_true_eq] at h
    have h1 := int_small h
    refine ⟨.int i, rfl, rfl, ?_, ?_, ?_, rfl⟩
    · show decide ((PyData.shown (.int i)).length ≤ 13) = true
      have e := int_text_length_le10 (a := i) (k := 12) (by decide) h
      refine decide_eq_true ?_
      show (Str.ofString (toString i)).length ≤ 13
      rw [PySem.ofString_length]; exact e
    · simp only [PyData.showable, decide_eq_true_eq]; omega
    · simp only [PyData.weight, D.wgt]
      split <;> omega
  | .str x, h => by
    simp only [D.good] at h
    refine ⟨.str x, rfl, by simpa [PyData.canLay0] using h, ?_, rfl, Nat.le_refl _, rfl⟩
    simp only [PyData.leavesShort, List.all_eq_true, decide_eq_true_eq]
    intro c hc
    unfold PyData.strOk at h
    have := (Array.all_eq_true'.mp h) c (by simpa using hc)
    have h2 : c < 0x110000 := by simpa using this
    exact Nat.lt_trans h2 (by decide)
  | .tup ds, h => by
    simp only [D.good] at h
    obtain ⟨ps, g⟩ := goodL_py h
    exact ⟨.tuple ps, by simp [D.py, g.py], by simpa [PyData.canLay0] using g.lay, by simpa [PyData.leavesShort] using g.short, by simpa [PyData.showable] using g.show_, by simpa [PyData.weight, D.wgt] using g.w, by simp [PyData.depth, D.dep, g.dp]⟩
  | .lst ds, h => by
    simp only [D.good] at h
    obtain ⟨ps, g⟩ := goodL_py h
    exact ⟨.list ps, by simp [D.py, g.py], by simpa [PyData.canLay0] using g.lay, by simpa [PyData.leavesShort] using g.short, by simpa [PyData.showable] using g.show_, by simpa [PyData.weight, D.wgt] using g.w, by simp [PyData.depth, D.dep, g.dp]⟩
  | .ref _, h => by simp [D.good] at h
  | .fn _, h => by simp [D.good] at h
  | .ty _, h => by simp [D.good] at h
theorem goodL_py : ∀ {d : List D}, goodL d = true → ∃ p, GdL d p
  | [], _ => ⟨[], rfl, rfl, rfl, rfl, Nat.le_refl _, rfl⟩
  | d :: ds, h => by
    simp only [goodL, Bool.and_eq_true] at h
    obtain ⟨p, g⟩ := good_py h.1
    obtain ⟨ps, k⟩ := goodL_py h.2
    refine ⟨p :: ps, by simp [pyL, g.py, k.py], by simp [PyData.canLayAll0, g.lay, k.lay], by simp [PyData.leavesShortAll, g.short, k.short], by simp [PyData.showableAll, g.show_, k.show_], ?_, by simp [PyData.depthAll, depL, g.dp, k.dp]⟩
    have a := g.w
    have b := k.w
    simp only [PyData.weightAll, wgtL]
    omega
end
theorem Gd.shaped {d : D} {p : PyData} (g : Gd d p) (h : d.dep ≤ 64) : SeqAt.shaped p = true := by
  unfold SeqAt.shaped
  rw [g.lay, g.dp]
  simpa using h
theorem eqF_refl {d : D} (h : d.flat = true) : eqF d d = true := by
  cases d <;> first | rfl | (simp [eqF]; done) | (simp [D.flat] at h)
theorem eqD_refl {d : D} (h : d.good = true) (hd : d.dep ≤ 64) : eqD d d = some true := by
  unfold eqD
  split
  · rename_i hf
    simp only [Bool.and_eq_true] at hf
    rw [eqF_refl hf.1]
  · obtain ⟨p, g⟩ := good_py h
    rw [g.py]
    simp only [g.shaped hd, Bool.and_self, if_true]
    rw [SeqAt.eqv_refl p g.lay]
theorem reprD_good {d : D} (h : d.good = true) (hd : d.dep ≤ 64) (hw : d.wgt ≤ 2 ^ 20) : ∃ s, reprD d = some s := by
  obtain ⟨p, g⟩ := good_py h
  unfold reprD
  rw [g.py]
  have h1 := g.show_
  have h2 := PyData.hasDict_of_canLay p g.lay
  have h3 : p.depth ≤ 64 := by rw [g.dp]; exact hd
  have h4 := PyData.shown_fits (by decide : 8 ≤ 13) (by decide) g.short (Nat.le_trans g.w hw)
  simp only [h1, h2, Bool.not_false, Bool.and_true, Bool.true_and, Bool.and_eq_true, decide_eq_true_eq, h3, h4, and_self, if_true]
  exact ⟨_, rfl⟩
theorem eqF_str (s : Str) : eqF (.str s) (.str s) = true := by simp [eqF]
end FH
end
section
/-! FHP2: running defs; the laws' bag. -/
namespace FH
open PySem PySem.Spec PyProof.Rows L2
/-- what a def's body comes to -/
def retOf : SR → Option (D × Store)
  | some (.ret d, _, μ) => some (d, μ)
  | some (.nx, _, μ) => some (.non, μ)
  | _ => none
theorem run_eq {fs : List Fn} {k f : Nat} {F : Fn} (h : fs[f]? = some F) {ds : List D} (hl : ds.length = F.np) (μ : Store) : run fs (k + 1) f ds μ = retOf (evSs ⟨run fs k, (runP fs k).2⟩ F.body (start0 F ds) μ) := by
  show callF fs ⟨(runP fs k).1, (runP fs k).2⟩ f ds μ = _
  unfold callF
  rw [h]
  simp only [hl, if_true]
  unfold retOf
  rfl
theorem set_at {μ : Store} {n : Nat} {c d : Cell} (h : μ[n]? = some c) : (μ.set n d)[n]? = some d := by
  rw [List.getElem?_set_self (List.getElem?_eq_some_iff.mp h).1]
theorem set_off {μ : Store} {n m : Nat} {d : Cell} (h : n ≠ m) : (μ.set n d)[m]? = μ[m]? := List.getElem?_set_ne h
theorem app_at {μ : Store} {n : Nat} {c d : Cell} (h : μ[n]? = some c) : (μ ++ [d])[n]? = some c := by
  rw [List.getElem?_append_left (List.getElem?_eq_some_iff.mp h).1]; exact h
theorem app_new {μ : Store} {d : Cell} : (μ ++ [d])[μ.length]? = some d := by simp
theorem at_lt {μ : Store} {n : Nat} {c : Cell} (h : μ[n]? = some c) : n < μ.length := (List.getElem?_eq_some_iff.mp h).1
theorem atI_n {α : Type} {xs : List α} {i : Nat} {v : α} (h : xs[i]? = some v) : L2.atI xs (i : Int) = some v := atI_nat h
/-! ### rows for running -/

theorem slot_c0 {d : D} {ρ : Slots} : slotD (.val d :: ρ) 0 = some d := rfl
theorem slot_cs {s : Slot} {ρ : Slots} {i : Nat} : slotD (s :: ρ) (i + 1) = slotD ρ i := rfl
theorem own_c0 {d : List D} {ρ : Slots} : ownS (.own (.lst d) :: ρ) 0 = some d := rfl
theorem own_cs {s : Slot} {ρ : Slots} {i : Nat} : ownS (s :: ρ) (i + 1) = ownS ρ i := rfl
theorem ownv_c0 {d : List D} {ρ : Slots} : ownD (.own (.lst d) :: ρ) 0 = some (.lst d) := rfl
theorem ownt_c0 {d : List D} {ρ : Slots} : ownD (.own (.tup d) :: ρ) 0 = some (.tup d) := rfl
theorem ownv_cs {s : Slot} {ρ : Slots} {i : Nat} : ownD (s :: ρ) (i + 1) = ownD ρ i := rfl
theorem tup_c0 {d : List D} {ρ : Slots} : tupS (.own (.tup d) :: ρ) 0 = some d := rfl
theorem tup_cs {s : Slot} {ρ : Slots} {i : Nat} : tupS (s :: ρ) (i + 1) = tupS ρ i := rfl
theorem set_c0 {s t : Slot} {ρ : Slots} : (s :: ρ).set 0 t = t :: ρ := rfl
theorem set_cs {s t : Slot} {ρ : Slots} {i : Nat} : (s :: ρ).set (i + 1) t = s :: ρ.set i t := rfl
theorem setS_c {ρ : Slots} {i : Nat} {s : Slot} (h : i < ρ.length) : setS ρ i s = some (ρ.set i s) := by unfold setS; rw [if_pos h]
theorem view_lstc {μ : Store} {n : Nat} {ds : List D} (h : μ[n]? = some (.lst ds)) : viewD μ (.ref n) = .lst ds := by unfold viewD; simp only [h]
theorem view_dicc {μ : Store} {n : Nat} {ds : List (Key × D)} (h : μ[n]? = some (.dic ds)) : viewD μ (.ref n) = .ref n := by unfold viewD; simp only [h]
theorem view_int {μ : Store} {i : Int} : viewD μ (.int i) = .int i := rfl
theorem view_str {μ : Store} {i : Str} : viewD μ (.str i) = .str i := rfl
theorem view_bl {μ : Store} {i : Bool} : viewD μ (.bl i) = .bl i := rfl
theorem view_non {μ : Store} : viewD μ .non = .non := rfl
theorem view_tup {μ : Store} {i : List D} : viewD μ (.tup i) = .tup i := rfl
theorem view_lst {μ : Store} {i : List D} : viewD μ (.lst i) = .lst i := rfl
theorem view_ty {μ : Store} {i : String} : viewD μ (.ty i) = .ty i := rfl
theorem view_fn {μ : Store} {i : Nat} : viewD μ (.fn i) = .fn i := rfl
theorem p_bin {op : Operator} {a b : D} : primD (.bin op) [a, b] = binD op a b := rfl
theorem p_neg {a : Int} : primD .neg [.int a] = some (.int (-a)) := rfl
theorem p_cmp {op : CmpOp} {a b : D} : primD (.cmp op) [a, b] = cmpD op a b := rfl
theorem p_ix {a b : D} : primD .ix [a, b] = ixD a b := rfl
theorem p_len_tup {a : List D} : primD .len [.tup a] = some (.int a.length) := rfl
theorem p_len_lst {a : List D} : primD .len [.lst a] = some (.int a.length) := rfl
theorem p_abs {a : Int} : primD .abs [.int a] = some (.int (if a < 0 then -a else a)) := rfl
theorem p_int {a : Int} : primD .int [.int a] = some (.int a) := rfl
theorem p_intb {a : Bool} : primD .int [.bl a] = some (.int (if a then 1 else 0)) := rfl
theorem p_isi {a : D} {T : String} : primD .isi [a, .ty T] = (isiD a T).map .bl := rfl
theorem p_tuple_tup {a : List D} : primD .tuple [.tup a] = some (.tup a) := rfl
theorem p_tuple_lst {a : List D} : primD .tuple [.lst a] = some (.tup a) := rfl
theorem p_max {i j : Int} : primD .max [.int i, .int j] = some (.int (if j > i then j else i)) := rfl
theorem p_min {i j : Int} : primD .min [.int i, .int j] = some (.int (if j < i then j else i)) := rfl
theorem b_add_int {i j : Int} : binD .Add (.int i) (.int j) = some (.int (i + j)) := rfl
theorem b_sub_int {i j : Int} : binD .Sub (.int i) (.int j) = some (.int (i - j)) := rfl
theorem b_mul_l {i j : Int} (h : -(2 ^ 64) < i ∧ i < 2 ^ 64) : binD .Mult (.int i) (.int j) = some (.int (i * j)) := by unfold binD; simp only; rw [if_pos (.inl h)]
theorem b_mul_r {i j : Int} (h : -(2 ^ 64) < j ∧ j < 2 ^ 64) : binD .Mult (.int i) (.int j) = some (.int (i * j)) := by unfold binD; simp only; rw [if_pos (.inr h)]
theorem b_mod {i j : Int} (h : j ≠ 0) : binD .Mod (.int i) (.int j) = some (.int (i.fmod j)) := by unfold binD; simp only; rw [if_pos h]
theorem b_div {i j : Int} (h : j ≠ 0 ∧ j.natAbs < 1073741824) : binD .FloorDiv (.int i) (.int j) = some (.int (i.fdiv j)) := by unfold binD; simp only; rw [if_pos h]
theorem b_add_lst {x y : List D} (h : x.length ≤ sizeLine ∧ y.length ≤ sizeLine ∧ x.length + y.length ≤ sizeLine) : binD .Add (.lst x) (.lst y) = some (.lst (x ++ y)) := by unfold binD; simp only; rw [if_pos h]
theorem b_pow {i j : Int} (h : 0 ≤ j ∧ j ≤ 1000000 ∧ i.natAbs < 2 ^ 64) : binD .Pow (.int i) (.int j) = some (.int (i ^ j.toNat)) := by unfold binD; simp only; rw [if_pos h]
theorem c_lt {i j : Int} : cmpD .Lt (.int i) (.int j) = some (.bl (decide (i < j))) := rfl
theorem c_le {i j : Int} : cmpD .LtE (.int i) (.int j) = some (.bl (decide (i ≤ j))) := rfl
theorem c_gt {i j : Int} : cmpD .Gt (.int i) (.int j) = some (.bl (decide (j < i))) := rfl
theorem c_ge {i j : Int} : cmpD .GtE (.int i) (.int j) = some (.bl (decide (j ≤ i))) := rfl
theorem c_eq {a b : D} : cmpD .Eq a b = (eqD a b).map .bl := rfl
theorem c_ne {a b : D} : cmpD .NotEq a b = (eqD a b).map fun k => .bl !k := rfl
theorem ix_tup {ds : List D} {i : Int} : ixD (.tup ds) (.int i) = L2.atI ds i := rfl
theorem ix_lst {ds : List D} {i : Int} : ixD (.lst ds) (.int i) = L2.atI ds i := rfl
theorem at0 {α : Type} {a : α} {l : List α} : L2.atI (a :: l) 0 = some a := atI_nat (xs := a :: l) (j := 0) rfl
theorem at1 {α : Type} {a b : α} {l : List α} : L2.atI (a :: b :: l) 1 = some b := atI_nat (xs := a :: b :: l) (j := 1) rfl
theorem at2 {α : Type} {a b c : α} {l : List α} : L2.atI (a :: b :: c :: l) 2 = some c := atI_nat (xs := a :: b :: c :: l) (j := 2) rfl
theorem at3 {α : Type} {a b c d : α} {l : List α} : L2.atI (a :: b :: c :: d :: l) 3 = some d := atI_nat (xs := a :: b :: c :: d :: l) (j := 3) rfl
theorem at4 {α : Type} {a b c d e : α} {l : List α} : L2.atI (a :: b :: c :: d :: e :: l) 4 = some e := atI_nat (xs := a :: b :: c :: d :: e :: l) (j := 4) rfl
theorem at5 {α : Type} {a b c d e f : α} {l : List α} : L2.atI (a :: b :: c :: d :: e :: f :: l) 5 = some f := atI_nat (xs := a :: b :: c :: d :: e :: f :: l) (j := 5) rfl
theorem eq_int {i j : Int} : eqD (.int i) (.int j) = some (i == j) := rfl
theorem eq_str {i j : Str} : eqD (.str i) (.str j) = some (i == j) := rfl
theorem eq_bl {i j : Bool} : eqD (.bl i) (.bl j) = some (i == j) := rfl
theorem isi_tuple_tup {d : List D} : isiD (.tup d) "tuple" = some true := rfl
theorem isi_tuple_lst {d : List D} : isiD (.lst d) "tuple" = some false := rfl
theorem isi_tuple_str {d : Str} : isiD (.str d) "tuple" = some false := rfl
theorem isi_tuple_int {d : Int} : isiD (.int d) "tuple" = some false := rfl
theorem isi_tuple_bl {d : Bool} : isiD (.bl d) "tuple" = some false := rfl
theorem isi_tuple_non : isiD .non "tuple" = some false := rfl
theorem isi_str_tup {d : List D} : isiD (.tup d) "str" = some false := rfl
theorem isi_str_lst {d : List D} : isiD (.lst d) "str" = some false := rfl
theorem isi_str_str {d : Str} : isiD (.str d) "str" = some true := rfl
theorem isi_str_int {d : Int} : isiD (.int d) "str" = some false := rfl
theorem isi_str_bl {d : Bool} : isiD (.bl d) "str" = some false := rfl
theorem isi_str_non : isiD .non "str" = some false := rfl
theorem if_true_ {α : Type} {a b : α} : (if true = true then a else b) = a := rfl
theorem if_false_ {α : Type} {a b : α} : (if false = true then a else b) = b := rfl
theorem le_size {n : Nat} (h : n ≤ 1000) : (n ≤ sizeLine) = True := eq_true (Nat.le_trans h (by decide))
theorem lt_size {n : Nat} (h : n ≤ 1000) : (n < sizeLine) = True := eq_true (Nat.lt_of_le_of_lt h (by decide))
theorem b_mul_lit {i : Int} : binD .Mult (.int i) (.int 48271) = some (.int (i * 48271)) := b_mul_r (by decide)
theorem b_mul_lit2 {i : Int} : binD .Mult (.int 7919) (.int i) = some (.int (7919 * i)) := b_mul_l (by decide)
theorem b_mul_lit3 {i : Int} : binD .Mult (.int i) (.int 39373) = some (.int (i * 39373)) := b_mul_r (by decide)
theorem b_mul_lit4 {i : Int} : binD .Mult (.int i) (.int 30011) = some (.int (i * 30011)) := b_mul_r (by decide)
theorem b_mul_small {i j : Int} : binD .Mult (.int (i.fmod 1000000007)) (.int j) = some (.int (i.fmod 1000000007 * j)) := b_mul_l (by
  have h1 := Int.fmod_nonneg_of_pos i (b := 1000000007) (by decide)
  have h2 := Int.fmod_lt_of_pos i (b := 1000000007) (by decide)
  omega)
theorem b_mod_lit {i j : Int} (h : j ≠ 0) : binD .Mod (.int i) (.int j) = some (.int (i.fmod j)) := b_mod h
theorem b_div_lit {i : Int} : binD .FloorDiv (.int i) (.int 7) = some (.int (i.fdiv 7)) := b_div (by decide)
theorem b_pow_lit : binD .Pow (.int 10) (.int 18) = some (.int (10 ^ 18)) := b_pow (by decide)
theorem lst_at_ {μ : Store} {n : Nat} {ds : List D} (h : μ[n]? = some (.lst ds)) : lstAt μ (.ref n) = some (n, ds) := by unfold lstAt; simp only [h]
theorem ixN0 {n : Nat} : ixN (n + 1) 0 = some 0 := by unfold ixN; simp <;> omega
theorem ixN1 {n : Nat} : ixN (n + 1 + 1) 1 = some 1 := by unfold ixN; simp <;> omega
theorem ixN2 {n : Nat} : ixN (n + 1 + 1 + 1) 2 = some 2 := by unfold ixN; simp <;> omega
/-- the bag: three ints, the script's cells -/
def bagC (a b c : Int) (cs : List D) : Cell := .lst [.int a, .int b, .int c, .lst cs]
/-- .. all ints, not too many -/
def AllI (cs : List D) : Prop := cs.length ≤ 1000 ∧ ∀ d ∈ cs, ∃ z : Int, d = .int z
def takeA : IS := (.ifs (.prim (.cmp .Eq) (.cons (.prim .ix (.cons (.var 0) (.cons (.lit (.int 0)) .nil))) (.cons (.lit (.int 0)) .nil)))
    (.cons (.set 2 (.prim .ix (.cons (.prim (.bin .Add) (.cons (.slice (.prim .ix (.cons (.var 0) (.cons (.lit (.int 3)) .nil))) (.som (.prim .ix (.cons (.var 0) (.cons (.lit (.int 2)) .nil)))) .no) (.cons (.frz (.disp (.cons (.lit (.int 0)) .nil))) .nil))) (.cons (.lit (.int 0)) .nil))))
    (.cons (.augIx .Add (.var 0) (.lit (.int 2)) (.lit (.int 1)))
    (.cons (.ifs (.prim (.cmp .GtE) (.cons (.var 2) (.cons (.prim (.bin .Pow) (.cons (.lit (.int 10)) (.cons (.lit (.int 18)) .nil))) .nil)))
    (.cons (.setIx (.var 0) (.lit (.int 0)) (.var 2))
    .nil)
    .nil)
    (.cons (.set 3 (.prim (.bin .Add) (.cons (.prim (.bin .Add) (.cons (.prim (.bin .Mult) (.cons (.prim .ix (.cons (.var 0) (.cons (.lit (.int 1)) .nil))) (.cons (.lit (.int 48271)) .nil))) (.cons (.prim (.bin .Mod) (.cons (.prim .int (.cons (.var 2) .nil)) (.cons (.lit (.int 2147483647)) .nil))) .nil))) (.cons (.prim (.bin .Mult) (.cons (.lit (.int 7919)) (.cons (.prim .ix (.cons (.var 0) (.cons (.lit (.int 2)) .nil))) .nil))) .nil))))
    (.cons (.setIx (.var 0) (.lit (.int 1)) (.prim (.bin .Mod) (.cons (.prim .int (.cons (.var 3) .nil)) (.cons (.lit (.int 2147483647)) .nil))))
    .nil)))))
    .nil)
def takeC : ISs := (.cons (.ifs (.prim (.cmp .Gt) (.cons (.prim .ix (.cons (.var 0) (.cons (.lit (.int 0)) .nil))) (.cons (.lit (.int 0)) .nil)))
    (.cons (.set 4 (.prim (.bin .Mod) (.cons (.prim .int (.cons (.prim .ix (.cons (.var 0) (.cons (.lit (.int 0)) .nil))) .nil)) (.cons (.var 1) .nil))))
    (.cons (.setIx (.var 0) (.lit (.int 0)) (.prim (.bin .FloorDiv) (.cons (.prim .int (.cons (.prim .ix (.cons (.var 0) (.cons (.lit (.int 0)) .nil))) .nil)) (.cons (.var 1) .nil))))
    (.cons (.ret (.var 4))
    .nil)))
    .nil)
    (.cons (.set 5 (.prim (.bin .Mod) (.cons (.prim .int (.cons (.prim (.bin .Mult) (.cons (.prim (.bin .Add) (.cons (.prim .ix (.cons (.var 0) (.cons (.lit (.int 1)) .nil))) (.cons (.lit (.int 1)) .nil))) (.cons (.lit (.int 39373)) .nil))) .nil)) (.cons (.lit (.int 1000000007)) .nil))))
    (.cons (.set 6 (.prim (.bin .Mod) (.cons (.prim .int (.cons (.prim (.bin .Mult) (.cons (.prim (.bin .Mod) (.cons (.prim .int (.cons (.prim (.bin .Mult) (.cons (.var 5) (.cons (.var 5) .nil))) .nil)) (.cons (.lit (.int 998244353)) .nil))) (.cons (.lit (.int 30011)) .nil))) .nil)) (.cons (.lit (.int 998244353)) .nil))))
    (.cons (.ret (.prim (.bin .Mod) (.cons (.prim .int (.cons (.prim (.bin .FloorDiv) (.cons (.var 6) (.cons (.lit (.int 7)) .nil))) .nil)) (.cons (.var 1) .nil))))
    .nil))))
theorem set_same {μ : Store} {n : Nat} {c : Cell} (h : μ[n]? = some c) : μ.set n c = μ := by
  obtain ⟨h1, h2⟩ := List.getElem?_eq_some_iff.mp h
  rw [← h2]; exact List.set_getElem_self h1
theorem lst_set {μ : Store} {n : Nat} {ds : List D} (h : n < μ.length) : lstAt (μ.set n (.lst ds)) (.ref n) = some (n, ds) := by unfold lstAt; simp [h]
theorem view_set {μ : Store} {n : Nat} {ds : List D} (h : n < μ.length) : viewD (μ.set n (.lst ds)) (.ref n) = .lst ds := by unfold viewD; simp [h]
def takeB : ISs := .cons takeA takeC
theorem take_spec {fs : List Fn} {t k n : Nat} {μ : Store} {a b c many : Int} {cs : List D} (ht : fs[t]? = some ⟨2, 7, takeB⟩) (hb : μ[n]? = some (bagC a b c cs)) (hc : AllI cs) (h0 : 0 < many) (h1 : many < 2 ^ 20) :
    ∃ v a' b' c', run fs (k + 1) t [.ref n, .int many] μ = some (.int v, μ.set n (bagC a' b' c' cs)) ∧ 0 ≤ v ∧ v < many := by
  rw [run_eq ht rfl]
  have hn : many ≠ 0 := by omega
  have hn2 : many.natAbs < 1073741824 := by omega
  unfold bagC at hb
  -- the first part: a new cell is read when nothing is left
  have first : ∃ a' b' c' s2 s3, evS ⟨run fs k, (runP fs k).2⟩ takeA [.val (.ref n), .val (.int many), .emp, .emp, .emp, .emp, .emp] μ = some (.nx, [.val (.ref n), .val (.int many), s2, s3, .emp, .emp, .emp], μ.set n (bagC a' b' c' cs)) := by
    have hv := view_lstc hb
    have hl := lst_at_ hb
    have hlt := at_lt hb
    by_cases ha : a = 0
    · subst ha
      generalize hL : List.take (HT.sIx cs.length cs.length none - HT.sIx cs.length 0 (some c)) (List.drop (HT.sIx cs.length 0 (some c)) cs) = L at *
      have hll : L.length ≤ 1000 := by
        have := hc.1
        rw [← hL]; simp; omega
      obtain ⟨z, hz⟩ : ∃ z : Int, L2.atI (L ++ [D.int 0]) 0 = some (.int z) := by
        cases L with
        | nil => exact ⟨0, at0⟩
        | cons y ys =>
          have h1 : y ∈ (y :: ys) := List.mem_cons_self
          rw [← hL] at h1
          obtain ⟨z, rfl⟩ := hc.2 y (List.mem_of_mem_drop (List.mem_of_mem_take h1))
          exact ⟨z, at0⟩
      have hadd : binD .Add (.lst L) (.lst [.int 0]) = some (.lst (L ++ [.int 0])) := b_add_lst ⟨Nat.le_trans hll (by decide), by decide, Nat.le_trans (Nat.add_le_add_right hll 1) (by decide)⟩
      by_cases hb2 : (1000000000000000000 : Int) ≤ z
      · simp [takeA, evE, evEs, evO, evC, evF, evSrc, evIn, evS, evSs, Option.bind_some, Option.map_some, Option.bind_none, Option.map_none, List.map_cons, List.map_nil, slot_c0, slot_cs, own_c0, own_cs, ownv_c0, ownv_cs, tup_c0, tup_cs, view_int, view_str, view_bl, view_non, view_tup, view_lst, view_ty, view_fn, p_bin, p_neg, p_cmp, p_ix, p_len_tup, p_len_lst, p_abs, p_int, p_intb, p_isi, p_tuple_tup, p_tuple_lst, p_max, p_min, b_add_int, b_sub_int, c_lt, c_le, c_gt, c_ge, c_eq, c_ne, ix_tup, ix_lst, at0, at1, at2, at3, at4, at5, eq_int, eq_str, eq_bl, truD, set_c0, set_cs, setS_c, isi_tuple_tup, isi_tuple_lst, isi_tuple_str, isi_tuple_int, isi_tuple_non, isi_tuple_bl, isi_str_str, isi_str_tup, isi_str_int, isi_str_non, isi_str_lst, isi_str_bl, if_true_, if_false_, hv, hl, le_size, hL, hadd, hz, hb2, b_mul_lit, b_mul_lit2, b_mod, b_pow_lit, ixN, lst_set hlt, view_set hlt]
        exact ⟨_, _, _, rfl⟩
      · simp [takeA, evE, evEs, evO, evC, evF, evSrc, evIn, evS, evSs, Option.bind_some, Option.map_some, Option.bind_none, Option.map_none, List.map_cons, List.map_nil, slot_c0, slot_cs, own_c0, own_cs, ownv_c0, ownv_cs, tup_c0, tup_cs, view_int, view_str, view_bl, view_non, view_tup, view_lst, view_ty, view_fn, p_bin, p_neg, p_cmp, p_ix, p_len_tup, p_len_lst, p_abs, p_int, p_intb, p_isi, p_tuple_tup, p_tuple_lst, p_max, p_min, b_add_int, b_sub_int, c_lt, c_le, c_gt, c_ge, c_eq, c_ne, ix_tup, ix_lst, at0, at1, at2, at3, at4, at5, eq_int, eq_str, eq_bl, truD, set_c0, set_cs, setS_c, isi_tuple_tup, isi_tuple_lst, isi_tuple_str, isi_tuple_int, isi_tuple_non, isi_tuple_bl, isi_str_str, isi_str_tup, isi_str_int, isi_str_non, isi_str_lst, isi_str_bl, if_true_, if_false_, hv, hl, le_size, hL, hadd, hz, hb2, b_mul_lit, b_mul_lit2, b_mod, b_pow_lit, ixN, lst_set hlt, view_set hlt]
        exact ⟨_, _, _, rfl⟩
    · simp [ha, takeA, evE, evEs, evO, evC, evF, evSrc, evIn, evS, evSs, Option.bind_some, Option.map_some, Option.bind_none, Option.map_none, List.map_cons, List.map_nil, slot_c0, slot_cs, own_c0, own_cs, ownv_c0, ownv_cs, tup_c0, tup_cs, view_int, view_str, view_bl, view_non, view_tup, view_lst, view_ty, view_fn, p_bin, p_neg, p_cmp, p_ix, p_len_tup, p_len_lst, p_abs, p_int, p_intb, p_isi, p_tuple_tup, p_tuple_lst, p_max, p_min, b_add_int, b_sub_int, c_lt, c_le, c_gt, c_ge, c_eq, c_ne, ix_tup, ix_lst, at0, at1, at2, at3, at4, at5, eq_int, eq_str, eq_bl, truD, set_c0, set_cs, setS_c, isi_tuple_tup, isi_tuple_lst, isi_tuple_str, isi_tuple_int, isi_tuple_non, isi_tuple_bl, isi_str_str, isi_str_tup, isi_str_int, isi_str_non, isi_str_lst, isi_str_bl, if_true_, if_false_, hv, hl]
      exact ⟨a, b, c, by rw [set_same (show μ[n]? = some (bagC a b c cs) from hb)]⟩
  obtain ⟨a1, b1, c1, s2, s3, e1⟩ := first
  have hlt := at_lt hb
  have second : ∃ v a2 b2 c2, retOf (evSs ⟨run fs k, (runP fs k).2⟩ takeC [.val (.ref n), .val (.int many), s2, s3, .emp, .emp, .emp] (μ.set n (bagC a1 b1 c1 cs))) = some (.int v, μ.set n (bagC a2 b2 c2 cs)) ∧ 0 ≤ v ∧ v < many := by
    unfold bagC
    by_cases hp : 0 < a1
    · refine ⟨a1.fmod many, a1.fdiv many, b1, c1, ?_, Int.fmod_nonneg_of_pos _ h0, Int.fmod_lt_of_pos _ h0⟩
      simp [takeC, evE, evEs, evO, evC, evF, evSrc, evIn, evS, evSs, Option.bind_some, Option.map_some, Option.bind_none, Option.map_none, List.map_cons, List.map_nil, slot_c0, slot_cs, own_c0, own_cs, ownv_c0, ownv_cs, tup_c0, tup_cs, view_int, view_str, view_bl, view_non, view_tup, view_lst, view_ty, view_fn, p_bin, p_neg, p_cmp, p_ix, p_len_tup, p_len_lst, p_abs, p_int, p_intb, p_isi, p_tuple_tup, p_tuple_lst, p_max, p_min, b_add_int, b_sub_int, c_lt, c_le, c_gt, c_ge, c_eq, c_ne, ix_tup, ix_lst, at0, at1, at2, at3, at4, at5, eq_int, eq_str, eq_bl, truD, set_c0, set_cs, setS_c, isi_tuple_tup, isi_tuple_lst, isi_tuple_str, isi_tuple_int, isi_tuple_non, isi_tuple_bl, isi_str_str, isi_str_tup, isi_str_int, isi_str_non, isi_str_lst, isi_str_bl, if_true_, if_false_, hp, le_size, b_mod hn, b_div ⟨hn, hn2⟩, ixN, lst_set hlt, view_set hlt, retOf]
    · refine ⟨((((((b1 + 1) * 39373).fmod 1000000007 * ((b1 + 1) * 39373).fmod 1000000007).fmod 998244353 * 30011).fmod 998244353).fdiv 7).fmod many, a1, b1, c1, ?_, Int.fmod_nonneg_of_pos _ h0, Int.fmod_lt_of_pos _ h0⟩
      simp [takeC, evE, evEs, evO, evC, evF, evSrc, evIn, evS, evSs, Option.bind_some, Option.map_some, Option.bind_none, Option.map_none, List.map_cons, List.map_nil, slot_c0, slot_cs, own_c0, own_cs, ownv_c0, ownv_cs, tup_c0, tup_cs, view_int, view_str, view_bl, view_non, view_tup, view_lst, view_ty, view_fn, p_bin, p_neg, p_cmp, p_ix, p_len_tup, p_len_lst, p_abs, p_int, p_intb, p_isi, p_tuple_tup, p_tuple_lst, p_max, p_min, b_add_int, b_sub_int, c_lt, c_le, c_gt, c_ge, c_eq, c_ne, ix_tup, ix_lst, at0, at1, at2, at3, at4, at5, eq_int, eq_str, eq_bl, truD, set_c0, set_cs, setS_c, isi_tuple_tup, isi_tuple_lst, isi_tuple_str, isi_tuple_int, isi_tuple_non, isi_tuple_bl, isi_str_str, isi_str_tup, isi_str_int, isi_str_non, isi_str_lst, isi_str_bl, if_true_, if_false_, hp, le_size, b_mod, hn, b_mul_lit3, b_mul_lit4, b_mul_small, b_div_lit, ixN, lst_set hlt, view_set hlt, retOf]
  obtain ⟨v, a2, b2, c2, e2, v1, v2⟩ := second
  refine ⟨v, a2, b2, c2, ?_, v1, v2⟩
  show retOf (evSs _ takeB [.val (.ref n), .val (.int many), .emp, .emp, .emp, .emp, .emp] μ) = _
  unfold takeB
  simp only [evSs, e1, Option.bind_some]
  exact e2
end FH
end
section
/-! FHP3: the laws' bag, some, alike. -/
namespace FH
open PySem PySem.Spec PyProof.Rows L2
theorem loopC_map {f : D → Store → Option (Option D × Store)} {g : D → D} {μ : Store} : ∀ {xs : List D}, (∀ x ∈ xs, f x μ = some (some (g x), μ)) → loopC f xs μ = some (xs.map g, μ)
  | [], _ => rfl
  | x :: xs, h => by
    simp only [loopC, h x List.mem_cons_self, Option.bind_some, loopC_map fun y hy => h y (List.mem_cons_of_mem _ hy), List.map_cons]
def someB : ISs := (.cons (.ret (.prim .ix (.cons (.var 1) (.cons (.call "_law_take" 0 (.cons (.var 0) (.cons (.prim .len (.cons (.var 1) .nil)) .nil))) .nil))))
    .nil)
/-- the bag at n -/
def BagAt (μ : Store) (n : Nat) (cs : List D) : Prop := ∃ a b c, μ[n]? = some (bagC a b c cs)
/-- .. after a take: the same but for the three ints -/
def Stir (n : Nat) (cs : List D) (μ μ' : Store) : Prop := ∃ a b c, μ' = μ.set n (bagC a b c cs)
theorem BagAt.stir {μ μ' : Store} {n : Nat} {cs : List D} (h : BagAt μ n cs) (s : Stir n cs μ μ') : BagAt μ' n cs := by
  obtain ⟨a, b, c, h⟩ := h
  obtain ⟨a', b', c', rfl⟩ := s
  exact ⟨a', b', c', set_at h⟩
theorem Stir.len {μ μ' : Store} {n : Nat} {cs : List D} (s : Stir n cs μ μ') : μ'.length = μ.length := by
  obtain ⟨a', b', c', rfl⟩ := s; simp
theorem Stir.off {μ μ' : Store} {n m : Nat} {cs : List D} (s : Stir n cs μ μ') (h : n ≠ m) : μ'[m]? = μ[m]? := by
  obtain ⟨a', b', c', rfl⟩ := s; exact set_off h
theorem Stir.trans {μ μ' μ'' : Store} {n : Nat} {cs : List D} (s : Stir n cs μ μ') (t : Stir n cs μ' μ'') : Stir n cs μ μ'' := by
  obtain ⟨a, b, c, rfl⟩ := s
  obtain ⟨a', b', c', rfl⟩ := t
  exact ⟨a', b', c', by rw [List.set_set]⟩
theorem take_at {fs : List Fn} {t k n : Nat} {μ : Store} {many : Int} {cs : List D} (ht : fs[t]? = some ⟨2, 7, takeB⟩) (hb : BagAt μ n cs) (hc : AllI cs) (h0 : 0 < many) (h1 : many < 2 ^ 20) :
    ∃ v μ', run fs (k + 1) t [.ref n, .int many] μ = some (.int v, μ') ∧ Stir n cs μ μ' ∧ 0 ≤ v ∧ v < many := by
  obtain ⟨a, b, c, h⟩ := hb
  obtain ⟨v, a', b', c', e, v1, v2⟩ := take_spec (k := k) ht h hc h0 h1
  exact ⟨v, _, e, ⟨a', b', c', rfl⟩, v1, v2⟩
/-- some(bag, things) -/
theorem some_at {fs : List Fn} {s t k n : Nat} {μ : Store} {ds : List D} {cs : List D} (ht : fs[t]? = some ⟨2, 7, takeB⟩) (hs : fs[s]? = some ⟨2, 2, (.cons (.ret (.prim .ix (.cons (.var 1) (.cons (.call "_law_take" t (.cons (.var 0) (.cons (.prim .len (.cons (.var 1) .nil)) .nil))) .nil)))) .nil)⟩)
    (hb : BagAt μ n cs) (hc : AllI cs) (h0 : ds ≠ []) (h1 : ds.length < 2 ^ 20) :
    ∃ d μ', run fs (k + 2) s [.ref n, .lst ds] μ = some (d, μ') ∧ Stir n cs μ μ' ∧ d ∈ ds := by
  obtain ⟨v, μ', e, st, v1, v2⟩ := take_at (k := k) (many := (ds.length : Int)) ht hb hc (by have := List.length_pos_iff.mpr h0; omega) (by omega)
  obtain ⟨j, rfl⟩ := Int.eq_ofNat_of_zero_le v1
  have hj : j < ds.length := by omega
  refine ⟨ds[j], μ', ?_, st, List.getElem_mem hj⟩
  rw [run_eq hs rfl]
  have ha : L2.atI ds (j : Int) = some ds[j] := atI_nat (by simp [hj])
  simp [start0, evE, evEs, evO, evC, evF, evSrc, evIn, evS, evSs, Option.bind_some, Option.map_some, Option.bind_none, Option.map_none, List.map_cons, List.map_nil, slot_c0, slot_cs, own_c0, own_cs, ownv_c0, ownv_cs, tup_c0, tup_cs, view_int, view_str, view_bl, view_non, view_tup, view_lst, view_ty, view_fn, p_bin, p_neg, p_cmp, p_ix, p_len_tup, p_len_lst, p_abs, p_int, p_intb, p_isi, p_tuple_tup, p_tuple_lst, p_max, p_min, b_add_int, b_sub_int, c_lt, c_le, c_gt, c_ge, c_eq, c_ne, ix_tup, ix_lst, at0, at1, at2, at3, at4, at5, eq_int, eq_str, eq_bl, truD, set_c0, set_cs, setS_c, isi_tuple_tup, isi_tuple_lst, isi_tuple_str, isi_tuple_int, isi_tuple_non, isi_tuple_bl, isi_str_str, isi_str_tup, isi_str_int, isi_str_non, isi_str_lst, isi_str_bl, if_true_, if_false_, e, ha, retOf]
/-- the bag is made -/
theorem bag_at {fs : List Fn} {b k : Nat} {μ : Store} {ns : List Int} {i : Nat} (hb : fs[b]? = some ⟨1, 2, (.cons (.ret (.cell (.disp (.cons (.lit (.int 0)) (.cons (.lit (.int 1234567891)) (.cons (.lit (.int 0)) (.cons (.frz (.comp (.nm 1) [("cell", 1)] (.it (.slice (.var 0) .no (.som (.lit (.int 63))))) .no (.prim .abs (.cons (.var 1) .nil)))) .nil))))))) .nil)⟩) (hl : ns.length ≤ 63) :
    ∃ cs, run fs (k + 1) b [.lst (ns.map .int)] μ = some (.ref μ.length, μ ++ [bagC 0 1234567891 0 cs]) ∧ AllI cs := by
  rw [run_eq hb rfl]
  generalize hL : List.take (HT.sIx ns.length ns.length (some 63) - HT.sIx ns.length 0 none) (List.drop (HT.sIx ns.length 0 none) (ns.map D.int)) = L
  have hll : L.length ≤ 63 := by rw [← hL]; simp; omega
  have hint : ∀ x ∈ L, ∃ z : Int, x = .int z := fun x hx => by
    rw [← hL] at hx
    obtain ⟨z, _, rfl⟩ := List.mem_map.mp (List.mem_of_mem_drop (List.mem_of_mem_take hx))
    exact ⟨z, rfl⟩
  refine ⟨L.map fun d => match d with | .int z => .int (if z < 0 then -z else z) | d => d, ?_, by simp; omega, fun d hd => ?_⟩
  · have key : loopC (fun x μ => (asgT (.nm 1) x (wipeS [.val (.lst (ns.map D.int)), .emp] [1])).bind fun ρ' => (evC ⟨run fs k, (runP fs k).2⟩ .no ρ' μ).bind fun k' =>
        if k'.1 then (evE ⟨run fs k, (runP fs k).2⟩ (.prim .abs (.cons (.var 1) .nil)) ρ' k'.2).map fun q => (some q.1, q.2) else some (none, k'.2)) L μ = some (L.map fun d => match d with | .int z => .int (if z < 0 then -z else z) | d => d, μ) := by
      refine loopC_map fun x hx => ?_
      obtain ⟨z, rfl⟩ := hint x hx
      simp [asgT, wipeS, evE, evEs, evO, evC, evF, evSrc, evIn, evS, evSs, Option.bind_some, Option.map_some, Option.bind_none, Option.map_none, List.map_cons, List.map_nil, slot_c0, slot_cs, own_c0, own_cs, ownv_c0, ownv_cs, tup_c0, tup_cs, view_int, view_str, view_bl, view_non, view_tup, view_lst, view_ty, view_fn, p_bin, p_neg, p_cmp, p_ix, p_len_tup, p_len_lst, p_abs, p_int, p_intb, p_isi, p_tuple_tup, p_tuple_lst, p_max, p_min, b_add_int, b_sub_int, c_lt, c_le, c_gt, c_ge, c_eq, c_ne, ix_tup, ix_lst, at0, at1, at2, at3, at4, at5, eq_int, eq_str, eq_bl, truD, set_c0, set_cs, setS_c, isi_tuple_tup, isi_tuple_lst, isi_tuple_str, isi_tuple_int, isi_tuple_non, isi_tuple_bl, isi_str_str, isi_str_tup, isi_str_int, isi_str_non, isi_str_lst, isi_str_bl, if_true_, if_false_]
    have hs : evSrc ⟨run fs k, (runP fs k).2⟩ (.it (.slice (.var 0) .no (.som (.lit (.int 63))))) [.val (.lst (ns.map D.int)), .emp] μ = some (.items L, μ) := by
      simp [evE, evEs, evO, evC, evF, evSrc, evIn, evS, evSs, Option.bind_some, Option.map_some, Option.bind_none, Option.map_none, List.map_cons, List.map_nil, slot_c0, slot_cs, own_c0, own_cs, ownv_c0, ownv_cs, tup_c0, tup_cs, view_int, view_str, view_bl, view_non, view_tup, view_lst, view_ty, view_fn, p_bin, p_neg, p_cmp, p_ix, p_len_tup, p_len_lst, p_abs, p_int, p_intb, p_isi, p_tuple_tup, p_tuple_lst, p_max, p_min, b_add_int, b_sub_int, c_lt, c_le, c_gt, c_ge, c_eq, c_ne, ix_tup, ix_lst, at0, at1, at2, at3, at4, at5, eq_int, eq_str, eq_bl, truD, set_c0, set_cs, setS_c, isi_tuple_tup, isi_tuple_lst, isi_tuple_str, isi_tuple_int, isi_tuple_non, isi_tuple_bl, isi_str_str, isi_str_tup, isi_str_int, isi_str_non, isi_str_lst, isi_str_bl, if_true_, if_false_, itemsD, hL]
    have hf : evF ⟨run fs k, (runP fs k).2⟩ (.comp (.nm 1) [("cell", 1)] (.it (.slice (.var 0) .no (.som (.lit (.int 63))))) .no (.prim .abs (.cons (.var 1) .nil))) [.val (.lst (ns.map D.int)), .emp] μ = some (L.map fun d => match d with | .int z => .int (if z < 0 then -z else z) | d => d, μ) := by
      unfold evF
      rw [hs]
      simp only [Option.bind_some]
      rw [if_pos (Nat.lt_of_le_of_lt hll (by decide))]
      exact key
    show retOf (evSs _ (.cons (.ret (.cell (.disp (.cons (.lit (.int 0)) (.cons (.lit (.int 1234567891)) (.cons (.lit (.int 0)) (.cons (.frz (.comp (.nm 1) [("cell", 1)] (.it (.slice (.var 0) .no (.som (.lit (.int 63))))) .no (.prim .abs (.cons (.var 1) .nil)))) .nil))))))) .nil) [.val (.lst (ns.map D.int)), .emp] μ) = _
    generalize FE.comp (.nm 1) [("cell", 1)] (.it (.slice (.var 0) .no (.som (.lit (.int 63))))) .no (.prim .abs (.cons (.var 1) .nil)) = fe at hf ⊢
    simp [evE, evEs, evO, evC, evF, evSrc, evIn, evS, evSs, Option.bind_some, Option.map_some, Option.bind_none, Option.map_none, List.map_cons, List.map_nil, slot_c0, slot_cs, own_c0, own_cs, ownv_c0, ownv_cs, tup_c0, tup_cs, view_int, view_str, view_bl, view_non, view_tup, view_lst, view_ty, view_fn, p_bin, p_neg, p_cmp, p_ix, p_len_tup, p_len_lst, p_abs, p_int, p_intb, p_isi, p_tuple_tup, p_tuple_lst, p_max, p_min, b_add_int, b_sub_int, c_lt, c_le, c_gt, c_ge, c_eq, c_ne, ix_tup, ix_lst, at0, at1, at2, at3, at4, at5, eq_int, eq_str, eq_bl, truD, set_c0, set_cs, setS_c, isi_tuple_tup, isi_tuple_lst, isi_tuple_str, isi_tuple_int, isi_tuple_non, isi_tuple_bl, isi_str_str, isi_str_tup, isi_str_int, isi_str_non, isi_str_lst, isi_str_bl, if_true_, if_false_, hf, retOf, le_size, bagC]
  · obtain ⟨x, hx, rfl⟩ := List.mem_map.mp hd
    obtain ⟨z, rfl⟩ := hint x hx
    exact ⟨_, rfl⟩
/-- alike(d, d) -/
theorem alike_at {fs : List Fn} {a k : Nat} {μ : Store} {d : D} (ha : fs[a]? = some ⟨2, 2, (.cons (.ret (.andd (.prim (.cmp .Eq) (.cons (.prim .repr (.cons (.var 0) .nil)) (.cons (.prim .repr (.cons (.var 1) .nil)) .nil))) (.prim (.cmp .Eq) (.cons (.var 0) (.cons (.var 1) .nil))))) .nil)⟩)
    (g : d.good = true) (hd : d.dep ≤ 64) (hw : d.wgt ≤ 2 ^ 20) : run fs (k + 1) a [d, d] μ = some (.bl true, μ) := by
  rw [run_eq ha rfl]
  obtain ⟨s, hs⟩ := reprD_good g hd hw
  have hv : viewD μ d = d := by cases d <;> first | rfl | (simp [D.good] at g)
  have p1 : primD .repr [d] = some (.str s) := by
    show (reprD d).map D.str = _
    rw [hs]; rfl
  have e := eqD_refl g hd
  simp [start0, evE, evEs, evO, evC, evF, evSrc, evIn, evS, evSs, Option.bind_some, Option.map_some, Option.bind_none, Option.map_none, List.map_cons, List.map_nil, slot_c0, slot_cs, own_c0, own_cs, ownv_c0, ownv_cs, tup_c0, tup_cs, view_int, view_str, view_bl, view_non, view_tup, view_lst, view_ty, view_fn, p_bin, p_neg, p_cmp, p_ix, p_len_tup, p_len_lst, p_abs, p_int, p_intb, p_isi, p_tuple_tup, p_tuple_lst, p_max, p_min, b_add_int, b_sub_int, c_lt, c_le, c_gt, c_ge, c_eq, c_ne, ix_tup, ix_lst, at0, at1, at2, at3, at4, at5, eq_int, eq_str, eq_bl, truD, set_c0, set_cs, setS_c, isi_tuple_tup, isi_tuple_lst, isi_tuple_str, isi_tuple_int, isi_tuple_non, isi_tuple_bl, isi_str_str, isi_str_tup, isi_str_int, isi_str_non, isi_str_lst, isi_str_bl, if_true_, if_false_, hv, p1, e, retOf]
end FH
end
section
namespace FH.K02
open PySem PySem.Spec PyProof.Rows L2
def gp (x : Str) (g : G) : Str × G := (x, g)
/-- the text by places -/
def top (i : Nat) : Stmt := PySem.Challenge.pw_formulahall_k02_whole_places_and_refs.main.body.getD i (.Pass ⟨0, 0, 0, 0⟩)
def c_LETTERS : D := (.str "abcdefghijklmnopqrstuvwxyz")
def c_DIGITS : D := (.str "0123456789")
def c_COLUMNS : D := (.int 26)
def c_ROWS : D := (.int 200)
def c_MOST_BY : D := (.int 1000)
def c_SIZES : D := (.tup [(.int 26), (.int 200)])
/-- place_text(place): 0 place -/
def b0 : ISs := (.cons (.ret (.fstr (.cons (.prim .ix (.cons (.glob "LETTERS" c_LETTERS) (.cons (.prim .ix (.cons (.var 0) (.cons (.lit (.int 0)) .nil))) .nil))) (.cons (.prim (.bin .Add) (.cons (.prim .ix (.cons (.var 0) (.cons (.lit (.int 1)) .nil))) (.cons (.lit (.int 1)) .nil))) .nil))))
    .nil)
def f0 : FDef := ⟨("place_text", none), "place_text", "place_text", top 6, ["place"], ["place"], ⟨1, 1, b0⟩⟩
/-- row_in(figures): 0 figures, 1 sign -/
def b1 : ISs := (.cons (.ifs (.orr (.prim (.cmp .Eq) (.cons (.var 0) (.cons (.lit (.str "")) .nil))) (.orr (.prim (.cmp .Gt) (.cons (.prim .len (.cons (.var 0) .nil)) (.cons (.lit (.int 3)) .nil))) (.orr (.nott (.prim .all (.cons (.frz (.comp (.nm 1) [("sign", 1)] (.it (.var 0)) .no (.prim (.cmp .In) (.cons (.var 1) (.cons (.glob "DIGITS" c_DIGITS) .nil))))) .nil))) (.prim (.cmp .Eq) (.cons (.prim .ix (.cons (.var 0) (.cons (.lit (.int 0)) .nil))) (.cons (.lit (.str "0")) .nil))))))
    (.cons (.ret (.lit .non))
    .nil)
    .nil)
    (.cons (.ret (.cond (.prim (.cmp .LtE) (.cons (.prim .int (.cons (.var 0) .nil)) (.cons (.glob "ROWS" c_ROWS) .nil))) (.prim (.bin .Sub) (.cons (.prim .int (.cons (.var 0) .nil)) (.cons (.lit (.int 1)) .nil))) (.lit .non)))
    .nil))
def f1 : FDef := ⟨("row_in", none), "row_in", "row_in", top 7, ["figures"], ["figures", "sign"], ⟨1, 2, b1⟩⟩
/-- column_in(letter): 0 letter -/
def b2 : ISs := (.cons (.ret (.cond (.andd (.prim (.cmp .Eq) (.cons (.prim .len (.cons (.var 0) .nil)) (.cons (.lit (.int 1)) .nil))) (.prim (.cmp .In) (.cons (.var 0) (.cons (.slice (.glob "LETTERS" c_LETTERS) .no (.som (.glob "COLUMNS" c_COLUMNS))) .nil)))) (.meth .sindex (.glob "LETTERS" c_LETTERS) (.cons (.var 0) .nil)) (.lit .non)))
    .nil)
def f2 : FDef := ⟨("column_in", none), "column_in", "column_in", top 8, ["letter"], ["letter"], ⟨1, 1, b2⟩⟩
/-- read_place(text): 0 text, 1 column, 2 row -/
def b3 : ISs := (.cons (.par 1 2 (.v (.call "column_in" 2 (.cons (.slice (.var 0) .no (.som (.lit (.int 1)))) .nil))) (.v (.call "row_in" 1 (.cons (.slice (.var 0) (.som (.lit (.int 1))) .no) .nil))))
    (.cons (.ret (.cond (.orr (.prim (.cmp .Is) (.cons (.var 1) (.cons (.lit .non) .nil))) (.prim (.cmp .Is) (.cons (.var 2) (.cons (.lit .non) .nil)))) (.lit .non) (.tup (.cons (.var 1) (.cons (.var 2) .nil)))))
    .nil))
def f3 : FDef := ⟨("read_place", none), "read_place", "read_place", top 9, ["text"], ["text", "column", "row"], ⟨1, 3, b3⟩⟩
/-- is_ahead(one, other): 0 one, 1 other -/
def b4 : ISs := (.cons (.ret (.prim (.cmp .Lt) (.cons (.tup (.cons (.prim .ix (.cons (.var 0) (.cons (.lit (.int 1)) .nil))) (.cons (.prim .ix (.cons (.var 0) (.cons (.lit (.int 0)) .nil))) .nil))) (.cons (.tup (.cons (.prim .ix (.cons (.var 1) (.cons (.lit (.int 1)) .nil))) (.cons (.prim .ix (.cons (.var 1) (.cons (.lit (.int 0)) .nil))) .nil))) .nil))))
    .nil)
def f4 : FDef := ⟨("is_ahead", none), "is_ahead", "is_ahead", top 10, ["one", "other"], ["one", "other"], ⟨2, 2, b4⟩⟩
/-- rectangle(one, other): 0 one, 1 other, 2 found, 3 row, 4 column -/
def b5 : ISs := (.cons (.setOwn 2 (.disp .nil))
    (.cons (.fors (.nm 3) (.range2 (.prim .ix (.cons (.var 0) (.cons (.lit (.int 1)) .nil))) (.prim (.bin .Add) (.cons (.prim .ix (.cons (.var 1) (.cons (.lit (.int 1)) .nil))) (.cons (.lit (.int 1)) .nil))))
    (.cons (.extOwn 2 (.comp (.nm 4) [("column", 4)] (.range2 (.prim .ix (.cons (.var 0) (.cons (.lit (.int 0)) .nil))) (.prim (.bin .Add) (.cons (.prim .ix (.cons (.var 1) (.cons (.lit (.int 0)) .nil))) (.cons (.lit (.int 1)) .nil)))) .no (.tup (.cons (.var 4) (.cons (.var 3) .nil)))))
    .nil))
    (.cons (.ret (.prim .tuple (.cons (.own 2) .nil)))
    .nil)))
def f5 : FDef := ⟨("rectangle", none), "rectangle", "rectangle", top 11, ["one", "other"], ["one", "other", "found", "row", "column"], ⟨2, 5, b5⟩⟩
/-- points_at(ref, place): 0 ref, 1 place, 2 found, 3 word, 4 number, 5 here, 6 one, 7 size -/
def b6 : ISs := (.cons (.ifs (.prim (.cmp .Eq) (.cons (.prim .ix (.cons (.var 0) (.cons (.lit (.int 0)) .nil))) (.cons (.lit (.str "gone")) .nil)))
    (.cons (.ret (.lit .non))
    .nil)
    .nil)
    (.cons (.set 2 (.frz (.comp (.tp (.cons (.tp (.cons (.nm 3) (.cons (.nm 4) .nil))) (.cons (.nm 5) .nil))) [("word", 3), ("number", 4), ("here", 5)] (.zip (.cons (.var 0) (.cons (.var 1) .nil))) .no (.cond (.prim (.cmp .Eq) (.cons (.var 3) (.cons (.lit (.str "at")) .nil))) (.var 4) (.prim (.bin .Add) (.cons (.var 5) (.cons (.var 4) .nil)))))))
    (.cons (.ret (.cond (.prim .all (.cons (.frz (.comp (.tp (.cons (.nm 6) (.cons (.nm 7) .nil))) [("one", 6), ("size", 7)] (.zip (.cons (.var 2) (.cons (.glob "SIZES" c_SIZES) .nil))) .no (.cmp2 .LtE .Lt (.lit (.int 0)) (.var 6) (.var 7)))) .nil)) (.prim .tuple (.cons (.var 2) .nil)) (.lit .non)))
    .nil)))
def f6 : FDef := ⟨("points_at", none), "points_at", "points_at", top 14, ["ref", "place"], ["ref", "place", "found", "word", "number", "here", "one", "size"], ⟨2, 8, b6⟩⟩
/-- word_of(ref, place): 0 ref, 1 place -/
def b7 : ISs := (.cons (.ifs (.prim (.cmp .Eq) (.cons (.prim .ix (.cons (.var 0) (.cons (.lit (.int 0)) .nil))) (.cons (.lit (.str "gone")) .nil)))
    (.cons (.ret (.lit (.str "gone")))
    .nil)
    .nil)
    (.cons (.ret (.cond (.prim (.cmp .Is) (.cons (.call "points_at" 6 (.cons (.var 0) (.cons (.var 1) .nil))) (.cons (.lit .non) .nil))) (.lit (.str "out")) (.lit .non)))
    .nil))
def f7 : FDef := ⟨("word_of", none), "word_of", "word_of", top 15, ["ref", "place"], ["ref", "place"], ⟨2, 2, b7⟩⟩
/-- range_places(one, other, place): 0 one, 1 other, 2 place, 3 ref, 4 first, 5 last -/
def b8 : ISs := (.cons (.fors (.nm 3) (.it (.tup (.cons (.var 0) (.cons (.var 1) .nil))))
    (.cons (.ifs (.prim (.cmp .IsNot) (.cons (.call "word_of" 7 (.cons (.var 3) (.cons (.var 2) .nil))) (.cons (.lit .non) .nil)))
    (.cons (.ret (.call "word_of" 7 (.cons (.var 3) (.cons (.var 2) .nil))))
    .nil)
    .nil)
    .nil))
    (.cons (.par 4 5 (.v (.call "points_at" 6 (.cons (.var 0) (.cons (.var 2) .nil)))) (.v (.call "points_at" 6 (.cons (.var 1) (.cons (.var 2) .nil)))))
    (.cons (.ifs (.orr (.prim (.cmp .Lt) (.cons (.prim .ix (.cons (.var 5) (.cons (.lit (.int 0)) .nil))) (.cons (.prim .ix (.cons (.var 4) (.cons (.lit (.int 0)) .nil))) .nil))) (.prim (.cmp .Lt) (.cons (.prim .ix (.cons (.var 5) (.cons (.lit (.int 1)) .nil))) (.cons (.prim .ix (.cons (.var 4) (.cons (.lit (.int 1)) .nil))) .nil))))
    (.cons (.ret (.lit (.str "out")))
    .nil)
    .nil)
    (.cons (.ret (.call "rectangle" 5 (.cons (.var 4) (.cons (.var 5) .nil))))
    .nil))))
def f8 : FDef := ⟨("range_places", none), "range_places", "range_places", top 16, ["one", "other", "place"], ["one", "other", "place", "ref", "first", "last"], ⟨3, 6, b8⟩⟩
/-- ref_to(target, place, marks): 0 target, 1 place, 2 marks, 3 found, 4 there, 5 here, 6 is_always -/
def b9 : ISs := (.cons (.setOwn 3 (.disp .nil))
    (.cons (.fors (.tp (.cons (.nm 4) (.cons (.nm 5) (.cons (.nm 6) .nil)))) (.zip (.cons (.var 0) (.cons (.var 1) (.cons (.var 2) .nil))))
    (.cons (.appOwn 3 (.cond (.var 6) (.tup (.cons (.lit (.str "at")) (.cons (.var 4) .nil))) (.tup (.cons (.lit (.str "by")) (.cons (.prim (.bin .Sub) (.cons (.var 4) (.cons (.var 5) .nil))) .nil)))))
    .nil))
    (.cons (.ret (.prim .tuple (.cons (.own 3) .nil)))
    .nil)))
def f9 : FDef := ⟨("ref_to", none), "ref_to", "ref_to", top 17, ["target", "place", "marks"], ["target", "place", "marks", "found", "there", "here", "is_always"], ⟨3, 7, b9⟩⟩
/-- marks_of(ref): 0 ref -/
def b10 : ISs := (.cons (.ifs (.prim (.cmp .Eq) (.cons (.prim .ix (.cons (.var 0) (.cons (.lit (.int 0)) .nil))) (.cons (.lit (.str "gone")) .nil)))
    (.cons (.ret (.tup (.cons (.lit (.bl true)) (.cons (.lit (.bl true)) .nil))))
    .nil)
    .nil)
    (.cons (.ret (.tup (.cons (.prim (.cmp .Eq) (.cons (.prim .ix (.cons (.prim .ix (.cons (.var 0) (.cons (.lit (.int 0)) .nil))) (.cons (.lit (.int 0)) .nil))) (.cons (.lit (.str "at")) .nil))) (.cons (.prim (.cmp .Eq) (.cons (.prim .ix (.cons (.prim .ix (.cons (.var 0) (.cons (.lit (.int 1)) .nil))) (.cons (.lit (.int 0)) .nil))) (.cons (.lit (.str "at")) .nil))) .nil))))
    .nil))
def f10 : FDef := ⟨("marks_of", none), "marks_of", "marks_of", top 18, ["ref"], ["ref"], ⟨1, 1, b10⟩⟩
/-- told_anew(ref, place, target, to): 0 ref, 1 place, 2 target, 3 to -/
def b11 : ISs := (.cons (.ret (.cond (.prim (.cmp .Is) (.cons (.var 2) (.cons (.lit .non) .nil))) (.tup (.cons (.lit (.str "gone")) .nil)) (.call "ref_to" 9 (.cons (.var 2) (.cons (.var 3) (.cons (.call "marks_of" 10 (.cons (.var 0) .nil)) .nil))))))
    .nil)
def f11 : FDef := ⟨("told_anew", none), "told_anew", "told_anew", top 19, ["ref", "place", "target", "to"], ["ref", "place", "target", "to"], ⟨4, 4, b11⟩⟩
/-- part_text(part): 0 part, 1 word, 2 number -/
def b12 : ISs := (.cons (.unp (.tp (.cons (.nm 1) (.cons (.nm 2) .nil))) (.var 0))
    (.cons (.ifs (.prim (.cmp .Eq) (.cons (.var 1) (.cons (.lit (.str "at")) .nil)))
    (.cons (.ret (.fstr (.cons (.lit (.str "=")) (.cons (.var 2) .nil))))
    .nil)
    .nil)
    (.cons (.ret (.cond (.prim (.cmp .Lt) (.cons (.var 2) (.cons (.lit (.int 0)) .nil))) (.fstr (.cons (.var 2) .nil)) (.fstr (.cons (.lit (.str "+")) (.cons (.var 2) .nil)))))
    .nil)))
def f12 : FDef := ⟨("part_text", none), "part_text", "part_text", top 20, ["part"], ["part", "word", "number"], ⟨1, 3, b12⟩⟩
/-- ref_text(ref, place): 0 ref, 1 place, 2 there, 3 marks, 4 is_always -/
def b13 : ISs := (.cons (.ifs (.prim (.cmp .Eq) (.cons (.prim .ix (.cons (.var 0) (.cons (.lit (.int 0)) .nil))) (.cons (.lit (.str "gone")) .nil)))
    (.cons (.ret (.lit (.str "#gone")))
    .nil)
    .nil)
    (.cons (.set 2 (.call "points_at" 6 (.cons (.var 0) (.cons (.var 1) .nil))))
    (.cons (.ifs (.prim (.cmp .Is) (.cons (.var 2) (.cons (.lit .non) .nil)))
    (.cons (.ret (.fstr (.cons (.lit (.str "[")) (.cons (.call "part_text" 12 (.cons (.prim .ix (.cons (.var 0) (.cons (.lit (.int 0)) .nil))) .nil)) (.cons (.lit (.str ",")) (.cons (.call "part_text" 12 (.cons (.prim .ix (.cons (.var 0) (.cons (.lit (.int 1)) .nil))) .nil)) (.cons (.lit (.str "]")) .nil)))))))
    .nil)
    .nil)
    (.cons (.set 3 (.frz (.comp (.nm 4) [("is_always", 4)] (.it (.call "marks_of" 10 (.cons (.var 0) .nil))) .no (.cond (.var 4) (.lit (.str "$")) (.lit (.str ""))))))
    (.cons (.ret (.fstr (.cons (.prim .ix (.cons (.var 3) (.cons (.lit (.int 0)) .nil))) (.cons (.prim .ix (.cons (.glob "LETTERS" c_LETTERS) (.cons (.prim .ix (.cons (.var 2) (.cons (.lit (.int 0)) .nil))) .nil))) (.cons (.prim .ix (.cons (.var 3) (.cons (.lit (.int 1)) .nil))) (.cons (.prim (.bin .Add) (.cons (.prim .ix (.cons (.var 2) (.cons (.lit (.int 1)) .nil))) (.cons (.lit (.int 1)) .nil))) .nil))))))
    .nil)))))
def f13 : FDef := ⟨("ref_text", none), "ref_text", "ref_text", top 21, ["ref", "place"], ["ref", "place", "there", "marks", "is_always"], ⟨2, 5, b13⟩⟩
/-- part_in(word, size): 0 word, 1 size, 2 sign, 3 figures, 4 number, 5 one -/
def b14 : ISs := (.cons (.par 2 3 (.v (.slice (.var 0) .no (.som (.lit (.int 1))))) (.v (.slice (.var 0) (.som (.lit (.int 1))) .no)))
    (.cons (.ifs (.orr (.prim (.cmp .Eq) (.cons (.var 3) (.cons (.lit (.str "")) .nil))) (.orr (.prim (.cmp .Gt) (.cons (.prim .len (.cons (.var 3) .nil)) (.cons (.lit (.int 3)) .nil))) (.nott (.prim .all (.cons (.frz (.comp (.nm 5) [("one", 5)] (.it (.var 3)) .no (.prim (.cmp .In) (.cons (.var 5) (.cons (.glob "DIGITS" c_DIGITS) .nil))))) .nil)))))
    (.cons (.ret (.lit .non))
    .nil)
    .nil)
    (.cons (.ifs (.andd (.prim (.cmp .Eq) (.cons (.prim .ix (.cons (.var 3) (.cons (.lit (.int 0)) .nil))) (.cons (.lit (.str "0")) .nil))) (.prim (.cmp .NotEq) (.cons (.var 3) (.cons (.lit (.str "0")) .nil))))
    (.cons (.ret (.lit .non))
    .nil)
    .nil)
    (.cons (.set 4 (.prim .int (.cons (.var 3) .nil)))
    (.cons (.ifs (.prim (.cmp .Eq) (.cons (.var 2) (.cons (.lit (.str "=")) .nil)))
    (.cons (.ret (.cond (.prim (.cmp .Lt) (.cons (.var 4) (.cons (.var 1) .nil))) (.tup (.cons (.lit (.str "at")) (.cons (.var 4) .nil))) (.lit .non)))
    .nil)
    .nil)
    (.cons (.ifs (.orr (.prim (.cmp .GtE) (.cons (.var 4) (.cons (.glob "MOST_BY" c_MOST_BY) .nil))) (.orr (.prim (.cmp .NotIn) (.cons (.var 2) (.cons (.tup (.cons (.lit (.str "+")) (.cons (.lit (.str "-")) .nil))) .nil))) (.andd (.prim (.cmp .Eq) (.cons (.var 2) (.cons (.lit (.str "-")) .nil))) (.prim (.cmp .Eq) (.cons (.var 4) (.cons (.lit (.int 0)) .nil))))))
    (.cons (.ret (.lit .non))
    .nil)
    .nil)
    (.cons (.ret (.tup (.cons (.lit (.str "by")) (.cons (.cond (.prim (.cmp .Eq) (.cons (.var 2) (.cons (.lit (.str "-")) .nil))) (.prim .neg (.cons (.var 4) .nil)) (.var 4)) .nil))))
    .nil)))))))
def f14 : FDef := ⟨("part_in", none), "part_in", "part_in", top 22, ["word", "size"], ["word", "size", "sign", "figures", "number", "one"], ⟨2, 6, b14⟩⟩
/-- bracketed_in(text): 0 text, 1 words, 2 found, 3 word, 4 size -/
def b15 : ISs := (.cons (.set 1 (.frz (.split (.slice (.var 0) (.som (.lit (.int 1))) (.som (.prim .neg (.cons (.lit (.int 1)) .nil)))) (.lit (.str ",")))))
    (.cons (.ifs (.prim (.cmp .NotEq) (.cons (.prim .len (.cons (.var 1) .nil)) (.cons (.lit (.int 2)) .nil)))
    (.cons (.ret (.lit .non))
    .nil)
    .nil)
    (.cons (.set 2 (.prim .tuple (.cons (.frz (.comp (.tp (.cons (.nm 3) (.cons (.nm 4) .nil))) [("word", 3), ("size", 4)] (.zip (.cons (.var 1) (.cons (.glob "SIZES" c_SIZES) .nil))) .no (.call "part_in" 14 (.cons (.var 3) (.cons (.var 4) .nil))))) .nil)))
    (.cons (.ret (.cond (.prim (.cmp .In) (.cons (.lit .non) (.cons (.var 2) .nil))) (.lit .non) (.var 2)))
    .nil))))
def f15 : FDef := ⟨("bracketed_in", none), "bracketed_in", "bracketed_in", top 23, ["text"], ["text", "words", "found", "word", "size"], ⟨1, 5, b15⟩⟩
/-- plain_in(text): 0 text, 1 has_column, 2 rest, 3 has_row, 4 column, 5 row -/
def b16 : ISs := (.cons (.set 1 (.prim (.cmp .Eq) (.cons (.slice (.var 0) .no (.som (.lit (.int 1)))) (.cons (.lit (.str "$")) .nil))))
    (.cons (.set 2 (.cond (.var 1) (.slice (.var 0) (.som (.lit (.int 1))) .no) (.var 0)))
    (.cons (.set 3 (.prim (.cmp .Eq) (.cons (.slice (.var 2) (.som (.lit (.int 1))) (.som (.lit (.int 2)))) (.cons (.lit (.str "$")) .nil))))
    (.cons (.par 4 5 (.v (.call "column_in" 2 (.cons (.slice (.var 2) .no (.som (.lit (.int 1)))) .nil))) (.v (.call "row_in" 1 (.cons (.cond (.var 3) (.slice (.var 2) (.som (.lit (.int 2))) .no) (.slice (.var 2) (.som (.lit (.int 1))) .no)) .nil))))
    (.cons (.ret (.cond (.orr (.prim (.cmp .Is) (.cons (.var 4) (.cons (.lit .non) .nil))) (.prim (.cmp .Is) (.cons (.var 5) (.cons (.lit .non) .nil)))) (.lit .non) (.tup (.cons (.tup (.cons (.var 4) (.cons (.var 5) .nil))) (.cons (.tup (.cons (.var 1) (.cons (.var 3) .nil))) .nil)))))
    .nil)))))
def f16 : FDef := ⟨("plain_in", none), "plain_in", "plain_in", top 24, ["text"], ["text", "has_column", "rest", "has_row", "column", "row"], ⟨1, 6, b16⟩⟩
/-- read_ref(text, place): 0 text, 1 place, 2 found, 3 told -/
def b17 : ISs := (.cons (.ifs (.prim (.cmp .Eq) (.cons (.var 0) (.cons (.lit (.str "#gone")) .nil)))
    (.cons (.ret (.tup (.cons (.lit (.str "gone")) .nil)))
    .nil)
    .nil)
    (.cons (.ifs (.andd (.prim (.cmp .Eq) (.cons (.slice (.var 0) .no (.som (.lit (.int 1)))) (.cons (.lit (.str "[")) .nil))) (.prim (.cmp .Eq) (.cons (.slice (.var 0) (.som (.prim .neg (.cons (.lit (.int 1)) .nil))) .no) (.cons (.lit (.str "]")) .nil))))
    (.cons (.set 2 (.call "bracketed_in" 15 (.cons (.var 0) .nil)))
    (.cons (.ret (.cond (.orr (.prim (.cmp .Is) (.cons (.var 2) (.cons (.lit .non) .nil))) (.orr (.prim (.cmp .IsNot) (.cons (.var 1) (.cons (.lit .non) .nil))) (.prim (.cmp .Eq) (.cons (.call "marks_of" 10 (.cons (.var 2) .nil)) (.cons (.tup (.cons (.lit (.bl true)) (.cons (.lit (.bl true)) .nil))) .nil))))) (.var 2) (.lit .non)))
    .nil))
    .nil)
    (.cons (.set 3 (.call "plain_in" 16 (.cons (.var 0) .nil)))
    (.cons (.ifs (.orr (.prim (.cmp .Is) (.cons (.var 3) (.cons (.lit .non) .nil))) (.andd (.prim (.cmp .Is) (.cons (.var 1) (.cons (.lit .non) .nil))) (.prim (.cmp .NotEq) (.cons (.prim .ix (.cons (.var 3) (.cons (.lit (.int 1)) .nil))) (.cons (.tup (.cons (.lit (.bl true)) (.cons (.lit (.bl true)) .nil))) .nil)))))
    (.cons (.ret (.lit .non))
    .nil)
    .nil)
    (.cons (.ret (.call "ref_to" 9 (.cons (.prim .ix (.cons (.var 3) (.cons (.lit (.int 0)) .nil))) (.cons (.cond (.prim (.cmp .IsNot) (.cons (.var 1) (.cons (.lit .non) .nil))) (.var 1) (.tup (.cons (.lit (.int 0)) (.cons (.lit (.int 0)) .nil)))) (.cons (.prim .ix (.cons (.var 3) (.cons (.lit (.int 1)) .nil))) .nil)))))
    .nil)))))
def f17 : FDef := ⟨("read_ref", none), "read_ref", "read_ref", top 25, ["text", "place"], ["text", "place", "found", "told"], ⟨2, 4, b17⟩⟩
/-- _law_bag(script): 0 script, 1 cell -/
def b18 : ISs := (.cons (.ret (.cell (.disp (.cons (.lit (.int 0)) (.cons (.lit (.int 1234567891)) (.cons (.lit (.int 0)) (.cons (.frz (.comp (.nm 1) [("cell", 1)] (.it (.slice (.var 0) .no (.som (.lit (.int 63))))) .no (.prim .abs (.cons (.var 1) .nil)))) .nil)))))))
    .nil)
def f18 : FDef := ⟨("_law_bag", none), "_law_bag", "_law_bag", top 27, ["script"], ["script", "cell"], ⟨1, 2, b18⟩⟩
/-- _law_take(bag, many): 0 bag, 1 many, 2 cell, 3 stirred, 4 value, 5 begin, 6 second -/
def b19 : ISs := (.cons (.ifs (.prim (.cmp .Eq) (.cons (.prim .ix (.cons (.var 0) (.cons (.lit (.int 0)) .nil))) (.cons (.lit (.int 0)) .nil)))
    (.cons (.set 2 (.prim .ix (.cons (.prim (.bin .Add) (.cons (.slice (.prim .ix (.cons (.var 0) (.cons (.lit (.int 3)) .nil))) (.som (.prim .ix (.cons (.var 0) (.cons (.lit (.int 2)) .nil)))) .no) (.cons (.frz (.disp (.cons (.lit (.int 0)) .nil))) .nil))) (.cons (.lit (.int 0)) .nil))))
    (.cons (.augIx .Add (.var 0) (.lit (.int 2)) (.lit (.int 1)))
    (.cons (.ifs (.prim (.cmp .GtE) (.cons (.var 2) (.cons (.prim (.bin .Pow) (.cons (.lit (.int 10)) (.cons (.lit (.int 18)) .nil))) .nil)))
    (.cons (.setIx (.var 0) (.lit (.int 0)) (.var 2))
    .nil)
    .nil)
    (.cons (.set 3 (.prim (.bin .Add) (.cons (.prim (.bin .Add) (.cons (.prim (.bin .Mult) (.cons (.prim .ix (.cons (.var 0) (.cons (.lit (.int 1)) .nil))) (.cons (.lit (.int 48271)) .nil))) (.cons (.prim (.bin .Mod) (.cons (.prim .int (.cons (.var 2) .nil)) (.cons (.lit (.int 2147483647)) .nil))) .nil))) (.cons (.prim (.bin .Mult) (.cons (.lit (.int 7919)) (.cons (.prim .ix (.cons (.var 0) (.cons (.lit (.int 2)) .nil))) .nil))) .nil))))
    (.cons (.setIx (.var 0) (.lit (.int 1)) (.prim (.bin .Mod) (.cons (.prim .int (.cons (.var 3) .nil)) (.cons (.lit (.int 2147483647)) .nil))))
    .nil)))))
    .nil)
    (.cons (.ifs (.prim (.cmp .Gt) (.cons (.prim .ix (.cons (.var 0) (.cons (.lit (.int 0)) .nil))) (.cons (.lit (.int 0)) .nil)))
    (.cons (.set 4 (.prim (.bin .Mod) (.cons (.prim .int (.cons (.prim .ix (.cons (.var 0) (.cons (.lit (.int 0)) .nil))) .nil)) (.cons (.var 1) .nil))))
    (.cons (.setIx (.var 0) (.lit (.int 0)) (.prim (.bin .FloorDiv) (.cons (.prim .int (.cons (.prim .ix (.cons (.var 0) (.cons (.lit (.int 0)) .nil))) .nil)) (.cons (.var 1) .nil))))
    (.cons (.ret (.var 4))
    .nil)))
    .nil)
    (.cons (.set 5 (.prim (.bin .Mod) (.cons (.prim .int (.cons (.prim (.bin .Mult) (.cons (.prim (.bin .Add) (.cons (.prim .ix (.cons (.var 0) (.cons (.lit (.int 1)) .nil))) (.cons (.lit (.int 1)) .nil))) (.cons (.lit (.int 39373)) .nil))) .nil)) (.cons (.lit (.int 1000000007)) .nil))))
    (.cons (.set 6 (.prim (.bin .Mod) (.cons (.prim .int (.cons (.prim (.bin .Mult) (.cons (.prim (.bin .Mod) (.cons (.prim .int (.cons (.prim (.bin .Mult) (.cons (.var 5) (.cons (.var 5) .nil))) .nil)) (.cons (.lit (.int 998244353)) .nil))) (.cons (.lit (.int 30011)) .nil))) .nil)) (.cons (.lit (.int 998244353)) .nil))))
    (.cons (.ret (.prim (.bin .Mod) (.cons (.prim .int (.cons (.prim (.bin .FloorDiv) (.cons (.var 6) (.cons (.lit (.int 7)) .nil))) .nil)) (.cons (.var 1) .nil))))
    .nil)))))
def f19 : FDef := ⟨("_law_take", none), "_law_take", "_law_take", top 28, ["bag", "many"], ["bag", "many", "cell", "stirred", "value", "begin", "second"], ⟨2, 7, b19⟩⟩
/-- _law_some(bag, things): 0 bag, 1 things -/
def b20 : ISs := (.cons (.ret (.prim .ix (.cons (.var 1) (.cons (.call "_law_take" 19 (.cons (.var 0) (.cons (.prim .len (.cons (.var 1) .nil)) .nil))) .nil))))
    .nil)
def f20 : FDef := ⟨("_law_some", none), "_law_some", "_law_some", top 29, ["bag", "things"], ["bag", "things"], ⟨2, 2, b20⟩⟩
/-- _law_alike(found, due): 0 found, 1 due -/
def b21 : ISs := (.cons (.ret (.andd (.prim (.cmp .Eq) (.cons (.prim .repr (.cons (.var 0) .nil)) (.cons (.prim .repr (.cons (.var 1) .nil)) .nil))) (.prim (.cmp .Eq) (.cons (.var 0) (.cons (.var 1) .nil)))))
    .nil)
def f21 : FDef := ⟨("_law_alike", none), "_law_alike", "_law_alike", top 30, ["found", "due"], ["found", "due"], ⟨2, 2, b21⟩⟩
/-- _law_spot(coordinate, own, most): 0 coordinate, 1 own, 2 most, 3 n -/
def b22 : ISs := (.cons (.set 3 (.cond (.prim (.cmp .Eq) (.cons (.prim .ix (.cons (.var 0) (.cons (.lit (.int 0)) .nil))) (.cons (.lit (.str "by")) .nil))) (.prim (.bin .Add) (.cons (.var 1) (.cons (.prim .ix (.cons (.var 0) (.cons (.lit (.int 1)) .nil))) .nil))) (.prim .ix (.cons (.var 0) (.cons (.lit (.int 1)) .nil)))))
    (.cons (.ret (.cond (.cmp2 .LtE .Lt (.lit (.int 0)) (.var 3) (.var 2)) (.var 3) (.lit .non)))
    .nil))
def f22 : FDef := ⟨("_law_spot", none), "_law_spot", "_law_spot", top 31, ["coordinate", "own", "most"], ["coordinate", "own", "most", "n"], ⟨3, 4, b22⟩⟩
/-- _law_points(ref, place): 0 ref, 1 place, 2 column, 3 row -/
def b23 : ISs := (.cons (.ifs (.prim (.cmp .Eq) (.cons (.var 0) (.cons (.tup (.cons (.lit (.str "gone")) .nil)) .nil)))
    (.cons (.ret (.lit (.str "gone")))
    .nil)
    .nil)
    (.cons (.par 2 3 (.v (.call "_law_spot" 22 (.cons (.prim .ix (.cons (.var 0) (.cons (.lit (.int 0)) .nil))) (.cons (.prim .ix (.cons (.var 1) (.cons (.lit (.int 0)) .nil))) (.cons (.lit (.int 26)) .nil))))) (.v (.call "_law_spot" 22 (.cons (.prim .ix (.cons (.var 0) (.cons (.lit (.int 1)) .nil))) (.cons (.prim .ix (.cons (.var 1) (.cons (.lit (.int 1)) .nil))) (.cons (.lit (.int 200)) .nil))))))
    (.cons (.ret (.cond (.orr (.prim (.cmp .Is) (.cons (.var 2) (.cons (.lit .non) .nil))) (.prim (.cmp .Is) (.cons (.var 3) (.cons (.lit .non) .nil)))) (.lit (.str "out")) (.tup (.cons (.var 2) (.cons (.var 3) .nil)))))
    .nil)))
def f23 : FDef := ⟨("_law_points", none), "_law_points", "_law_points", top 32, ["ref", "place"], ["ref", "place", "column", "row"], ⟨2, 4, b23⟩⟩
/-- _law_ref(target, place, marks): 0 target, 1 place, 2 marks, 3 n, 4 own, 5 mark -/
def b24 : ISs := (.cons (.ret (.prim .tuple (.cons (.frz (.comp (.tp (.cons (.nm 3) (.cons (.nm 4) (.cons (.nm 5) .nil)))) [("n", 3), ("own", 4), ("mark", 5)] (.zip (.cons (.var 0) (.cons (.var 1) (.cons (.var 2) .nil)))) .no (.cond (.var 5) (.tup (.cons (.lit (.str "at")) (.cons (.var 3) .nil))) (.tup (.cons (.lit (.str "by")) (.cons (.prim (.bin .Sub) (.cons (.var 3) (.cons (.var 4) .nil))) .nil)))))) .nil)))
    .nil)
def f24 : FDef := ⟨("_law_ref", none), "_law_ref", "_law_ref", top 33, ["target", "place", "marks"], ["target", "place", "marks", "n", "own", "mark"], ⟨3, 6, b24⟩⟩
/-- _law_spread(first, last): 0 first, 1 last, 2 one, 3 found, 4 row, 5 column -/
def b25 : ISs := (.cons (.fors (.nm 2) (.it (.tup (.cons (.var 0) (.cons (.var 1) .nil))))
    (.cons (.ifs (.prim (.cmp .In) (.cons (.var 2) (.cons (.tup (.cons (.lit (.str "gone")) (.cons (.lit (.str "out")) .nil))) .nil)))
    (.cons (.ret (.var 2))
    .nil)
    .nil)
    .nil))
    (.cons (.ifs (.orr (.prim (.cmp .Lt) (.cons (.prim .ix (.cons (.var 1) (.cons (.lit (.int 0)) .nil))) (.cons (.prim .ix (.cons (.var 0) (.cons (.lit (.int 0)) .nil))) .nil))) (.prim (.cmp .Lt) (.cons (.prim .ix (.cons (.var 1) (.cons (.lit (.int 1)) .nil))) (.cons (.prim .ix (.cons (.var 0) (.cons (.lit (.int 1)) .nil))) .nil))))
    (.cons (.ret (.lit (.str "out")))
    .nil)
    .nil)
    (.cons (.setOwn 3 (.disp .nil))
    (.cons (.fors (.nm 4) (.range2 (.prim .ix (.cons (.var 0) (.cons (.lit (.int 1)) .nil))) (.prim (.bin .Add) (.cons (.prim .ix (.cons (.var 1) (.cons (.lit (.int 1)) .nil))) (.cons (.lit (.int 1)) .nil))))
    (.cons (.extOwn 3 (.comp (.nm 5) [("column", 5)] (.range2 (.prim .ix (.cons (.var 0) (.cons (.lit (.int 0)) .nil))) (.prim (.bin .Add) (.cons (.prim .ix (.cons (.var 1) (.cons (.lit (.int 0)) .nil))) (.cons (.lit (.int 1)) .nil)))) .no (.tup (.cons (.var 5) (.cons (.var 4) .nil)))))
    .nil))
    (.cons (.ret (.prim .tuple (.cons (.own 3) .nil)))
    .nil)))))
def f25 : FDef := ⟨("_law_spread", none), "_law_spread", "_law_spread", top 34, ["first", "last"], ["first", "last", "one", "found", "row", "column"], ⟨2, 6, b25⟩⟩
/-- _law_marks(ref): 0 ref -/
def b26 : ISs := (.cons (.ret (.cond (.prim (.cmp .Eq) (.cons (.var 0) (.cons (.tup (.cons (.lit (.str "gone")) .nil)) .nil))) (.tup (.cons (.lit (.bl true)) (.cons (.lit (.bl true)) .nil))) (.tup (.cons (.prim (.cmp .Eq) (.cons (.prim .ix (.cons (.prim .ix (.cons (.var 0) (.cons (.lit (.int 0)) .nil))) (.cons (.lit (.int 0)) .nil))) (.cons (.lit (.str "at")) .nil))) (.cons (.prim (.cmp .Eq) (.cons (.prim .ix (.cons (.prim .ix (.cons (.var 0) (.cons (.lit (.int 1)) .nil))) (.cons (.lit (.int 0)) .nil))) (.cons (.lit (.str "at")) .nil))) .nil)))))
    .nil)
def f26 : FDef := ⟨("_law_marks", none), "_law_marks", "_law_marks", top 35, ["ref"], ["ref"], ⟨1, 1, b26⟩⟩
/-- _law_place_text(place): 0 place -/
def b27 : ISs := (.cons (.ret (.prim (.bin .Add) (.cons (.prim .ix (.cons (.lit (.str "abcdefghijklmnopqrstuvwxyz")) (.cons (.prim .ix (.cons (.var 0) (.cons (.lit (.int 0)) .nil))) .nil))) (.cons (.prim .str (.cons (.prim (.bin .Add) (.cons (.prim .ix (.cons (.var 0) (.cons (.lit (.int 1)) .nil))) (.cons (.lit (.int 1)) .nil))) .nil)) .nil))))
    .nil)
def f27 : FDef := ⟨("_law_place_text", none), "_law_place_text", "_law_place_text", top 36, ["place"], ["place"], ⟨1, 1, b27⟩⟩
/-- _law_ref_text(ref, place): 0 ref, 1 place, 2 target, 3 marks, 4 text, 5 word, 6 n -/
def b28 : ISs := (.cons (.set 2 (.call "_law_points" 23 (.cons (.var 0) (.cons (.var 1) .nil))))
    (.cons (.ifs (.prim (.cmp .Eq) (.cons (.var 2) (.cons (.lit (.str "gone")) .nil)))
    (.cons (.ret (.lit (.str "#gone")))
    .nil)
    .nil)
    (.cons (.ifs (.prim (.cmp .Eq) (.cons (.var 2) (.cons (.lit (.str "out")) .nil)))
    (.cons (.ret (.prim (.bin .Add) (.cons (.prim (.bin .Add) (.cons (.lit (.str "[")) (.cons (.meth .join (.lit (.str ",")) (.cons (.frz (.comp (.tp (.cons (.nm 5) (.cons (.nm 6) .nil))) [("word", 5), ("n", 6)] (.it (.var 0)) .no (.cond (.prim (.cmp .Eq) (.cons (.var 5) (.cons (.lit (.str "at")) .nil))) (.prim (.bin .Add) (.cons (.lit (.str "=")) (.cons (.prim .str (.cons (.var 6) .nil)) .nil))) (.prim (.bin .Add) (.cons (.cond (.prim (.cmp .GtE) (.cons (.var 6) (.cons (.lit (.int 0)) .nil))) (.lit (.str "+")) (.lit (.str "-"))) (.cons (.prim .str (.cons (.prim .abs (.cons (.var 6) .nil)) .nil)) .nil)))))) .nil)) .nil))) (.cons (.lit (.str "]")) .nil))))
    .nil)
    .nil)
    (.cons (.set 3 (.call "_law_marks" 26 (.cons (.var 0) .nil)))
    (.cons (.set 4 (.call "_law_place_text" 27 (.cons (.var 2) .nil)))
    (.cons (.ret (.prim (.bin .Add) (.cons (.prim (.bin .Add) (.cons (.prim (.bin .Add) (.cons (.cond (.prim .ix (.cons (.var 3) (.cons (.lit (.int 0)) .nil))) (.lit (.str "$")) (.lit (.str ""))) (.cons (.prim .ix (.cons (.var 4) (.cons (.lit (.int 0)) .nil))) .nil))) (.cons (.cond (.prim .ix (.cons (.var 3) (.cons (.lit (.int 1)) .nil))) (.lit (.str "$")) (.lit (.str ""))) .nil))) (.cons (.slice (.var 4) (.som (.lit (.int 1))) .no) .nil))))
    .nil))))))
def f28 : FDef := ⟨("_law_ref_text", none), "_law_ref_text", "_law_ref_text", top 37, ["ref", "place"], ["ref", "place", "target", "marks", "text", "word", "n"], ⟨2, 7, b28⟩⟩
/-- _law_figures(word, most): 0 word, 1 most, 2 sign -/
def b29 : ISs := (.cons (.ifs (.orr (.nott (.cmp2 .LtE .LtE (.lit (.int 1)) (.prim .len (.cons (.var 0) .nil)) (.var 1))) (.orr (.prim (.cmp .NotEq) (.cons (.frz (.comp (.nm 2) [("sign", 2)] (.it (.var 0)) (.som (.nott (.cmp2 .LtE .LtE (.lit (.str "0")) (.var 2) (.lit (.str "9"))))) (.var 2))) (.cons (.frz (.disp .nil)) .nil))) (.andd (.prim (.cmp .Eq) (.cons (.prim .ix (.cons (.var 0) (.cons (.lit (.int 0)) .nil))) (.cons (.lit (.str "0")) .nil))) (.prim (.cmp .NotEq) (.cons (.var 0) (.cons (.lit (.str "0")) .nil))))))
    (.cons (.ret (.lit .non))
    .nil)
    .nil)
    (.cons (.ret (.prim .int (.cons (.var 0) .nil)))
    .nil))
def f29 : FDef := ⟨("_law_figures", none), "_law_figures", "_law_figures", top 38, ["word", "most"], ["word", "most", "sign"], ⟨2, 3, b29⟩⟩
/-- _law_read_ref(text, place): 0 text, 1 place, 2 parts, 3 found, 4 word, 5 size, 6 n, 7 marks, 8 rest -/
def b30 : ISs := (.cons (.ifs (.prim (.cmp .Eq) (.cons (.var 0) (.cons (.lit (.str "#gone")) .nil)))
    (.cons (.ret (.tup (.cons (.lit (.str "gone")) .nil)))
    .nil)
    .nil)
    (.cons (.ifs (.andd (.prim (.cmp .Eq) (.cons (.slice (.var 0) .no (.som (.lit (.int 1)))) (.cons (.lit (.str "[")) .nil))) (.prim (.cmp .Eq) (.cons (.slice (.var 0) (.som (.prim .neg (.cons (.lit (.int 1)) .nil))) .no) (.cons (.lit (.str "]")) .nil))))
    (.cons (.par 2 3 (.v (.frz (.split (.slice (.var 0) (.som (.lit (.int 1))) (.som (.prim .neg (.cons (.lit (.int 1)) .nil)))) (.lit (.str ","))))) (.o (.disp .nil)))
    (.cons (.fors (.tp (.cons (.nm 4) (.cons (.nm 5) .nil))) (.zip (.cons (.var 2) (.cons (.tup (.cons (.lit (.int 26)) (.cons (.lit (.int 200)) .nil))) .nil)))
    (.cons (.set 6 (.call "_law_figures" 29 (.cons (.slice (.var 4) (.som (.lit (.int 1))) .no) (.cons (.lit (.int 3)) .nil))))
    (.cons (.ifs (.orr (.prim (.cmp .Is) (.cons (.var 6) (.cons (.lit .non) .nil))) (.orr (.prim (.cmp .NotIn) (.cons (.slice (.var 4) .no (.som (.lit (.int 1)))) (.cons (.tup (.cons (.lit (.str "=")) (.cons (.lit (.str "+")) (.cons (.lit (.str "-")) .nil)))) .nil))) (.orr (.andd (.prim (.cmp .Eq) (.cons (.slice (.var 4) .no (.som (.lit (.int 1)))) (.cons (.lit (.str "=")) .nil))) (.prim (.cmp .GtE) (.cons (.var 6) (.cons (.var 5) .nil)))) (.prim (.cmp .Eq) (.cons (.var 4) (.cons (.lit (.str "-0")) .nil))))))
    (.cons (.ret (.lit .non))
    .nil)
    .nil)
    (.cons (.appOwn 3 (.cond (.prim (.cmp .Eq) (.cons (.slice (.var 4) .no (.som (.lit (.int 1)))) (.cons (.lit (.str "=")) .nil))) (.tup (.cons (.lit (.str "at")) (.cons (.var 6) .nil))) (.tup (.cons (.lit (.str "by")) (.cons (.cond (.prim (.cmp .Eq) (.cons (.slice (.var 4) .no (.som (.lit (.int 1)))) (.cons (.lit (.str "+")) .nil))) (.var 6) (.prim (.bin .Sub) (.cons (.lit (.int 0)) (.cons (.var 6) .nil)))) .nil)))))
    .nil))))
    (.cons (.ret (.cond (.prim (.cmp .Eq) (.cons (.prim .len (.cons (.var 2) .nil)) (.cons (.lit (.int 2)) .nil))) (.prim .tuple (.cons (.own 3) .nil)) (.lit .non)))
    .nil)))
    .nil)
    (.cons (.setOwn 7 (.disp (.cons (.prim (.cmp .Eq) (.cons (.slice (.var 0) .no (.som (.lit (.int 1)))) (.cons (.lit (.str "$")) .nil))) .nil)))
    (.cons (.set 8 (.cond (.prim .ix (.cons (.own 7) (.cons (.lit (.int 0)) .nil))) (.slice (.var 0) (.som (.lit (.int 1))) .no) (.var 0)))
    (.cons (.appOwn 7 (.prim (.cmp .Eq) (.cons (.slice (.var 8) (.som (.lit (.int 1))) (.som (.lit (.int 2)))) (.cons (.lit (.str "$")) .nil))))
    (.cons (.set 6 (.call "_law_figures" 29 (.cons (.cond (.prim .ix (.cons (.own 7) (.cons (.lit (.int 1)) .nil))) (.slice (.var 8) (.som (.lit (.int 2))) .no) (.slice (.var 8) (.som (.lit (.int 1))) .no)) (.cons (.lit (.int 3)) .nil))))
    (.cons (.ifs (.orr (.nott (.cmp2 .LtE .LtE (.lit (.str "a")) (.slice (.var 8) .no (.som (.lit (.int 1)))) (.lit (.str "z")))) (.orr (.prim (.cmp .Is) (.cons (.var 6) (.cons (.lit .non) .nil))) (.nott (.cmp2 .LtE .LtE (.lit (.int 1)) (.var 6) (.lit (.int 200))))))
    (.cons (.ret (.lit .non))
    .nil)
    .nil)
    (.cons (.freeze 7 (.ret (.call "_law_ref" 24 (.cons (.tup (.cons (.meth .sindex (.lit (.str "abcdefghijklmnopqrstuvwxyz")) (.cons (.slice (.var 8) .no (.som (.lit (.int 1)))) .nil)) (.cons (.prim (.bin .Sub) (.cons (.var 6) (.cons (.lit (.int 1)) .nil))) .nil))) (.cons (.var 1) (.cons (.var 7) .nil))))))
    .nil))))))))
def f30 : FDef := ⟨("_law_read_ref", none), "_law_read_ref", "_law_read_ref", top 39, ["text", "place"], ["text", "place", "parts", "found", "word", "size", "n", "marks", "rest"], ⟨2, 9, b30⟩⟩
/-- _law_drawn_place(bag): 0 bag -/
def b31 : ISs := (.cons (.ret (.tup (.cons (.call "_law_some" 20 (.cons (.var 0) (.cons (.frz (.disp (.cons (.lit (.int 0)) (.cons (.lit (.int 1)) (.cons (.lit (.int 2)) (.cons (.lit (.int 25)) (.cons (.lit (.int 24)) (.cons (.call "_law_take" 19 (.cons (.var 0) (.cons (.lit (.int 26)) .nil))) .nil)))))))) .nil))) (.cons (.call "_law_some" 20 (.cons (.var 0) (.cons (.frz (.disp (.cons (.lit (.int 0)) (.cons (.lit (.int 1)) (.cons (.lit (.int 5)) (.cons (.lit (.int 199)) (.cons (.lit (.int 198)) (.cons (.call "_law_take" 19 (.cons (.var 0) (.cons (.lit (.int 200)) .nil))) .nil)))))))) .nil))) .nil))))
    .nil)
def f31 : FDef := ⟨("_law_drawn_place", none), "_law_drawn_place", "_law_drawn_place", top 40, ["bag"], ["bag"], ⟨1, 1, b31⟩⟩
/-- _law_drawn_ref(bag): 0 bag -/
def b32 : ISs := (.cons (.ifs (.prim (.cmp .Eq) (.cons (.call "_law_take" 19 (.cons (.var 0) (.cons (.lit (.int 8)) .nil))) (.cons (.lit (.int 0)) .nil)))
    (.cons (.ret (.tup (.cons (.lit (.str "gone")) .nil)))
    .nil)
    .nil)
    (.cons (.ret (.tup (.cons (.call "_law_some" 20 (.cons (.var 0) (.cons (.frz (.disp (.cons (.tup (.cons (.lit (.str "by")) (.cons (.lit (.int 0)) .nil))) (.cons (.tup (.cons (.lit (.str "by")) (.cons (.prim .neg (.cons (.lit (.int 1)) .nil)) .nil))) (.cons (.tup (.cons (.lit (.str "by")) (.cons (.lit (.int 3)) .nil))) (.cons (.tup (.cons (.lit (.str "by")) (.cons (.prim .neg (.cons (.lit (.int 30)) .nil)) .nil))) (.cons (.tup (.cons (.lit (.str "at")) (.cons (.call "_law_take" 19 (.cons (.var 0) (.cons (.lit (.int 26)) .nil))) .nil))) .nil))))))) .nil))) (.cons (.call "_law_some" 20 (.cons (.var 0) (.cons (.frz (.disp (.cons (.tup (.cons (.lit (.str "by")) (.cons (.lit (.int 0)) .nil))) (.cons (.tup (.cons (.lit (.str "by")) (.cons (.prim .neg (.cons (.lit (.int 2)) .nil)) .nil))) (.cons (.tup (.cons (.lit (.str "by")) (.cons (.lit (.int 1)) .nil))) (.cons (.tup (.cons (.lit (.str "by")) (.cons (.lit (.int 250)) .nil))) (.cons (.tup (.cons (.lit (.str "at")) (.cons (.call "_law_take" 19 (.cons (.var 0) (.cons (.lit (.int 200)) .nil))) .nil))) .nil))))))) .nil))) .nil))))
    .nil))
def f32 : FDef := ⟨("_law_drawn_ref", none), "_law_drawn_ref", "_law_drawn_ref", top 41, ["bag"], ["bag"], ⟨1, 1, b32⟩⟩
/-- _law_read_place(text): 0 text, 1 n -/
def b33 : ISs := (.cons (.set 1 (.call "_law_figures" 29 (.cons (.slice (.var 0) (.som (.lit (.int 1))) .no) (.cons (.lit (.int 3)) .nil))))
    (.cons (.ifs (.orr (.nott (.cmp2 .LtE .LtE (.lit (.str "a")) (.slice (.var 0) .no (.som (.lit (.int 1)))) (.lit (.str "z")))) (.orr (.prim (.cmp .Is) (.cons (.var 1) (.cons (.lit .non) .nil))) (.nott (.cmp2 .LtE .LtE (.lit (.int 1)) (.var 1) (.lit (.int 200))))))
    (.cons (.ret (.lit .non))
    .nil)
    .nil)
    (.cons (.ret (.tup (.cons (.meth .sindex (.lit (.str "abcdefghijklmnopqrstuvwxyz")) (.cons (.slice (.var 0) .no (.som (.lit (.int 1)))) .nil)) (.cons (.prim (.bin .Sub) (.cons (.var 1) (.cons (.lit (.int 1)) .nil))) .nil))))
    .nil)))
def f33 : FDef := ⟨("_law_read_place", none), "_law_read_place", "_law_read_place", top 42, ["text"], ["text", "n"], ⟨1, 2, b33⟩⟩
/-- law(script): 0 script, 1 bag, 2 lap, 3 one, 4 other, 5 place, 6 low, 7 high, 8 ref, 9 second, 10 target, 11 word, 12 spread, 13 found, 14 marks, 15 made, 16 ends, 17 odds, 18 text, 19 fixed -/
def b34 : ISs := (.cons (.set 1 (.call "_law_bag" 18 (.cons (.var 0) .nil)))
    (.cons (.fors (.nm 2) (.range1 (.lit (.int 20)))
    (.cons (.par3 3 4 5 (.cons (.call "_law_drawn_place" 31 (.cons (.var 1) .nil)) (.cons (.call "_law_drawn_place" 31 (.cons (.var 1) .nil)) (.cons (.call "_law_drawn_place" 31 (.cons (.var 1) .nil)) .nil))))
    (.cons (.ifs (.nott (.call "_law_alike" 21 (.cons (.frz (.disp (.cons (.call "place_text" 0 (.cons (.var 3) .nil)) (.cons (.call "read_place" 3 (.cons (.call "_law_place_text" 27 (.cons (.var 3) .nil)) .nil)) (.cons (.call "is_ahead" 4 (.cons (.var 3) (.cons (.var 4) .nil))) .nil))))) (.cons (.frz (.disp (.cons (.call "_law_place_text" 27 (.cons (.var 3) .nil)) (.cons (.var 3) (.cons (.prim (.cmp .Lt) (.cons (.tup (.cons (.prim .ix (.cons (.var 3) (.cons (.lit (.int 1)) .nil))) (.cons (.prim .ix (.cons (.var 3) (.cons (.lit (.int 0)) .nil))) .nil))) (.cons (.tup (.cons (.prim .ix (.cons (.var 4) (.cons (.lit (.int 1)) .nil))) (.cons (.prim .ix (.cons (.var 4) (.cons (.lit (.int 0)) .nil))) .nil))) .nil))) .nil))))) .nil))))
    (.cons (.ret (.lit (.bl false)))
    .nil)
    .nil)
    (.cons (.set 6 (.tup (.cons (.prim .min (.cons (.prim .ix (.cons (.var 3) (.cons (.lit (.int 0)) .nil))) (.cons (.lit (.int 3)) .nil))) (.cons (.prim .min (.cons (.prim .ix (.cons (.var 3) (.cons (.lit (.int 1)) .nil))) (.cons (.lit (.int 4)) .nil))) .nil))))
    (.cons (.set 7 (.tup (.cons (.prim (.bin .Add) (.cons (.prim .ix (.cons (.var 6) (.cons (.lit (.int 0)) .nil))) (.cons (.call "_law_take" 19 (.cons (.var 1) (.cons (.lit (.int 3)) .nil))) .nil))) (.cons (.prim (.bin .Add) (.cons (.prim .ix (.cons (.var 6) (.cons (.lit (.int 1)) .nil))) (.cons (.call "_law_take" 19 (.cons (.var 1) (.cons (.lit (.int 3)) .nil))) .nil))) .nil))))
    (.cons (.ifs (.nott (.call "_law_alike" 21 (.cons (.frz (.disp (.cons (.call "rectangle" 5 (.cons (.var 6) (.cons (.var 7) .nil))) (.cons (.cond (.prim (.cmp .NotEq) (.cons (.var 7) (.cons (.var 6) .nil))) (.call "rectangle" 5 (.cons (.var 7) (.cons (.var 6) .nil))) (.tup .nil)) .nil)))) (.cons (.frz (.disp (.cons (.call "_law_spread" 25 (.cons (.var 6) (.cons (.var 7) .nil))) (.cons (.tup .nil) .nil)))) .nil))))
    (.cons (.ifs (.orr (.prim (.cmp .Lt) (.cons (.prim .ix (.cons (.var 7) (.cons (.lit (.int 0)) .nil))) (.cons (.prim .ix (.cons (.var 6) (.cons (.lit (.int 0)) .nil))) .nil))) (.orr (.prim (.cmp .Lt) (.cons (.prim .ix (.cons (.var 7) (.cons (.lit (.int 1)) .nil))) (.cons (.prim .ix (.cons (.var 6) (.cons (.lit (.int 1)) .nil))) .nil))) (.orr (.prim (.cmp .NotEq) (.cons (.call "rectangle" 5 (.cons (.var 6) (.cons (.var 7) .nil))) (.cons (.call "_law_spread" 25 (.cons (.var 6) (.cons (.var 7) .nil))) .nil))) (.andd (.prim (.cmp .NotEq) (.cons (.var 7) (.cons (.var 6) .nil))) (.prim (.cmp .NotEq) (.cons (.call "rectangle" 5 (.cons (.var 7) (.cons (.var 6) .nil))) (.cons (.tup .nil) .nil)))))))
    (.cons (.ret (.lit (.bl false)))
    .nil)
    .nil)
    .nil)
    .nil)
    (.cons (.par 8 9 (.v (.call "_law_drawn_ref" 32 (.cons (.var 1) .nil))) (.v (.call "_law_drawn_ref" 32 (.cons (.var 1) .nil))))
    (.cons (.set 10 (.call "_law_points" 23 (.cons (.var 8) (.cons (.var 5) .nil))))
    (.cons (.set 11 (.cond (.prim .isi (.cons (.var 10) (.cons (.glob "str" (.ty "str")) .nil))) (.var 10) (.lit .non)))
    (.cons (.set 12 (.call "_law_spread" 25 (.cons (.var 6) (.cons (.var 7) .nil))))
    (.cons (.set 13 (.frz (.disp (.cons (.call "points_at" 6 (.cons (.var 8) (.cons (.var 5) .nil))) (.cons (.call "word_of" 7 (.cons (.var 8) (.cons (.var 5) .nil))) (.cons (.call "marks_of" 10 (.cons (.var 8) .nil)) (.cons (.call "ref_text" 13 (.cons (.var 8) (.cons (.var 5) .nil))) (.cons (.call "read_ref" 17 (.cons (.call "_law_ref_text" 28 (.cons (.var 8) (.cons (.var 5) .nil))) (.cons (.var 5) .nil))) .nil))))))))
    (.cons (.ifs (.nott (.call "_law_alike" 21 (.cons (.var 13) (.cons (.frz (.disp (.cons (.cond (.prim (.cmp .IsNot) (.cons (.var 11) (.cons (.lit .non) .nil))) (.lit .non) (.var 10)) (.cons (.var 11) (.cons (.call "_law_marks" 26 (.cons (.var 8) .nil)) (.cons (.call "_law_ref_text" 28 (.cons (.var 8) (.cons (.var 5) .nil))) (.cons (.var 8) .nil))))))) .nil))))
    (.cons (.ret (.lit (.bl false)))
    .nil)
    .nil)
    (.cons (.set 14 (.tup (.cons (.prim (.cmp .Eq) (.cons (.call "_law_take" 19 (.cons (.var 1) (.cons (.lit (.int 2)) .nil))) (.cons (.lit (.int 0)) .nil))) (.cons (.prim (.cmp .Eq) (.cons (.call "_law_take" 19 (.cons (.var 1) (.cons (.lit (.int 2)) .nil))) (.cons (.lit (.int 0)) .nil))) .nil))))
    (.cons (.set 15 (.call "ref_to" 9 (.cons (.var 3) (.cons (.var 5) (.cons (.var 14) .nil)))))
    (.cons (.ifs (.nott (.call "_law_alike" 21 (.cons (.frz (.disp (.cons (.var 15) (.cons (.call "told_anew" 11 (.cons (.var 8) (.cons (.var 5) (.cons (.var 4) (.cons (.var 3) .nil))))) (.cons (.call "told_anew" 11 (.cons (.var 8) (.cons (.var 5) (.cons (.lit .non) (.cons (.var 3) .nil))))) .nil))))) (.cons (.frz (.disp (.cons (.call "_law_ref" 24 (.cons (.var 3) (.cons (.var 5) (.cons (.var 14) .nil)))) (.cons (.call "_law_ref" 24 (.cons (.var 4) (.cons (.var 3) (.cons (.call "_law_marks" 26 (.cons (.var 8) .nil)) .nil)))) (.cons (.tup (.cons (.lit (.str "gone")) .nil)) .nil))))) .nil))))
    (.cons (.ret (.lit (.bl false)))
    .nil)
    .nil)
    (.cons (.set 16 (.tup (.cons (.call "_law_ref" 24 (.cons (.var 6) (.cons (.var 5) (.cons (.var 14) .nil)))) (.cons (.call "_law_ref" 24 (.cons (.var 7) (.cons (.var 5) (.cons (.var 14) .nil)))) .nil))))
    (.cons (.ifs (.nott (.call "_law_alike" 21 (.cons (.frz (.disp (.cons (.call "range_places" 8 (.cons (.prim .ix (.cons (.var 16) (.cons (.lit (.int 0)) .nil))) (.cons (.prim .ix (.cons (.var 16) (.cons (.lit (.int 1)) .nil))) (.cons (.var 5) .nil)))) (.cons (.call "range_places" 8 (.cons (.var 8) (.cons (.tup (.cons (.lit (.str "gone")) .nil)) (.cons (.var 5) .nil)))) .nil)))) (.cons (.frz (.disp (.cons (.var 12) (.cons (.cond (.prim (.cmp .IsNot) (.cons (.var 11) (.cons (.lit .non) .nil))) (.var 11) (.lit (.str "gone"))) .nil)))) .nil))))
    (.cons (.ret (.lit (.bl false)))
    .nil)
    .nil)
    (.cons (.ifs (.orr (.andd (.prim (.cmp .IsNot) (.cons (.var 11) (.cons (.lit .non) .nil))) (.prim (.cmp .NotEq) (.cons (.call "range_places" 8 (.cons (.var 8) (.cons (.var 9) (.cons (.var 5) .nil)))) (.cons (.var 11) .nil)))) (.prim (.cmp .NotEq) (.cons (.call "range_places" 8 (.cons (.prim .ix (.cons (.var 16) (.cons (.lit (.int 1)) .nil))) (.cons (.prim .ix (.cons (.var 16) (.cons (.lit (.int 0)) .nil))) (.cons (.var 5) .nil)))) (.cons (.cond (.prim (.cmp .Eq) (.cons (.var 6) (.cons (.var 7) .nil))) (.var 12) (.lit (.str "out"))) .nil))))
    (.cons (.ret (.lit (.bl false)))
    .nil)
    .nil)
    (.cons (.set 17 (.frz (.disp (.cons (.lit (.str "")) (.cons (.lit (.str "a")) (.cons (.lit (.str "a0")) (.cons (.lit (.str "a1")) (.cons (.lit (.str "a01")) (.cons (.lit (.str "z200")) (.cons (.lit (.str "a201")) (.cons (.lit (.str "$b$3")) (.cons (.lit (.str "b$3")) (.cons (.lit (.str "$b3")) (.cons (.lit (.str "$$b3")) (.cons (.lit (.str "b3$")) (.cons (.lit (.str "B3")) (.cons (.lit (.str "#gone")) (.cons (.lit (.str "#gon")) (.cons (.lit (.str "[+0,+1]")) (.cons (.lit (.str "[-0,+1]")) (.cons (.lit (.str "[=25,=199]")) (.cons (.lit (.str "[=26,=0]")) .nil))))))))))))))))))))))
    (.cons (.set 17 (.prim (.bin .Add) (.cons (.var 17) (.cons (.frz (.disp (.cons (.lit (.str "[+1]")) (.cons (.lit (.str "[+1,+1,+1]")) (.cons (.lit (.str "[1,+1]")) (.cons (.lit (.str "[+999,-999]")) (.cons (.lit (.str "[+1000,+0]")) (.cons (.lit (.str "[]")) (.cons (.lit (.str "ab3")) (.cons (.lit (.str "3")) (.cons (.lit (.str "[+01,+0]")) .nil))))))))))) .nil))))
    (.cons (.fors (.nm 18) (.it (.var 17))
    (.cons (.ifs (.nott (.call "_law_alike" 21 (.cons (.frz (.disp (.cons (.call "read_ref" 17 (.cons (.var 18) (.cons (.var 5) .nil))) (.cons (.call "read_place" 3 (.cons (.var 18) .nil)) .nil)))) (.cons (.frz (.disp (.cons (.call "_law_read_ref" 30 (.cons (.var 18) (.cons (.var 5) .nil))) (.cons (.call "_law_read_place" 33 (.cons (.var 18) .nil)) .nil)))) .nil))))
    (.cons (.ret (.lit (.bl false)))
    .nil)
    .nil)
    (.cons (.set 19 (.call "_law_read_ref" 30 (.cons (.var 18) (.cons (.tup (.cons (.lit (.int 0)) (.cons (.lit (.int 0)) .nil))) .nil))))
    (.cons (.ifs (.nott (.call "_law_alike" 21 (.cons (.call "read_ref" 17 (.cons (.var 18) (.cons (.lit .non) .nil))) (.cons (.cond (.andd (.prim (.cmp .IsNot) (.cons (.var 19) (.cons (.lit .non) .nil))) (.prim (.cmp .Eq) (.cons (.call "_law_marks" 26 (.cons (.var 19) .nil)) (.cons (.tup (.cons (.lit (.bl true)) (.cons (.lit (.bl true)) .nil))) .nil)))) (.var 19) (.lit .non)) .nil))))
    (.cons (.ret (.lit (.bl false)))
    .nil)
    .nil)
    .nil))))
    .nil)))))))))))))))))))))
    (.cons (.ret (.lit (.bl true)))
    .nil)))
def f34 : FDef := ⟨("law", none), "law", "law", top 43, ["script"], ["script", "bag", "lap", "one", "other", "place", "low", "high", "ref", "second", "target", "word", "spread", "found", "marks", "made", "ends", "odds", "text", "fixed"], ⟨1, 20, b34⟩⟩
def tab : Tab := ⟨[gp "COLUMNS" (.con c_COLUMNS), gp "DIGITS" (.con c_DIGITS), gp "LETTERS" (.con c_LETTERS), gp "MOST_BY" (.con c_MOST_BY), gp "ROWS" (.con c_ROWS), gp "SIZES" (.con c_SIZES), gp "_law_alike" (.fn 21), gp "_law_bag" (.fn 18), gp "_law_drawn_place" (.fn 31), gp "_law_drawn_ref" (.fn 32), gp "_law_figures" (.fn 29), gp "_law_marks" (.fn 26), gp "_law_place_text" (.fn 27), gp "_law_points" (.fn 23), gp "_law_read_place" (.fn 33), gp "_law_read_ref" (.fn 30), gp "_law_ref" (.fn 24), gp "_law_ref_text" (.fn 28), gp "_law_some" (.fn 20), gp "_law_spot" (.fn 22), gp "_law_spread" (.fn 25), gp "_law_take" (.fn 19), gp "abs" .no, gp "all" .no, gp "bracketed_in" (.fn 15), gp "column_in" (.fn 2), gp "int" .no, gp "is_ahead" (.fn 4), gp "isinstance" .no, gp "law" (.fn 34), gp "len" .no, gp "marks_of" (.fn 10), gp "min" .no, gp "part_in" (.fn 14), gp "part_text" (.fn 12), gp "place_text" (.fn 0), gp "plain_in" (.fn 16), gp "points_at" (.fn 6), gp "range" .no, gp "range_places" (.fn 8), gp "read_place" (.fn 3), gp "read_ref" (.fn 17), gp "rectangle" (.fn 5), gp "ref_text" (.fn 13), gp "ref_to" (.fn 9), gp "repr" .no, gp "row_in" (.fn 1), gp "str" .no, gp "told_anew" (.fn 11), gp "tuple" .no, gp "word_of" (.fn 7), gp "zip" .no], []⟩
def prg : Prg := ⟨tab, [f0, f1, f2, f3, f4, f5, f6, f7, f8, f9, f10, f11, f12, f13, f14, f15, f16, f17, f18, f19, f20, f21, f22, f23, f24, f25, f26, f27, f28, f29, f30, f31, f32, f33, f34], []⟩
theorem at_ok : prg.atB = true := by decide +kernel
theorem ok_ok : prg.okB = true := by decide +kernel
theorem bnd_ok : AllB prg.fs := ⟨fun _ _ _ _ _ _ us hl => match us, hl with | [_], _ => rfl, fun _ _ _ _ _ _ us hl => match us, hl with | [_], _ => rfl, fun _ _ _ _ _ _ us hl => match us, hl with | [_], _ => rfl, fun _ _ _ _ _ _ us hl => match us, hl with | [_], _ => rfl, fun _ _ _ _ _ _ us hl => match us, hl with | [_, _], _ => rfl, fun _ _ _ _ _ _ us hl => match us, hl with | [_, _], _ => rfl, fun _ _ _ _ _ _ us hl => match us, hl with | [_, _], _ => rfl, fun _ _ _ _ _ _ us hl => match us, hl with | [_, _], _ => rfl, fun _ _ _ _ _ _ us hl => match us, hl with | [_, _, _], _ => rfl, fun _ _ _ _ _ _ us hl => match us, hl with | [_, _, _], _ => rfl, fun _ _ _ _ _ _ us hl => match us, hl with | [_], _ => rfl, fun _ _ _ _ _ _ us hl => match us, hl with | [_, _, _, _], _ => rfl, fun _ _ _ _ _ _ us hl => match us, hl with | [_], _ => rfl, fun _ _ _ _ _ _ us hl => match us, hl with | [_, _], _ => rfl, fun _ _ _ _ _ _ us hl => match us, hl with | [_, _], _ => rfl, fun _ _ _ _ _ _ us hl => match us, hl with | [_], _ => rfl, fun _ _ _ _ _ _ us hl => match us, hl with | [_], _ => rfl, fun _ _ _ _ _ _ us hl => match us, hl with | [_, _], _ => rfl, fun _ _ _ _ _ _ us hl => match us, hl with | [_], _ => rfl, fun _ _ _ _ _ _ us hl => match us, hl with | [_, _], _ => rfl, fun _ _ _ _ _ _ us hl => match us, hl with | [_, _], _ => rfl, fun _ _ _ _ _ _ us hl => match us, hl with | [_, _], _ => rfl, fun _ _ _ _ _ _ us hl => match us, hl with | [_, _, _], _ => rfl, fun _ _ _ _ _ _ us hl => match us, hl with | [_, _], _ => rfl, fun _ _ _ _ _ _ us hl => match us, hl with | [_, _, _], _ => rfl, fun _ _ _ _ _ _ us hl => match us, hl with | [_, _], _ => rfl, fun _ _ _ _ _ _ us hl => match us, hl with | [_], _ => rfl, fun _ _ _ _ _ _ us hl => match us, hl with | [_], _ => rfl, fun _ _ _ _ _ _ us hl => match us, hl with | [_, _], _ => rfl, fun _ _ _ _ _ _ us hl => match us, hl with | [_, _], _ => rfl, fun _ _ _ _ _ _ us hl => match us, hl with | [_, _], _ => rfl, fun _ _ _ _ _ _ us hl => match us, hl with | [_], _ => rfl, fun _ _ _ _ _ _ us hl => match us, hl with | [_], _ => rfl, fun _ _ _ _ _ _ us hl => match us, hl with | [_], _ => rfl, fun _ _ _ _ _ _ us hl => match us, hl with | [_], _ => rfl, trivial⟩
end FH.K02
end
section
namespace FH.K02
open PySem PySem.Spec PyProof.Rows L2
abbrev fs := fnsOf prg.fs
theorem tabl {α : Type} {n : Nat} {f g : Nat → α} (h : (List.range n).map f = (List.range n).map g) : ∀ r, r < n → f r = g r := by
  intro r hr
  have := congrArg (fun l : List α => l[r]?) h
  simpa [hr] using this
theorem one {Γ : Env2} {s : IS} {ρ : Slots} {μ : Store} : evSs Γ (.cons s .nil) ρ μ = evS Γ s ρ μ := by
  simp only [evSs]
  cases evS Γ s ρ μ with
  | none => rfl
  | some r => obtain ⟨fl, r1, r2⟩ := r; cases fl <;> rfl
theorem seq {Γ : Env2} {s : IS} {ss : ISs} {ρ ρ' : Slots} {μ μ' : Store} (h : evS Γ s ρ μ = some (.nx, ρ', μ')) : evSs Γ (.cons s ss) ρ μ = evSs Γ ss ρ' μ' := by simp only [evSs, h, Option.bind_some]
theorem if_ev {Γ : Env2} {c : IE} {a b : ISs} {ρ : Slots} {μ μ' : Store} (t : Bool) (hc : evE Γ c ρ μ = some (.bl t, μ')) : evS Γ (.ifs c a b) ρ μ = if t then evSs Γ a ρ μ' else evSs Γ b ρ μ' := by
  simp only [evS, hc, Option.bind_some, view_bl, truD]
theorem cond_ev {Γ : Env2} {c a b : IE} {ρ : Slots} {μ μ' : Store} (t : Bool) (hc : evE Γ c ρ μ = some (.bl t, μ')) : evE Γ (.cond c a b) ρ μ = if t then evE Γ a ρ μ' else evE Γ b ρ μ' := by
  simp only [evE, hc, Option.bind_some, view_bl, truD]
def pl (a b : Int) : D := .tup [.int a, .int b]
/-- a part of a ref -/
inductive Pt | by_ (n : Int) | at_ (n : Int)
def Pt.e : Pt → D
  | .by_ n => .tup [.str "by", .int n] | .at_ n => .tup [.str "at", .int n]
def Pt.v (c : Int) : Pt → Int
  | .by_ n => c + n | .at_ n => n
def Pt.m : Pt → Bool
  | .by_ _ => false | .at_ _ => true
def rf (x y : Pt) : D := .tup [x.e, y.e]
def gone : D := .tup [.str "gone"]
def inb (a b : Int) : Bool := decide (0 ≤ a ∧ a < 26 ∧ 0 ≤ b ∧ b < 200)
theorem sh_pt {s : Str} {i : Int} (h : PyData.strOk s = true) : SeqAt.shaped (.tuple [.str s, .int i]) = true := by
  simp [SeqAt.shaped, PyData.canLay0, PyData.canLayAll0, PyData.depth, PyData.depthAll, h]
theorem sh_s {s : Str} (h : PyData.strOk s = true) : SeqAt.shaped (.str s) = true := by simp [SeqAt.shaped, PyData.canLay0, PyData.depth, h]
theorem ok1 : PyData.strOk ("by" : Str) = true := by decide +kernel
theorem ok2 : PyData.strOk ("at" : Str) = true := by decide +kernel
theorem ok3 : PyData.strOk ("gone" : Str) = true := by decide +kernel
theorem eq_gone {x : Pt} : eqD x.e (.str "gone") = some false := by
  cases x <;> simp [eqD, Pt.e, D.flat, D.py, pyL, sh_pt ok1, sh_pt ok2, sh_s ok3, PyData.eqv]
theorem q1 : (("by" : Str) == "at") = false := by decide +kernel
theorem h6 : fs[6]? = some ⟨2, 8, b6⟩ := rfl
theorem lc0 {f : D → Store → Option (Option D × Store)} {μ : Store} : loopC f [] μ = some ([], μ) := rfl
theorem lc1 {f : D → Store → Option (Option D × Store)} {x y : D} {xs : List D} {μ : Store} (h : f x μ = some (some y, μ)) : loopC f (x :: xs) μ = (loopC f xs μ).map fun q => (y :: q.1, q.2) := by
  simp only [loopC, h, Option.bind_some]
  cases loopC f xs μ <;> rfl
theorem cmp2_ev {Γ : Env2} {a b c : IE} {ρ : Slots} {μ : Store} {i j l : Int} (ha : evE Γ a ρ μ = some (.int i, μ)) (hb : evE Γ b ρ μ = some (.int j, μ)) (hc : evE Γ c ρ μ = some (.int l, μ)) :
    evE Γ (.cmp2 .LtE .Lt a b c) ρ μ = some (.bl (decide (i ≤ j) && decide (j < l)), μ) := by
  simp only [evE, ha, hb, Option.bind_some, view_int, c_le]
  cases decide (i ≤ j) with
  | true => simp only [hc, Option.bind_some, view_int, c_lt, Option.map_some, Bool.true_and]
  | false => rfl
section
variable {k : Nat} {μ : Store} {x y : Pt} {c r : Int}
theorem points_at : run fs (k + 1) 6 [rf x y, pl c r] μ = some (if inb (x.v c) (y.v r) then pl (x.v c) (y.v r) else .non, μ) := by
  rw [run_eq h6 rfl]
  have s1 : evS ⟨run fs k, (runP fs k).2⟩ (.ifs (.prim (.cmp .Eq) (.cons (.prim .ix (.cons (.var 0) (.cons (.lit (.int 0)) .nil))) (.cons (.lit (.str "gone")) .nil))) (.cons (.ret (.lit .non)) .nil) .nil) [.val (rf x y), .val (pl c r), .emp, .emp, .emp, .emp, .emp, .emp] μ = some (.nx, [.val (rf x y), .val (pl c r), .emp, .emp, .emp, .emp, .emp, .emp], μ) := by
    cases x <;> kernel_rfl
  show retOf (evSs _ b6 [.val (rf x y), .val (pl c r), .emp, .emp, .emp, .emp, .emp, .emp] μ) = _
  unfold b6
  rw [seq s1]
  have s2 : evS ⟨run fs k, (runP fs k).2⟩ (.set 2 (.frz (.comp (.tp (.cons (.tp (.cons (.nm 3) (.cons (.nm 4) .nil))) (.cons (.nm 5) .nil))) [("word", 3), ("number", 4), ("here", 5)] (.zip (.cons (.var 0) (.cons (.var 1) .nil))) .no (.cond (.prim (.cmp .Eq) (.cons (.var 3) (.cons (.lit (.str "at")) .nil))) (.var 4) (.prim (.bin .Add) (.cons (.var 5) (.cons (.var 4) .nil)))))))
      [.val (rf x y), .val (pl c r), .emp, .emp, .emp, .emp, .emp, .emp] μ = some (.nx, [.val (rf x y), .val (pl c r), .val (.lst [.int (x.v c), .int (y.v r)]), .emp, .emp, .emp, .emp, .emp], μ) := by
    cases x <;> cases y <;> kernel_rfl
  rw [seq s2]
  generalize x.v c = a
  generalize y.v r = b
  have f1 : evF ⟨run fs k, (runP fs k).2⟩ (.comp (.tp (.cons (.nm 6) (.cons (.nm 7) .nil))) [("one", 6), ("size", 7)] (.zip (.cons (.var 2) (.cons (.glob "SIZES" c_SIZES) .nil))) .no (.cmp2 .LtE .Lt (.lit (.int 0)) (.var 6) (.var 7)))
      [.val (rf x y), .val (pl c r), .val (.lst [.int a, .int b]), .emp, .emp, .emp, .emp, .emp] μ = some ([.bl (decide (0 ≤ a) && decide (a < 26)), .bl (decide (0 ≤ b) && decide (b < 200))], μ) := by
    have src : evSrc ⟨run fs k, (runP fs k).2⟩ (.zip (.cons (.var 2) (.cons (.glob "SIZES" c_SIZES) .nil))) [.val (rf x y), .val (pl c r), .val (.lst [.int a, .int b]), .emp, .emp, .emp, .emp, .emp] μ = some (.items [.tup [.int a, .int 26], .tup [.int b, .int 200]], μ) := by kernel_rfl
    unfold evF
    rw [src]
    simp only [Option.bind_some]
    rw [if_pos (by show 2 < sizeLine; decide)]
    have t : ∀ u v : Int, (asgT (.tp (.cons (.nm 6) (.cons (.nm 7) .nil))) (.tup [.int u, .int v]) (wipeS [.val (rf x y), .val (pl c r), .val (.lst [.int a, .int b]), .emp, .emp, .emp, .emp, .emp] ([(("one" : Str), 6), ("size", 7)].map (·.2)))).bind (fun ρ' => (evC ⟨run fs k, (runP fs k).2⟩ .no ρ' μ).bind fun k' => if k'.1 then (evE ⟨run fs k, (runP fs k).2⟩ (.cmp2 .LtE .Lt (.lit (.int 0)) (.var 6) (.var 7)) ρ' k'.2).map fun q => (some q.1, q.2) else some (none, k'.2)) = some (some (.bl (decide (0 ≤ u) && decide (u < v))), μ) := by
      intro u v
      have := cmp2_ev (Γ := ⟨run fs k, (runP fs k).2⟩) (a := .lit (.int 0)) (b := .var 6) (c := .var 7) (ρ := [.val (rf x y), .val (pl c r), .val (.lst [.int a, .int b]), .emp, .emp, .emp, .val (.int u), .val (.int v)]) (μ := μ) rfl rfl rfl
      show (evE _ _ [.val (rf x y), .val (pl c r), .val (.lst [.int a, .int b]), .emp, .emp, .emp, .val (.int u), .val (.int v)] μ).map _ = _
      rw [this]; rfl
    rw [lc1 (t a 26), lc1 (t b 200)]
    rfl
  rw [one]
  have c1 : evE ⟨run fs k, (runP fs k).2⟩ (.prim .all (.cons (.frz (.comp (.tp (.cons (.nm 6) (.cons (.nm 7) .nil))) [("one", 6), ("size", 7)] (.zip (.cons (.var 2) (.cons (.glob "SIZES" c_SIZES) .nil))) .no (.cmp2 .LtE .Lt (.lit (.int 0)) (.var 6) (.var 7)))) .nil))
      [.val (rf x y), .val (pl c r), .val (.lst [.int a, .int b]), .emp, .emp, .emp, .emp, .emp] μ = some (.bl (inb a b), μ) := by
    simp only [evE, evEs, f1, Option.map_some, Option.bind_some, List.map_cons, List.map_nil, view_lst]
    have : inb a b = ((decide (0 ≤ a) && decide (a < 26)) && (decide (0 ≤ b) && decide (b < 200))) := by unfold inb; rw [Bool.eq_iff_iff]; simp; omega
    rw [this]
    simp [primD, boolsD]
  simp only [evS]
  rw [cond_ev (inb a b) c1]
  cases inb a b with
  | true => kernel_rfl
  | false => rfl
theorem vw : viewD μ x.e = x.e := by cases x <;> rfl
theorem word_of : run fs (k + 2) 7 [rf x y, pl c r] μ = some (if inb (x.v c) (y.v r) then .non else .str "out", μ) := by
  rw [run_eq (f := 7) (F := ⟨2, 2, b7⟩) rfl rfl]
  show retOf (evSs _ b7 [.val (rf x y), .val (pl c r)] μ) = _
  have e1 := eq_gone (x := x)
  have e2 := points_at (k := k) (μ := μ) (x := x) (y := y) (c := c) (r := r)
  have s1 : evS ⟨run fs (k + 1), (runP fs (k + 1)).2⟩ (.ifs (.prim (.cmp .Eq) (.cons (.prim .ix (.cons (.var 0) (.cons (.lit (.int 0)) .nil))) (.cons (.lit (.str "gone")) .nil))) (.cons (.ret (.lit (.str "gone"))) .nil) .nil) [.val (rf x y), .val (pl c r)] μ = some (.nx, [.val (rf x y), .val (pl c r)], μ) := by
    cases x <;> kernel_rfl
  unfold b7
  rw [seq s1, one]
  cases h : inb (x.v c) (y.v r) <;> rw [h] at e2 <;> simp only [pl, if_true_, if_false_] at e2 <;> simp [evE, evEs, evO, evC, evF, evSrc, evIn, evS, evSs, Option.bind_some, Option.map_some, Option.bind_none, Option.map_none, List.map_cons, List.map_nil, slot_c0, slot_cs, own_c0, own_cs, ownv_c0, ownv_cs, ownt_c0, tup_c0, tup_cs, view_int, view_str, view_bl, view_non, view_tup, view_lst, view_ty, view_fn, p_bin, p_neg, p_cmp, p_ix, p_len_tup, p_len_lst, p_abs, p_int, p_intb, p_isi, p_tuple_tup, p_tuple_lst, p_max, p_min, b_add_int, b_sub_int, c_lt, c_le, c_gt, c_ge, c_eq, c_ne, ix_tup, ix_lst, at0, at1, at2, at3, at4, at5, eq_int, eq_str, eq_bl, truD, set_c0, set_cs, setS_c, isi_tuple_tup, isi_tuple_lst, isi_tuple_str, isi_tuple_int, isi_tuple_non, isi_tuple_bl, isi_str_str, isi_str_tup, isi_str_int, isi_str_non, isi_str_lst, isi_str_bl, if_true_, if_false_, e2, cmpD, pl, retOf]
theorem word_gone : run fs (k + 1) 7 [gone, pl c r] μ = some (.str "gone", μ) := by kernel_rfl
theorem ref_to {a b : Int} {m n : Bool} : run fs (k + 1) 9 [pl a b, pl c r, .tup [.bl m, .bl n]] μ = some (rf (if m then .at_ a else .by_ (a - c)) (if n then .at_ b else .by_ (b - r)), μ) := by
  cases m <;> cases n <;> kernel_rfl
theorem lref {a b : Int} {m n : Bool} : run fs (k + 1) 24 [pl a b, pl c r, .tup [.bl m, .bl n]] μ = some (rf (if m then .at_ a else .by_ (a - c)) (if n then .at_ b else .by_ (b - r)), μ) := by
  cases m <;> cases n <;> kernel_rfl
theorem marks_of : run fs (k + 1) 10 [rf x y] μ = some (.tup [.bl x.m, .bl y.m], μ) := by
  cases x <;> cases y <;> kernel_rfl
theorem lmarks : run fs (k + 1) 26 [rf x y] μ = some (.tup [.bl x.m, .bl y.m], μ) := by
  cases x <;> cases y <;> kernel_rfl
theorem marks_gone : run fs (k + 1) 10 [gone] μ = some (.tup [.bl true, .bl true], μ) := by kernel_rfl
theorem lmarks_gone : run fs (k + 1) 26 [gone] μ = some (.tup [.bl true, .bl true], μ) := by kernel_rfl
theorem told_none {d e : D} : run fs (k + 2) 11 [d, e, .non, pl c r] μ = some (gone, μ) := by kernel_rfl
theorem told_two {a b : Int} {d e : D} {m n : Bool} (h : run fs (k + 1) 10 [d] μ = some (.tup [.bl m, .bl n], μ)) : run fs (k + 2) 11 [d, e, pl a b, pl c r] μ = some (rf (if m then .at_ a else .by_ (a - c)) (if n then .at_ b else .by_ (b - r)), μ) := by
  rw [run_eq (f := 11) (F := ⟨4, 4, b11⟩) rfl rfl]
  show retOf (evSs _ b11 [.val d, .val e, .val (pl a b), .val (pl c r)] μ) = _
  have e2 := ref_to (k := k) (μ := μ) (a := a) (b := b) (c := c) (r := r) (m := m) (n := n)
  unfold b11
  rw [one]
  generalize hP : pl a b = P at *
  have nn : cmpD .Is P .non = some (.bl false) := by rw [← hP]; rfl
  have vv : viewD μ P = P := by rw [← hP]; rfl
  simp [evE, evEs, evO, evC, evF, evSrc, evIn, evS, evSs, Option.bind_some, Option.map_some, Option.bind_none, Option.map_none, List.map_cons, List.map_nil, slot_c0, slot_cs, own_c0, own_cs, ownv_c0, ownv_cs, ownt_c0, tup_c0, tup_cs, view_int, view_str, view_bl, view_non, view_tup, view_lst, view_ty, view_fn, p_bin, p_neg, p_cmp, p_ix, p_len_tup, p_len_lst, p_abs, p_int, p_intb, p_isi, p_tuple_tup, p_tuple_lst, p_max, p_min, b_add_int, b_sub_int, c_lt, c_le, c_gt, c_ge, c_eq, c_ne, ix_tup, ix_lst, at0, at1, at2, at3, at4, at5, eq_int, eq_str, eq_bl, truD, set_c0, set_cs, setS_c, isi_tuple_tup, isi_tuple_lst, isi_tuple_str, isi_tuple_int, isi_tuple_non, isi_tuple_bl, isi_str_str, isi_str_tup, isi_str_int, isi_str_non, isi_str_lst, isi_str_bl, if_true_, if_false_, nn, vv, h, e2, retOf]
theorem lspot_by {n m own : Int} : run fs (k + 1) 22 [.tup [.str "by", .int n], .int own, .int m] μ = some (if 0 ≤ own + n ∧ own + n < m then .int (own + n) else .non, μ) := by
  rw [run_eq (f := 22) (F := ⟨3, 4, b22⟩) rfl rfl]
  show retOf (evSs _ b22 [.val (.tup [.str "by", .int n]), .val (.int own), .val (.int m), .emp] μ) = _
  have s1 : evS ⟨run fs k, (runP fs k).2⟩ (.set 3 (.cond (.prim (.cmp .Eq) (.cons (.prim .ix (.cons (.var 0) (.cons (.lit (.int 0)) .nil))) (.cons (.lit (.str "by")) .nil))) (.prim (.bin .Add) (.cons (.var 1) (.cons (.prim .ix (.cons (.var 0) (.cons (.lit (.int 1)) .nil))) .nil))) (.prim .ix (.cons (.var 0) (.cons (.lit (.int 1)) .nil)))))
      [.val (.tup [.str "by", .int n]), .val (.int own), .val (.int m), .emp] μ = some (.nx, [.val (.tup [.str "by", .int n]), .val (.int own), .val (.int m), .val (.int (own + n))], μ) := by kernel_rfl
  have c1 := cmp2_ev (Γ := ⟨run fs k, (runP fs k).2⟩) (a := .lit (.int 0)) (b := .var 3) (c := .var 2) (ρ := [.val (.tup [.str "by", .int n]), .val (.int own), .val (.int m), .val (.int (own + n))]) (μ := μ) rfl rfl rfl
  unfold b22
  rw [seq s1, one]
  simp only [evS]
  rw [cond_ev _ c1]
  by_cases h1 : 0 ≤ own + n <;> by_cases h2 : own + n < m <;> simp [h1, h2, evE, evEs, evO, evC, evF, evSrc, evIn, evS, evSs, Option.bind_some, Option.map_some, Option.bind_none, Option.map_none, List.map_cons, List.map_nil, slot_c0, slot_cs, own_c0, own_cs, ownv_c0, ownv_cs, ownt_c0, tup_c0, tup_cs, view_int, view_str, view_bl, view_non, view_tup, view_lst, view_ty, view_fn, p_bin, p_neg, p_cmp, p_ix, p_len_tup, p_len_lst, p_abs, p_int, p_intb, p_isi, p_tuple_tup, p_tuple_lst, p_max, p_min, b_add_int, b_sub_int, c_lt, c_le, c_gt, c_ge, c_eq, c_ne, ix_tup, ix_lst, at0, at1, at2, at3, at4, at5, eq_int, eq_str, eq_bl, truD, set_c0, set_cs, setS_c, isi_tuple_tup, isi_tuple_lst, isi_tuple_str, isi_tuple_int, isi_tuple_non, isi_tuple_bl, isi_str_str, isi_str_tup, isi_str_int, isi_str_non, isi_str_lst, isi_str_bl, if_true_, if_false_, retOf]
theorem lspot_at {n m own : Int} : run fs (k + 1) 22 [.tup [.str "at", .int n], .int own, .int m] μ = some (if 0 ≤ n ∧ n < m then .int n else .non, μ) := by
  rw [run_eq (f := 22) (F := ⟨3, 4, b22⟩) rfl rfl]
  show retOf (evSs _ b22 [.val (.tup [.str "at", .int n]), .val (.int own), .val (.int m), .emp] μ) = _
  have s1 : evS ⟨run fs k, (runP fs k).2⟩ (.set 3 (.cond (.prim (.cmp .Eq) (.cons (.prim .ix (.cons (.var 0) (.cons (.lit (.int 0)) .nil))) (.cons (.lit (.str "by")) .nil))) (.prim (.bin .Add) (.cons (.var 1) (.cons (.prim .ix (.cons (.var 0) (.cons (.lit (.int 1)) .nil))) .nil))) (.prim .ix (.cons (.var 0) (.cons (.lit (.int 1)) .nil)))))
      [.val (.tup [.str "at", .int n]), .val (.int own), .val (.int m), .emp] μ = some (.nx, [.val (.tup [.str "at", .int n]), .val (.int own), .val (.int m), .val (.int n)], μ) := by kernel_rfl
  have c1 := cmp2_ev (Γ := ⟨run fs k, (runP fs k).2⟩) (a := .lit (.int 0)) (b := .var 3) (c := .var 2) (ρ := [.val (.tup [.str "at", .int n]), .val (.int own), .val (.int m), .val (.int n)]) (μ := μ) rfl rfl rfl
  unfold b22
  rw [seq s1, one]
  simp only [evS]
  rw [cond_ev _ c1]
  by_cases h1 : 0 ≤ n <;> by_cases h2 : n < m <;> simp [h1, h2, evE, evEs, evO, evC, evF, evSrc, evIn, evS, evSs, Option.bind_some, Option.map_some, Option.bind_none, Option.map_none, List.map_cons, List.map_nil, slot_c0, slot_cs, own_c0, own_cs, ownv_c0, ownv_cs, ownt_c0, tup_c0, tup_cs, view_int, view_str, view_bl, view_non, view_tup, view_lst, view_ty, view_fn, p_bin, p_neg, p_cmp, p_ix, p_len_tup, p_len_lst, p_abs, p_int, p_intb, p_isi, p_tuple_tup, p_tuple_lst, p_max, p_min, b_add_int, b_sub_int, c_lt, c_le, c_gt, c_ge, c_eq, c_ne, ix_tup, ix_lst, at0, at1, at2, at3, at4, at5, eq_int, eq_str, eq_bl, truD, set_c0, set_cs, setS_c, isi_tuple_tup, isi_tuple_lst, isi_tuple_str, isi_tuple_int, isi_tuple_non, isi_tuple_bl, isi_str_str, isi_str_tup, isi_str_int, isi_str_non, isi_str_lst, isi_str_bl, if_true_, if_false_, retOf]
theorem lspot {m : Int} : run fs (k + 1) 22 [x.e, .int c, .int m] μ = some (if 0 ≤ x.v c ∧ x.v c < m then .int (x.v c) else .non, μ) := by
  cases x
  · exact lspot_by
  · exact lspot_at
theorem lpoints : run fs (k + 2) 23 [rf x y, pl c r] μ = some (if inb (x.v c) (y.v r) then pl (x.v c) (y.v r) else .str "out", μ) := by
  rw [run_eq (f := 23) (F := ⟨2, 4, b23⟩) rfl rfl]
  show retOf (evSs _ b23 [.val (rf x y), .val (pl c r), .emp, .emp] μ) = _
  have s1 : evS ⟨run fs (k + 1), (runP fs (k + 1)).2⟩ (.ifs (.prim (.cmp .Eq) (.cons (.var 0) (.cons (.tup (.cons (.lit (.str "gone")) .nil)) .nil))) (.cons (.ret (.lit (.str "gone"))) .nil) .nil) [.val (rf x y), .val (pl c r), .emp, .emp] μ = some (.nx, [.val (rf x y), .val (pl c r), .emp, .emp], μ) := by
    cases x <;> cases y <;> kernel_rfl
  have e1 := lspot (k := k) (μ := μ) (x := x) (c := c) (m := 26)
  have e2 := lspot (k := k) (μ := μ) (x := y) (c := r) (m := 200)
  unfold b23
  rw [seq s1]
  unfold inb
  simp only [rf, pl] at *
  generalize x.e = X at *
  generalize y.e = Y at *
  generalize x.v c = a at *
  generalize y.v r = b at *
  by_cases h1 : 0 ≤ a ∧ a < 26
  · rw [if_pos h1] at e1
    by_cases h2 : 0 ≤ b ∧ b < 200
    · rw [if_pos h2] at e2
      simp [evE, evEs, evO, evC, evF, evSrc, evIn, evS, evSs, Option.bind_some, Option.map_some, Option.bind_none, Option.map_none, List.map_cons, List.map_nil, slot_c0, slot_cs, own_c0, own_cs, ownv_c0, ownv_cs, ownt_c0, tup_c0, tup_cs, view_int, view_str, view_bl, view_non, view_tup, view_lst, view_ty, view_fn, p_bin, p_neg, p_cmp, p_ix, p_len_tup, p_len_lst, p_abs, p_int, p_intb, p_isi, p_tuple_tup, p_tuple_lst, p_max, p_min, b_add_int, b_sub_int, c_lt, c_le, c_gt, c_ge, c_eq, c_ne, ix_tup, ix_lst, at0, at1, at2, at3, at4, at5, eq_int, eq_str, eq_bl, truD, set_c0, set_cs, setS_c, isi_tuple_tup, isi_tuple_lst, isi_tuple_str, isi_tuple_int, isi_tuple_non, isi_tuple_bl, isi_str_str, isi_str_tup, isi_str_int, isi_str_non, isi_str_lst, isi_str_bl, if_true_, if_false_, e1, e2, cmpD, retOf, le_size, h1, h2]
    · rw [if_neg h2] at e2
      have : ¬ (0 ≤ a ∧ a < 26 ∧ 0 ≤ b ∧ b < 200) := fun h => h2 h.2.2
      simp [evE, evEs, evO, evC, evF, evSrc, evIn, evS, evSs, Option.bind_some, Option.map_some, Option.bind_none, Option.map_none, List.map_cons, List.map_nil, slot_c0, slot_cs, own_c0, own_cs, ownv_c0, ownv_cs, ownt_c0, tup_c0, tup_cs, view_int, view_str, view_bl, view_non, view_tup, view_lst, view_ty, view_fn, p_bin, p_neg, p_cmp, p_ix, p_len_tup, p_len_lst, p_abs, p_int, p_intb, p_isi, p_tuple_tup, p_tuple_lst, p_max, p_min, b_add_int, b_sub_int, c_lt, c_le, c_gt, c_ge, c_eq, c_ne, ix_tup, ix_lst, at0, at1, at2, at3, at4, at5, eq_int, eq_str, eq_bl, truD, set_c0, set_cs, setS_c, isi_tuple_tup, isi_tuple_lst, isi_tuple_str, isi_tuple_int, isi_tuple_non, isi_tuple_bl, isi_str_str, isi_str_tup, isi_str_int, isi_str_non, isi_str_lst, isi_str_bl, if_true_, if_false_, e1, e2, cmpD, retOf, le_size, this]
  · rw [if_neg h1] at e1
    have : ¬ (0 ≤ a ∧ a < 26 ∧ 0 ≤ b ∧ b < 200) := fun h => h1 ⟨h.1, h.2.1⟩
    by_cases h2 : 0 ≤ b ∧ b < 200
    · rw [if_pos h2] at e2
      simp [evE, evEs, evO, evC, evF, evSrc, evIn, evS, evSs, Option.bind_some, Option.map_some, Option.bind_none, Option.map_none, List.map_cons, List.map_nil, slot_c0, slot_cs, own_c0, own_cs, ownv_c0, ownv_cs, ownt_c0, tup_c0, tup_cs, view_int, view_str, view_bl, view_non, view_tup, view_lst, view_ty, view_fn, p_bin, p_neg, p_cmp, p_ix, p_len_tup, p_len_lst, p_abs, p_int, p_intb, p_isi, p_tuple_tup, p_tuple_lst, p_max, p_min, b_add_int, b_sub_int, c_lt, c_le, c_gt, c_ge, c_eq, c_ne, ix_tup, ix_lst, at0, at1, at2, at3, at4, at5, eq_int, eq_str, eq_bl, truD, set_c0, set_cs, setS_c, isi_tuple_tup, isi_tuple_lst, isi_tuple_str, isi_tuple_int, isi_tuple_non, isi_tuple_bl, isi_str_str, isi_str_tup, isi_str_int, isi_str_non, isi_str_lst, isi_str_bl, if_true_, if_false_, e1, e2, cmpD, retOf, le_size, this]
    · rw [if_neg h2] at e2
      simp [evE, evEs, evO, evC, evF, evSrc, evIn, evS, evSs, Option.bind_some, Option.map_some, Option.bind_none, Option.map_none, List.map_cons, List.map_nil, slot_c0, slot_cs, own_c0, own_cs, ownv_c0, ownv_cs, ownt_c0, tup_c0, tup_cs, view_int, view_str, view_bl, view_non, view_tup, view_lst, view_ty, view_fn, p_bin, p_neg, p_cmp, p_ix, p_len_tup, p_len_lst, p_abs, p_int, p_intb, p_isi, p_tuple_tup, p_tuple_lst, p_max, p_min, b_add_int, b_sub_int, c_lt, c_le, c_gt, c_ge, c_eq, c_ne, ix_tup, ix_lst, at0, at1, at2, at3, at4, at5, eq_int, eq_str, eq_bl, truD, set_c0, set_cs, setS_c, isi_tuple_tup, isi_tuple_lst, isi_tuple_str, isi_tuple_int, isi_tuple_non, isi_tuple_bl, isi_str_str, isi_str_tup, isi_str_int, isi_str_non, isi_str_lst, isi_str_bl, if_true_, if_false_, e1, e2, cmpD, retOf, le_size, this]
theorem lpoints_gone : run fs (k + 2) 23 [gone, pl c r] μ = some (.str "gone", μ) := by kernel_rfl
end
end FH.K02
end
section
namespace FH.K02
open PySem PySem.Spec PyProof.Rows L2
def S_ (l : List Nat) : Str := ⟨l.toArray⟩
def dg (n : Nat) : List Nat := if n < 10 then [48 + n] else if n < 100 then [48 + n / 10, 48 + n % 10] else [48 + n / 100, 48 + n / 10 % 10, 48 + n % 10]
theorem dg_pos (n : Nat) : ∃ a l, dg n = a :: l ∧ l.length ≤ 2 := by
  unfold dg
  split
  · exact ⟨_, _, rfl, by simp⟩
  · split
    · exact ⟨_, _, rfl, by simp⟩
    · exact ⟨_, _, rfl, by simp⟩
theorem S_app {a b : List Nat} : S_ a ++ S_ b = S_ (a ++ b) := by
  show Str.mk (a.toArray ++ b.toArray) = _
  simp [S_]
theorem S_len {a : List Nat} : (S_ a).length = a.length := by show (a.toArray).size = _; simp
theorem S_beq {a b : List Nat} : (S_ a == S_ b) = (a == b) := by
  rw [Bool.eq_iff_iff]
  simp only [beq_iff_eq]
  unfold S_
  simp
theorem empty_S {a : List Nat} : Str.empty ++ S_ a = S_ a := by
  show Str.mk (#[] ++ a.toArray) = _
  simp [S_]
theorem cut_from {l : List Nat} {k : Nat} : cutS (S_ l) (some (k : Int)) none = S_ (l.drop k) := by
  unfold cutS
  simp only [HT.sIx_none, HT.sIx_nat, S_len]
  unfold S_
  congr 1
  by_cases h : k ≤ l.length
  · rw [Nat.min_eq_left h, List.take_of_length_le (by simp)]
  · rw [Nat.min_eq_right (by omega), List.drop_eq_nil_of_le (by omega : l.length ≤ k)]; simp
theorem cut_to {l : List Nat} {k : Nat} : cutS (S_ l) none (some (k : Int)) = S_ (l.take k) := by
  unfold cutS
  simp only [HT.sIx_none, HT.sIx_nat, S_len]
  unfold S_
  congr 1
  by_cases h : k ≤ l.length
  · rw [Nat.min_eq_left h]; simp
  · rw [Nat.min_eq_right (by omega), List.take_of_length_le (by omega : l.length ≤ k)]; simp
theorem cut_mid {l : List Nat} {j k : Nat} : cutS (S_ l) (some (j : Int)) (some (k : Int)) = S_ ((l.drop j).take (k - j)) := by
  unfold cutS
  simp only [HT.sIx_nat, S_len]
  unfold S_
  congr 1
  by_cases h : j ≤ l.length
  · rw [Nat.min_eq_left h]
    by_cases h2 : k ≤ l.length
    · rw [Nat.min_eq_left h2]
    · rw [Nat.min_eq_right (by omega)]
      rw [List.take_of_length_le (by simp : (List.drop j l).length ≤ l.length - j), List.take_of_length_le (by simp; omega)]
  · rw [Nat.min_eq_right (a := j) (by omega)]
    simp [List.drop_eq_nil_of_le (by omega : l.length ≤ j)]
theorem cut_in {l : List Nat} {a b : Nat} : cutS (S_ (a :: (l ++ [b]))) (some 1) (some (-1)) = S_ l := by
  unfold cutS
  have e1 : HT.sIx (S_ (a :: (l ++ [b]))).length 0 (some 1) = 1 := by rw [S_len]; show HT.sIx _ 0 (some ((1 : Nat) : Int)) = 1; rw [HT.sIx_nat]; simp
  have e2 : HT.sIx (S_ (a :: (l ++ [b]))).length (S_ (a :: (l ++ [b]))).length (some (-1)) = l.length + 1 := by
    rw [S_len]; unfold HT.sIx; simp; omega
  rw [e1, e2]
  unfold S_
  congr 1
  simp
theorem cut_last {l : List Nat} {b : Nat} : cutS (S_ (l ++ [b])) (some (-1)) none = S_ [b] := by
  unfold cutS
  have e1 : HT.sIx (S_ (l ++ [b])).length 0 (some (-1)) = l.length := by
    rw [S_len]; unfold HT.sIx; simp; omega
  rw [e1, HT.sIx_none, S_len]
  unfold S_
  congr 1
  simp
theorem l_dollar : ("$" : Str) = S_ [36] := by decide +kernel
theorem l_empty : ("" : Str) = S_ [] := by decide +kernel
theorem l_open : ("[" : Str) = S_ [91] := by decide +kernel
theorem l_close : ("]" : Str) = S_ [93] := by decide +kernel
theorem l_comma : ("," : Str) = S_ [44] := by decide +kernel
theorem l_gone : ("#gone" : Str) = S_ [35, 103, 111, 110, 101] := by decide +kernel
/-! tables -/
theorem letter {n : Nat} (h : n < 26) : ixD (.str "abcdefghijklmnopqrstuvwxyz") (.int (n : Int)) = some (.str (S_ [97 + n])) := tabl (n := 26) (f := fun n => ixD (.str "abcdefghijklmnopqrstuvwxyz") (.int (n : Int))) (g := fun n => some (.str (S_ [97 + n]))) (by kernel_rfl) n h
theorem num_txt {n : Nat} (h : n < 1000) : (Str.ofString (toString (n : Int))) = S_ (dg n) := by
  have e : TL.numL n = dg n := by
    unfold dg
    split
    · rename_i h1; exact TL.numL_lt h1
    · rename_i h1
      rw [TL.numL_step (by omega)]
      split
      · rename_i h2; rw [TL.numL_lt (by omega)]; rfl
      · rename_i h2
        rw [TL.numL_step (by omega), TL.numL_lt (by omega)]
        have : n / 10 / 10 = n / 100 := by omega
        rw [this]; rfl
  rw [← e]; exact TL.ext_tl (TL.tl_num n)
theorem log_ok {n : Nat} (h : n < 1000) : (n : Int).natAbs.log2 < 1920 := by
  have : Nat.log2 n ≤ n := Nat.log2_le_self n
  show Nat.log2 n < 1920
  omega
theorem txt_int {n : Nat} (h : n < 1000) : txtD (.int (n : Int)) = some (S_ (dg n)) := by
  show (if (n : Int).natAbs.log2 < 1920 then some (Str.ofString (toString (n : Int))) else none) = _
  rw [if_pos (log_ok h)]
  exact congrArg some (num_txt h)
theorem str_int {n : Nat} (h : n < 1000) : primD .str [.int (n : Int)] = some (.str (S_ (dg n))) := by
  show (if (n : Int).natAbs.log2 < 1920 then some (D.str (toString (n : Int))) else none) = _
  rw [if_pos (log_ok h)]
  exact congrArg (fun z => some (D.str z)) (num_txt h)
theorem row_in {k : Nat} {μ : Store} : ∀ r, r < 200 → run fs (k + 1) 1 [.str (S_ (dg (r + 1)))] μ = some (.int (r : Int), μ) := tabl (by kernel_rfl)
theorem col_in {k : Nat} {μ : Store} : ∀ r, r < 26 → run fs (k + 1) 2 [.str (S_ [97 + r])] μ = some (.int (r : Int), μ) := tabl (by kernel_rfl)
/-- the text of a place, with marks -/
def mk (m : Bool) : List Nat := if m then [36] else []
def tx (m n : Bool) (a b : Nat) : Str := S_ (mk m ++ (97 + a) :: (mk n ++ dg (b + 1)))
theorem txt_S {l : List Nat} (h : l.length ≤ 1000) : txtD (.str (S_ l)) = some (S_ l) := by
  show (if (S_ l).length ≤ sizeLine then some (S_ l) else none) = _
  rw [if_pos (by rw [S_len]; exact Nat.le_trans h (by decide))]
theorem fst_cons {acc l : List Nat} {d : D} {ds : List D} (hd : txtD d = some (S_ l)) (h : acc.length + l.length ≤ 1000) : fstD (S_ acc) (d :: ds) = fstD (S_ (acc ++ l)) ds := by
  simp only [fstD, hd, Option.bind_some, S_app]
  rw [if_pos (by rw [S_len]; simp; exact Nat.le_trans h (by decide))]
theorem fst_nil {acc : List Nat} : fstD (S_ acc) [] = some (S_ acc) := rfl
theorem s_empty : Str.empty = S_ [] := rfl
section
variable {k a b : Nat} {μ : Store}
theorem ix0 {u v : Int} : ixD (pl u v) (.int 0) = some (.int u) := at0
theorem ix1 {u v : Int} : ixD (pl u v) (.int 1) = some (.int v) := at1
theorem place_text (ha : a < 26) (hb : b < 200) : run fs (k + 1) 0 [pl a b] μ = some (.str (tx false false a b), μ) := by
  rw [run_eq (f := 0) (F := ⟨1, 1, b0⟩) rfl rfl]
  show retOf (evSs _ b0 [.val (pl a b)] μ) = _
  have e1 := letter ha
  have e2 : txtD (.int ((b : Int) + 1)) = some (S_ (dg (b + 1))) := txt_int (n := b + 1) (by omega)
  have e3 : fstD Str.empty [.str (S_ [97 + a]), .int ((b : Int) + 1)] = some (tx false false a b) := by
    obtain ⟨c, l, h1, h2⟩ := dg_pos (b + 1)
    rw [s_empty, fst_cons (txt_S (by simp)) (by simp), fst_cons e2 (by rw [h1]; simp; omega), fst_nil]; rfl
  unfold b0
  simp [evE, evEs, evO, evC, evF, evSrc, evIn, evS, evSs, Option.bind_some, Option.map_some, Option.bind_none, Option.map_none, List.map_cons, List.map_nil, slot_c0, slot_cs, own_c0, own_cs, ownv_c0, ownv_cs, ownt_c0, tup_c0, tup_cs, view_int, view_str, view_bl, view_non, view_tup, view_lst, view_ty, view_fn, p_bin, p_neg, p_cmp, p_ix, p_len_tup, p_len_lst, p_abs, p_int, p_intb, p_isi, p_tuple_tup, p_tuple_lst, p_max, p_min, b_add_int, b_sub_int, c_lt, c_le, c_gt, c_ge, c_eq, c_ne, ix_tup, ix_lst, at0, at1, at2, at3, at4, at5, eq_int, eq_str, eq_bl, truD, set_c0, set_cs, setS_c, isi_tuple_tup, isi_tuple_lst, isi_tuple_str, isi_tuple_int, isi_tuple_non, isi_tuple_bl, isi_str_str, isi_str_tup, isi_str_int, isi_str_non, isi_str_lst, isi_str_bl, if_true_, if_false_, pl, c_LETTERS, e1, e3, retOf]
theorem lplace_text (ha : a < 26) (hb : b < 200) : run fs (k + 1) 27 [pl a b] μ = some (.str (tx false false a b), μ) := by
  rw [run_eq (f := 27) (F := ⟨1, 1, b27⟩) rfl rfl]
  show retOf (evSs _ b27 [.val (pl a b)] μ) = _
  have e1 := letter ha
  have e2 : primD .str [.int ((b : Int) + 1)] = some (.str (S_ (dg (b + 1)))) := str_int (n := b + 1) (by omega)
  have e3 : binD .Add (.str (S_ [97 + a])) (.str (S_ (dg (b + 1)))) = some (.str (tx false false a b)) := by
    obtain ⟨c, l, h1, h2⟩ := dg_pos (b + 1)
    unfold binD
    simp only
    rw [if_pos (by rw [S_len, S_len, h1]; simp; exact Nat.le_trans (by omega : 1 + (l.length + 1) ≤ 1000) (by decide)), S_app]; rfl
  unfold b27
  simp [evE, evEs, evO, evC, evF, evSrc, evIn, evS, evSs, Option.bind_some, Option.map_some, Option.bind_none, Option.map_none, List.map_cons, List.map_nil, slot_c0, slot_cs, own_c0, own_cs, ownv_c0, ownv_cs, ownt_c0, tup_c0, tup_cs, view_int, view_str, view_bl, view_non, view_tup, view_lst, view_ty, view_fn, p_bin, p_neg, p_cmp, p_ix, p_len_tup, p_len_lst, p_abs, p_int, p_intb, p_isi, p_tuple_tup, p_tuple_lst, p_max, p_min, b_add_int, b_sub_int, c_lt, c_le, c_gt, c_ge, c_eq, c_ne, ix_tup, ix_lst, at0, at1, at2, at3, at4, at5, eq_int, eq_str, eq_bl, truD, set_c0, set_cs, setS_c, isi_tuple_tup, isi_tuple_lst, isi_tuple_str, isi_tuple_int, isi_tuple_non, isi_tuple_bl, isi_str_str, isi_str_tup, isi_str_int, isi_str_non, isi_str_lst, isi_str_bl, if_true_, if_false_, pl, e1, e2, e3, retOf]
theorem read_place (ha : a < 26) (hb : b < 200) : run fs (k + 2) 3 [.str (tx false false a b)] μ = some (pl a b, μ) := by
  rw [run_eq (f := 3) (F := ⟨1, 3, b3⟩) rfl rfl]
  show retOf (evSs _ b3 [.val (.str (tx false false a b)), .emp, .emp] μ) = _
  have e1 := col_in (k := k) (μ := μ) a ha
  have e2 := row_in (k := k) (μ := μ) b hb
  obtain ⟨c, l, h1, h2⟩ := dg_pos (b + 1)
  have c1 : cutS (tx false false a b) none (some 1) = S_ [97 + a] := by unfold tx; rw [show (1 : Int) = ((1 : Nat) : Int) from rfl, cut_to]; rfl
  have c2 : cutS (tx false false a b) (some 1) none = S_ (dg (b + 1)) := by unfold tx; rw [show (1 : Int) = ((1 : Nat) : Int) from rfl, cut_from]; rfl
  have c3 : ((tx false false a b).length ≤ sizeLine) = True := le_size (by unfold tx; rw [S_len, h1]; simp [mk]; omega)
  unfold b3
  simp [evE, evEs, evO, evC, evF, evSrc, evIn, evS, evSs, Option.bind_some, Option.map_some, Option.bind_none, Option.map_none, List.map_cons, List.map_nil, slot_c0, slot_cs, own_c0, own_cs, ownv_c0, ownv_cs, ownt_c0, tup_c0, tup_cs, view_int, view_str, view_bl, view_non, view_tup, view_lst, view_ty, view_fn, p_bin, p_neg, p_cmp, p_ix, p_len_tup, p_len_lst, p_abs, p_int, p_intb, p_isi, p_tuple_tup, p_tuple_lst, p_max, p_min, b_add_int, b_sub_int, c_lt, c_le, c_gt, c_ge, c_eq, c_ne, ix_tup, ix_lst, at0, at1, at2, at3, at4, at5, eq_int, eq_str, eq_bl, truD, set_c0, set_cs, setS_c, isi_tuple_tup, isi_tuple_lst, isi_tuple_str, isi_tuple_int, isi_tuple_non, isi_tuple_bl, isi_str_str, isi_str_tup, isi_str_int, isi_str_non, isi_str_lst, isi_str_bl, if_true_, if_false_, c1, c2, c3, e1, e2, cmpD, le_size, retOf, pl]
theorem mk_len (m : Bool) : (mk m).length ≤ 1 := by cases m <;> decide
theorem plain_in {m n : Bool} (ha : a < 26) (hb : b < 200) : run fs (k + 2) 16 [.str (tx m n a b)] μ = some (.tup [pl a b, .tup [.bl m, .bl n]], μ) := by
  rw [run_eq (f := 16) (F := ⟨1, 6, b16⟩) rfl rfl]
  show retOf (evSs _ b16 [.val (.str (tx m n a b)), .emp, .emp, .emp, .emp, .emp] μ) = _
  have e1 := col_in (k := k) (μ := μ) a ha
  have e2 := row_in (k := k) (μ := μ) b hb
  obtain ⟨c, l, h1, h2⟩ := dg_pos (b + 1)
  have hc : 48 ≤ c ∧ c < 58 := by
    unfold dg at h1
    split at h1
    · cases h1; omega
    · split at h1
      · cases h1; omega
      · cases h1; omega
  have i1 : (1 : Int) = ((1 : Nat) : Int) := rfl
  have i2 : (2 : Int) = ((2 : Nat) : Int) := rfl
  have c3 : ((tx m n a b).length ≤ sizeLine) = True := le_size (by unfold tx; have := mk_len m; have := mk_len n; rw [S_len, h1]; simp; omega)
  have rest : ∀ R : List Nat, R.length ≤ 10 → ((S_ R).length ≤ sizeLine) = True := fun R h => le_size (by rw [S_len]; omega)
  rw [h1] at e2
  have body : ∀ (R : List Nat), R.length ≤ 10 → cutS (S_ R) none (some 1) = S_ [97 + a] → cutS (S_ R) (some 1) (some 2) = S_ (if n then [36] else [c]) → cutS (S_ R) (some (if n then 2 else 1)) none = S_ (c :: l) →
      ∀ ρ0 : Slot, retOf (evSs ⟨run fs (k + 1), (runP fs (k + 1)).2⟩ (.cons (.set 3 (.prim (.cmp .Eq) (.cons (.slice (.var 2) (.som (.lit (.int 1))) (.som (.lit (.int 2)))) (.cons (.lit (.str "$")) .nil))))
        (.cons (.par 4 5 (.v (.call "column_in" 2 (.cons (.slice (.var 2) .no (.som (.lit (.int 1)))) .nil))) (.v (.call "row_in" 1 (.cons (.cond (.var 3) (.slice (.var 2) (.som (.lit (.int 2))) .no) (.slice (.var 2) (.som (.lit (.int 1))) .no)) .nil))))
        (.cons (.ret (.cond (.orr (.prim (.cmp .Is) (.cons (.var 4) (.cons (.lit .non) .nil))) (.prim (.cmp .Is) (.cons (.var 5) (.cons (.lit .non) .nil)))) (.lit .non) (.tup (.cons (.tup (.cons (.var 4) (.cons (.var 5) .nil))) (.cons (.tup (.cons (.var 1) (.cons (.var 3) .nil))) .nil))))) .nil)))
        [ρ0, .val (.bl m), .val (.str (S_ R)), .emp, .emp, .emp] μ) = some (.tup [pl a b, .tup [.bl m, .bl n]], μ) := by
    intro R hR d1 d2 d3 ρ0
    have hr := rest R hR
    have hq : (S_ (if n then [36] else [c]) == ("$" : Str)) = n := by
      rw [l_dollar, S_beq]
      cases n
      · simp; omega
      · rfl
    have s1 : evS ⟨run fs (k + 1), (runP fs (k + 1)).2⟩ (.set 3 (.prim (.cmp .Eq) (.cons (.slice (.var 2) (.som (.lit (.int 1))) (.som (.lit (.int 2)))) (.cons (.lit (.str "$")) .nil)))) [ρ0, .val (.bl m), .val (.str (S_ R)), .emp, .emp, .emp] μ = some (.nx, [ρ0, .val (.bl m), .val (.str (S_ R)), .val (.bl n), .emp, .emp], μ) := by
      simp [evE, evEs, evO, evC, evF, evSrc, evIn, evS, evSs, Option.bind_some, Option.map_some, Option.bind_none, Option.map_none, List.map_cons, List.map_nil, slot_c0, slot_cs, own_c0, own_cs, ownv_c0, ownv_cs, ownt_c0, tup_c0, tup_cs, view_int, view_str, view_bl, view_non, view_tup, view_lst, view_ty, view_fn, p_bin, p_neg, p_cmp, p_ix, p_len_tup, p_len_lst, p_abs, p_int, p_intb, p_isi, p_tuple_tup, p_tuple_lst, p_max, p_min, b_add_int, b_sub_int, c_lt, c_le, c_gt, c_ge, c_eq, c_ne, ix_tup, ix_lst, at0, at1, at2, at3, at4, at5, eq_int, eq_str, eq_bl, truD, set_c0, set_cs, setS_c, isi_tuple_tup, isi_tuple_lst, isi_tuple_str, isi_tuple_int, isi_tuple_non, isi_tuple_bl, isi_str_str, isi_str_tup, isi_str_int, isi_str_non, isi_str_lst, isi_str_bl, if_true_, if_false_, hr, d2, hq]
    rw [seq s1]
    cases n
    · simp only [Bool.false_eq_true, if_false] at d3
      simp [evE, evEs, evO, evC, evF, evSrc, evIn, evS, evSs, Option.bind_some, Option.map_some, Option.bind_none, Option.map_none, List.map_cons, List.map_nil, slot_c0, slot_cs, own_c0, own_cs, ownv_c0, ownv_cs, ownt_c0, tup_c0, tup_cs, view_int, view_str, view_bl, view_non, view_tup, view_lst, view_ty, view_fn, p_bin, p_neg, p_cmp, p_ix, p_len_tup, p_len_lst, p_abs, p_int, p_intb, p_isi, p_tuple_tup, p_tuple_lst, p_max, p_min, b_add_int, b_sub_int, c_lt, c_le, c_gt, c_ge, c_eq, c_ne, ix_tup, ix_lst, at0, at1, at2, at3, at4, at5, eq_int, eq_str, eq_bl, truD, set_c0, set_cs, setS_c, isi_tuple_tup, isi_tuple_lst, isi_tuple_str, isi_tuple_int, isi_tuple_non, isi_tuple_bl, isi_str_str, isi_str_tup, isi_str_int, isi_str_non, isi_str_lst, isi_str_bl, if_true_, if_false_, hr, d1, d3, e1, e2, cmpD, le_size, retOf, pl]
    · simp only [if_true] at d3
      simp [evE, evEs, evO, evC, evF, evSrc, evIn, evS, evSs, Option.bind_some, Option.map_some, Option.bind_none, Option.map_none, List.map_cons, List.map_nil, slot_c0, slot_cs, own_c0, own_cs, ownv_c0, ownv_cs, ownt_c0, tup_c0, tup_cs, view_int, view_str, view_bl, view_non, view_tup, view_lst, view_ty, view_fn, p_bin, p_neg, p_cmp, p_ix, p_len_tup, p_len_lst, p_abs, p_int, p_intb, p_isi, p_tuple_tup, p_tuple_lst, p_max, p_min, b_add_int, b_sub_int, c_lt, c_le, c_gt, c_ge, c_eq, c_ne, ix_tup, ix_lst, at0, at1, at2, at3, at4, at5, eq_int, eq_str, eq_bl, truD, set_c0, set_cs, setS_c, isi_tuple_tup, isi_tuple_lst, isi_tuple_str, isi_tuple_int, isi_tuple_non, isi_tuple_bl, isi_str_str, isi_str_tup, isi_str_int, isi_str_non, isi_str_lst, isi_str_bl, if_true_, if_false_, hr, d1, d3, e1, e2, cmpD, le_size, retOf, pl]
  have hd : (cutS (tx m n a b) none (some 1) == ("$" : Str)) = m := by
    unfold tx
    rw [i1, cut_to, l_dollar, S_beq]
    cases m
    · simp [mk]; omega
    · simp [mk]
  have s1 : evS ⟨run fs (k + 1), (runP fs (k + 1)).2⟩ (.set 1 (.prim (.cmp .Eq) (.cons (.slice (.var 0) .no (.som (.lit (.int 1)))) (.cons (.lit (.str "$")) .nil)))) [.val (.str (tx m n a b)), .emp, .emp, .emp, .emp, .emp] μ = some (.nx, [.val (.str (tx m n a b)), .val (.bl m), .emp, .emp, .emp, .emp], μ) := by
    simp [evE, evEs, evO, evC, evF, evSrc, evIn, evS, evSs, Option.bind_some, Option.map_some, Option.bind_none, Option.map_none, List.map_cons, List.map_nil, slot_c0, slot_cs, own_c0, own_cs, ownv_c0, ownv_cs, ownt_c0, tup_c0, tup_cs, view_int, view_str, view_bl, view_non, view_tup, view_lst, view_ty, view_fn, p_bin, p_neg, p_cmp, p_ix, p_len_tup, p_len_lst, p_abs, p_int, p_intb, p_isi, p_tuple_tup, p_tuple_lst, p_max, p_min, b_add_int, b_sub_int, c_lt, c_le, c_gt, c_ge, c_eq, c_ne, ix_tup, ix_lst, at0, at1, at2, at3, at4, at5, eq_int, eq_str, eq_bl, truD, set_c0, set_cs, setS_c, isi_tuple_tup, isi_tuple_lst, isi_tuple_str, isi_tuple_int, isi_tuple_non, isi_tuple_bl, isi_str_str, isi_str_tup, isi_str_int, isi_str_non, isi_str_lst, isi_str_bl, if_true_, if_false_, c3, hd]
  have s2 : evS ⟨run fs (k + 1), (runP fs (k + 1)).2⟩ (.set 2 (.cond (.var 1) (.slice (.var 0) (.som (.lit (.int 1))) .no) (.var 0))) [.val (.str (tx m n a b)), .val (.bl m), .emp, .emp, .emp, .emp] μ = some (.nx, [.val (.str (tx m n a b)), .val (.bl m), .val (.str (S_ ((97 + a) :: (mk n ++ dg (b + 1))))), .emp, .emp, .emp], μ) := by
    have hc1 : cutS (tx true n a b) (some 1) none = S_ ((97 + a) :: (mk n ++ dg (b + 1))) := by unfold tx; rw [i1, cut_from]; rfl
    cases m
    · simp [evE, evEs, evO, evC, evF, evSrc, evIn, evS, evSs, Option.bind_some, Option.map_some, Option.bind_none, Option.map_none, List.map_cons, List.map_nil, slot_c0, slot_cs, own_c0, own_cs, ownv_c0, ownv_cs, ownt_c0, tup_c0, tup_cs, view_int, view_str, view_bl, view_non, view_tup, view_lst, view_ty, view_fn, p_bin, p_neg, p_cmp, p_ix, p_len_tup, p_len_lst, p_abs, p_int, p_intb, p_isi, p_tuple_tup, p_tuple_lst, p_max, p_min, b_add_int, b_sub_int, c_lt, c_le, c_gt, c_ge, c_eq, c_ne, ix_tup, ix_lst, at0, at1, at2, at3, at4, at5, eq_int, eq_str, eq_bl, truD, set_c0, set_cs, setS_c, isi_tuple_tup, isi_tuple_lst, isi_tuple_str, isi_tuple_int, isi_tuple_non, isi_tuple_bl, isi_str_str, isi_str_tup, isi_str_int, isi_str_non, isi_str_lst, isi_str_bl, if_true_, if_false_, tx, mk]
    · simp [evE, evEs, evO, evC, evF, evSrc, evIn, evS, evSs, Option.bind_some, Option.map_some, Option.bind_none, Option.map_none, List.map_cons, List.map_nil, slot_c0, slot_cs, own_c0, own_cs, ownv_c0, ownv_cs, ownt_c0, tup_c0, tup_cs, view_int, view_str, view_bl, view_non, view_tup, view_lst, view_ty, view_fn, p_bin, p_neg, p_cmp, p_ix, p_len_tup, p_len_lst, p_abs, p_int, p_intb, p_isi, p_tuple_tup, p_tuple_lst, p_max, p_min, b_add_int, b_sub_int, c_lt, c_le, c_gt, c_ge, c_eq, c_ne, ix_tup, ix_lst, at0, at1, at2, at3, at4, at5, eq_int, eq_str, eq_bl, truD, set_c0, set_cs, setS_c, isi_tuple_tup, isi_tuple_lst, isi_tuple_str, isi_tuple_int, isi_tuple_non, isi_tuple_bl, isi_str_str, isi_str_tup, isi_str_int, isi_str_non, isi_str_lst, isi_str_bl, if_true_, if_false_, c3, hc1]
  unfold b16
  rw [seq s1, seq s2]
  refine body _ (by have := mk_len n; rw [h1]; simp; omega) (by rw [i1, cut_to]; rfl) ?_ ?_ _
  · rw [i1, i2, cut_mid, h1]; cases n <;> rfl
  · cases n
    · simp only [Bool.false_eq_true, if_false]; rw [i1, cut_from, h1]; rfl
    · simp only [if_true]; rw [i2, cut_from, h1]; rfl
end
end FH.K02
end
section
namespace FH.K02
open PySem PySem.Spec PyProof.Rows L2
theorem tabm {α β : Type} {L : List β} {f g : β → α} (h : L.map f = L.map g) : ∀ x ∈ L, f x = g x := by
  induction L with
  | nil => intro x hx; cases hx
  | cons a L ih =>
    simp only [List.map_cons, List.cons.injEq] at h
    intro x hx
    rcases List.mem_cons.mp hx with rfl | hx
    · exact h.1
    · exact ih h.2 x hx
def cps : List Pt := [.by_ 0, .by_ (-1), .by_ 3, .by_ (-30)] ++ (List.range 26).map fun n => .at_ (n : Int)
def rps : List Pt := [.by_ 0, .by_ (-2), .by_ 1, .by_ 250] ++ (List.range 200).map fun n => .at_ (n : Int)
/-- a part that can be written -/
inductive OkP : Pt → Prop
  | at_ {n : Nat} : n < 1000 → OkP (.at_ (n : Int))
  | pos {n : Nat} : n < 1000 → OkP (.by_ (n : Int))
  | neg {n : Nat} : 0 < n → n < 1000 → OkP (.by_ (-(n : Int)))
theorem cps_ok {x : Pt} (h : x ∈ cps) : OkP x := by
  simp only [cps, List.mem_append, List.mem_cons, List.not_mem_nil, or_false, List.mem_map, List.mem_range] at h
  rcases h with (rfl | rfl | rfl | rfl) | ⟨n, hn, rfl⟩
  · exact .pos (n := 0) (by decide)
  · exact .neg (n := 1) (by decide) (by decide)
  · exact .pos (n := 3) (by decide)
  · exact .neg (n := 30) (by decide) (by decide)
  · exact .at_ (by omega)
theorem rps_ok {x : Pt} (h : x ∈ rps) : OkP x := by
  simp only [rps, List.mem_append, List.mem_cons, List.not_mem_nil, or_false, List.mem_map, List.mem_range] at h
  rcases h with (rfl | rfl | rfl | rfl) | ⟨n, hn, rfl⟩
  · exact .pos (n := 0) (by decide)
  · exact .neg (n := 2) (by decide) (by decide)
  · exact .pos (n := 1) (by decide)
  · exact .pos (n := 250) (by decide)
  · exact .at_ (by omega)
def ptx : Pt → List Nat
  | .at_ n => 61 :: dg n.toNat
  | .by_ n => if 0 ≤ n then 43 :: dg n.toNat else 45 :: dg (-n).toNat
theorem neg_txt {n : Nat} (h0 : 0 < n) (h : n < 1000) : Str.ofString (toString (-(n : Int))) = S_ (45 :: dg n) := by
  obtain ⟨m, rfl⟩ : ∃ m, n = m + 1 := ⟨n - 1, by omega⟩
  have e : toString (-((m + 1 : Nat) : Int)) = "-" ++ toString (((m + 1 : Nat) : Int)) := rfl
  have e2 : TL.tl (S_ (dg (m + 1))) = dg (m + 1) := TL.tl_mk _
  refine TL.ext_tl ?_
  have e3 : (toString ((m + 1 : Nat) : Int)).toList.map Char.toNat = dg (m + 1) := by rw [← TL.tl_ofString, num_txt h]; rfl
  rw [e, TL.tl_ofString, String.toList_append, List.map_append, e3]
  rfl
theorem log_neg {n : Nat} (h : n < 1000) : (-(n : Int)).natAbs.log2 < 1920 := by
  rw [Int.natAbs_neg]; exact log_ok h
theorem txt_neg {n : Nat} (h0 : 0 < n) (h : n < 1000) : txtD (.int (-(n : Int))) = some (S_ (45 :: dg n)) := by
  show (if (-(n : Int)).natAbs.log2 < 1920 then some (Str.ofString (toString (-(n : Int)))) else none) = _
  rw [if_pos (log_neg h)]
  exact congrArg some (neg_txt h0 h)
theorem dg_len (n : Nat) : (dg n).length ≤ 3 := by
  obtain ⟨a, l, h1, h2⟩ := dg_pos n
  rw [h1]; simp; omega
theorem ptx_len {x : Pt} : (ptx x).length ≤ 4 := by
  unfold ptx
  split
  · have := dg_len (Int.toNat ‹Int›); simp; omega
  · split
    · have := dg_len (Int.toNat ‹Int›); simp; omega
    · rename_i n _; have := dg_len (-n).toNat; simp; omega
theorem q_at : (("at" : Str) == "at") = true := by decide +kernel
section
variable {k : Nat} {μ : Store} {x y : Pt} {c r : Int}
theorem part_text (h : OkP x) : run fs (k + 1) 12 [x.e] μ = some (.str (S_ (ptx x)), μ) := by
  rw [run_eq (f := 12) (F := ⟨1, 3, b12⟩) rfl rfl]
  show retOf (evSs _ b12 [.val x.e, .emp, .emp] μ) = _
  unfold b12
  cases h with
  | @at_ n hn =>
    have s1 : evS ⟨run fs k, (runP fs k).2⟩ (.unp (.tp (.cons (.nm 1) (.cons (.nm 2) .nil))) (.var 0)) [.val (Pt.at_ (n : Int)).e, .emp, .emp] μ = some (.nx, [.val (Pt.at_ (n : Int)).e, .val (.str "at"), .val (.int (n : Int))], μ) := by kernel_rfl
    have e3 : fstD Str.empty [.str "=", .int (n : Int)] = some (S_ (61 :: dg n)) := by
      have := dg_len n
      rw [s_empty, show ("=" : Str) = S_ [61] by decide +kernel, fst_cons (txt_S (by simp)) (by simp), fst_cons (txt_int hn) (by simp; omega), fst_nil]; rfl
    have e4 : ptx (.at_ (n : Int)) = 61 :: dg n := rfl
    rw [seq s1, e4]
    simp [evE, evEs, evO, evC, evF, evSrc, evIn, evS, evSs, Option.bind_some, Option.map_some, Option.bind_none, Option.map_none, List.map_cons, List.map_nil, slot_c0, slot_cs, own_c0, own_cs, ownv_c0, ownv_cs, ownt_c0, tup_c0, tup_cs, view_int, view_str, view_bl, view_non, view_tup, view_lst, view_ty, view_fn, p_bin, p_neg, p_cmp, p_ix, p_len_tup, p_len_lst, p_abs, p_int, p_intb, p_isi, p_tuple_tup, p_tuple_lst, p_max, p_min, b_add_int, b_sub_int, c_lt, c_le, c_gt, c_ge, c_eq, c_ne, ix_tup, ix_lst, at0, at1, at2, at3, at4, at5, eq_int, eq_str, eq_bl, truD, set_c0, set_cs, setS_c, isi_tuple_tup, isi_tuple_lst, isi_tuple_str, isi_tuple_int, isi_tuple_non, isi_tuple_bl, isi_str_str, isi_str_tup, isi_str_int, isi_str_non, isi_str_lst, isi_str_bl, if_true_, if_false_, e3, retOf]
  | @pos n hn =>
    have s1 : evS ⟨run fs k, (runP fs k).2⟩ (.unp (.tp (.cons (.nm 1) (.cons (.nm 2) .nil))) (.var 0)) [.val (Pt.by_ (n : Int)).e, .emp, .emp] μ = some (.nx, [.val (Pt.by_ (n : Int)).e, .val (.str "by"), .val (.int (n : Int))], μ) := by kernel_rfl
    have e3 : fstD Str.empty [.str "+", .int (n : Int)] = some (S_ (43 :: dg n)) := by
      have := dg_len n
      rw [s_empty, show ("+" : Str) = S_ [43] by decide +kernel, fst_cons (txt_S (by simp)) (by simp), fst_cons (txt_int hn) (by simp; omega), fst_nil]; rfl
    have e4 : ptx (.by_ (n : Int)) = 43 :: dg n := by unfold ptx; simp
    have e5 : ¬ ((n : Int) < 0) := by omega
    rw [seq s1, e4]
    simp [evE, evEs, evO, evC, evF, evSrc, evIn, evS, evSs, Option.bind_some, Option.map_some, Option.bind_none, Option.map_none, List.map_cons, List.map_nil, slot_c0, slot_cs, own_c0, own_cs, ownv_c0, ownv_cs, ownt_c0, tup_c0, tup_cs, view_int, view_str, view_bl, view_non, view_tup, view_lst, view_ty, view_fn, p_bin, p_neg, p_cmp, p_ix, p_len_tup, p_len_lst, p_abs, p_int, p_intb, p_isi, p_tuple_tup, p_tuple_lst, p_max, p_min, b_add_int, b_sub_int, c_lt, c_le, c_gt, c_ge, c_eq, c_ne, ix_tup, ix_lst, at0, at1, at2, at3, at4, at5, eq_int, eq_str, eq_bl, truD, set_c0, set_cs, setS_c, isi_tuple_tup, isi_tuple_lst, isi_tuple_str, isi_tuple_int, isi_tuple_non, isi_tuple_bl, isi_str_str, isi_str_tup, isi_str_int, isi_str_non, isi_str_lst, isi_str_bl, if_true_, if_false_, e3, q1, e5, retOf]
  | @neg n h0 hn =>
    have s1 : evS ⟨run fs k, (runP fs k).2⟩ (.unp (.tp (.cons (.nm 1) (.cons (.nm 2) .nil))) (.var 0)) [.val (Pt.by_ (-(n : Int))).e, .emp, .emp] μ = some (.nx, [.val (Pt.by_ (-(n : Int))).e, .val (.str "by"), .val (.int (-(n : Int)))], μ) := by kernel_rfl
    have e3 : fstD Str.empty [.int (-(n : Int))] = some (S_ (45 :: dg n)) := by
      have := dg_len n
      rw [s_empty, fst_cons (txt_neg h0 hn) (by simp; omega), fst_nil]; rfl
    have e4 : ptx (.by_ (-(n : Int))) = 45 :: dg n := by show (if 0 ≤ -(n : Int) then _ else _) = _; rw [if_neg (by omega)]; simp
    have e5 : (-(n : Int) < 0) := by omega
    rw [seq s1, e4]
    generalize -(n : Int) = z at *
    simp [evE, evEs, evO, evC, evF, evSrc, evIn, evS, evSs, Option.bind_some, Option.map_some, Option.bind_none, Option.map_none, List.map_cons, List.map_nil, slot_c0, slot_cs, own_c0, own_cs, ownv_c0, ownv_cs, ownt_c0, tup_c0, tup_cs, view_int, view_str, view_bl, view_non, view_tup, view_lst, view_ty, view_fn, p_bin, p_neg, p_cmp, p_ix, p_len_tup, p_len_lst, p_abs, p_int, p_intb, p_isi, p_tuple_tup, p_tuple_lst, p_max, p_min, b_add_int, b_sub_int, c_lt, c_le, c_gt, c_ge, c_eq, c_ne, ix_tup, ix_lst, at0, at1, at2, at3, at4, at5, eq_int, eq_str, eq_bl, truD, set_c0, set_cs, setS_c, isi_tuple_tup, isi_tuple_lst, isi_tuple_str, isi_tuple_int, isi_tuple_non, isi_tuple_bl, isi_str_str, isi_str_tup, isi_str_int, isi_str_non, isi_str_lst, isi_str_bl, if_true_, if_false_, e3, q1, e5, retOf]
theorem part_c : ∀ x ∈ cps, run fs (k + 1) 14 [.str (S_ (ptx x)), .int 26] μ = some (x.e, μ) := tabm (by kernel_rfl)
theorem part_r : ∀ x ∈ rps, run fs (k + 1) 14 [.str (S_ (ptx x)), .int 200] μ = some (x.e, μ) := tabm (by kernel_rfl)
def outT (x y : Pt) : Str := S_ (91 :: ((ptx x ++ 44 :: ptx y) ++ [93]))
theorem no_comma (h : OkP x) : 44 ∉ ptx x := by
  have dn : ∀ n, n < 1000 → 44 ∉ dg n := by
    intro n hn
    unfold dg
    split
    · simp; omega
    · split
      · simp; omega
      · simp; omega
  cases h with
  | @at_ n hn =>
    show 44 ∉ 61 :: dg n
    simp [dn n hn]
  | @pos n hn =>
    have e4 : ptx (.by_ (n : Int)) = 43 :: dg n := by unfold ptx; simp
    rw [e4]; simp [dn n hn]
  | @neg n h0 hn =>
    have e4 : ptx (.by_ (-(n : Int))) = 45 :: dg n := by show (if 0 ≤ -(n : Int) then _ else _) = _; rw [if_neg (by omega)]; simp
    rw [e4]; simp [dn n hn]
theorem join_two {a b : List Nat} : Txt.join (S_ [44]) [S_ a, S_ b] = S_ (a ++ 44 :: b) := by
  refine TL.ext_tl ?_
  rw [TL.join_eq, TL.tl_join]
  have t : ∀ l, TL.tl (S_ l) = l := fun l => TL.tl_mk l
  rw [t, t]
  simp only [List.map_cons, List.map_nil, t]
  simp [TL.joinL]
theorem split_two {a b : List Nat} (ha : 44 ∉ a) (hb : 44 ∉ b) : Txt.split (S_ (a ++ 44 :: b)) (S_ [44]) = [S_ a, S_ b] := by
  rw [← join_two]
  refine TL.split_join (s := 44) (S := []) (TL.tl_mk _) (by decide +kernel) (by simp) fun p hp => ?_
  simp only [List.mem_cons, List.not_mem_nil, or_false] at hp
  rcases hp with rfl | rfl
  · exact ha
  · exact hb
theorem non_in : inD .non [x.e, y.e] = some false := by cases x <;> cases y <;> kernel_rfl
theorem bracketed (hx : x ∈ cps) (hy : y ∈ rps) : run fs (k + 2) 15 [.str (outT x y)] μ = some (rf x y, μ) := by
  rw [run_eq (f := 15) (F := ⟨1, 5, b15⟩) rfl rfl]
  show retOf (evSs _ b15 [.val (.str (outT x y)), .emp, .emp, .emp, .emp] μ) = _
  have e1 := part_c (k := k) (μ := μ) x hx
  have e2 := part_r (k := k) (μ := μ) y hy
  have lx := ptx_len (x := x)
  have ly := ptx_len (x := y)
  have c1 : cutS (outT x y) (some 1) (some (-1)) = S_ (ptx x ++ 44 :: ptx y) := cut_in
  have c2 : ((outT x y).length ≤ sizeLine) = True := le_size (by unfold outT; rw [S_len]; simp; omega)
  have c3 : ((S_ (ptx x ++ 44 :: ptx y)).length + 2 ≤ sizeLine) = True := le_size (by rw [S_len]; simp; omega)
  have c4 := split_two (no_comma (cps_ok hx)) (no_comma (rps_ok hy))
  have s1 : evS ⟨run fs (k + 1), (runP fs (k + 1)).2⟩ (.set 1 (.frz (.split (.slice (.var 0) (.som (.lit (.int 1))) (.som (.prim .neg (.cons (.lit (.int 1)) .nil)))) (.lit (.str ",")))))
      [.val (.str (outT x y)), .emp, .emp, .emp, .emp] μ = some (.nx, [.val (.str (outT x y)), .val (.lst [.str (S_ (ptx x)), .str (S_ (ptx y))]), .emp, .emp, .emp], μ) := by
    have c5 : ((ptx x).length + ((ptx y).length + 1) + 2 ≤ sizeLine) = True := le_size (by omega)
    simp [evE, evEs, evO, evC, evF, evSrc, evIn, evS, evSs, Option.bind_some, Option.map_some, Option.bind_none, Option.map_none, List.map_cons, List.map_nil, slot_c0, slot_cs, own_c0, own_cs, ownv_c0, ownv_cs, ownt_c0, tup_c0, tup_cs, view_int, view_str, view_bl, view_non, view_tup, view_lst, view_ty, view_fn, p_bin, p_neg, p_cmp, p_ix, p_len_tup, p_len_lst, p_abs, p_int, p_intb, p_isi, p_tuple_tup, p_tuple_lst, p_max, p_min, b_add_int, b_sub_int, c_lt, c_le, c_gt, c_ge, c_eq, c_ne, ix_tup, ix_lst, at0, at1, at2, at3, at4, at5, eq_int, eq_str, eq_bl, truD, set_c0, set_cs, setS_c, isi_tuple_tup, isi_tuple_lst, isi_tuple_str, isi_tuple_int, isi_tuple_non, isi_tuple_bl, isi_str_str, isi_str_tup, isi_str_int, isi_str_non, isi_str_lst, isi_str_bl, if_true_, if_false_, c1, c2, l_comma, S_len, c4, c5]
  have n1 := non_in (x := x) (y := y)
  have vx := vw (μ := μ) (x := x)
  have vy := vw (μ := μ) (x := y)
  have f1 : evF ⟨run fs (k + 1), (runP fs (k + 1)).2⟩ (.comp (.tp (.cons (.nm 3) (.cons (.nm 4) .nil))) [("word", 3), ("size", 4)] (.zip (.cons (.var 1) (.cons (.glob "SIZES" c_SIZES) .nil))) .no (.call "part_in" 14 (.cons (.var 3) (.cons (.var 4) .nil))))
      [.val (.str (outT x y)), .val (.lst [.str (S_ (ptx x)), .str (S_ (ptx y))]), .emp, .emp, .emp] μ = some ([x.e, y.e], μ) := by
    generalize outT x y = T0
    generalize S_ (ptx x) = X0 at *
    generalize S_ (ptx y) = Y0 at *
    have src : evSrc ⟨run fs (k + 1), (runP fs (k + 1)).2⟩ (.zip (.cons (.var 1) (.cons (.glob "SIZES" c_SIZES) .nil))) [.val (.str T0), .val (.lst [.str X0, .str Y0]), .emp, .emp, .emp] μ = some (.items [.tup [.str X0, .int 26], .tup [.str Y0, .int 200]], μ) := by kernel_rfl
    unfold evF
    rw [src]
    simp only [Option.bind_some]
    rw [if_pos (by show 2 < sizeLine; decide)]
    have t : ∀ (w : Str) (z : Int) (d : D), run fs (k + 1) 14 [.str w, .int z] μ = some (d, μ) → (asgT (.tp (.cons (.nm 3) (.cons (.nm 4) .nil))) (.tup [.str w, .int z]) (wipeS [.val (.str T0), .val (.lst [.str X0, .str Y0]), .emp, .emp, .emp] ([(("word" : Str), 3), ("size", 4)].map (·.2)))).bind (fun ρ' => (evC ⟨run fs (k + 1), (runP fs (k + 1)).2⟩ .no ρ' μ).bind fun k' => if k'.1 then (evE ⟨run fs (k + 1), (runP fs (k + 1)).2⟩ (.call "part_in" 14 (.cons (.var 3) (.cons (.var 4) .nil))) ρ' k'.2).map fun q => (some q.1, q.2) else some (none, k'.2)) = some (some d, μ) := by
      intro w z d h
      show (run fs (k + 1) 14 [.str w, .int z] μ).map _ = _
      rw [h]; rfl
    rw [lc1 (t _ _ _ e1), lc1 (t _ _ _ e2)]
    rfl
  unfold b15
  rw [seq s1]
  have s2 : evS ⟨run fs (k + 1), (runP fs (k + 1)).2⟩ (.ifs (.prim (.cmp .NotEq) (.cons (.prim .len (.cons (.var 1) .nil)) (.cons (.lit (.int 2)) .nil))) (.cons (.ret (.lit .non)) .nil) .nil) [.val (.str (outT x y)), .val (.lst [.str (S_ (ptx x)), .str (S_ (ptx y))]), .emp, .emp, .emp] μ = some (.nx, [.val (.str (outT x y)), .val (.lst [.str (S_ (ptx x)), .str (S_ (ptx y))]), .emp, .emp, .emp], μ) := by
    rw [if_ev (μ' := μ) false (by simp [evE, evEs, evO, evC, evF, evSrc, evIn, evS, evSs, Option.bind_some, Option.map_some, Option.bind_none, Option.map_none, List.map_cons, List.map_nil, slot_c0, slot_cs, own_c0, own_cs, ownv_c0, ownv_cs, ownt_c0, tup_c0, tup_cs, view_int, view_str, view_bl, view_non, view_tup, view_lst, view_ty, view_fn, p_bin, p_neg, p_cmp, p_ix, p_len_tup, p_len_lst, p_abs, p_int, p_intb, p_isi, p_tuple_tup, p_tuple_lst, p_max, p_min, b_add_int, b_sub_int, c_lt, c_le, c_gt, c_ge, c_eq, c_ne, ix_tup, ix_lst, at0, at1, at2, at3, at4, at5, eq_int, eq_str, eq_bl, truD, set_c0, set_cs, setS_c, isi_tuple_tup, isi_tuple_lst, isi_tuple_str, isi_tuple_int, isi_tuple_non, isi_tuple_bl, isi_str_str, isi_str_tup, isi_str_int, isi_str_non, isi_str_lst, isi_str_bl, if_true_, if_false_])]
    simp [evSs]
  rw [seq s2]
  generalize FE.comp (.tp (.cons (.nm 3) (.cons (.nm 4) .nil))) [("word", 3), ("size", 4)] (.zip (.cons (.var 1) (.cons (.glob "SIZES" c_SIZES) .nil))) .no (.call "part_in" 14 (.cons (.var 3) (.cons (.var 4) .nil))) = fe at f1
  simp [evE, evEs, evO, evC, evF, evSrc, evIn, evS, evSs, Option.bind_some, Option.map_some, Option.bind_none, Option.map_none, List.map_cons, List.map_nil, slot_c0, slot_cs, own_c0, own_cs, ownv_c0, ownv_cs, ownt_c0, tup_c0, tup_cs, view_int, view_str, view_bl, view_non, view_tup, view_lst, view_ty, view_fn, p_bin, p_neg, p_cmp, p_ix, p_len_tup, p_len_lst, p_abs, p_int, p_intb, p_isi, p_tuple_tup, p_tuple_lst, p_max, p_min, b_add_int, b_sub_int, c_lt, c_le, c_gt, c_ge, c_eq, c_ne, ix_tup, ix_lst, at0, at1, at2, at3, at4, at5, eq_int, eq_str, eq_bl, truD, set_c0, set_cs, setS_c, isi_tuple_tup, isi_tuple_lst, isi_tuple_str, isi_tuple_int, isi_tuple_non, isi_tuple_bl, isi_str_str, isi_str_tup, isi_str_int, isi_str_non, isi_str_lst, isi_str_bl, if_true_, if_false_, f1, cmpD, n1, retOf, rf]
end
end FH.K02
end
section
namespace FH.K02
open PySem PySem.Spec PyProof.Rows L2
section
variable {k a b : Nat} {μ : Store} {x y : Pt} {c r : Int}
theorem ref_gone : run fs (k + 1) 13 [gone, pl c r] μ = some (.str "#gone", μ) := by kernel_rfl
theorem lref_gone : run fs (k + 3) 28 [gone, pl c r] μ = some (.str "#gone", μ) := by kernel_rfl
theorem read_gone : run fs (k + 1) 17 [.str "#gone", pl c r] μ = some (gone, μ) := by kernel_rfl
theorem b_app {u v : List Nat} (h : u.length + v.length ≤ 1000) : binD .Add (.str (S_ u)) (.str (S_ v)) = some (.str (S_ (u ++ v))) := by
  unfold binD
  simp only
  rw [if_pos (by rw [S_len, S_len]; exact Nat.le_trans h (by decide)), S_app]
theorem ifg (h : D) (ρ : Slots) : True := trivial
theorem ref_text_out (hx : x ∈ cps) (hy : y ∈ rps) (h : inb (x.v c) (y.v r) = false) : run fs (k + 2) 13 [rf x y, pl c r] μ = some (.str (outT x y), μ) := by
  rw [run_eq (f := 13) (F := ⟨2, 5, b13⟩) rfl rfl]
  show retOf (evSs _ b13 [.val (rf x y), .val (pl c r), .emp, .emp, .emp] μ) = _
  have s1 : evS ⟨run fs (k + 1), (runP fs (k + 1)).2⟩ (.ifs (.prim (.cmp .Eq) (.cons (.prim .ix (.cons (.var 0) (.cons (.lit (.int 0)) .nil))) (.cons (.lit (.str "gone")) .nil))) (.cons (.ret (.lit (.str "#gone"))) .nil) .nil) [.val (rf x y), .val (pl c r), .emp, .emp, .emp] μ = some (.nx, [.val (rf x y), .val (pl c r), .emp, .emp, .emp], μ) := by
    cases x <;> kernel_rfl
  have e1 := points_at (k := k) (μ := μ) (x := x) (y := y) (c := c) (r := r)
  rw [h] at e1
  have e2 := part_text (k := k) (μ := μ) (cps_ok hx)
  have e3 := part_text (k := k) (μ := μ) (rps_ok hy)
  have lx := ptx_len (x := x)
  have ly := ptx_len (x := y)
  have e4 : fstD Str.empty [.str "[", .str (S_ (ptx x)), .str ",", .str (S_ (ptx y)), .str "]"] = some (outT x y) := by
    rw [s_empty, l_open, l_comma, l_close, fst_cons (txt_S (by simp)) (by simp), fst_cons (txt_S (by omega)) (by simp; omega), fst_cons (txt_S (by simp)) (by simp; omega), fst_cons (txt_S (by omega)) (by simp; omega), fst_cons (txt_S (by simp)) (by simp; omega), fst_nil]
    simp [outT]
  have vx := vw (μ := μ) (x := x)
  have vy := vw (μ := μ) (x := y)
  unfold b13
  rw [seq s1]
  simp only [rf, pl] at *
  generalize x.e = X at *
  generalize y.e = Y at *
  simp [evE, evEs, evO, evC, evF, evSrc, evIn, evS, evSs, Option.bind_some, Option.map_some, Option.bind_none, Option.map_none, List.map_cons, List.map_nil, slot_c0, slot_cs, own_c0, own_cs, ownv_c0, ownv_cs, ownt_c0, tup_c0, tup_cs, view_int, view_str, view_bl, view_non, view_tup, view_lst, view_ty, view_fn, p_bin, p_neg, p_cmp, p_ix, p_len_tup, p_len_lst, p_abs, p_int, p_intb, p_isi, p_tuple_tup, p_tuple_lst, p_max, p_min, b_add_int, b_sub_int, c_lt, c_le, c_gt, c_ge, c_eq, c_ne, ix_tup, ix_lst, at0, at1, at2, at3, at4, at5, eq_int, eq_str, eq_bl, truD, set_c0, set_cs, setS_c, isi_tuple_tup, isi_tuple_lst, isi_tuple_str, isi_tuple_int, isi_tuple_non, isi_tuple_bl, isi_str_str, isi_str_tup, isi_str_int, isi_str_non, isi_str_lst, isi_str_bl, if_true_, if_false_, e1, e2, e3, e4, cmpD, retOf, vx, vy]
theorem ref_text_in {m n : Bool} (hx : x.m = m) (hy : y.m = n) (hc : x.v c = (a : Int)) (hr : y.v r = (b : Int)) (ha : a < 26) (hb : b < 200) : run fs (k + 2) 13 [rf x y, pl c r] μ = some (.str (tx m n a b), μ) := by
  rw [run_eq (f := 13) (F := ⟨2, 5, b13⟩) rfl rfl]
  show retOf (evSs _ b13 [.val (rf x y), .val (pl c r), .emp, .emp, .emp] μ) = _
  have s1 : evS ⟨run fs (k + 1), (runP fs (k + 1)).2⟩ (.ifs (.prim (.cmp .Eq) (.cons (.prim .ix (.cons (.var 0) (.cons (.lit (.int 0)) .nil))) (.cons (.lit (.str "gone")) .nil))) (.cons (.ret (.lit (.str "#gone"))) .nil) .nil) [.val (rf x y), .val (pl c r), .emp, .emp, .emp] μ = some (.nx, [.val (rf x y), .val (pl c r), .emp, .emp, .emp], μ) := by
    cases x <;> kernel_rfl
  have e1 := points_at (k := k) (μ := μ) (x := x) (y := y) (c := c) (r := r)
  have hi : inb (x.v c) (y.v r) = true := by unfold inb; rw [hc, hr]; simp; omega
  rw [hi, hc, hr] at e1
  simp only [if_true_] at e1
  have e2 := marks_of (k := k) (μ := μ) (x := x) (y := y)
  rw [hx, hy] at e2
  have l1 := letter ha
  have l2 : txtD (.int ((b : Int) + 1)) = some (S_ (dg (b + 1))) := txt_int (n := b + 1) (by omega)
  have dl := dg_len (b + 1)
  have ml := mk_len m
  have nl := mk_len n
  have mkT : ∀ m : Bool, (if m then ("$" : Str) else "") = S_ (mk m) := fun m => by
    cases m
    · exact l_empty
    · exact l_dollar
  have e4 : fstD Str.empty [.str (S_ (mk m)), .str (S_ [97 + a]), .str (S_ (mk n)), .int ((b : Int) + 1)] = some (tx m n a b) := by
    rw [s_empty, fst_cons (txt_S (by omega)) (by simp; omega), fst_cons (txt_S (by simp)) (by simp; omega), fst_cons (txt_S (by omega)) (by simp; omega), fst_cons l2 (by simp; omega), fst_nil]
    simp [tx]
  unfold b13
  rw [seq s1]
  generalize rf x y = R at *
  have t2 : evS ⟨run fs (k + 1), (runP fs (k + 1)).2⟩ (.set 2 (.call "points_at" 6 (.cons (.var 0) (.cons (.var 1) .nil)))) [.val R, .val (pl c r), .emp, .emp, .emp] μ = some (.nx, [.val R, .val (pl c r), .val (pl a b), .emp, .emp], μ) := by
    generalize pl c r = P at *
    generalize pl (a : Int) (b : Int) = A at *
    simp [evE, evEs, evO, evC, evF, evSrc, evIn, evS, evSs, Option.bind_some, Option.map_some, Option.bind_none, Option.map_none, List.map_cons, List.map_nil, slot_c0, slot_cs, own_c0, own_cs, ownv_c0, ownv_cs, ownt_c0, tup_c0, tup_cs, view_int, view_str, view_bl, view_non, view_tup, view_lst, view_ty, view_fn, p_bin, p_neg, p_cmp, p_ix, p_len_tup, p_len_lst, p_abs, p_int, p_intb, p_isi, p_tuple_tup, p_tuple_lst, p_max, p_min, b_add_int, b_sub_int, c_lt, c_le, c_gt, c_ge, c_eq, c_ne, ix_tup, ix_lst, at0, at1, at2, at3, at4, at5, eq_int, eq_str, eq_bl, truD, set_c0, set_cs, setS_c, isi_tuple_tup, isi_tuple_lst, isi_tuple_str, isi_tuple_int, isi_tuple_non, isi_tuple_bl, isi_str_str, isi_str_tup, isi_str_int, isi_str_non, isi_str_lst, isi_str_bl, if_true_, if_false_, e1]
  have t3 : evS ⟨run fs (k + 1), (runP fs (k + 1)).2⟩ (.ifs (.prim (.cmp .Is) (.cons (.var 2) (.cons (.lit .non) .nil))) (.cons (.ret (.fstr (.cons (.lit (.str "[")) (.cons (.call "part_text" 12 (.cons (.prim .ix (.cons (.var 0) (.cons (.lit (.int 0)) .nil))) .nil)) (.cons (.lit (.str ",")) (.cons (.call "part_text" 12 (.cons (.prim .ix (.cons (.var 0) (.cons (.lit (.int 1)) .nil))) .nil)) (.cons (.lit (.str "]")) .nil))))))) .nil) .nil)
      [.val R, .val (pl c r), .val (pl a b), .emp, .emp] μ = some (.nx, [.val R, .val (pl c r), .val (pl a b), .emp, .emp], μ) := by
    rw [if_ev (μ' := μ) false (by kernel_rfl)]
    simp [evSs]
  have f1 : evF ⟨run fs (k + 1), (runP fs (k + 1)).2⟩ (.comp (.nm 4) [("is_always", 4)] (.it (.call "marks_of" 10 (.cons (.var 0) .nil))) .no (.cond (.var 4) (.lit (.str "$")) (.lit (.str "")))) [.val R, .val (pl c r), .val (pl a b), .emp, .emp] μ = some ([.str (S_ (mk m)), .str (S_ (mk n))], μ) := by
    have src : evSrc ⟨run fs (k + 1), (runP fs (k + 1)).2⟩ (.it (.call "marks_of" 10 (.cons (.var 0) .nil))) [.val R, .val (pl c r), .val (pl a b), .emp, .emp] μ = some (.items [.bl m, .bl n], μ) := by
      simp [evE, evEs, evO, evC, evF, evSrc, evIn, evS, evSs, Option.bind_some, Option.map_some, Option.bind_none, Option.map_none, List.map_cons, List.map_nil, slot_c0, slot_cs, own_c0, own_cs, ownv_c0, ownv_cs, ownt_c0, tup_c0, tup_cs, view_int, view_str, view_bl, view_non, view_tup, view_lst, view_ty, view_fn, p_bin, p_neg, p_cmp, p_ix, p_len_tup, p_len_lst, p_abs, p_int, p_intb, p_isi, p_tuple_tup, p_tuple_lst, p_max, p_min, b_add_int, b_sub_int, c_lt, c_le, c_gt, c_ge, c_eq, c_ne, ix_tup, ix_lst, at0, at1, at2, at3, at4, at5, eq_int, eq_str, eq_bl, truD, set_c0, set_cs, setS_c, isi_tuple_tup, isi_tuple_lst, isi_tuple_str, isi_tuple_int, isi_tuple_non, isi_tuple_bl, isi_str_str, isi_str_tup, isi_str_int, isi_str_non, isi_str_lst, isi_str_bl, if_true_, if_false_, e2, itemsD]
    unfold evF
    rw [src]
    simp only [Option.bind_some]
    rw [if_pos (by show 2 < sizeLine; decide)]
    have t : ∀ m : Bool, (asgT (.nm 4) (.bl m) (wipeS [.val R, .val (pl c r), .val (pl a b), .emp, .emp] ([(("is_always" : Str), 4)].map (·.2)))).bind (fun ρ' => (evC ⟨run fs (k + 1), (runP fs (k + 1)).2⟩ .no ρ' μ).bind fun k' => if k'.1 then (evE ⟨run fs (k + 1), (runP fs (k + 1)).2⟩ (.cond (.var 4) (.lit (.str "$")) (.lit (.str ""))) ρ' k'.2).map fun q => (some q.1, q.2) else some (none, k'.2)) = some (some (.str (S_ (mk m))), μ) := by
      intro m
      rw [← mkT]
      cases m <;> kernel_rfl
    rw [lc1 (t m), lc1 (t n)]
    rfl
  rw [seq t2, seq t3]
  generalize FE.comp (.nm 4) [("is_always", 4)] (.it (.call "marks_of" 10 (.cons (.var 0) .nil))) .no (.cond (.var 4) (.lit (.str "$")) (.lit (.str ""))) = fe at f1
  have t4 : evS ⟨run fs (k + 1), (runP fs (k + 1)).2⟩ (.set 3 (.frz fe)) [.val R, .val (pl c r), .val (pl a b), .emp, .emp] μ = some (.nx, [.val R, .val (pl c r), .val (pl a b), .val (.lst [.str (S_ (mk m)), .str (S_ (mk n))]), .emp], μ) := by
    simp [evE, evEs, evO, evC, evF, evSrc, evIn, evS, evSs, Option.bind_some, Option.map_some, Option.bind_none, Option.map_none, List.map_cons, List.map_nil, slot_c0, slot_cs, own_c0, own_cs, ownv_c0, ownv_cs, ownt_c0, tup_c0, tup_cs, view_int, view_str, view_bl, view_non, view_tup, view_lst, view_ty, view_fn, p_bin, p_neg, p_cmp, p_ix, p_len_tup, p_len_lst, p_abs, p_int, p_intb, p_isi, p_tuple_tup, p_tuple_lst, p_max, p_min, b_add_int, b_sub_int, c_lt, c_le, c_gt, c_ge, c_eq, c_ne, ix_tup, ix_lst, at0, at1, at2, at3, at4, at5, eq_int, eq_str, eq_bl, truD, set_c0, set_cs, setS_c, isi_tuple_tup, isi_tuple_lst, isi_tuple_str, isi_tuple_int, isi_tuple_non, isi_tuple_bl, isi_str_str, isi_str_tup, isi_str_int, isi_str_non, isi_str_lst, isi_str_bl, if_true_, if_false_, f1]
  rw [seq t4]
  simp only [pl]
  simp [evE, evEs, evO, evC, evF, evSrc, evIn, evS, evSs, Option.bind_some, Option.map_some, Option.bind_none, Option.map_none, List.map_cons, List.map_nil, slot_c0, slot_cs, own_c0, own_cs, ownv_c0, ownv_cs, ownt_c0, tup_c0, tup_cs, view_int, view_str, view_bl, view_non, view_tup, view_lst, view_ty, view_fn, p_bin, p_neg, p_cmp, p_ix, p_len_tup, p_len_lst, p_abs, p_int, p_intb, p_isi, p_tuple_tup, p_tuple_lst, p_max, p_min, b_add_int, b_sub_int, c_lt, c_le, c_gt, c_ge, c_eq, c_ne, ix_tup, ix_lst, at0, at1, at2, at3, at4, at5, eq_int, eq_str, eq_bl, truD, set_c0, set_cs, setS_c, isi_tuple_tup, isi_tuple_lst, isi_tuple_str, isi_tuple_int, isi_tuple_non, isi_tuple_bl, isi_str_str, isi_str_tup, isi_str_int, isi_str_non, isi_str_lst, isi_str_bl, if_true_, if_false_, c_LETTERS, l1, e4, retOf]
theorem lref_text_in {m n : Bool} (hx : x.m = m) (hy : y.m = n) (hc : x.v c = (a : Int)) (hr : y.v r = (b : Int)) (ha : a < 26) (hb : b < 200) : run fs (k + 3) 28 [rf x y, pl c r] μ = some (.str (tx m n a b), μ) := by
  rw [run_eq (f := 28) (F := ⟨2, 7, b28⟩) rfl rfl]
  show retOf (evSs _ b28 [.val (rf x y), .val (pl c r), .emp, .emp, .emp, .emp, .emp] μ) = _
  have e1 := lpoints (k := k) (μ := μ) (x := x) (y := y) (c := c) (r := r)
  have hi : inb (x.v c) (y.v r) = true := by unfold inb; rw [hc, hr]; simp; omega
  rw [hi, hc, hr] at e1
  simp only [if_true_] at e1
  have e2 := lmarks (k := k + 1) (μ := μ) (x := x) (y := y)
  rw [hx, hy] at e2
  have e3 := lplace_text (k := k + 1) (μ := μ) ha hb
  obtain ⟨d, l, hd, hl⟩ := dg_pos (b + 1)
  have ml := mk_len m
  have nl := mk_len n
  have i0 : ixD (.str (tx false false a b)) (.int 0) = some (.str (S_ [97 + a])) := by
    unfold ixD
    simp only
    rw [if_pos (by unfold tx; rw [S_len, hd]; simp [mk]; exact Nat.le_trans (by omega : l.length + 1 + 1 ≤ 1000) (by decide))]
    show (L2.atI ((97 + a) :: dg (b + 1)) 0).map _ = _
    rw [at0]; rfl
  have c1 : cutS (tx false false a b) (some 1) none = S_ (dg (b + 1)) := by unfold tx; rw [show (1 : Int) = ((1 : Nat) : Int) from rfl, cut_from]; rfl
  have c3 : ((tx false false a b).length ≤ sizeLine) = True := le_size (by unfold tx; rw [S_len, hd]; simp [mk]; omega)
  have q0 : evS ⟨run fs (k + 2), (runP fs (k + 2)).2⟩ (.set 2 (.call "_law_points" 23 (.cons (.var 0) (.cons (.var 1) .nil)))) [.val (rf x y), .val (pl c r), .emp, .emp, .emp, .emp, .emp] μ = some (.nx, [.val (rf x y), .val (pl c r), .val (pl a b), .emp, .emp, .emp, .emp], μ) := by
    generalize rf x y = R at *
    generalize pl c r = P at *
    generalize pl (a : Int) (b : Int) = A at *
    simp [evE, evEs, evO, evC, evF, evSrc, evIn, evS, evSs, Option.bind_some, Option.map_some, Option.bind_none, Option.map_none, List.map_cons, List.map_nil, slot_c0, slot_cs, own_c0, own_cs, ownv_c0, ownv_cs, ownt_c0, tup_c0, tup_cs, view_int, view_str, view_bl, view_non, view_tup, view_lst, view_ty, view_fn, p_bin, p_neg, p_cmp, p_ix, p_len_tup, p_len_lst, p_abs, p_int, p_intb, p_isi, p_tuple_tup, p_tuple_lst, p_max, p_min, b_add_int, b_sub_int, c_lt, c_le, c_gt, c_ge, c_eq, c_ne, ix_tup, ix_lst, at0, at1, at2, at3, at4, at5, eq_int, eq_str, eq_bl, truD, set_c0, set_cs, setS_c, isi_tuple_tup, isi_tuple_lst, isi_tuple_str, isi_tuple_int, isi_tuple_non, isi_tuple_bl, isi_str_str, isi_str_tup, isi_str_int, isi_str_non, isi_str_lst, isi_str_bl, if_true_, if_false_, e1]
  unfold b28
  rw [seq q0]
  have n1 : eqD (pl (a : Int) (b : Int)) (.str "gone") = some false := by kernel_rfl
  have n2 : eqD (pl (a : Int) (b : Int)) (.str "out") = some false := by kernel_rfl
  have vA : viewD μ (pl (a : Int) (b : Int)) = pl (a : Int) (b : Int) := rfl
  generalize rf x y = R at *
  generalize pl c r = P at *
  generalize pl (a : Int) (b : Int) = A at *
  have dl := dg_len (b + 1)
  have w1 := b_app (u := mk m) (v := [97 + a]) (by simp; omega)
  have w2 := b_app (u := mk m ++ [97 + a]) (v := mk n) (by simp; omega)
  have w3 := b_app (u := mk m ++ (97 + a) :: mk n) (v := dg (b + 1)) (by simp; omega)
  have w4 : S_ (mk m ++ (97 + a) :: mk n ++ dg (b + 1)) = tx m n a b := by simp [tx]
  rw [w4] at w3
  have w5 : mk m ++ [97 + a] ++ mk n = mk m ++ (97 + a) :: mk n := by simp
  rw [w5] at w2
  have mkT : ∀ m : Bool, (if m then ("$" : Str) else "") = S_ (mk m) := fun m => by
    cases m
    · exact l_empty
    · exact l_dollar
  have m1 := mkT m
  have m2 := mkT n
  cases m <;> cases n <;> simp only [Bool.false_eq_true, if_false, if_true] at m1 m2 <;>
    simp [evE, evEs, evO, evC, evF, evSrc, evIn, evS, evSs, Option.bind_some, Option.map_some, Option.bind_none, Option.map_none, List.map_cons, List.map_nil, slot_c0, slot_cs, own_c0, own_cs, ownv_c0, ownv_cs, ownt_c0, tup_c0, tup_cs, view_int, view_str, view_bl, view_non, view_tup, view_lst, view_ty, view_fn, p_bin, p_neg, p_cmp, p_ix, p_len_tup, p_len_lst, p_abs, p_int, p_intb, p_isi, p_tuple_tup, p_tuple_lst, p_max, p_min, b_add_int, b_sub_int, c_lt, c_le, c_gt, c_ge, c_eq, c_ne, ix_tup, ix_lst, at0, at1, at2, at3, at4, at5, eq_int, eq_str, eq_bl, truD, set_c0, set_cs, setS_c, isi_tuple_tup, isi_tuple_lst, isi_tuple_str, isi_tuple_int, isi_tuple_non, isi_tuple_bl, isi_str_str, isi_str_tup, isi_str_int, isi_str_non, isi_str_lst, isi_str_bl, if_true_, if_false_, n1, n2, vA, e2, e3, i0, c1, c3, m1, m2, w1, w2, w3, retOf]
end
end FH.K02
end
section
namespace FH.K02
open PySem PySem.Spec PyProof.Rows L2
section
variable {k a b : Nat} {μ : Store} {x y : Pt} {c r : Int}
theorem str_nat {n : Nat} (h : n < 1000) : primD .str [.int (n : Int)] = some (.str (S_ (dg n))) := str_int h
/-- one part's text, as the law writes it -/
theorem ltxt {Γ : Env2} {s0 s1 s2 s3 s4 s5 s6 : Slot} (h : OkP x) : ((asgT (.tp (.cons (.nm 5) (.cons (.nm 6) .nil))) x.e [s0, s1, s2, s3, s4, s5, s6]).bind fun ρ' => evE Γ (.cond (.prim (.cmp .Eq) (.cons (.var 5) (.cons (.lit (.str "at")) .nil))) (.prim (.bin .Add) (.cons (.lit (.str "=")) (.cons (.prim .str (.cons (.var 6) .nil)) .nil))) (.prim (.bin .Add) (.cons (.cond (.prim (.cmp .GtE) (.cons (.var 6) (.cons (.lit (.int 0)) .nil))) (.lit (.str "+")) (.lit (.str "-"))) (.cons (.prim .str (.cons (.prim .abs (.cons (.var 6) .nil)) .nil)) .nil)))) ρ' μ) = some (.str (S_ (ptx x)), μ) := by
  cases h with
  | @at_ n hn =>
    have e1 := str_nat hn
    have dl := dg_len n
    have e2 : binD .Add (.str "=") (.str (S_ (dg n))) = some (.str (S_ (61 :: dg n))) := by rw [show ("=" : Str) = S_ [61] by decide +kernel, b_app (by simp; omega)]; rfl
    have e4 : ptx (.at_ (n : Int)) = 61 :: dg n := rfl
    rw [e4]
    simp [asgT, asgTs, Pt.e, evE, evEs, evO, evC, evF, evSrc, evIn, evS, evSs, Option.bind_some, Option.map_some, Option.bind_none, Option.map_none, List.map_cons, List.map_nil, slot_c0, slot_cs, own_c0, own_cs, ownv_c0, ownv_cs, ownt_c0, tup_c0, tup_cs, view_int, view_str, view_bl, view_non, view_tup, view_lst, view_ty, view_fn, p_bin, p_neg, p_cmp, p_ix, p_len_tup, p_len_lst, p_abs, p_int, p_intb, p_isi, p_tuple_tup, p_tuple_lst, p_max, p_min, b_add_int, b_sub_int, c_lt, c_le, c_gt, c_ge, c_eq, c_ne, ix_tup, ix_lst, at0, at1, at2, at3, at4, at5, eq_int, eq_str, eq_bl, truD, set_c0, set_cs, setS_c, isi_tuple_tup, isi_tuple_lst, isi_tuple_str, isi_tuple_int, isi_tuple_non, isi_tuple_bl, isi_str_str, isi_str_tup, isi_str_int, isi_str_non, isi_str_lst, isi_str_bl, if_true_, if_false_, e1, e2]
  | @pos n hn =>
    have e1 := str_nat hn
    have dl := dg_len n
    have e2 : binD .Add (.str "+") (.str (S_ (dg n))) = some (.str (S_ (43 :: dg n))) := by rw [show ("+" : Str) = S_ [43] by decide +kernel, b_app (by simp; omega)]; rfl
    have e4 : ptx (.by_ (n : Int)) = 43 :: dg n := by unfold ptx; simp
    have e5 : ¬ ((n : Int) < 0) := by omega
    rw [e4]
    simp [asgT, asgTs, Pt.e, evE, evEs, evO, evC, evF, evSrc, evIn, evS, evSs, Option.bind_some, Option.map_some, Option.bind_none, Option.map_none, List.map_cons, List.map_nil, slot_c0, slot_cs, own_c0, own_cs, ownv_c0, ownv_cs, ownt_c0, tup_c0, tup_cs, view_int, view_str, view_bl, view_non, view_tup, view_lst, view_ty, view_fn, p_bin, p_neg, p_cmp, p_ix, p_len_tup, p_len_lst, p_abs, p_int, p_intb, p_isi, p_tuple_tup, p_tuple_lst, p_max, p_min, b_add_int, b_sub_int, c_lt, c_le, c_gt, c_ge, c_eq, c_ne, ix_tup, ix_lst, at0, at1, at2, at3, at4, at5, eq_int, eq_str, eq_bl, truD, set_c0, set_cs, setS_c, isi_tuple_tup, isi_tuple_lst, isi_tuple_str, isi_tuple_int, isi_tuple_non, isi_tuple_bl, isi_str_str, isi_str_tup, isi_str_int, isi_str_non, isi_str_lst, isi_str_bl, if_true_, if_false_, e1, e2, q1, e5]
  | @neg n h0 hn =>
    have e1 := str_nat hn
    have dl := dg_len n
    have e2 : binD .Add (.str "-") (.str (S_ (dg n))) = some (.str (S_ (45 :: dg n))) := by rw [show ("-" : Str) = S_ [45] by decide +kernel, b_app (by simp; omega)]; rfl
    have e4 : ptx (.by_ (-(n : Int))) = 45 :: dg n := by show (if 0 ≤ -(n : Int) then _ else _) = _; rw [if_neg (by omega)]; simp
    have e5 : ¬ (0 ≤ -(n : Int)) := by omega
    have e6 : -(n : Int) < 0 := by omega
    have e7 : - -(n : Int) = (n : Int) := by omega
    rw [e4]
    generalize hz : -(n : Int) = z at *
    simp [asgT, asgTs, Pt.e, evE, evEs, evO, evC, evF, evSrc, evIn, evS, evSs, Option.bind_some, Option.map_some, Option.bind_none, Option.map_none, List.map_cons, List.map_nil, slot_c0, slot_cs, own_c0, own_cs, ownv_c0, ownv_cs, ownt_c0, tup_c0, tup_cs, view_int, view_str, view_bl, view_non, view_tup, view_lst, view_ty, view_fn, p_bin, p_neg, p_cmp, p_ix, p_len_tup, p_len_lst, p_abs, p_int, p_intb, p_isi, p_tuple_tup, p_tuple_lst, p_max, p_min, b_add_int, b_sub_int, c_lt, c_le, c_gt, c_ge, c_eq, c_ne, ix_tup, ix_lst, at0, at1, at2, at3, at4, at5, eq_int, eq_str, eq_bl, truD, set_c0, set_cs, setS_c, isi_tuple_tup, isi_tuple_lst, isi_tuple_str, isi_tuple_int, isi_tuple_non, isi_tuple_bl, isi_str_str, isi_str_tup, isi_str_int, isi_str_non, isi_str_lst, isi_str_bl, if_true_, if_false_, e1, e2, q1, e5, e6, e7]
theorem lref_text_out (hx : x ∈ cps) (hy : y ∈ rps) (h : inb (x.v c) (y.v r) = false) : run fs (k + 3) 28 [rf x y, pl c r] μ = some (.str (outT x y), μ) := by
  rw [run_eq (f := 28) (F := ⟨2, 7, b28⟩) rfl rfl]
  show retOf (evSs _ b28 [.val (rf x y), .val (pl c r), .emp, .emp, .emp, .emp, .emp] μ) = _
  have e1 := lpoints (k := k) (μ := μ) (x := x) (y := y) (c := c) (r := r)
  rw [h] at e1
  have q0 : evS ⟨run fs (k + 2), (runP fs (k + 2)).2⟩ (.set 2 (.call "_law_points" 23 (.cons (.var 0) (.cons (.var 1) .nil)))) [.val (rf x y), .val (pl c r), .emp, .emp, .emp, .emp, .emp] μ = some (.nx, [.val (rf x y), .val (pl c r), .val (.str "out"), .emp, .emp, .emp, .emp], μ) := by
    generalize rf x y = R at *
    generalize pl c r = P at *
    simp [evE, evEs, evO, evC, evF, evSrc, evIn, evS, evSs, Option.bind_some, Option.map_some, Option.bind_none, Option.map_none, List.map_cons, List.map_nil, slot_c0, slot_cs, own_c0, own_cs, ownv_c0, ownv_cs, ownt_c0, tup_c0, tup_cs, view_int, view_str, view_bl, view_non, view_tup, view_lst, view_ty, view_fn, p_bin, p_neg, p_cmp, p_ix, p_len_tup, p_len_lst, p_abs, p_int, p_intb, p_isi, p_tuple_tup, p_tuple_lst, p_max, p_min, b_add_int, b_sub_int, c_lt, c_le, c_gt, c_ge, c_eq, c_ne, ix_tup, ix_lst, at0, at1, at2, at3, at4, at5, eq_int, eq_str, eq_bl, truD, set_c0, set_cs, setS_c, isi_tuple_tup, isi_tuple_lst, isi_tuple_str, isi_tuple_int, isi_tuple_non, isi_tuple_bl, isi_str_str, isi_str_tup, isi_str_int, isi_str_non, isi_str_lst, isi_str_bl, if_true_, if_false_, e1]
  have lx := ptx_len (x := x)
  have ly := ptx_len (x := y)
  have f1 : evF ⟨run fs (k + 2), (runP fs (k + 2)).2⟩ (.comp (.tp (.cons (.nm 5) (.cons (.nm 6) .nil))) [("word", 5), ("n", 6)] (.it (.var 0)) .no (.cond (.prim (.cmp .Eq) (.cons (.var 5) (.cons (.lit (.str "at")) .nil))) (.prim (.bin .Add) (.cons (.lit (.str "=")) (.cons (.prim .str (.cons (.var 6) .nil)) .nil))) (.prim (.bin .Add) (.cons (.cond (.prim (.cmp .GtE) (.cons (.var 6) (.cons (.lit (.int 0)) .nil))) (.lit (.str "+")) (.lit (.str "-"))) (.cons (.prim .str (.cons (.prim .abs (.cons (.var 6) .nil)) .nil)) .nil)))))
      [.val (rf x y), .val (pl c r), .val (.str "out"), .emp, .emp, .emp, .emp] μ = some ([.str (S_ (ptx x)), .str (S_ (ptx y))], μ) := by
    have src : evSrc ⟨run fs (k + 2), (runP fs (k + 2)).2⟩ (.it (.var 0)) [.val (rf x y), .val (pl c r), .val (.str "out"), .emp, .emp, .emp, .emp] μ = some (.items [x.e, y.e], μ) := rfl
    unfold evF
    rw [src]
    simp only [Option.bind_some]
    rw [if_pos (by show 2 < sizeLine; decide)]
    generalize rf x y = R
    have t : ∀ z : Pt, OkP z → (asgT (.tp (.cons (.nm 5) (.cons (.nm 6) .nil))) z.e (wipeS [.val R, .val (pl c r), .val (.str "out"), .emp, .emp, .emp, .emp] ([(("word" : Str), 5), ("n", 6)].map (·.2)))).bind (fun ρ' => (evC ⟨run fs (k + 2), (runP fs (k + 2)).2⟩ .no ρ' μ).bind fun k' => if k'.1 then (evE ⟨run fs (k + 2), (runP fs (k + 2)).2⟩ (.cond (.prim (.cmp .Eq) (.cons (.var 5) (.cons (.lit (.str "at")) .nil))) (.prim (.bin .Add) (.cons (.lit (.str "=")) (.cons (.prim .str (.cons (.var 6) .nil)) .nil))) (.prim (.bin .Add) (.cons (.cond (.prim (.cmp .GtE) (.cons (.var 6) (.cons (.lit (.int 0)) .nil))) (.lit (.str "+")) (.lit (.str "-"))) (.cons (.prim .str (.cons (.prim .abs (.cons (.var 6) .nil)) .nil)) .nil)))) ρ' k'.2).map fun q => (some q.1, q.2) else some (none, k'.2)) = some (some (.str (S_ (ptx z))), μ) := by
      intro z hz
      have hl := ltxt (Γ := ⟨run fs (k + 2), (runP fs (k + 2)).2⟩) (μ := μ) (s0 := .val R) (s1 := .val (pl c r)) (s2 := .val (.str "out")) (s3 := .emp) (s4 := .emp) (s5 := .emp) (s6 := .emp) hz
      simp only [evC, Option.bind_some, if_true]
      show (asgT _ _ [.val R, .val (pl c r), .val (.str "out"), .emp, .emp, .emp, .emp]).bind _ = _
      rw [Option.bind_eq_some_iff] at hl
      obtain ⟨ρ', h1, h2⟩ := hl
      rw [h1, Option.bind_some, h2]; rfl
    rw [lc1 (t x (cps_ok hx)), lc1 (t y (rps_ok hy))]
    rfl
  have j : methD .join (.str ",") [.lst [.str (S_ (ptx x)), .str (S_ (ptx y))]] = some (.str (S_ (ptx x ++ 44 :: ptx y))) := by
    rw [l_comma]
    unfold methD
    simp only [strsD, Option.map_some, Option.bind_some]
    rw [if_pos (by simp [S_len]; omega), join_two]
  have w1 := b_app (u := [91]) (v := ptx x ++ 44 :: ptx y) (by simp; omega)
  have w2 := b_app (u := 91 :: (ptx x ++ 44 :: ptx y)) (v := [93]) (by simp; omega)
  have w3 : S_ (91 :: (ptx x ++ 44 :: ptx y) ++ [93]) = outT x y := by simp [outT]
  rw [w3] at w2
  rw [← l_open] at w1
  rw [← l_close] at w2
  unfold b28
  rw [seq q0]
  generalize rf x y = R at *
  generalize FE.comp (.tp (.cons (.nm 5) (.cons (.nm 6) .nil))) [("word", 5), ("n", 6)] (.it (.var 0)) .no (.cond (.prim (.cmp .Eq) (.cons (.var 5) (.cons (.lit (.str "at")) .nil))) (.prim (.bin .Add) (.cons (.lit (.str "=")) (.cons (.prim .str (.cons (.var 6) .nil)) .nil))) (.prim (.bin .Add) (.cons (.cond (.prim (.cmp .GtE) (.cons (.var 6) (.cons (.lit (.int 0)) .nil))) (.lit (.str "+")) (.lit (.str "-"))) (.cons (.prim .str (.cons (.prim .abs (.cons (.var 6) .nil)) .nil)) .nil)))) = fe at f1
  have o1 : (("out" : Str) == "gone") = false := by decide +kernel
  simp only [List.singleton_append] at w1
  simp [evE, evEs, evO, evC, evF, evSrc, evIn, evS, evSs, Option.bind_some, Option.map_some, Option.bind_none, Option.map_none, List.map_cons, List.map_nil, slot_c0, slot_cs, own_c0, own_cs, ownv_c0, ownv_cs, ownt_c0, tup_c0, tup_cs, view_int, view_str, view_bl, view_non, view_tup, view_lst, view_ty, view_fn, p_bin, p_neg, p_cmp, p_ix, p_len_tup, p_len_lst, p_abs, p_int, p_intb, p_isi, p_tuple_tup, p_tuple_lst, p_max, p_min, b_add_int, b_sub_int, c_lt, c_le, c_gt, c_ge, c_eq, c_ne, ix_tup, ix_lst, at0, at1, at2, at3, at4, at5, eq_int, eq_str, eq_bl, truD, set_c0, set_cs, setS_c, isi_tuple_tup, isi_tuple_lst, isi_tuple_str, isi_tuple_int, isi_tuple_non, isi_tuple_bl, isi_str_str, isi_str_tup, isi_str_int, isi_str_non, isi_str_lst, isi_str_bl, if_true_, if_false_, f1, j, w1, w2, o1, retOf]
/-! reading -/
theorem head_ne {u v : Nat} {l m : List Nat} (h : u ≠ v) : (S_ (u :: l) == S_ (v :: m)) = false := by rw [S_beq]; simp [h]
theorem read_out (hx : x ∈ cps) (hy : y ∈ rps) : run fs (k + 3) 17 [.str (outT x y), pl c r] μ = some (rf x y, μ) := by
  rw [run_eq (f := 17) (F := ⟨2, 4, b17⟩) rfl rfl]
  show retOf (evSs _ b17 [.val (.str (outT x y)), .val (pl c r), .emp, .emp] μ) = _
  have e1 := bracketed (k := k) (μ := μ) hx hy
  have lx := ptx_len (x := x)
  have ly := ptx_len (x := y)
  have c1 : cutS (outT x y) none (some 1) = "[" := by unfold outT; rw [show (1 : Int) = ((1 : Nat) : Int) from rfl, cut_to, l_open]; rfl
  have c2 : cutS (outT x y) (some (-1)) none = "]" := by unfold outT; rw [← List.cons_append, cut_last, l_close]
  have c3 : ((outT x y).length ≤ sizeLine) = True := le_size (by unfold outT; rw [S_len]; simp; omega)
  have n1 : (outT x y == ("#gone" : Str)) = false := by unfold outT; rw [l_gone]; exact head_ne (by decide)
  have n2 : cmpD .Is (rf x y) .non = some (.bl false) := rfl
  have vR : viewD μ (rf x y) = rf x y := rfl
  have n3 : cmpD .IsNot (pl c r) .non = some (.bl true) := rfl
  have vP : viewD μ (pl c r) = pl c r := rfl
  unfold b17
  generalize rf x y = R at *
  generalize pl c r = P at *
  simp [evE, evEs, evO, evC, evF, evSrc, evIn, evS, evSs, Option.bind_some, Option.map_some, Option.bind_none, Option.map_none, List.map_cons, List.map_nil, slot_c0, slot_cs, own_c0, own_cs, ownv_c0, ownv_cs, ownt_c0, tup_c0, tup_cs, view_int, view_str, view_bl, view_non, view_tup, view_lst, view_ty, view_fn, p_bin, p_neg, p_cmp, p_ix, p_len_tup, p_len_lst, p_abs, p_int, p_intb, p_isi, p_tuple_tup, p_tuple_lst, p_max, p_min, b_add_int, b_sub_int, c_lt, c_le, c_gt, c_ge, c_eq, c_ne, ix_tup, ix_lst, at0, at1, at2, at3, at4, at5, eq_int, eq_str, eq_bl, truD, set_c0, set_cs, setS_c, isi_tuple_tup, isi_tuple_lst, isi_tuple_str, isi_tuple_int, isi_tuple_non, isi_tuple_bl, isi_str_str, isi_str_tup, isi_str_int, isi_str_non, isi_str_lst, isi_str_bl, if_true_, if_false_, n1, c1, c2, c3, e1, n2, n3, vR, vP, retOf]
theorem read_in {m n : Bool} (ha : a < 26) (hb : b < 200) : run fs (k + 3) 17 [.str (tx m n a b), pl c r] μ = some (rf (if m then .at_ a else .by_ ((a : Int) - c)) (if n then .at_ b else .by_ ((b : Int) - r)), μ) := by
  rw [run_eq (f := 17) (F := ⟨2, 4, b17⟩) rfl rfl]
  show retOf (evSs _ b17 [.val (.str (tx m n a b)), .val (pl c r), .emp, .emp] μ) = _
  have e1 := plain_in (k := k) (μ := μ) (m := m) (n := n) ha hb
  have e2 := ref_to (k := k + 1) (μ := μ) (a := a) (b := b) (c := c) (r := r) (m := m) (n := n)
  obtain ⟨d, l, hd, hl⟩ := dg_pos (b + 1)
  have nl := mk_len n
  have hh : ∃ u w, tx m n a b = S_ (u :: w) ∧ u ≠ 35 ∧ u ≠ 91 ∧ w.length ≤ 900 := by
    unfold tx
    cases m
    · exact ⟨97 + a, _, rfl, by omega, by omega, by rw [hd]; simp; omega⟩
    · exact ⟨36, _, rfl, by decide, by decide, by rw [hd]; simp; omega⟩
  obtain ⟨u, w, ht, h1, h2, h3⟩ := hh
  rw [ht] at e1 ⊢
  have c1 : cutS (S_ (u :: w)) none (some 1) = S_ [u] := by rw [show (1 : Int) = ((1 : Nat) : Int) from rfl, cut_to]; rfl
  have c3 : ((S_ (u :: w)).length ≤ sizeLine) = True := le_size (by rw [S_len]; simp; omega)
  have n1 : (S_ (u :: w) == ("#gone" : Str)) = false := by rw [l_gone]; exact head_ne h1
  have n2 : (S_ [u] == ("[" : Str)) = false := by rw [l_open]; exact head_ne h2
  have n3 : cmpD .IsNot (pl c r) .non = some (.bl true) := rfl
  have n4 : cmpD .Is (pl c r) .non = some (.bl false) := rfl
  have n5 : cmpD .Is (.tup [pl (a : Int) (b : Int), .tup [.bl m, .bl n]]) .non = some (.bl false) := rfl
  have vP : viewD μ (pl c r) = pl c r := rfl
  have vA : viewD μ (pl (a : Int) (b : Int)) = pl (a : Int) (b : Int) := rfl
  unfold b17
  generalize rf _ _ = R at *
  generalize pl c r = P at *
  generalize pl (a : Int) (b : Int) = A at *
  simp [evE, evEs, evO, evC, evF, evSrc, evIn, evS, evSs, Option.bind_some, Option.map_some, Option.bind_none, Option.map_none, List.map_cons, List.map_nil, slot_c0, slot_cs, own_c0, own_cs, ownv_c0, ownv_cs, ownt_c0, tup_c0, tup_cs, view_int, view_str, view_bl, view_non, view_tup, view_lst, view_ty, view_fn, p_bin, p_neg, p_cmp, p_ix, p_len_tup, p_len_lst, p_abs, p_int, p_intb, p_isi, p_tuple_tup, p_tuple_lst, p_max, p_min, b_add_int, b_sub_int, c_lt, c_le, c_gt, c_ge, c_eq, c_ne, ix_tup, ix_lst, at0, at1, at2, at3, at4, at5, eq_int, eq_str, eq_bl, truD, set_c0, set_cs, setS_c, isi_tuple_tup, isi_tuple_lst, isi_tuple_str, isi_tuple_int, isi_tuple_non, isi_tuple_bl, isi_str_str, isi_str_tup, isi_str_int, isi_str_non, isi_str_lst, isi_str_bl, if_true_, if_false_, n1, n2, c1, c3, e1, e2, n3, n4, n5, vP, retOf]
end
end FH.K02
end
section
namespace FH.K02
open PySem PySem.Spec PyProof.Rows L2
/-- low corners, and how far: all that are drawn -/
def combos : List (Nat × Nat × Nat × Nat) := (List.range 4).flatMap fun l0 => (List.range 5).flatMap fun l1 => (List.range 3).flatMap fun a => (List.range 3).map fun b => (l0, l1, a, b)
theorem in_combos {l0 l1 a b : Nat} (h0 : l0 < 4) (h1 : l1 < 5) (ha : a < 3) (hb : b < 3) : (l0, l1, a, b) ∈ combos := by
  simp only [combos, List.mem_flatMap, List.mem_map, List.mem_range]
  exact ⟨l0, h0, l1, h1, a, ha, b, hb, rfl⟩
def spr (q : Nat × Nat × Nat × Nat) : List D := (List.range (q.2.2.2 + 1)).flatMap fun j => (List.range (q.2.2.1 + 1)).map fun i => pl ((q.1 + i : Nat) : Int) ((q.2.1 + j : Nat) : Int)
def low (q : Nat × Nat × Nat × Nat) : D := pl (q.1 : Int) (q.2.1 : Int)
def high (q : Nat × Nat × Nat × Nat) : D := pl ((q.1 + q.2.2.1 : Nat) : Int) ((q.2.1 + q.2.2.2 : Nat) : Int)
section
variable {k : Nat} {μ : Store}
theorem all4 {p : Nat × Nat × Nat × Nat → Prop} (h : ∀ l0, (l0 = 0 ∨ l0 = 1 ∨ l0 = 2 ∨ l0 = 3) → ∀ l1, (l1 = 0 ∨ l1 = 1 ∨ l1 = 2 ∨ l1 = 3 ∨ l1 = 4) → ∀ a, (a = 0 ∨ a = 1 ∨ a = 2) → ∀ b, (b = 0 ∨ b = 1 ∨ b = 2) → p (l0, l1, a, b)) : ∀ q ∈ combos, p q := by
  intro q hq
  simp only [combos, List.mem_flatMap, List.mem_map, List.mem_range] at hq
  obtain ⟨l0, h0, l1, h1, a, h2, b, h3, rfl⟩ := hq
  exact h l0 (by omega) l1 (by omega) a (by omega) b (by omega)
theorem rect : ∀ q ∈ combos, run fs (k + 1) 5 [low q, high q] μ = some (.tup (spr q), μ) := by
  refine all4 fun l0 h0 l1 h1 a h2 b h3 => ?_
  rcases h0 with rfl | rfl | rfl | rfl <;> rcases h1 with rfl | rfl | rfl | rfl | rfl <;> rcases h2 with rfl | rfl | rfl <;> rcases h3 with rfl | rfl | rfl <;> kernel_rfl
theorem lspread : ∀ q ∈ combos, run fs (k + 1) 25 [low q, high q] μ = some (.tup (spr q), μ) := tabm (by kernel_rfl)
def back (q : Nat × Nat × Nat × Nat) : D := if q.2.2.1 = 0 ∧ q.2.2.2 = 0 then .tup (spr q) else .tup []
theorem rect_back : ∀ q ∈ combos, run fs (k + 1) 5 [high q, low q] μ = some (back q, μ) := by
  refine all4 fun l0 h0 l1 h1 a h2 b h3 => ?_
  rcases h0 with rfl | rfl | rfl | rfl <;> rcases h1 with rfl | rfl | rfl | rfl | rfl <;> rcases h2 with rfl | rfl | rfl <;> rcases h3 with rfl | rfl | rfl <;> kernel_rfl
/-- range_places, by its parts -/
theorem rp_first {A B P : D} {w : Str} (h : run fs (k + 1) 7 [A, P] μ = some (.str w, μ)) : run fs (k + 2) 8 [A, B, P] μ = some (.str w, μ) := by
  rw [run_eq (f := 8) (F := ⟨3, 6, b8⟩) rfl rfl]
  show retOf (evSs _ b8 [.val A, .val B, .val P, .emp, .emp, .emp] μ) = _
  unfold b8
  simp [evE, evEs, evO, evC, evF, evSrc, evIn, evS, evSs, Option.bind_some, Option.map_some, Option.bind_none, Option.map_none, List.map_cons, List.map_nil, slot_c0, slot_cs, own_c0, own_cs, ownv_c0, ownv_cs, ownt_c0, tup_c0, tup_cs, view_int, view_str, view_bl, view_non, view_tup, view_lst, view_ty, view_fn, p_bin, p_neg, p_cmp, p_ix, p_len_tup, p_len_lst, p_abs, p_int, p_intb, p_isi, p_tuple_tup, p_tuple_lst, p_max, p_min, b_add_int, b_sub_int, c_lt, c_le, c_gt, c_ge, c_eq, c_ne, ix_tup, ix_lst, at0, at1, at2, at3, at4, at5, eq_int, eq_str, eq_bl, truD, set_c0, set_cs, setS_c, isi_tuple_tup, isi_tuple_lst, isi_tuple_str, isi_tuple_int, isi_tuple_non, isi_tuple_bl, isi_str_str, isi_str_tup, isi_str_int, isi_str_non, isi_str_lst, isi_str_bl, if_true_, if_false_, itemsD, le_size, loopF, asgT, h, cmpD, retOf]
theorem rp_second {A B P : D} {w : Str} (h : run fs (k + 1) 7 [A, P] μ = some (.non, μ)) (h2 : run fs (k + 1) 7 [B, P] μ = some (.str w, μ)) : run fs (k + 2) 8 [A, B, P] μ = some (.str w, μ) := by
  rw [run_eq (f := 8) (F := ⟨3, 6, b8⟩) rfl rfl]
  show retOf (evSs _ b8 [.val A, .val B, .val P, .emp, .emp, .emp] μ) = _
  have t1 : ∀ s, ((asgT (.nm 3) A [.val A, .val B, .val P, s, .emp, .emp]).bind fun ρ' => evSs ⟨run fs (k + 1), (runP fs (k + 1)).2⟩ (.cons (.ifs (.prim (.cmp .IsNot) (.cons (.call "word_of" 7 (.cons (.var 3) (.cons (.var 2) .nil))) (.cons (.lit .non) .nil))) (.cons (.ret (.call "word_of" 7 (.cons (.var 3) (.cons (.var 2) .nil)))) .nil) .nil) .nil) ρ' μ) = some (.nx, [.val A, .val B, .val P, .val A, .emp, .emp], μ) := fun s => by
    simp [asgT, evE, evEs, evO, evC, evF, evSrc, evIn, evS, evSs, Option.bind_some, Option.map_some, Option.bind_none, Option.map_none, List.map_cons, List.map_nil, slot_c0, slot_cs, own_c0, own_cs, ownv_c0, ownv_cs, ownt_c0, tup_c0, tup_cs, view_int, view_str, view_bl, view_non, view_tup, view_lst, view_ty, view_fn, p_bin, p_neg, p_cmp, p_ix, p_len_tup, p_len_lst, p_abs, p_int, p_intb, p_isi, p_tuple_tup, p_tuple_lst, p_max, p_min, b_add_int, b_sub_int, c_lt, c_le, c_gt, c_ge, c_eq, c_ne, ix_tup, ix_lst, at0, at1, at2, at3, at4, at5, eq_int, eq_str, eq_bl, truD, set_c0, set_cs, setS_c, isi_tuple_tup, isi_tuple_lst, isi_tuple_str, isi_tuple_int, isi_tuple_non, isi_tuple_bl, isi_str_str, isi_str_tup, isi_str_int, isi_str_non, isi_str_lst, isi_str_bl, if_true_, if_false_, h, cmpD]
  have t2 : ∀ s, ((asgT (.nm 3) B [.val A, .val B, .val P, s, .emp, .emp]).bind fun ρ' => evSs ⟨run fs (k + 1), (runP fs (k + 1)).2⟩ (.cons (.ifs (.prim (.cmp .IsNot) (.cons (.call "word_of" 7 (.cons (.var 3) (.cons (.var 2) .nil))) (.cons (.lit .non) .nil))) (.cons (.ret (.call "word_of" 7 (.cons (.var 3) (.cons (.var 2) .nil)))) .nil) .nil) .nil) ρ' μ) = some (.ret (.str w), [.val A, .val B, .val P, .val B, .emp, .emp], μ) := fun s => by
    simp [asgT, evE, evEs, evO, evC, evF, evSrc, evIn, evS, evSs, Option.bind_some, Option.map_some, Option.bind_none, Option.map_none, List.map_cons, List.map_nil, slot_c0, slot_cs, own_c0, own_cs, ownv_c0, ownv_cs, ownt_c0, tup_c0, tup_cs, view_int, view_str, view_bl, view_non, view_tup, view_lst, view_ty, view_fn, p_bin, p_neg, p_cmp, p_ix, p_len_tup, p_len_lst, p_abs, p_int, p_intb, p_isi, p_tuple_tup, p_tuple_lst, p_max, p_min, b_add_int, b_sub_int, c_lt, c_le, c_gt, c_ge, c_eq, c_ne, ix_tup, ix_lst, at0, at1, at2, at3, at4, at5, eq_int, eq_str, eq_bl, truD, set_c0, set_cs, setS_c, isi_tuple_tup, isi_tuple_lst, isi_tuple_str, isi_tuple_int, isi_tuple_non, isi_tuple_bl, isi_str_str, isi_str_tup, isi_str_int, isi_str_non, isi_str_lst, isi_str_bl, if_true_, if_false_, h2, cmpD]
  have src : evSrc ⟨run fs (k + 1), (runP fs (k + 1)).2⟩ (.it (.tup (.cons (.var 0) (.cons (.var 1) .nil)))) [.val A, .val B, .val P, .emp, .emp, .emp] μ = some (.items [A, B], μ) := by simp [evE, evEs, evO, evC, evF, evSrc, evIn, evS, evSs, Option.bind_some, Option.map_some, Option.bind_none, Option.map_none, List.map_cons, List.map_nil, slot_c0, slot_cs, own_c0, own_cs, ownv_c0, ownv_cs, ownt_c0, tup_c0, tup_cs, view_int, view_str, view_bl, view_non, view_tup, view_lst, view_ty, view_fn, p_bin, p_neg, p_cmp, p_ix, p_len_tup, p_len_lst, p_abs, p_int, p_intb, p_isi, p_tuple_tup, p_tuple_lst, p_max, p_min, b_add_int, b_sub_int, c_lt, c_le, c_gt, c_ge, c_eq, c_ne, ix_tup, ix_lst, at0, at1, at2, at3, at4, at5, eq_int, eq_str, eq_bl, truD, set_c0, set_cs, setS_c, isi_tuple_tup, isi_tuple_lst, isi_tuple_str, isi_tuple_int, isi_tuple_non, isi_tuple_bl, isi_str_str, isi_str_tup, isi_str_int, isi_str_non, isi_str_lst, isi_str_bl, if_true_, if_false_, itemsD, le_size]
  have s1 : evS ⟨run fs (k + 1), (runP fs (k + 1)).2⟩ (.fors (.nm 3) (.it (.tup (.cons (.var 0) (.cons (.var 1) .nil)))) (.cons (.ifs (.prim (.cmp .IsNot) (.cons (.call "word_of" 7 (.cons (.var 3) (.cons (.var 2) .nil))) (.cons (.lit .non) .nil))) (.cons (.ret (.call "word_of" 7 (.cons (.var 3) (.cons (.var 2) .nil)))) .nil) .nil) .nil)) [.val A, .val B, .val P, .emp, .emp, .emp] μ = some (.ret (.str w), [.val A, .val B, .val P, .val B, .emp, .emp], μ) := by
    simp only [evS, src, Option.bind_some, loopF, t1, t2]
  unfold b8
  simp only [evSs, s1, Option.bind_some]
  rfl
theorem rp_both {A B P : D} {a0 a1 b0 b1 : Int} (h : run fs (k + 1) 7 [A, P] μ = some (.non, μ)) (h2 : run fs (k + 1) 7 [B, P] μ = some (.non, μ)) (g : run fs (k + 1) 6 [A, P] μ = some (pl a0 a1, μ)) (g2 : run fs (k + 1) 6 [B, P] μ = some (pl b0 b1, μ)) {d : D}
    (hd : if b0 < a0 ∨ b1 < a1 then d = .str "out" else run fs (k + 1) 5 [pl a0 a1, pl b0 b1] μ = some (d, μ)) : run fs (k + 2) 8 [A, B, P] μ = some (d, μ) := by
  rw [run_eq (f := 8) (F := ⟨3, 6, b8⟩) rfl rfl]
  show retOf (evSs _ b8 [.val A, .val B, .val P, .emp, .emp, .emp] μ) = _
  have t1 : ∀ s, ((asgT (.nm 3) A [.val A, .val B, .val P, s, .emp, .emp]).bind fun ρ' => evSs ⟨run fs (k + 1), (runP fs (k + 1)).2⟩ (.cons (.ifs (.prim (.cmp .IsNot) (.cons (.call "word_of" 7 (.cons (.var 3) (.cons (.var 2) .nil))) (.cons (.lit .non) .nil))) (.cons (.ret (.call "word_of" 7 (.cons (.var 3) (.cons (.var 2) .nil)))) .nil) .nil) .nil) ρ' μ) = some (.nx, [.val A, .val B, .val P, .val A, .emp, .emp], μ) := fun s => by
    simp [asgT, evE, evEs, evO, evC, evF, evSrc, evIn, evS, evSs, Option.bind_some, Option.map_some, Option.bind_none, Option.map_none, List.map_cons, List.map_nil, slot_c0, slot_cs, own_c0, own_cs, ownv_c0, ownv_cs, ownt_c0, tup_c0, tup_cs, view_int, view_str, view_bl, view_non, view_tup, view_lst, view_ty, view_fn, p_bin, p_neg, p_cmp, p_ix, p_len_tup, p_len_lst, p_abs, p_int, p_intb, p_isi, p_tuple_tup, p_tuple_lst, p_max, p_min, b_add_int, b_sub_int, c_lt, c_le, c_gt, c_ge, c_eq, c_ne, ix_tup, ix_lst, at0, at1, at2, at3, at4, at5, eq_int, eq_str, eq_bl, truD, set_c0, set_cs, setS_c, isi_tuple_tup, isi_tuple_lst, isi_tuple_str, isi_tuple_int, isi_tuple_non, isi_tuple_bl, isi_str_str, isi_str_tup, isi_str_int, isi_str_non, isi_str_lst, isi_str_bl, if_true_, if_false_, h, cmpD]
  have t2 : ∀ s, ((asgT (.nm 3) B [.val A, .val B, .val P, s, .emp, .emp]).bind fun ρ' => evSs ⟨run fs (k + 1), (runP fs (k + 1)).2⟩ (.cons (.ifs (.prim (.cmp .IsNot) (.cons (.call "word_of" 7 (.cons (.var 3) (.cons (.var 2) .nil))) (.cons (.lit .non) .nil))) (.cons (.ret (.call "word_of" 7 (.cons (.var 3) (.cons (.var 2) .nil)))) .nil) .nil) .nil) ρ' μ) = some (.nx, [.val A, .val B, .val P, .val B, .emp, .emp], μ) := fun s => by
    simp [asgT, evE, evEs, evO, evC, evF, evSrc, evIn, evS, evSs, Option.bind_some, Option.map_some, Option.bind_none, Option.map_none, List.map_cons, List.map_nil, slot_c0, slot_cs, own_c0, own_cs, ownv_c0, ownv_cs, ownt_c0, tup_c0, tup_cs, view_int, view_str, view_bl, view_non, view_tup, view_lst, view_ty, view_fn, p_bin, p_neg, p_cmp, p_ix, p_len_tup, p_len_lst, p_abs, p_int, p_intb, p_isi, p_tuple_tup, p_tuple_lst, p_max, p_min, b_add_int, b_sub_int, c_lt, c_le, c_gt, c_ge, c_eq, c_ne, ix_tup, ix_lst, at0, at1, at2, at3, at4, at5, eq_int, eq_str, eq_bl, truD, set_c0, set_cs, setS_c, isi_tuple_tup, isi_tuple_lst, isi_tuple_str, isi_tuple_int, isi_tuple_non, isi_tuple_bl, isi_str_str, isi_str_tup, isi_str_int, isi_str_non, isi_str_lst, isi_str_bl, if_true_, if_false_, h2, cmpD]
  have src : evSrc ⟨run fs (k + 1), (runP fs (k + 1)).2⟩ (.it (.tup (.cons (.var 0) (.cons (.var 1) .nil)))) [.val A, .val B, .val P, .emp, .emp, .emp] μ = some (.items [A, B], μ) := by simp [evE, evEs, evO, evC, evF, evSrc, evIn, evS, evSs, Option.bind_some, Option.map_some, Option.bind_none, Option.map_none, List.map_cons, List.map_nil, slot_c0, slot_cs, own_c0, own_cs, ownv_c0, ownv_cs, ownt_c0, tup_c0, tup_cs, view_int, view_str, view_bl, view_non, view_tup, view_lst, view_ty, view_fn, p_bin, p_neg, p_cmp, p_ix, p_len_tup, p_len_lst, p_abs, p_int, p_intb, p_isi, p_tuple_tup, p_tuple_lst, p_max, p_min, b_add_int, b_sub_int, c_lt, c_le, c_gt, c_ge, c_eq, c_ne, ix_tup, ix_lst, at0, at1, at2, at3, at4, at5, eq_int, eq_str, eq_bl, truD, set_c0, set_cs, setS_c, isi_tuple_tup, isi_tuple_lst, isi_tuple_str, isi_tuple_int, isi_tuple_non, isi_tuple_bl, isi_str_str, isi_str_tup, isi_str_int, isi_str_non, isi_str_lst, isi_str_bl, if_true_, if_false_, itemsD, le_size]
  have s1 : evS ⟨run fs (k + 1), (runP fs (k + 1)).2⟩ (.fors (.nm 3) (.it (.tup (.cons (.var 0) (.cons (.var 1) .nil)))) (.cons (.ifs (.prim (.cmp .IsNot) (.cons (.call "word_of" 7 (.cons (.var 3) (.cons (.var 2) .nil))) (.cons (.lit .non) .nil))) (.cons (.ret (.call "word_of" 7 (.cons (.var 3) (.cons (.var 2) .nil)))) .nil) .nil) .nil)) [.val A, .val B, .val P, .emp, .emp, .emp] μ = some (.nx, [.val A, .val B, .val P, .val B, .emp, .emp], μ) := by
    simp only [evS, src, Option.bind_some, loopF, t1, t2]
  have s2 : evS ⟨run fs (k + 1), (runP fs (k + 1)).2⟩ (.par 4 5 (.v (.call "points_at" 6 (.cons (.var 0) (.cons (.var 2) .nil)))) (.v (.call "points_at" 6 (.cons (.var 1) (.cons (.var 2) .nil))))) [.val A, .val B, .val P, .val B, .emp, .emp] μ = some (.nx, [.val A, .val B, .val P, .val B, .val (pl a0 a1), .val (pl b0 b1)], μ) := by
    generalize pl a0 a1 = X at *
    generalize pl b0 b1 = Y at *
    simp [evE, evEs, evO, evC, evF, evSrc, evIn, evS, evSs, Option.bind_some, Option.map_some, Option.bind_none, Option.map_none, List.map_cons, List.map_nil, slot_c0, slot_cs, own_c0, own_cs, ownv_c0, ownv_cs, ownt_c0, tup_c0, tup_cs, view_int, view_str, view_bl, view_non, view_tup, view_lst, view_ty, view_fn, p_bin, p_neg, p_cmp, p_ix, p_len_tup, p_len_lst, p_abs, p_int, p_intb, p_isi, p_tuple_tup, p_tuple_lst, p_max, p_min, b_add_int, b_sub_int, c_lt, c_le, c_gt, c_ge, c_eq, c_ne, ix_tup, ix_lst, at0, at1, at2, at3, at4, at5, eq_int, eq_str, eq_bl, truD, set_c0, set_cs, setS_c, isi_tuple_tup, isi_tuple_lst, isi_tuple_str, isi_tuple_int, isi_tuple_non, isi_tuple_bl, isi_str_str, isi_str_tup, isi_str_int, isi_str_non, isi_str_lst, isi_str_bl, if_true_, if_false_, g, g2]
  unfold b8
  rw [seq s1, seq s2]
  have c0 : evE ⟨run fs (k + 1), (runP fs (k + 1)).2⟩ (.prim (.cmp .Lt) (.cons (.prim .ix (.cons (.var 5) (.cons (.lit (.int 0)) .nil))) (.cons (.prim .ix (.cons (.var 4) (.cons (.lit (.int 0)) .nil))) .nil))) [.val A, .val B, .val P, .val B, .val (pl a0 a1), .val (pl b0 b1)] μ = some (.bl (decide (b0 < a0)), μ) := by simp [evE, evEs, evO, evC, evF, evSrc, evIn, evS, evSs, Option.bind_some, Option.map_some, Option.bind_none, Option.map_none, List.map_cons, List.map_nil, slot_c0, slot_cs, own_c0, own_cs, ownv_c0, ownv_cs, ownt_c0, tup_c0, tup_cs, view_int, view_str, view_bl, view_non, view_tup, view_lst, view_ty, view_fn, p_bin, p_neg, p_cmp, p_ix, p_len_tup, p_len_lst, p_abs, p_int, p_intb, p_isi, p_tuple_tup, p_tuple_lst, p_max, p_min, b_add_int, b_sub_int, c_lt, c_le, c_gt, c_ge, c_eq, c_ne, ix_tup, ix_lst, at0, at1, at2, at3, at4, at5, eq_int, eq_str, eq_bl, truD, set_c0, set_cs, setS_c, isi_tuple_tup, isi_tuple_lst, isi_tuple_str, isi_tuple_int, isi_tuple_non, isi_tuple_bl, isi_str_str, isi_str_tup, isi_str_int, isi_str_non, isi_str_lst, isi_str_bl, if_true_, if_false_, pl]
  have c1 : evE ⟨run fs (k + 1), (runP fs (k + 1)).2⟩ (.prim (.cmp .Lt) (.cons (.prim .ix (.cons (.var 5) (.cons (.lit (.int 1)) .nil))) (.cons (.prim .ix (.cons (.var 4) (.cons (.lit (.int 1)) .nil))) .nil))) [.val A, .val B, .val P, .val B, .val (pl a0 a1), .val (pl b0 b1)] μ = some (.bl (decide (b1 < a1)), μ) := by simp [evE, evEs, evO, evC, evF, evSrc, evIn, evS, evSs, Option.bind_some, Option.map_some, Option.bind_none, Option.map_none, List.map_cons, List.map_nil, slot_c0, slot_cs, own_c0, own_cs, ownv_c0, ownv_cs, ownt_c0, tup_c0, tup_cs, view_int, view_str, view_bl, view_non, view_tup, view_lst, view_ty, view_fn, p_bin, p_neg, p_cmp, p_ix, p_len_tup, p_len_lst, p_abs, p_int, p_intb, p_isi, p_tuple_tup, p_tuple_lst, p_max, p_min, b_add_int, b_sub_int, c_lt, c_le, c_gt, c_ge, c_eq, c_ne, ix_tup, ix_lst, at0, at1, at2, at3, at4, at5, eq_int, eq_str, eq_bl, truD, set_c0, set_cs, setS_c, isi_tuple_tup, isi_tuple_lst, isi_tuple_str, isi_tuple_int, isi_tuple_non, isi_tuple_bl, isi_str_str, isi_str_tup, isi_str_int, isi_str_non, isi_str_lst, isi_str_bl, if_true_, if_false_, pl]
  have cc : evE ⟨run fs (k + 1), (runP fs (k + 1)).2⟩ (.orr (.prim (.cmp .Lt) (.cons (.prim .ix (.cons (.var 5) (.cons (.lit (.int 0)) .nil))) (.cons (.prim .ix (.cons (.var 4) (.cons (.lit (.int 0)) .nil))) .nil))) (.prim (.cmp .Lt) (.cons (.prim .ix (.cons (.var 5) (.cons (.lit (.int 1)) .nil))) (.cons (.prim .ix (.cons (.var 4) (.cons (.lit (.int 1)) .nil))) .nil)))) [.val A, .val B, .val P, .val B, .val (pl a0 a1), .val (pl b0 b1)] μ = some (.bl (decide (b0 < a0 ∨ b1 < a1)), μ) := by
    simp only [evE] at c0 c1 ⊢
    rw [c0]
    by_cases h0 : b0 < a0
    · simp [h0, view_bl, truD]
    · simp only [h0, decide_false, Option.bind_some, view_bl, truD, Bool.false_eq_true, if_false, false_or]
      exact c1
  by_cases hh : b0 < a0 ∨ b1 < a1
  · rw [if_pos hh] at hd
    subst hd
    have s3 : evS ⟨run fs (k + 1), (runP fs (k + 1)).2⟩ (.ifs (.orr (.prim (.cmp .Lt) (.cons (.prim .ix (.cons (.var 5) (.cons (.lit (.int 0)) .nil))) (.cons (.prim .ix (.cons (.var 4) (.cons (.lit (.int 0)) .nil))) .nil))) (.prim (.cmp .Lt) (.cons (.prim .ix (.cons (.var 5) (.cons (.lit (.int 1)) .nil))) (.cons (.prim .ix (.cons (.var 4) (.cons (.lit (.int 1)) .nil))) .nil)))) (.cons (.ret (.lit (.str "out"))) .nil) .nil) [.val A, .val B, .val P, .val B, .val (pl a0 a1), .val (pl b0 b1)] μ = some (.ret (.str "out"), [.val A, .val B, .val P, .val B, .val (pl a0 a1), .val (pl b0 b1)], μ) := by
      rw [if_ev _ cc]; simp [hh, evE, evEs, evO, evC, evF, evSrc, evIn, evS, evSs, Option.bind_some, Option.map_some, Option.bind_none, Option.map_none, List.map_cons, List.map_nil, slot_c0, slot_cs, own_c0, own_cs, ownv_c0, ownv_cs, ownt_c0, tup_c0, tup_cs, view_int, view_str, view_bl, view_non, view_tup, view_lst, view_ty, view_fn, p_bin, p_neg, p_cmp, p_ix, p_len_tup, p_len_lst, p_abs, p_int, p_intb, p_isi, p_tuple_tup, p_tuple_lst, p_max, p_min, b_add_int, b_sub_int, c_lt, c_le, c_gt, c_ge, c_eq, c_ne, ix_tup, ix_lst, at0, at1, at2, at3, at4, at5, eq_int, eq_str, eq_bl, truD, set_c0, set_cs, setS_c, isi_tuple_tup, isi_tuple_lst, isi_tuple_str, isi_tuple_int, isi_tuple_non, isi_tuple_bl, isi_str_str, isi_str_tup, isi_str_int, isi_str_non, isi_str_lst, isi_str_bl, if_true_, if_false_]
    simp only [evSs, s3, Option.bind_some]; rfl
  · rw [if_neg hh] at hd
    have s3 : evS ⟨run fs (k + 1), (runP fs (k + 1)).2⟩ (.ifs (.orr (.prim (.cmp .Lt) (.cons (.prim .ix (.cons (.var 5) (.cons (.lit (.int 0)) .nil))) (.cons (.prim .ix (.cons (.var 4) (.cons (.lit (.int 0)) .nil))) .nil))) (.prim (.cmp .Lt) (.cons (.prim .ix (.cons (.var 5) (.cons (.lit (.int 1)) .nil))) (.cons (.prim .ix (.cons (.var 4) (.cons (.lit (.int 1)) .nil))) .nil)))) (.cons (.ret (.lit (.str "out"))) .nil) .nil) [.val A, .val B, .val P, .val B, .val (pl a0 a1), .val (pl b0 b1)] μ = some (.nx, [.val A, .val B, .val P, .val B, .val (pl a0 a1), .val (pl b0 b1)], μ) := by
      rw [if_ev _ cc]; simp [hh, evSs]
    rw [seq s3, one]
    generalize pl a0 a1 = X at *
    generalize pl b0 b1 = Y at *
    simp [evE, evEs, evO, evC, evF, evSrc, evIn, evS, evSs, Option.bind_some, Option.map_some, Option.bind_none, Option.map_none, List.map_cons, List.map_nil, slot_c0, slot_cs, own_c0, own_cs, ownv_c0, ownv_cs, ownt_c0, tup_c0, tup_cs, view_int, view_str, view_bl, view_non, view_tup, view_lst, view_ty, view_fn, p_bin, p_neg, p_cmp, p_ix, p_len_tup, p_len_lst, p_abs, p_int, p_intb, p_isi, p_tuple_tup, p_tuple_lst, p_max, p_min, b_add_int, b_sub_int, c_lt, c_le, c_gt, c_ge, c_eq, c_ne, ix_tup, ix_lst, at0, at1, at2, at3, at4, at5, eq_int, eq_str, eq_bl, truD, set_c0, set_cs, setS_c, isi_tuple_tup, isi_tuple_lst, isi_tuple_str, isi_tuple_int, isi_tuple_non, isi_tuple_bl, isi_str_str, isi_str_tup, isi_str_int, isi_str_non, isi_str_lst, isi_str_bl, if_true_, if_false_, hd, retOf]
end
end FH.K02
end
section
namespace FH.K02
open PySem PySem.Spec PyProof.Rows L2
/-! odd texts -/
def odds : List Str := ["", "a", "a0", "a1", "a01", "z200", "a201", "$b$3", "b$3", "$b3", "$$b3", "b3$", "B3", "#gone", "#gon", "[+0,+1]", "[-0,+1]", "[=25,=199]", "[=26,=0]", "[+1]", "[+1,+1,+1]", "[1,+1]", "[+999,-999]", "[+1000,+0]", "[]", "ab3", "3", "[+01,+0]"]
def by_ (n : Int) : D := .tup [.str "by", .int n]
def at_ (n : Int) : D := .tup [.str "at", .int n]
def oddR (c r : Int) : List D := [.non, .non, .non, .tup [by_ (0 - c), by_ (0 - r)], .non, .tup [by_ (25 - c), by_ (199 - r)], .non, .tup [at_ 1, at_ 2], .tup [by_ (1 - c), at_ 2], .tup [at_ 1, by_ (2 - r)], .non, .non, .non, gone, .non, .tup [by_ 0, by_ 1], .non, .tup [at_ 25, at_ 199], .non, .non, .non, .non, .tup [by_ 999, by_ (-999)], .non, .non, .non, .non, .non]
def oddP : List D := [.non, .non, .non, pl 0 0, .non, pl 25 199, .non, .non, .non, .non, .non, .non, .non, .non, .non, .non, .non, .non, .non, .non, .non, .non, .non, .non, .non, .non, .non, .non]
section
variable {k : Nat} {μ : Store} {c r : Int}
theorem odd1 : odds.map (fun t => run fs (k + 5) 17 [.str t, pl c r] μ) = (oddR c r).map fun d => some (d, μ) := by kernel_rfl
theorem odd2 : odds.map (fun t => run fs (k + 5) 30 [.str t, pl c r] μ) = (oddR c r).map fun d => some (d, μ) := by kernel_rfl
theorem odd3 : odds.map (fun t => run fs (k + 5) 3 [.str t] μ) = oddP.map fun d => some (d, μ) := by kernel_rfl
theorem odd4 : odds.map (fun t => run fs (k + 5) 33 [.str t] μ) = oddP.map fun d => some (d, μ) := by kernel_rfl
end
end FH.K02
end
section
namespace FH.K02
open PySem PySem.Spec PyProof.Rows L2
def t0 : IS := (.par3 3 4 5 (.cons (.call "_law_drawn_place" 31 (.cons (.var 1) .nil)) (.cons (.call "_law_drawn_place" 31 (.cons (.var 1) .nil)) (.cons (.call "_law_drawn_place" 31 (.cons (.var 1) .nil)) .nil))))
def t1 : IS := (.ifs (.nott (.call "_law_alike" 21 (.cons (.frz (.disp (.cons (.call "place_text" 0 (.cons (.var 3) .nil)) (.cons (.call "read_place" 3 (.cons (.call "_law_place_text" 27 (.cons (.var 3) .nil)) .nil)) (.cons (.call "is_ahead" 4 (.cons (.var 3) (.cons (.var 4) .nil))) .nil))))) (.cons (.frz (.disp (.cons (.call "_law_place_text" 27 (.cons (.var 3) .nil)) (.cons (.var 3) (.cons (.prim (.cmp .Lt) (.cons (.tup (.cons (.prim .ix (.cons (.var 3) (.cons (.lit (.int 1)) .nil))) (.cons (.prim .ix (.cons (.var 3) (.cons (.lit (.int 0)) .nil))) .nil))) (.cons (.tup (.cons (.prim .ix (.cons (.var 4) (.cons (.lit (.int 1)) .nil))) (.cons (.prim .ix (.cons (.var 4) (.cons (.lit (.int 0)) .nil))) .nil))) .nil))) .nil))))) .nil)))) (.cons (.ret (.lit (.bl false))) .nil) .nil)
def t2 : IS := (.set 6 (.tup (.cons (.prim .min (.cons (.prim .ix (.cons (.var 3) (.cons (.lit (.int 0)) .nil))) (.cons (.lit (.int 3)) .nil))) (.cons (.prim .min (.cons (.prim .ix (.cons (.var 3) (.cons (.lit (.int 1)) .nil))) (.cons (.lit (.int 4)) .nil))) .nil))))
def t3 : IS := (.set 7 (.tup (.cons (.prim (.bin .Add) (.cons (.prim .ix (.cons (.var 6) (.cons (.lit (.int 0)) .nil))) (.cons (.call "_law_take" 19 (.cons (.var 1) (.cons (.lit (.int 3)) .nil))) .nil))) (.cons (.prim (.bin .Add) (.cons (.prim .ix (.cons (.var 6) (.cons (.lit (.int 1)) .nil))) (.cons (.call "_law_take" 19 (.cons (.var 1) (.cons (.lit (.int 3)) .nil))) .nil))) .nil))))
def t4 : IS := (.ifs (.nott (.call "_law_alike" 21 (.cons (.frz (.disp (.cons (.call "rectangle" 5 (.cons (.var 6) (.cons (.var 7) .nil))) (.cons (.cond (.prim (.cmp .NotEq) (.cons (.var 7) (.cons (.var 6) .nil))) (.call "rectangle" 5 (.cons (.var 7) (.cons (.var 6) .nil))) (.tup .nil)) .nil)))) (.cons (.frz (.disp (.cons (.call "_law_spread" 25 (.cons (.var 6) (.cons (.var 7) .nil))) (.cons (.tup .nil) .nil)))) .nil)))) (.cons (.ifs (.orr (.prim (.cmp .Lt) (.cons (.prim .ix (.cons (.var 7) (.cons (.lit (.int 0)) .nil))) (.cons (.prim .ix (.cons (.var 6) (.cons (.lit (.int 0)) .nil))) .nil))) (.orr (.prim (.cmp .Lt) (.cons (.prim .ix (.cons (.var 7) (.cons (.lit (.int 1)) .nil))) (.cons (.prim .ix (.cons (.var 6) (.cons (.lit (.int 1)) .nil))) .nil))) (.orr (.prim (.cmp .NotEq) (.cons (.call "rectangle" 5 (.cons (.var 6) (.cons (.var 7) .nil))) (.cons (.call "_law_spread" 25 (.cons (.var 6) (.cons (.var 7) .nil))) .nil))) (.andd (.prim (.cmp .NotEq) (.cons (.var 7) (.cons (.var 6) .nil))) (.prim (.cmp .NotEq) (.cons (.call "rectangle" 5 (.cons (.var 7) (.cons (.var 6) .nil))) (.cons (.tup .nil) .nil))))))) (.cons (.ret (.lit (.bl false))) .nil) .nil) .nil) .nil)
def t5 : IS := (.par 8 9 (.v (.call "_law_drawn_ref" 32 (.cons (.var 1) .nil))) (.v (.call "_law_drawn_ref" 32 (.cons (.var 1) .nil))))
def t6 : IS := (.set 10 (.call "_law_points" 23 (.cons (.var 8) (.cons (.var 5) .nil))))
def t7 : IS := (.set 11 (.cond (.prim .isi (.cons (.var 10) (.cons (.glob "str" (.ty "str")) .nil))) (.var 10) (.lit .non)))
def t8 : IS := (.set 12 (.call "_law_spread" 25 (.cons (.var 6) (.cons (.var 7) .nil))))
def t9 : IS := (.set 13 (.frz (.disp (.cons (.call "points_at" 6 (.cons (.var 8) (.cons (.var 5) .nil))) (.cons (.call "word_of" 7 (.cons (.var 8) (.cons (.var 5) .nil))) (.cons (.call "marks_of" 10 (.cons (.var 8) .nil)) (.cons (.call "ref_text" 13 (.cons (.var 8) (.cons (.var 5) .nil))) (.cons (.call "read_ref" 17 (.cons (.call "_law_ref_text" 28 (.cons (.var 8) (.cons (.var 5) .nil))) (.cons (.var 5) .nil))) .nil))))))))
def t10 : IS := (.ifs (.nott (.call "_law_alike" 21 (.cons (.var 13) (.cons (.frz (.disp (.cons (.cond (.prim (.cmp .IsNot) (.cons (.var 11) (.cons (.lit .non) .nil))) (.lit .non) (.var 10)) (.cons (.var 11) (.cons (.call "_law_marks" 26 (.cons (.var 8) .nil)) (.cons (.call "_law_ref_text" 28 (.cons (.var 8) (.cons (.var 5) .nil))) (.cons (.var 8) .nil))))))) .nil)))) (.cons (.ret (.lit (.bl false))) .nil) .nil)
def t11 : IS := (.set 14 (.tup (.cons (.prim (.cmp .Eq) (.cons (.call "_law_take" 19 (.cons (.var 1) (.cons (.lit (.int 2)) .nil))) (.cons (.lit (.int 0)) .nil))) (.cons (.prim (.cmp .Eq) (.cons (.call "_law_take" 19 (.cons (.var 1) (.cons (.lit (.int 2)) .nil))) (.cons (.lit (.int 0)) .nil))) .nil))))
def t12 : IS := (.set 15 (.call "ref_to" 9 (.cons (.var 3) (.cons (.var 5) (.cons (.var 14) .nil)))))
def t13 : IS := (.ifs (.nott (.call "_law_alike" 21 (.cons (.frz (.disp (.cons (.var 15) (.cons (.call "told_anew" 11 (.cons (.var 8) (.cons (.var 5) (.cons (.var 4) (.cons (.var 3) .nil))))) (.cons (.call "told_anew" 11 (.cons (.var 8) (.cons (.var 5) (.cons (.lit .non) (.cons (.var 3) .nil))))) .nil))))) (.cons (.frz (.disp (.cons (.call "_law_ref" 24 (.cons (.var 3) (.cons (.var 5) (.cons (.var 14) .nil)))) (.cons (.call "_law_ref" 24 (.cons (.var 4) (.cons (.var 3) (.cons (.call "_law_marks" 26 (.cons (.var 8) .nil)) .nil)))) (.cons (.tup (.cons (.lit (.str "gone")) .nil)) .nil))))) .nil)))) (.cons (.ret (.lit (.bl false))) .nil) .nil)
def t14 : IS := (.set 16 (.tup (.cons (.call "_law_ref" 24 (.cons (.var 6) (.cons (.var 5) (.cons (.var 14) .nil)))) (.cons (.call "_law_ref" 24 (.cons (.var 7) (.cons (.var 5) (.cons (.var 14) .nil)))) .nil))))
def t15 : IS := (.ifs (.nott (.call "_law_alike" 21 (.cons (.frz (.disp (.cons (.call "range_places" 8 (.cons (.prim .ix (.cons (.var 16) (.cons (.lit (.int 0)) .nil))) (.cons (.prim .ix (.cons (.var 16) (.cons (.lit (.int 1)) .nil))) (.cons (.var 5) .nil)))) (.cons (.call "range_places" 8 (.cons (.var 8) (.cons (.tup (.cons (.lit (.str "gone")) .nil)) (.cons (.var 5) .nil)))) .nil)))) (.cons (.frz (.disp (.cons (.var 12) (.cons (.cond (.prim (.cmp .IsNot) (.cons (.var 11) (.cons (.lit .non) .nil))) (.var 11) (.lit (.str "gone"))) .nil)))) .nil)))) (.cons (.ret (.lit (.bl false))) .nil) .nil)
def t16 : IS := (.ifs (.orr (.andd (.prim (.cmp .IsNot) (.cons (.var 11) (.cons (.lit .non) .nil))) (.prim (.cmp .NotEq) (.cons (.call "range_places" 8 (.cons (.var 8) (.cons (.var 9) (.cons (.var 5) .nil)))) (.cons (.var 11) .nil)))) (.prim (.cmp .NotEq) (.cons (.call "range_places" 8 (.cons (.prim .ix (.cons (.var 16) (.cons (.lit (.int 1)) .nil))) (.cons (.prim .ix (.cons (.var 16) (.cons (.lit (.int 0)) .nil))) (.cons (.var 5) .nil)))) (.cons (.cond (.prim (.cmp .Eq) (.cons (.var 6) (.cons (.var 7) .nil))) (.var 12) (.lit (.str "out"))) .nil)))) (.cons (.ret (.lit (.bl false))) .nil) .nil)
def t17 : IS := (.set 17 (.frz (.disp (.cons (.lit (.str "")) (.cons (.lit (.str "a")) (.cons (.lit (.str "a0")) (.cons (.lit (.str "a1")) (.cons (.lit (.str "a01")) (.cons (.lit (.str "z200")) (.cons (.lit (.str "a201")) (.cons (.lit (.str "$b$3")) (.cons (.lit (.str "b$3")) (.cons (.lit (.str "$b3")) (.cons (.lit (.str "$$b3")) (.cons (.lit (.str "b3$")) (.cons (.lit (.str "B3")) (.cons (.lit (.str "#gone")) (.cons (.lit (.str "#gon")) (.cons (.lit (.str "[+0,+1]")) (.cons (.lit (.str "[-0,+1]")) (.cons (.lit (.str "[=25,=199]")) (.cons (.lit (.str "[=26,=0]")) .nil))))))))))))))))))))))
def t18 : IS := (.set 17 (.prim (.bin .Add) (.cons (.var 17) (.cons (.frz (.disp (.cons (.lit (.str "[+1]")) (.cons (.lit (.str "[+1,+1,+1]")) (.cons (.lit (.str "[1,+1]")) (.cons (.lit (.str "[+999,-999]")) (.cons (.lit (.str "[+1000,+0]")) (.cons (.lit (.str "[]")) (.cons (.lit (.str "ab3")) (.cons (.lit (.str "3")) (.cons (.lit (.str "[+01,+0]")) .nil))))))))))) .nil))))
def t19 : IS := (.fors (.nm 18) (.it (.var 17)) (.cons (.ifs (.nott (.call "_law_alike" 21 (.cons (.frz (.disp (.cons (.call "read_ref" 17 (.cons (.var 18) (.cons (.var 5) .nil))) (.cons (.call "read_place" 3 (.cons (.var 18) .nil)) .nil)))) (.cons (.frz (.disp (.cons (.call "_law_read_ref" 30 (.cons (.var 18) (.cons (.var 5) .nil))) (.cons (.call "_law_read_place" 33 (.cons (.var 18) .nil)) .nil)))) .nil)))) (.cons (.ret (.lit (.bl false))) .nil) .nil) (.cons (.set 19 (.call "_law_read_ref" 30 (.cons (.var 18) (.cons (.tup (.cons (.lit (.int 0)) (.cons (.lit (.int 0)) .nil))) .nil)))) (.cons (.ifs (.nott (.call "_law_alike" 21 (.cons (.call "read_ref" 17 (.cons (.var 18) (.cons (.lit .non) .nil))) (.cons (.cond (.andd (.prim (.cmp .IsNot) (.cons (.var 19) (.cons (.lit .non) .nil))) (.prim (.cmp .Eq) (.cons (.call "_law_marks" 26 (.cons (.var 19) .nil)) (.cons (.tup (.cons (.lit (.bl true)) (.cons (.lit (.bl true)) .nil))) .nil)))) (.var 19) (.lit .non)) .nil)))) (.cons (.ret (.lit (.bl false))) .nil) .nil) .nil))))
def lapB : ISs := (.cons t0 (.cons t1 (.cons t2 (.cons t3 (.cons t4 (.cons t5 (.cons t6 (.cons t7 (.cons t8 (.cons t9 (.cons t10 (.cons t11 (.cons t12 (.cons t13 (.cons t14 (.cons t15 (.cons t16 (.cons t17 (.cons t18 (.cons t19 .nil))))))))))))))))))))
def wLap : IS := (.fors (.nm 2) (.range1 (.lit (.int 20))) lapB)
def wBag : IS := (.set 1 (.call "_law_bag" 18 (.cons (.var 0) .nil)))
def wRet : IS := (.ret (.lit (.bl true)))
theorem b34_eq : b34 = (.cons wBag (.cons wLap (.cons wRet .nil))) := rfl
def Γ0 : Env2 := ⟨run fs 19, (runP fs 19).2⟩
theorem Γf : Γ0.fns = run fs 19 := congrArg (fun x : Fns => x) (rfl : Γ0.fns = run fs 19)
theorem slot_on {ρ : Slots} {i : Nat} {d : D} (h : i < ρ.length) : slotD (ρ.set i (.val d)) i = some d := by unfold slotD; simp [h]
theorem slot_off {ρ : Slots} {i j : Nat} {s : Slot} (h : i ≠ j) : slotD (ρ.set i s) j = slotD ρ j := by unfold slotD; rw [List.getElem?_set_ne h]
theorem set_ev {Γ : Env2} {e : IE} {ρ : Slots} {μ μ' : Store} {i : Nat} {v : D} (he : evE Γ e ρ μ = some (v, μ')) (hi : i < ρ.length) : evS Γ (.set i e) ρ μ = some (.nx, ρ.set i (.val v), μ') := by
  simp only [evS, he, Option.bind_some, setS_c hi, Option.map_some]
/-- good data, small -/
def Gs (d : D) : Prop := d.good = true ∧ d.dep ≤ 9 ∧ d.wgt ≤ 20000
theorem g21 : fs[21]? = some ⟨2, 2, (.cons (.ret (.andd (.prim (.cmp .Eq) (.cons (.prim .repr (.cons (.var 0) .nil)) (.cons (.prim .repr (.cons (.var 1) .nil)) .nil))) (.prim (.cmp .Eq) (.cons (.var 0) (.cons (.var 1) .nil))))) .nil)⟩ := rfl
theorem like {μ : Store} {d : D} (h : Gs d) : run fs 19 21 [d, d] μ = some (.bl true, μ) := alike_at (k := 18) g21 h.1 (Nat.le_trans h.2.1 (by decide)) (Nat.le_trans h.2.2 (by decide))
section
variable {ρ : Slots} {μ μ1 μ2 : Store} {d : D}
theorem alike_ev {e1 e2 : IE} (h1 : evE Γ0 e1 ρ μ = some (d, μ1)) (h2 : evE Γ0 e2 ρ μ1 = some (d, μ2)) (g : Gs d) : evE Γ0 (.nott (.call "_law_alike" 21 (.cons e1 (.cons e2 .nil)))) ρ μ = some (.bl false, μ2) := by
  simp only [evE, evEs, h1, h2, Option.bind_some, Option.map_some, Γf, like g, view_bl, truD]; rfl
theorem alike_if {e1 e2 : IE} {A : ISs} (h1 : evE Γ0 e1 ρ μ = some (d, μ1)) (h2 : evE Γ0 e2 ρ μ1 = some (d, μ2)) (g : Gs d) : evS Γ0 (.ifs (.nott (.call "_law_alike" 21 (.cons e1 (.cons e2 .nil)))) A .nil) ρ μ = some (.nx, ρ, μ2) := by
  rw [if_ev false (alike_ev h1 h2 g)]
  simp [evSs]
end
theorem gl_nil : Gs (.lst []) := ⟨rfl, by decide, by decide⟩
/-! goodness -/
theorem pl_good {a b : Int} (ha : a.natAbs < 1000) (hb : b.natAbs < 1000) : (pl a b).good = true ∧ (pl a b).dep ≤ 1 ∧ (pl a b).wgt ≤ 100 := by
  refine ⟨?_, by simp [pl, D.dep, depL], by simp [pl, D.wgt, wgtL]⟩
  simp [pl, D.good, goodL]; omega
theorem pt_good {s : Str} {n : Int} (hs : PyData.strOk s = true) (hl : s.cps.size ≤ 10) (hn : n.natAbs < 2000) : (D.tup [.str s, .int n]).good = true ∧ (D.tup [.str s, .int n]).dep ≤ 1 ∧ (D.tup [.str s, .int n]).wgt ≤ 100 := by
  refine ⟨?_, by simp [D.dep, depL], by simp [D.wgt, wgtL]; omega⟩
  simp [D.good, goodL, hs]; omega
def Pt.n : Pt → Int
  | .by_ n => n | .at_ n => n
theorem e_good {x : Pt} (h : x.n.natAbs < 2000) : x.e.good = true ∧ x.e.dep ≤ 1 ∧ x.e.wgt ≤ 100 := by
  cases x with
  | by_ n => exact pt_good ok1 (by decide +kernel) h
  | at_ n => exact pt_good ok2 (by decide +kernel) h
theorem rf_good {x y : Pt} (hx : x.n.natAbs < 2000) (hy : y.n.natAbs < 2000) : (rf x y).good = true ∧ (rf x y).dep ≤ 2 ∧ (rf x y).wgt ≤ 300 := by
  obtain ⟨a, b, c⟩ := e_good hx
  obtain ⟨a', b', c'⟩ := e_good hy
  exact ⟨by simp [rf, D.good, goodL, a, a'], by simp [rf, D.dep, depL]; omega, by simp [rf, D.wgt, wgtL]; omega⟩
theorem gone_good : gone.good = true ∧ gone.dep ≤ 2 ∧ gone.wgt ≤ 300 := ⟨by decide +kernel, by decide +kernel, by decide +kernel⟩
theorem spr_good : ∀ q ∈ combos, goodL (spr q) = true ∧ depL (spr q) ≤ 1 ∧ wgtL (spr q) ≤ 2000 := by decide +kernel
theorem S_good {l : List Nat} (h : ∀ c ∈ l, c < 1000) (hl : l.length ≤ 100) : (D.str (S_ l)).good = true ∧ (D.str (S_ l)).wgt ≤ 100 := by
  refine ⟨?_, by simp [D.wgt, S_]; exact hl⟩
  simp only [D.good, PyData.strOk, S_]
  rw [Array.all_eq_true']
  intro c hc
  have := h c (by simpa using hc)
  simp; omega
theorem dg_small (n : Nat) (h : n < 1000) : ∀ c ∈ dg n, c < 1000 := by
  intro c hc
  unfold dg at hc
  split at hc
  · simp at hc; omega
  · split at hc
    · simp at hc; omega
    · simp at hc; omega
theorem tx_good {m n : Bool} {a b : Nat} (ha : a < 26) (hb : b < 200) : (D.str (tx m n a b)).good = true ∧ (D.str (tx m n a b)).wgt ≤ 100 := by
  have dl := dg_len (b + 1)
  have ml := mk_len m
  have nl := mk_len n
  refine S_good (fun c hc => ?_) (by simp; omega)
  have mks : ∀ m : Bool, ∀ c ∈ mk m, c < 1000 := fun m c h => by cases m <;> simp [mk] at h; omega
  simp only [List.mem_append, List.mem_cons] at hc
  rcases hc with hc | rfl | hc | hc
  · exact mks m c hc
  · omega
  · exact mks n c hc
  · exact dg_small _ (by omega) c hc
theorem ptx_small {x : Pt} (h : OkP x) : ∀ c ∈ ptx x, c < 1000 := by
  intro c hc
  cases h with
  | @at_ n hn =>
    have e4 : ptx (.at_ (n : Int)) = 61 :: dg n := rfl
    rw [e4] at hc
    rcases List.mem_cons.mp hc with rfl | hc
    · decide
    · exact dg_small n hn c hc
  | @pos n hn =>
    have e4 : ptx (.by_ (n : Int)) = 43 :: dg n := by unfold ptx; simp
    rw [e4] at hc
    rcases List.mem_cons.mp hc with rfl | hc
    · decide
    · exact dg_small n hn c hc
  | @neg n h0 hn =>
    have e4 : ptx (.by_ (-(n : Int))) = 45 :: dg n := by show (if 0 ≤ -(n : Int) then _ else _) = _; rw [if_neg (by omega)]; simp
    rw [e4] at hc
    rcases List.mem_cons.mp hc with rfl | hc
    · decide
    · exact dg_small n hn c hc
theorem out_good {x y : Pt} (hx : OkP x) (hy : OkP y) : (D.str (outT x y)).good = true ∧ (D.str (outT x y)).wgt ≤ 100 := by
  have lx := ptx_len (x := x)
  have ly := ptx_len (x := y)
  refine S_good (fun c hc => ?_) (by simp; omega)
  simp only [List.mem_append, List.mem_cons, List.not_mem_nil, or_false] at hc
  rcases hc with rfl | (hc | rfl | hc) | rfl
  · decide
  · exact ptx_small hx c hc
  · decide
  · exact ptx_small hy c hc
  · decide
theorem okp_n {x : Pt} (h : OkP x) : x.n.natAbs < 2000 := by
  cases h <;> simp [Pt.n] <;> omega
/-! what is known of a drawn ref -/
def wd : Option Str → D
  | none => .non | some w => .str w
structure RF (P d : D) (W : Option Str) (tg : D) (m n : Bool) (T : Str) : Prop where
  lp : ∀ k μ, run fs (k + 3) 23 [d, P] μ = some (tg, μ)
  tgc : (W = none ∧ ∃ a b, tg = pl a b) ∨ ∃ w, W = some w ∧ tg = .str w
  pa : ∀ k μ, run fs (k + 3) 6 [d, P] μ = some (if W.isNone then tg else .non, μ)
  wo : ∀ k μ, run fs (k + 3) 7 [d, P] μ = some (wd W, μ)
  mo : ∀ k μ, run fs (k + 3) 10 [d] μ = some (.tup [.bl m, .bl n], μ)
  lm : ∀ k μ, run fs (k + 3) 26 [d] μ = some (.tup [.bl m, .bl n], μ)
  rt : ∀ k μ, run fs (k + 3) 13 [d, P] μ = some (.str T, μ)
  lrt : ∀ k μ, run fs (k + 3) 28 [d, P] μ = some (.str T, μ)
  rr : ∀ k μ, run fs (k + 3) 17 [.str T, P] μ = some (d, μ)
  dg : d.good = true ∧ d.dep ≤ 2 ∧ d.wgt ≤ 300
  tgg : tg.good = true ∧ tg.dep ≤ 2 ∧ tg.wgt ≤ 300
  wg : (wd W).good = true ∧ (wd W).dep ≤ 2 ∧ (wd W).wgt ≤ 300
  Tg : (D.str T).good = true ∧ (D.str T).wgt ≤ 100
theorem pa_gone {k : Nat} {μ : Store} {c r : Int} : run fs (k + 3) 6 [gone, pl c r] μ = some (.non, μ) := by kernel_rfl
theorem rf_of {c r : Nat} {d : D} (hc : c < 26) (hr : r < 200) (hd : d = gone ∨ ∃ x y, x ∈ cps ∧ y ∈ rps ∧ d = rf x y) : ∃ W tg m n T, RF (pl c r) d W tg m n T := by
  rcases hd with rfl | ⟨x, y, hx, hy, rfl⟩
  · exact ⟨some "gone", .str "gone", true, true, "#gone", fun k μ => lpoints_gone (k := k + 1), .inr ⟨_, rfl, rfl⟩, fun k μ => pa_gone, fun k μ => word_gone (k := k + 2), fun k μ => marks_gone (k := k + 2), fun k μ => lmarks_gone (k := k + 2), fun k μ => ref_gone (k := k + 2), fun k μ => lref_gone, fun k μ => read_gone (k := k + 2), gone_good,
      ⟨by decide +kernel, by decide +kernel, by decide +kernel⟩, ⟨by decide +kernel, by decide +kernel, by decide +kernel⟩, ⟨by decide +kernel, by decide +kernel⟩⟩
  · have ox := cps_ok hx
    have oy := rps_ok hy
    cases h : inb (x.v c) (y.v r) with
    | false =>
      refine ⟨some "out", .str "out", x.m, y.m, outT x y, fun k μ => ?_, .inr ⟨_, rfl, rfl⟩, fun k μ => ?_, fun k μ => ?_, fun k μ => marks_of (k := k + 2), fun k μ => lmarks (k := k + 2), fun k μ => ref_text_out (k := k + 1) hx hy h, fun k μ => lref_text_out hx hy h, fun k μ => read_out hx hy, rf_good (okp_n ox) (okp_n oy),
        ⟨by decide +kernel, by decide +kernel, by decide +kernel⟩, ⟨by decide +kernel, by decide +kernel, by decide +kernel⟩, out_good ox oy⟩
      · have := lpoints (k := k + 1) (μ := μ) (x := x) (y := y) (c := c) (r := r); rw [h] at this; exact this
      · have := points_at (k := k + 2) (μ := μ) (x := x) (y := y) (c := c) (r := r); rw [h] at this; exact this
      · have := word_of (k := k + 1) (μ := μ) (x := x) (y := y) (c := c) (r := r); rw [h] at this; exact this
    | true =>
      have hi := h
      unfold inb at hi
      simp only [decide_eq_true_eq] at hi
      obtain ⟨a, ea⟩ := Int.eq_ofNat_of_zero_le hi.1
      obtain ⟨b, eb⟩ := Int.eq_ofNat_of_zero_le hi.2.2.1
      have ha : a < 26 := by omega
      have hb : b < 200 := by omega
      obtain ⟨g1, g2, g3⟩ := pl_good (a := (a : Int)) (b := (b : Int)) (by omega) (by omega)
      refine ⟨none, pl a b, x.m, y.m, tx x.m y.m a b, fun k μ => ?_, .inl ⟨rfl, _, _, rfl⟩, fun k μ => ?_, fun k μ => ?_, fun k μ => marks_of (k := k + 2), fun k μ => lmarks (k := k + 2), fun k μ => ref_text_in (k := k + 1) rfl rfl ea eb ha hb, fun k μ => lref_text_in rfl rfl ea eb ha hb, fun k μ => ?_, rf_good (okp_n ox) (okp_n oy),
        ⟨g1, by omega, by omega⟩, ⟨by decide +kernel, by decide +kernel, by decide +kernel⟩, tx_good ha hb⟩
      · have := lpoints (k := k + 1) (μ := μ) (x := x) (y := y) (c := c) (r := r); rw [h, ea, eb] at this; exact this
      · have := points_at (k := k + 2) (μ := μ) (x := x) (y := y) (c := c) (r := r); rw [h, ea, eb] at this; exact this
      · have := word_of (k := k + 1) (μ := μ) (x := x) (y := y) (c := c) (r := r); rw [h] at this; exact this
      · rw [read_in (k := k) (c := c) (r := r) ha hb]
        have back : ∀ {x : Pt} {c : Nat} {a : Nat}, x.v c = (a : Int) → (if x.m then Pt.at_ a else .by_ ((a : Int) - c)) = x := by
          intro x c a h
          cases x with
          | by_ n => simp only [Pt.v] at h; simp only [Pt.m, Bool.false_eq_true, if_false]; congr 1; omega
          | at_ n => simp only [Pt.v] at h; simp only [Pt.m, if_true]; rw [h]
        rw [back ea, back eb]
/-! the draws -/
section
variable {μ : Store} {cs : List D}
theorem int_mem {v : Int} {l : List D} {n : Nat} {d : D} (h : d ∈ l) (hl : ∀ d ∈ l, ∃ a : Nat, d = .int (a : Int) ∧ a < n) : ∃ a : Nat, d = .int (a : Int) ∧ a < n := hl d h
theorem drawn_place {k : Nat} (hb : BagAt μ 0 cs) (hc : AllI cs) : ∃ (a b : Nat) (μ' : Store), run fs (k + 3) 31 [.ref 0] μ = some (pl a b, μ') ∧ Stir 0 cs μ μ' ∧ a < 26 ∧ b < 200 := by
  obtain ⟨v1, μ1, e1, st1, v1a, v1b⟩ := take_at (fs := fs) (t := 19) (k := k + 1) (many := 26) rfl hb hc (by decide) (by decide)
  have hb1 := hb.stir st1
  obtain ⟨n1, rfl⟩ := Int.eq_ofNat_of_zero_le v1a
  obtain ⟨d1, μ2, e2, st2, hd1⟩ := some_at (fs := fs) (t := 19) (s := 20) (k := k) (ds := [.int 0, .int 1, .int 2, .int 25, .int 24, .int (n1 : Int)]) rfl rfl hb1 hc (by simp) (by simp)
  have hb2 := hb1.stir st2
  obtain ⟨v2, μ3, e3, st3, v2a, v2b⟩ := take_at (fs := fs) (t := 19) (k := k + 1) (many := 200) rfl hb2 hc (by decide) (by decide)
  have hb3 := hb2.stir st3
  obtain ⟨n2, rfl⟩ := Int.eq_ofNat_of_zero_le v2a
  obtain ⟨d2, μ4, e4, st4, hd2⟩ := some_at (fs := fs) (t := 19) (s := 20) (k := k) (ds := [.int 0, .int 1, .int 5, .int 199, .int 198, .int (n2 : Int)]) rfl rfl hb3 hc (by simp) (by simp)
  have p1 : ∃ a : Nat, d1 = .int (a : Int) ∧ a < 26 := by
    simp only [List.mem_cons, List.not_mem_nil, or_false] at hd1
    rcases hd1 with h | h | h | h | h | h
    · exact ⟨0, h, by decide⟩
    · exact ⟨1, h, by decide⟩
    · exact ⟨2, h, by decide⟩
    · exact ⟨25, h, by decide⟩
    · exact ⟨24, h, by decide⟩
    · exact ⟨n1, h, by omega⟩
  have p2 : ∃ a : Nat, d2 = .int (a : Int) ∧ a < 200 := by
    simp only [List.mem_cons, List.not_mem_nil, or_false] at hd2
    rcases hd2 with h | h | h | h | h | h
    · exact ⟨0, h, by decide⟩
    · exact ⟨1, h, by decide⟩
    · exact ⟨5, h, by decide⟩
    · exact ⟨199, h, by decide⟩
    · exact ⟨198, h, by decide⟩
    · exact ⟨n2, h, by omega⟩
  obtain ⟨a, rfl, ha⟩ := p1
  obtain ⟨b, rfl, hb'⟩ := p2
  refine ⟨a, b, μ4, ?_, ((st1.trans st2).trans st3).trans st4, ha, hb'⟩
  rw [run_eq (f := 31) (F := ⟨1, 1, b31⟩) rfl rfl]
  show retOf (evSs _ b31 [.val (.ref 0)] μ) = _
  unfold b31
  simp [evE, evEs, evO, evC, evF, evSrc, evIn, evS, evSs, Option.bind_some, Option.map_some, Option.bind_none, Option.map_none, List.map_cons, List.map_nil, slot_c0, slot_cs, own_c0, own_cs, ownv_c0, ownv_cs, ownt_c0, tup_c0, tup_cs, view_int, view_str, view_bl, view_non, view_tup, view_lst, view_ty, view_fn, p_bin, p_neg, p_cmp, p_ix, p_len_tup, p_len_lst, p_abs, p_int, p_intb, p_isi, p_tuple_tup, p_tuple_lst, p_max, p_min, b_add_int, b_sub_int, c_lt, c_le, c_gt, c_ge, c_eq, c_ne, ix_tup, ix_lst, at0, at1, at2, at3, at4, at5, eq_int, eq_str, eq_bl, truD, set_c0, set_cs, setS_c, isi_tuple_tup, isi_tuple_lst, isi_tuple_str, isi_tuple_int, isi_tuple_non, isi_tuple_bl, isi_str_str, isi_str_tup, isi_str_int, isi_str_non, isi_str_lst, isi_str_bl, if_true_, if_false_, le_size, e1, e2, e3, e4, retOf, pl]
theorem drawn_ref {k : Nat} (hb : BagAt μ 0 cs) (hc : AllI cs) : ∃ (d : D) (μ' : Store), run fs (k + 3) 32 [.ref 0] μ = some (d, μ') ∧ Stir 0 cs μ μ' ∧ (d = gone ∨ ∃ x y, x ∈ cps ∧ y ∈ rps ∧ d = rf x y) := by
  obtain ⟨v0, μ0, e0, st0, v0a, v0b⟩ := take_at (fs := fs) (t := 19) (k := k + 1) (many := 8) rfl hb hc (by decide) (by decide)
  rw [run_eq (f := 32) (F := ⟨1, 1, b32⟩) rfl rfl]
  show ∃ d μ', retOf (evSs _ b32 [.val (.ref 0)] μ) = _ ∧ _
  unfold b32
  by_cases hv : v0 = 0
  · subst hv
    exact ⟨gone, μ0, by simp [evE, evEs, evO, evC, evF, evSrc, evIn, evS, evSs, Option.bind_some, Option.map_some, Option.bind_none, Option.map_none, List.map_cons, List.map_nil, slot_c0, slot_cs, own_c0, own_cs, ownv_c0, ownv_cs, ownt_c0, tup_c0, tup_cs, view_int, view_str, view_bl, view_non, view_tup, view_lst, view_ty, view_fn, p_bin, p_neg, p_cmp, p_ix, p_len_tup, p_len_lst, p_abs, p_int, p_intb, p_isi, p_tuple_tup, p_tuple_lst, p_max, p_min, b_add_int, b_sub_int, c_lt, c_le, c_gt, c_ge, c_eq, c_ne, ix_tup, ix_lst, at0, at1, at2, at3, at4, at5, eq_int, eq_str, eq_bl, truD, set_c0, set_cs, setS_c, isi_tuple_tup, isi_tuple_lst, isi_tuple_str, isi_tuple_int, isi_tuple_non, isi_tuple_bl, isi_str_str, isi_str_tup, isi_str_int, isi_str_non, isi_str_lst, isi_str_bl, if_true_, if_false_, e0, le_size, retOf, gone], st0, .inl rfl⟩
  · have hb0 := hb.stir st0
    obtain ⟨v1, μ1, e1, st1, v1a, v1b⟩ := take_at (fs := fs) (t := 19) (k := k + 1) (many := 26) rfl hb0 hc (by decide) (by decide)
    have hb1 := hb0.stir st1
    obtain ⟨n1, rfl⟩ := Int.eq_ofNat_of_zero_le v1a
    obtain ⟨d1, μ2, e2, st2, hd1⟩ := some_at (fs := fs) (t := 19) (s := 20) (k := k) (ds := [.tup [.str "by", .int 0], .tup [.str "by", .int (-1)], .tup [.str "by", .int 3], .tup [.str "by", .int (-30)], .tup [.str "at", .int (n1 : Int)]]) rfl rfl hb1 hc (by simp) (by simp)
    have hb2 := hb1.stir st2
    obtain ⟨v2, μ3, e3, st3, v2a, v2b⟩ := take_at (fs := fs) (t := 19) (k := k + 1) (many := 200) rfl hb2 hc (by decide) (by decide)
    have hb3 := hb2.stir st3
    obtain ⟨n2, rfl⟩ := Int.eq_ofNat_of_zero_le v2a
    obtain ⟨d2, μ4, e4, st4, hd2⟩ := some_at (fs := fs) (t := 19) (s := 20) (k := k) (ds := [.tup [.str "by", .int 0], .tup [.str "by", .int (-2)], .tup [.str "by", .int 1], .tup [.str "by", .int 250], .tup [.str "at", .int (n2 : Int)]]) rfl rfl hb3 hc (by simp) (by simp)
    have p1 : ∃ x ∈ cps, d1 = x.e := by
      simp only [List.mem_cons, List.not_mem_nil, or_false] at hd1
      simp only [cps, List.mem_append, List.mem_cons, List.not_mem_nil, or_false, List.mem_map, List.mem_range]
      rcases hd1 with h | h | h | h | h
      · exact ⟨.by_ 0, by simp, h⟩
      · exact ⟨.by_ (-1), by simp, h⟩
      · exact ⟨.by_ 3, by simp, h⟩
      · exact ⟨.by_ (-30), by simp, h⟩
      · exact ⟨.at_ n1, .inr ⟨n1, by omega, rfl⟩, h⟩
    have p2 : ∃ x ∈ rps, d2 = x.e := by
      simp only [List.mem_cons, List.not_mem_nil, or_false] at hd2
      simp only [rps, List.mem_append, List.mem_cons, List.not_mem_nil, or_false, List.mem_map, List.mem_range]
      rcases hd2 with h | h | h | h | h
      · exact ⟨.by_ 0, by simp, h⟩
      · exact ⟨.by_ (-2), by simp, h⟩
      · exact ⟨.by_ 1, by simp, h⟩
      · exact ⟨.by_ 250, by simp, h⟩
      · exact ⟨.at_ n2, .inr ⟨n2, by omega, rfl⟩, h⟩
    obtain ⟨x, hx, rfl⟩ := p1
    obtain ⟨y, hy, rfl⟩ := p2
    refine ⟨rf x y, μ4, ?_, (((st0.trans st1).trans st2).trans st3).trans st4, .inr ⟨x, y, hx, hy, rfl⟩⟩
    simp only [rf]
    generalize x.e = X at *
    generalize y.e = Y at *
    simp [evE, evEs, evO, evC, evF, evSrc, evIn, evS, evSs, Option.bind_some, Option.map_some, Option.bind_none, Option.map_none, List.map_cons, List.map_nil, slot_c0, slot_cs, own_c0, own_cs, ownv_c0, ownv_cs, ownt_c0, tup_c0, tup_cs, view_int, view_str, view_bl, view_non, view_tup, view_lst, view_ty, view_fn, p_bin, p_neg, p_cmp, p_ix, p_len_tup, p_len_lst, p_abs, p_int, p_intb, p_isi, p_tuple_tup, p_tuple_lst, p_max, p_min, b_add_int, b_sub_int, c_lt, c_le, c_gt, c_ge, c_eq, c_ne, ix_tup, ix_lst, at0, at1, at2, at3, at4, at5, eq_int, eq_str, eq_bl, truD, set_c0, set_cs, setS_c, isi_tuple_tup, isi_tuple_lst, isi_tuple_str, isi_tuple_int, isi_tuple_non, isi_tuple_bl, isi_str_str, isi_str_tup, isi_str_int, isi_str_non, isi_str_lst, isi_str_bl, if_true_, if_false_, le_size, e0, hv, e1, e2, e3, e4, retOf]
end
end FH.K02
end
section
namespace FH.K02
open PySem PySem.Spec PyProof.Rows L2
theorem eq_pl {a b c d : Int} : eqD (pl a b) (pl c d) = some (decide (a = c ∧ b = d)) := by
  have sh : ∀ a b : Int, SeqAt.shaped (.tuple [.int a, .int b]) = true := fun a b => by simp [SeqAt.shaped, PyData.canLay0, PyData.canLayAll0, PyData.depth, PyData.depthAll]
  simp [eqD, pl, D.flat, D.py, pyL, sh, PyData.eqv, PyData.eqvAll]
  rw [Bool.eq_iff_iff]; simp
theorem min_ev {i j : Int} : primD .min [.int i, .int j] = some (.int (if j < i then j else i)) := rfl
section
variable {ρ : Slots} {μ : Store} {cs : List D} {a b c r u v : Nat} {q : Nat × Nat × Nat × Nat} {d P tg : D} {W : Option Str} {m n p1 p2 : Bool} {T : Str}
theorem lst_good {ds : List D} (h : ∀ d ∈ ds, Gs d ∧ d.dep ≤ 8 ∧ d.wgt ≤ 2500) (hl : ds.length ≤ 6) : Gs (.lst ds) := by
  have key : ∀ ds : List D, (∀ d ∈ ds, Gs d ∧ d.dep ≤ 8 ∧ d.wgt ≤ 2500) → goodL ds = true ∧ depL ds ≤ 8 ∧ wgtL ds ≤ ds.length * 2501 := by
    intro ds
    induction ds with
    | nil => intro _; exact ⟨rfl, by simp [depL], by simp [wgtL]⟩
    | cons d ds ih =>
      intro h
      obtain ⟨⟨g, _, _⟩, e, w⟩ := h d List.mem_cons_self
      obtain ⟨g', e', w'⟩ := ih fun x hx => h x (List.mem_cons_of_mem _ hx)
      exact ⟨by simp [goodL, g, g'], by simp [depL]; omega, by simp [wgtL]; omega⟩
  obtain ⟨g, e, w⟩ := key ds h
  exact ⟨by simpa [D.good] using g, by simp [D.dep]; omega, by simp [D.wgt]; omega⟩
theorem sm {d : D} (h : d.good = true ∧ d.dep ≤ 2 ∧ d.wgt ≤ 300) : Gs d ∧ d.dep ≤ 8 ∧ d.wgt ≤ 2500 := ⟨⟨h.1, by omega, by omega⟩, by omega, by omega⟩
theorem sm_str {T : Str} (h : (D.str T).good = true ∧ (D.str T).wgt ≤ 100) : Gs (.str T) ∧ (D.str T).dep ≤ 8 ∧ (D.str T).wgt ≤ 2500 := sm ⟨h.1, by simp [D.dep], by omega⟩
theorem sm_bl {b : Bool} : Gs (.bl b) ∧ (D.bl b).dep ≤ 8 ∧ (D.bl b).wgt ≤ 2500 := ⟨⟨rfl, by simp [D.dep], by simp [D.wgt]⟩, by simp [D.dep], by simp [D.wgt]⟩
theorem sm_pl {a b : Int} (ha : a.natAbs < 1000) (hb : b.natAbs < 1000) : Gs (pl a b) ∧ (pl a b).dep ≤ 8 ∧ (pl a b).wgt ≤ 2500 := by
  obtain ⟨g1, g2, g3⟩ := pl_good ha hb
  exact sm ⟨g1, by omega, by omega⟩
theorem sm_bls {b c : Bool} : Gs (.tup [.bl b, .bl c]) ∧ (D.tup [.bl b, .bl c]).dep ≤ 8 ∧ (D.tup [.bl b, .bl c]).wgt ≤ 2500 := sm ⟨rfl, by simp [D.dep, depL], by simp [D.wgt, wgtL]⟩
theorem sm_spr (h : q ∈ combos) : Gs (.tup (spr q)) ∧ (D.tup (spr q)).dep ≤ 8 ∧ (D.tup (spr q)).wgt ≤ 2500 := by
  obtain ⟨g, e, w⟩ := spr_good q h
  exact ⟨⟨by simpa [D.good] using g, by simp [D.dep]; omega, by simp [D.wgt]; omega⟩, by simp [D.dep]; omega, by simp [D.wgt]; omega⟩
theorem k1 (h3 : slotD ρ 3 = some (pl a b)) (h4 : slotD ρ 4 = some (pl c r)) (ha : a < 26) (hb : b < 200) (hc : c < 26) (hr : r < 200) : evS Γ0 t1 ρ μ = some (.nx, ρ, μ) := by
  have e1 := place_text (k := 18) (μ := μ) ha hb
  have e2 := lplace_text (k := 18) (μ := μ) ha hb
  have e3 := read_place (k := 17) (μ := μ) ha hb
  have e4 : run fs 19 4 [pl a b, pl c r] μ = some (.bl (HT.lexLt [(b : Int), a] [(r : Int), c]), μ) := by kernel_rfl
  have g1 := tx_good (m := false) (n := false) ha hb
  unfold t1
  refine alike_if (d := .lst [.str (tx false false a b), pl a b, .bl (HT.lexLt [(b : Int), a] [(r : Int), c])]) (μ1 := μ) ?_ ?_ (lst_good (fun d hd => ?_) (by simp))
  · have e1 : run fs 19 0 [pl a b] μ = _ := e1
    have e2 : run fs 19 27 [pl a b] μ = _ := e2
    have e3 : run fs 19 3 [.str (tx false false a b)] μ = _ := e3
    generalize pl (a : Int) (b : Int) = A at *
    generalize pl (c : Int) (r : Int) = B at *
    simp [evE, evEs, evO, evC, evF, evSrc, evIn, evS, evSs, Option.bind_some, Option.map_some, Option.bind_none, Option.map_none, List.map_cons, List.map_nil, slot_c0, slot_cs, own_c0, own_cs, ownv_c0, ownv_cs, ownt_c0, tup_c0, tup_cs, view_int, view_str, view_bl, view_non, view_tup, view_lst, view_ty, view_fn, p_bin, p_neg, p_cmp, p_ix, p_len_tup, p_len_lst, p_abs, p_int, p_intb, p_isi, p_tuple_tup, p_tuple_lst, p_max, p_min, b_add_int, b_sub_int, c_lt, c_le, c_gt, c_ge, c_eq, c_ne, ix_tup, ix_lst, at0, at1, at2, at3, at4, at5, eq_int, eq_str, eq_bl, truD, set_c0, set_cs, setS_c, isi_tuple_tup, isi_tuple_lst, isi_tuple_str, isi_tuple_int, isi_tuple_non, isi_tuple_bl, isi_str_str, isi_str_tup, isi_str_int, isi_str_non, isi_str_lst, isi_str_bl, if_true_, if_false_, h3, h4, Γf, e1, e2, e3, e4, le_size]
  · have e2 : run fs 19 27 [pl a b] μ = _ := e2
    have lt : cmpD .Lt (.tup [.int (b : Int), .int (a : Int)]) (.tup [.int (r : Int), .int (c : Int)]) = some (.bl (HT.lexLt [(b : Int), a] [(r : Int), c])) := rfl
    simp only [pl] at h3 h4 e2 ⊢
    simp [evE, evEs, evO, evC, evF, evSrc, evIn, evS, evSs, Option.bind_some, Option.map_some, Option.bind_none, Option.map_none, List.map_cons, List.map_nil, slot_c0, slot_cs, own_c0, own_cs, ownv_c0, ownv_cs, ownt_c0, tup_c0, tup_cs, view_int, view_str, view_bl, view_non, view_tup, view_lst, view_ty, view_fn, p_bin, p_neg, p_cmp, p_ix, p_len_tup, p_len_lst, p_abs, p_int, p_intb, p_isi, p_tuple_tup, p_tuple_lst, p_max, p_min, b_add_int, b_sub_int, c_lt, c_le, c_gt, c_ge, c_eq, c_ne, ix_tup, ix_lst, at0, at1, at2, at3, at4, at5, eq_int, eq_str, eq_bl, truD, set_c0, set_cs, setS_c, isi_tuple_tup, isi_tuple_lst, isi_tuple_str, isi_tuple_int, isi_tuple_non, isi_tuple_bl, isi_str_str, isi_str_tup, isi_str_int, isi_str_non, isi_str_lst, isi_str_bl, if_true_, if_false_, h3, h4, Γf, e2, le_size, lt]
  · simp only [List.mem_cons, List.not_mem_nil, or_false] at hd
    rcases hd with rfl | rfl | rfl
    · exact sm_str g1
    · exact sm_pl (by omega) (by omega)
    · exact sm_bl
theorem k2 (h3 : slotD ρ 3 = some (pl a b)) : ∃ u v, u < 4 ∧ v < 5 ∧ u ≤ a ∧ v ≤ b ∧ evE Γ0 (.tup (.cons (.prim .min (.cons (.prim .ix (.cons (.var 3) (.cons (.lit (.int 0)) .nil))) (.cons (.lit (.int 3)) .nil))) (.cons (.prim .min (.cons (.prim .ix (.cons (.var 3) (.cons (.lit (.int 1)) .nil))) (.cons (.lit (.int 4)) .nil))) .nil))) ρ μ = some (pl (u : Nat) (v : Nat), μ) := by
  refine ⟨min a 3, min b 4, by omega, by omega, by omega, by omega, ?_⟩
  have m1 : (if (3 : Int) < (a : Int) then (3 : Int) else a) = ((min a 3 : Nat) : Int) := by split <;> omega
  have m2 : (if (4 : Int) < (b : Int) then (4 : Int) else b) = ((min b 4 : Nat) : Int) := by split <;> omega
  simp only [pl] at h3 ⊢
  rw [← m1, ← m2]
  simp [evE, evEs, evO, evC, evF, evSrc, evIn, evS, evSs, Option.bind_some, Option.map_some, Option.bind_none, Option.map_none, List.map_cons, List.map_nil, slot_c0, slot_cs, own_c0, own_cs, ownv_c0, ownv_cs, ownt_c0, tup_c0, tup_cs, view_int, view_str, view_bl, view_non, view_tup, view_lst, view_ty, view_fn, p_bin, p_neg, p_cmp, p_ix, p_len_tup, p_len_lst, p_abs, p_int, p_intb, p_isi, p_tuple_tup, p_tuple_lst, p_max, p_min, b_add_int, b_sub_int, c_lt, c_le, c_gt, c_ge, c_eq, c_ne, ix_tup, ix_lst, at0, at1, at2, at3, at4, at5, eq_int, eq_str, eq_bl, truD, set_c0, set_cs, setS_c, isi_tuple_tup, isi_tuple_lst, isi_tuple_str, isi_tuple_int, isi_tuple_non, isi_tuple_bl, isi_str_str, isi_str_tup, isi_str_int, isi_str_non, isi_str_lst, isi_str_bl, if_true_, if_false_, h3, le_size]
theorem k3 (hb : BagAt μ 0 cs) (hc : AllI cs) (h1 : slotD ρ 1 = some (.ref 0)) (h6 : slotD ρ 6 = some (pl (u : Nat) (v : Nat))) : ∃ a b μ', a < 3 ∧ b < 3 ∧ Stir 0 cs μ μ' ∧ evE Γ0 (.tup (.cons (.prim (.bin .Add) (.cons (.prim .ix (.cons (.var 6) (.cons (.lit (.int 0)) .nil))) (.cons (.call "_law_take" 19 (.cons (.var 1) (.cons (.lit (.int 3)) .nil))) .nil))) (.cons (.prim (.bin .Add) (.cons (.prim .ix (.cons (.var 6) (.cons (.lit (.int 1)) .nil))) (.cons (.call "_law_take" 19 (.cons (.var 1) (.cons (.lit (.int 3)) .nil))) .nil))) .nil))) ρ μ =
    some (pl ((u + a : Nat) : Int) ((v + b : Nat) : Int), μ') := by
  obtain ⟨x, μ1, e1, st1, xa, xb⟩ := take_at (fs := fs) (t := 19) (k := 18) (many := 3) rfl hb hc (by decide) (by decide)
  obtain ⟨y, μ2, e2, st2, ya, yb⟩ := take_at (fs := fs) (t := 19) (k := 18) (many := 3) rfl (hb.stir st1) hc (by decide) (by decide)
  obtain ⟨x, rfl⟩ := Int.eq_ofNat_of_zero_le xa
  obtain ⟨y, rfl⟩ := Int.eq_ofNat_of_zero_le ya
  refine ⟨x, y, μ2, by omega, by omega, st1.trans st2, ?_⟩
  simp only [pl] at h6 ⊢
  have e1 : run fs 19 19 [.ref 0, .int 3] μ = _ := e1
  have e2 : run fs 19 19 [.ref 0, .int 3] μ1 = _ := e2
  simp [evE, evEs, evO, evC, evF, evSrc, evIn, evS, evSs, Option.bind_some, Option.map_some, Option.bind_none, Option.map_none, List.map_cons, List.map_nil, slot_c0, slot_cs, own_c0, own_cs, ownv_c0, ownv_cs, ownt_c0, tup_c0, tup_cs, view_int, view_str, view_bl, view_non, view_tup, view_lst, view_ty, view_fn, p_bin, p_neg, p_cmp, p_ix, p_len_tup, p_len_lst, p_abs, p_int, p_intb, p_isi, p_tuple_tup, p_tuple_lst, p_max, p_min, b_add_int, b_sub_int, c_lt, c_le, c_gt, c_ge, c_eq, c_ne, ix_tup, ix_lst, at0, at1, at2, at3, at4, at5, eq_int, eq_str, eq_bl, truD, set_c0, set_cs, setS_c, isi_tuple_tup, isi_tuple_lst, isi_tuple_str, isi_tuple_int, isi_tuple_non, isi_tuple_bl, isi_str_str, isi_str_tup, isi_str_int, isi_str_non, isi_str_lst, isi_str_bl, if_true_, if_false_, h1, h6, Γf, e1, e2, le_size]
theorem disp2_ev {Γ : Env2} {e1 e2 : IE} {x y : D} {μ1 μ2 : Store} (h1 : evE Γ e1 ρ μ = some (x, μ1)) (h2 : evE Γ e2 ρ μ1 = some (y, μ2)) : evE Γ (.frz (.disp (.cons e1 (.cons e2 .nil)))) ρ μ = some (.lst [x, y], μ2) := by
  simp only [evE, evF, evEs, h1, h2, Option.bind_some, Option.map_some]
  rw [if_pos (by show 2 ≤ sizeLine; decide)]
  rfl
theorem k4a {L H SS : D} (h6 : slotD ρ 6 = some L) (h7 : slotD ρ 7 = some H) (e1 : run fs 19 5 [L, H] μ = some (SS, μ)) : evE Γ0 (.call "rectangle" 5 (.cons (.var 6) (.cons (.var 7) .nil))) ρ μ = some (SS, μ) := by
  simp [evE, evEs, evO, evC, evF, evSrc, evIn, evS, evSs, Option.bind_some, Option.map_some, Option.bind_none, Option.map_none, List.map_cons, List.map_nil, slot_c0, slot_cs, own_c0, own_cs, ownv_c0, ownv_cs, ownt_c0, tup_c0, tup_cs, view_int, view_str, view_bl, view_non, view_tup, view_lst, view_ty, view_fn, p_bin, p_neg, p_cmp, p_ix, p_len_tup, p_len_lst, p_abs, p_int, p_intb, p_isi, p_tuple_tup, p_tuple_lst, p_max, p_min, b_add_int, b_sub_int, c_lt, c_le, c_gt, c_ge, c_eq, c_ne, ix_tup, ix_lst, at0, at1, at2, at3, at4, at5, eq_int, eq_str, eq_bl, truD, set_c0, set_cs, setS_c, isi_tuple_tup, isi_tuple_lst, isi_tuple_str, isi_tuple_int, isi_tuple_non, isi_tuple_bl, isi_str_str, isi_str_tup, isi_str_int, isi_str_non, isi_str_lst, isi_str_bl, if_true_, if_false_, h6, h7, Γf, e1]
theorem k4b {L H : D} {z0 : Bool} (h6 : slotD ρ 6 = some L) (h7 : slotD ρ 7 = some H) (eqh : eqD H L = some z0) (vL : viewD μ L = L) (vH : viewD μ H = H) : evE Γ0 (.prim (.cmp .NotEq) (.cons (.var 7) (.cons (.var 6) .nil))) ρ μ = some (.bl (!z0), μ) := by
  simp [evE, evEs, evO, evC, evF, evSrc, evIn, evS, evSs, Option.bind_some, Option.map_some, Option.bind_none, Option.map_none, List.map_cons, List.map_nil, slot_c0, slot_cs, own_c0, own_cs, ownv_c0, ownv_cs, ownt_c0, tup_c0, tup_cs, view_int, view_str, view_bl, view_non, view_tup, view_lst, view_ty, view_fn, p_bin, p_neg, p_cmp, p_ix, p_len_tup, p_len_lst, p_abs, p_int, p_intb, p_isi, p_tuple_tup, p_tuple_lst, p_max, p_min, b_add_int, b_sub_int, c_lt, c_le, c_gt, c_ge, c_eq, c_ne, ix_tup, ix_lst, at0, at1, at2, at3, at4, at5, eq_int, eq_str, eq_bl, truD, set_c0, set_cs, setS_c, isi_tuple_tup, isi_tuple_lst, isi_tuple_str, isi_tuple_int, isi_tuple_non, isi_tuple_bl, isi_str_str, isi_str_tup, isi_str_int, isi_str_non, isi_str_lst, isi_str_bl, if_true_, if_false_, h6, h7, eqh, vL, vH]
theorem k4c {L H SS : D} (h6 : slotD ρ 6 = some L) (h7 : slotD ρ 7 = some H) (e1 : run fs 19 5 [H, L] μ = some (SS, μ)) : evE Γ0 (.call "rectangle" 5 (.cons (.var 7) (.cons (.var 6) .nil))) ρ μ = some (SS, μ) := by
  simp [evE, evEs, evO, evC, evF, evSrc, evIn, evS, evSs, Option.bind_some, Option.map_some, Option.bind_none, Option.map_none, List.map_cons, List.map_nil, slot_c0, slot_cs, own_c0, own_cs, ownv_c0, ownv_cs, ownt_c0, tup_c0, tup_cs, view_int, view_str, view_bl, view_non, view_tup, view_lst, view_ty, view_fn, p_bin, p_neg, p_cmp, p_ix, p_len_tup, p_len_lst, p_abs, p_int, p_intb, p_isi, p_tuple_tup, p_tuple_lst, p_max, p_min, b_add_int, b_sub_int, c_lt, c_le, c_gt, c_ge, c_eq, c_ne, ix_tup, ix_lst, at0, at1, at2, at3, at4, at5, eq_int, eq_str, eq_bl, truD, set_c0, set_cs, setS_c, isi_tuple_tup, isi_tuple_lst, isi_tuple_str, isi_tuple_int, isi_tuple_non, isi_tuple_bl, isi_str_str, isi_str_tup, isi_str_int, isi_str_non, isi_str_lst, isi_str_bl, if_true_, if_false_, h6, h7, Γf, e1]
theorem k4d : evE Γ0 (.tup .nil) ρ μ = some (.tup [], μ) := by
  simp [evE, evEs, evO, evC, evF, evSrc, evIn, evS, evSs, Option.bind_some, Option.map_some, Option.bind_none, Option.map_none, List.map_cons, List.map_nil, slot_c0, slot_cs, own_c0, own_cs, ownv_c0, ownv_cs, ownt_c0, tup_c0, tup_cs, view_int, view_str, view_bl, view_non, view_tup, view_lst, view_ty, view_fn, p_bin, p_neg, p_cmp, p_ix, p_len_tup, p_len_lst, p_abs, p_int, p_intb, p_isi, p_tuple_tup, p_tuple_lst, p_max, p_min, b_add_int, b_sub_int, c_lt, c_le, c_gt, c_ge, c_eq, c_ne, ix_tup, ix_lst, at0, at1, at2, at3, at4, at5, eq_int, eq_str, eq_bl, truD, set_c0, set_cs, setS_c, isi_tuple_tup, isi_tuple_lst, isi_tuple_str, isi_tuple_int, isi_tuple_non, isi_tuple_bl, isi_str_str, isi_str_tup, isi_str_int, isi_str_non, isi_str_lst, isi_str_bl, if_true_, if_false_, le_size]
theorem k4e {L H SS : D} (h6 : slotD ρ 6 = some L) (h7 : slotD ρ 7 = some H) (e1 : run fs 19 25 [L, H] μ = some (SS, μ)) : evE Γ0 (.call "_law_spread" 25 (.cons (.var 6) (.cons (.var 7) .nil))) ρ μ = some (SS, μ) := by
  simp [evE, evEs, evO, evC, evF, evSrc, evIn, evS, evSs, Option.bind_some, Option.map_some, Option.bind_none, Option.map_none, List.map_cons, List.map_nil, slot_c0, slot_cs, own_c0, own_cs, ownv_c0, ownv_cs, ownt_c0, tup_c0, tup_cs, view_int, view_str, view_bl, view_non, view_tup, view_lst, view_ty, view_fn, p_bin, p_neg, p_cmp, p_ix, p_len_tup, p_len_lst, p_abs, p_int, p_intb, p_isi, p_tuple_tup, p_tuple_lst, p_max, p_min, b_add_int, b_sub_int, c_lt, c_le, c_gt, c_ge, c_eq, c_ne, ix_tup, ix_lst, at0, at1, at2, at3, at4, at5, eq_int, eq_str, eq_bl, truD, set_c0, set_cs, setS_c, isi_tuple_tup, isi_tuple_lst, isi_tuple_str, isi_tuple_int, isi_tuple_non, isi_tuple_bl, isi_str_str, isi_str_tup, isi_str_int, isi_str_non, isi_str_lst, isi_str_bl, if_true_, if_false_, h6, h7, Γf, e1]
theorem k4f {L H SS B : D} {z0 : Bool} (h6 : slotD ρ 6 = some L) (h7 : slotD ρ 7 = some H) (e1 : run fs 19 5 [L, H] μ = some (SS, μ)) (e2 : run fs 19 5 [H, L] μ = some (B, μ)) (e3 : run fs 19 25 [L, H] μ = some (SS, μ)) (eqh : eqD H L = some z0) (vL : viewD μ L = L) (vH : viewD μ H = H) (hB : z0 = false → B = .tup [])
    (gS : Gs SS ∧ SS.dep ≤ 8 ∧ SS.wgt ≤ 2500) : evS Γ0 t4 ρ μ = some (.nx, ρ, μ) := by
  have c1 : evE Γ0 (.cond (.prim (.cmp .NotEq) (.cons (.var 7) (.cons (.var 6) .nil))) (.call "rectangle" 5 (.cons (.var 7) (.cons (.var 6) .nil))) (.tup .nil)) ρ μ = some (.tup [], μ) := by
    rw [cond_ev (μ' := μ) (!z0) (k4b h6 h7 eqh vL vH)]
    cases z0 with
    | true => exact k4d
    | false =>
      rw [hB rfl] at e2
      exact k4c h6 h7 e2
  refine alike_if (d := .lst [SS, .tup []]) (μ1 := μ) (disp2_ev (k4a h6 h7 e1) c1) (disp2_ev (k4e h6 h7 e3) k4d) (lst_good (fun d hd => ?_) (by simp))
  simp only [List.mem_cons, List.not_mem_nil, or_false] at hd
  rcases hd with rfl | rfl
  · exact gS
  · exact sm ⟨rfl, by decide, by decide⟩
theorem k4 (hq : q ∈ combos) (h6 : slotD ρ 6 = some (low q)) (h7 : slotD ρ 7 = some (high q)) : evS Γ0 t4 ρ μ = some (.nx, ρ, μ) := by
  refine k4f (z0 := decide (q.2.2.1 = 0 ∧ q.2.2.2 = 0)) h6 h7 (rect (k := 18) q hq) (rect_back (k := 18) q hq) (lspread (k := 18) q hq) ?_ rfl rfl (fun h => ?_) (sm_spr hq)
  · have hd : decide (((q.1 + q.2.2.1 : Nat) : Int) = (q.1 : Int) ∧ ((q.2.1 + q.2.2.2 : Nat) : Int) = (q.2.1 : Int)) = decide (q.2.2.1 = 0 ∧ q.2.2.2 = 0) := by
      rw [Bool.eq_iff_iff]
      simp only [decide_eq_true_eq]
      omega
    rw [← hd]
    exact eq_pl
  · unfold back
    rw [if_neg (by simpa using h)]
theorem k7 (F : RF P d W tg m n T) (h10 : slotD ρ 10 = some tg) : evE Γ0 (.cond (.prim .isi (.cons (.var 10) (.cons (.glob "str" (.ty "str")) .nil))) (.var 10) (.lit .non)) ρ μ = some (wd W, μ) := by
  rcases F.tgc with ⟨rfl, a, b, rfl⟩ | ⟨w, rfl, rfl⟩
  · simp only [pl] at h10
    simp [evE, evEs, evO, evC, evF, evSrc, evIn, evS, evSs, Option.bind_some, Option.map_some, Option.bind_none, Option.map_none, List.map_cons, List.map_nil, slot_c0, slot_cs, own_c0, own_cs, ownv_c0, ownv_cs, ownt_c0, tup_c0, tup_cs, view_int, view_str, view_bl, view_non, view_tup, view_lst, view_ty, view_fn, p_bin, p_neg, p_cmp, p_ix, p_len_tup, p_len_lst, p_abs, p_int, p_intb, p_isi, p_tuple_tup, p_tuple_lst, p_max, p_min, b_add_int, b_sub_int, c_lt, c_le, c_gt, c_ge, c_eq, c_ne, ix_tup, ix_lst, at0, at1, at2, at3, at4, at5, eq_int, eq_str, eq_bl, truD, set_c0, set_cs, setS_c, isi_tuple_tup, isi_tuple_lst, isi_tuple_str, isi_tuple_int, isi_tuple_non, isi_tuple_bl, isi_str_str, isi_str_tup, isi_str_int, isi_str_non, isi_str_lst, isi_str_bl, if_true_, if_false_, h10, wd]
  · simp [evE, evEs, evO, evC, evF, evSrc, evIn, evS, evSs, Option.bind_some, Option.map_some, Option.bind_none, Option.map_none, List.map_cons, List.map_nil, slot_c0, slot_cs, own_c0, own_cs, ownv_c0, ownv_cs, ownt_c0, tup_c0, tup_cs, view_int, view_str, view_bl, view_non, view_tup, view_lst, view_ty, view_fn, p_bin, p_neg, p_cmp, p_ix, p_len_tup, p_len_lst, p_abs, p_int, p_intb, p_isi, p_tuple_tup, p_tuple_lst, p_max, p_min, b_add_int, b_sub_int, c_lt, c_le, c_gt, c_ge, c_eq, c_ne, ix_tup, ix_lst, at0, at1, at2, at3, at4, at5, eq_int, eq_str, eq_bl, truD, set_c0, set_cs, setS_c, isi_tuple_tup, isi_tuple_lst, isi_tuple_str, isi_tuple_int, isi_tuple_non, isi_tuple_bl, isi_str_str, isi_str_tup, isi_str_int, isi_str_non, isi_str_lst, isi_str_bl, if_true_, if_false_, h10, wd]
theorem notn : cmpD .IsNot (wd W) .non = some (.bl W.isSome) := by cases W <;> rfl
theorem vwd : viewD μ (wd W) = wd W := by cases W <;> rfl
def fnd (W : Option Str) (tg : D) (m n : Bool) (T : Str) (d : D) : D := .lst [if W.isNone then tg else .non, wd W, .tup [.bl m, .bl n], .str T, d]
theorem k9 (F : RF P d W tg m n T) (h5 : slotD ρ 5 = some P) (h8 : slotD ρ 8 = some d) : evE Γ0 (.frz (.disp (.cons (.call "points_at" 6 (.cons (.var 8) (.cons (.var 5) .nil))) (.cons (.call "word_of" 7 (.cons (.var 8) (.cons (.var 5) .nil))) (.cons (.call "marks_of" 10 (.cons (.var 8) .nil)) (.cons (.call "ref_text" 13 (.cons (.var 8) (.cons (.var 5) .nil))) (.cons (.call "read_ref" 17 (.cons (.call "_law_ref_text" 28 (.cons (.var 8) (.cons (.var 5) .nil))) (.cons (.var 5) .nil))) .nil))))))) ρ μ =
    some (fnd W tg m n T d, μ) := by
  have e1 : run fs 19 6 [d, P] μ = _ := F.pa 16 μ
  have e2 : run fs 19 7 [d, P] μ = _ := F.wo 16 μ
  have e3 : run fs 19 10 [d] μ = _ := F.mo 16 μ
  have e4 : run fs 19 13 [d, P] μ = _ := F.rt 16 μ
  have e5 : run fs 19 28 [d, P] μ = _ := F.lrt 16 μ
  have e6 : run fs 19 17 [.str T, P] μ = _ := F.rr 16 μ
  unfold fnd
  generalize (if W.isNone = true then tg else .non) = X at *
  generalize wd W = Y at *
  simp [evE, evEs, evO, evC, evF, evSrc, evIn, evS, evSs, Option.bind_some, Option.map_some, Option.bind_none, Option.map_none, List.map_cons, List.map_nil, slot_c0, slot_cs, own_c0, own_cs, ownv_c0, ownv_cs, ownt_c0, tup_c0, tup_cs, view_int, view_str, view_bl, view_non, view_tup, view_lst, view_ty, view_fn, p_bin, p_neg, p_cmp, p_ix, p_len_tup, p_len_lst, p_abs, p_int, p_intb, p_isi, p_tuple_tup, p_tuple_lst, p_max, p_min, b_add_int, b_sub_int, c_lt, c_le, c_gt, c_ge, c_eq, c_ne, ix_tup, ix_lst, at0, at1, at2, at3, at4, at5, eq_int, eq_str, eq_bl, truD, set_c0, set_cs, setS_c, isi_tuple_tup, isi_tuple_lst, isi_tuple_str, isi_tuple_int, isi_tuple_non, isi_tuple_bl, isi_str_str, isi_str_tup, isi_str_int, isi_str_non, isi_str_lst, isi_str_bl, if_true_, if_false_, h5, h8, Γf, e1, e2, e3, e4, e5, e6, le_size]
theorem k10 (F : RF P d W tg m n T) (h5 : slotD ρ 5 = some P) (h8 : slotD ρ 8 = some d) (h10 : slotD ρ 10 = some tg) (h11 : slotD ρ 11 = some (wd W)) (h13 : slotD ρ 13 = some (fnd W tg m n T d)) : evS Γ0 t10 ρ μ = some (.nx, ρ, μ) := by
  have e3 : run fs 19 26 [d] μ = _ := F.lm 16 μ
  have e5 : run fs 19 28 [d, P] μ = _ := F.lrt 16 μ
  unfold t10
  refine alike_if (d := fnd W tg m n T d) (μ1 := μ) (by simp [evE, evEs, evO, evC, evF, evSrc, evIn, evS, evSs, Option.bind_some, Option.map_some, Option.bind_none, Option.map_none, List.map_cons, List.map_nil, slot_c0, slot_cs, own_c0, own_cs, ownv_c0, ownv_cs, ownt_c0, tup_c0, tup_cs, view_int, view_str, view_bl, view_non, view_tup, view_lst, view_ty, view_fn, p_bin, p_neg, p_cmp, p_ix, p_len_tup, p_len_lst, p_abs, p_int, p_intb, p_isi, p_tuple_tup, p_tuple_lst, p_max, p_min, b_add_int, b_sub_int, c_lt, c_le, c_gt, c_ge, c_eq, c_ne, ix_tup, ix_lst, at0, at1, at2, at3, at4, at5, eq_int, eq_str, eq_bl, truD, set_c0, set_cs, setS_c, isi_tuple_tup, isi_tuple_lst, isi_tuple_str, isi_tuple_int, isi_tuple_non, isi_tuple_bl, isi_str_str, isi_str_tup, isi_str_int, isi_str_non, isi_str_lst, isi_str_bl, if_true_, if_false_, h13]) ?_ (lst_good (fun z hz => ?_) (by simp))
  · have c1 : evE Γ0 (.cond (.prim (.cmp .IsNot) (.cons (.var 11) (.cons (.lit .non) .nil))) (.lit .non) (.var 10)) ρ μ = some (if W.isNone then tg else .non, μ) := by
      rw [cond_ev (μ' := μ) W.isSome (by simp [evE, evEs, evO, evC, evF, evSrc, evIn, evS, evSs, Option.bind_some, Option.map_some, Option.bind_none, Option.map_none, List.map_cons, List.map_nil, slot_c0, slot_cs, own_c0, own_cs, ownv_c0, ownv_cs, ownt_c0, tup_c0, tup_cs, view_int, view_str, view_bl, view_non, view_tup, view_lst, view_ty, view_fn, p_bin, p_neg, p_cmp, p_ix, p_len_tup, p_len_lst, p_abs, p_int, p_intb, p_isi, p_tuple_tup, p_tuple_lst, p_max, p_min, b_add_int, b_sub_int, c_lt, c_le, c_gt, c_ge, c_eq, c_ne, ix_tup, ix_lst, at0, at1, at2, at3, at4, at5, eq_int, eq_str, eq_bl, truD, set_c0, set_cs, setS_c, isi_tuple_tup, isi_tuple_lst, isi_tuple_str, isi_tuple_int, isi_tuple_non, isi_tuple_bl, isi_str_str, isi_str_tup, isi_str_int, isi_str_non, isi_str_lst, isi_str_bl, if_true_, if_false_, h11, vwd, notn])]
      cases W <;> simp [evE, evEs, evO, evC, evF, evSrc, evIn, evS, evSs, Option.bind_some, Option.map_some, Option.bind_none, Option.map_none, List.map_cons, List.map_nil, slot_c0, slot_cs, own_c0, own_cs, ownv_c0, ownv_cs, ownt_c0, tup_c0, tup_cs, view_int, view_str, view_bl, view_non, view_tup, view_lst, view_ty, view_fn, p_bin, p_neg, p_cmp, p_ix, p_len_tup, p_len_lst, p_abs, p_int, p_intb, p_isi, p_tuple_tup, p_tuple_lst, p_max, p_min, b_add_int, b_sub_int, c_lt, c_le, c_gt, c_ge, c_eq, c_ne, ix_tup, ix_lst, at0, at1, at2, at3, at4, at5, eq_int, eq_str, eq_bl, truD, set_c0, set_cs, setS_c, isi_tuple_tup, isi_tuple_lst, isi_tuple_str, isi_tuple_int, isi_tuple_non, isi_tuple_bl, isi_str_str, isi_str_tup, isi_str_int, isi_str_non, isi_str_lst, isi_str_bl, if_true_, if_false_, h10]
    unfold fnd
    generalize (if W.isNone = true then tg else .non) = X at *
    generalize wd W = Y at *
    generalize IE.cond (.prim (.cmp .IsNot) (.cons (.var 11) (.cons (.lit .non) .nil))) (.lit .non) (.var 10) = ce at c1
    simp [evE, evEs, evO, evC, evF, evSrc, evIn, evS, evSs, Option.bind_some, Option.map_some, Option.bind_none, Option.map_none, List.map_cons, List.map_nil, slot_c0, slot_cs, own_c0, own_cs, ownv_c0, ownv_cs, ownt_c0, tup_c0, tup_cs, view_int, view_str, view_bl, view_non, view_tup, view_lst, view_ty, view_fn, p_bin, p_neg, p_cmp, p_ix, p_len_tup, p_len_lst, p_abs, p_int, p_intb, p_isi, p_tuple_tup, p_tuple_lst, p_max, p_min, b_add_int, b_sub_int, c_lt, c_le, c_gt, c_ge, c_eq, c_ne, ix_tup, ix_lst, at0, at1, at2, at3, at4, at5, eq_int, eq_str, eq_bl, truD, set_c0, set_cs, setS_c, isi_tuple_tup, isi_tuple_lst, isi_tuple_str, isi_tuple_int, isi_tuple_non, isi_tuple_bl, isi_str_str, isi_str_tup, isi_str_int, isi_str_non, isi_str_lst, isi_str_bl, if_true_, if_false_, h5, h8, h10, h11, Γf, e3, e5, c1, le_size]
  · simp only [List.mem_cons, List.not_mem_nil, or_false] at hz
    rcases hz with rfl | rfl | rfl | rfl | rfl
    · cases W
      · exact sm F.tgg
      · exact sm ⟨rfl, by simp [D.dep], by simp [D.wgt]⟩
    · exact sm F.wg
    · exact sm_bls
    · exact sm_str F.Tg
    · exact sm F.dg
theorem k11 (hb : BagAt μ 0 cs) (hc : AllI cs) (h1 : slotD ρ 1 = some (.ref 0)) : ∃ p1 p2 μ', Stir 0 cs μ μ' ∧ evE Γ0 (.tup (.cons (.prim (.cmp .Eq) (.cons (.call "_law_take" 19 (.cons (.var 1) (.cons (.lit (.int 2)) .nil))) (.cons (.lit (.int 0)) .nil))) (.cons (.prim (.cmp .Eq) (.cons (.call "_law_take" 19 (.cons (.var 1) (.cons (.lit (.int 2)) .nil))) (.cons (.lit (.int 0)) .nil))) .nil))) ρ μ = some (.tup [.bl p1, .bl p2], μ') := by
  obtain ⟨x, μ1, e1, st1, xa, xb⟩ := take_at (fs := fs) (t := 19) (k := 18) (many := 2) rfl hb hc (by decide) (by decide)
  obtain ⟨y, μ2, e2, st2, ya, yb⟩ := take_at (fs := fs) (t := 19) (k := 18) (many := 2) rfl (hb.stir st1) hc (by decide) (by decide)
  have e1 : run fs 19 19 [.ref 0, .int 2] μ = _ := e1
  have e2 : run fs 19 19 [.ref 0, .int 2] μ1 = _ := e2
  exact ⟨x == 0, y == 0, μ2, st1.trans st2, by simp [evE, evEs, evO, evC, evF, evSrc, evIn, evS, evSs, Option.bind_some, Option.map_some, Option.bind_none, Option.map_none, List.map_cons, List.map_nil, slot_c0, slot_cs, own_c0, own_cs, ownv_c0, ownv_cs, ownt_c0, tup_c0, tup_cs, view_int, view_str, view_bl, view_non, view_tup, view_lst, view_ty, view_fn, p_bin, p_neg, p_cmp, p_ix, p_len_tup, p_len_lst, p_abs, p_int, p_intb, p_isi, p_tuple_tup, p_tuple_lst, p_max, p_min, b_add_int, b_sub_int, c_lt, c_le, c_gt, c_ge, c_eq, c_ne, ix_tup, ix_lst, at0, at1, at2, at3, at4, at5, eq_int, eq_str, eq_bl, truD, set_c0, set_cs, setS_c, isi_tuple_tup, isi_tuple_lst, isi_tuple_str, isi_tuple_int, isi_tuple_non, isi_tuple_bl, isi_str_str, isi_str_tup, isi_str_int, isi_str_non, isi_str_lst, isi_str_bl, if_true_, if_false_, h1, Γf, e1, e2, le_size]⟩
def lp (a b c r : Int) (p1 p2 : Bool) : D := rf (if p1 then .at_ a else .by_ (a - c)) (if p2 then .at_ b else .by_ (b - r))
theorem lp_good {a b c r : Int} (h1 : a.natAbs < 900) (h2 : b.natAbs < 900) (h3 : c.natAbs < 900) (h4 : r.natAbs < 900) : (lp a b c r p1 p2).good = true ∧ (lp a b c r p1 p2).dep ≤ 2 ∧ (lp a b c r p1 p2).wgt ≤ 300 := by
  unfold lp
  refine rf_good ?_ ?_
  · cases p1 <;> simp [Pt.n] <;> omega
  · cases p2 <;> simp [Pt.n] <;> omega
theorem k13 {a b c r c0 r0 : Nat} (F : RF P d W tg m n T) (hP : P = pl c r) (h3 : slotD ρ 3 = some (pl a b)) (h4 : slotD ρ 4 = some (pl c0 r0)) (h5 : slotD ρ 5 = some P) (h8 : slotD ρ 8 = some d) (h14 : slotD ρ 14 = some (.tup [.bl p1, .bl p2])) (h15 : slotD ρ 15 = some (lp a b c r p1 p2))
    (ha : a < 26) (hb : b < 200) (hc : c < 26) (hr : r < 200) (hc0 : c0 < 26) (hr0 : r0 < 200) : evS Γ0 t13 ρ μ = some (.nx, ρ, μ) := by
  have e1 : run fs 19 11 [d, P, pl c0 r0, pl a b] μ = some (lp c0 r0 a b m n, μ) := told_two (k := 17) (F.mo 15 μ)
  have e2 : run fs 19 11 [d, P, .non, pl a b] μ = some (gone, μ) := told_none (k := 17)
  have e3 : run fs 19 24 [pl a b, pl c r, .tup [.bl p1, .bl p2]] μ = some (lp a b c r p1 p2, μ) := lref (k := 18)
  have e4 : run fs 19 24 [pl c0 r0, pl a b, .tup [.bl m, .bl n]] μ = some (lp c0 r0 a b m n, μ) := lref (k := 18)
  have e5 : run fs 19 26 [d] μ = _ := F.lm 16 μ
  have g1 := lp_good (p1 := p1) (p2 := p2) (a := (a : Int)) (b := (b : Int)) (c := (c : Int)) (r := (r : Int)) (by omega) (by omega) (by omega) (by omega)
  have g2 := lp_good (p1 := m) (p2 := n) (a := (c0 : Int)) (b := (r0 : Int)) (c := (a : Int)) (r := (b : Int)) (by omega) (by omega) (by omega) (by omega)
  unfold t13
  refine alike_if (d := .lst [lp a b c r p1 p2, lp c0 r0 a b m n, gone]) (μ1 := μ) ?_ ?_ (lst_good (fun z hz => ?_) (by simp))
  · generalize lp (a : Int) (b : Int) (c : Int) (r : Int) p1 p2 = X at *
    generalize lp (c0 : Int) (r0 : Int) (a : Int) (b : Int) m n = Y at *
    generalize gone = G at *
    generalize pl (a : Int) (b : Int) = A at *
    generalize pl (c0 : Int) (r0 : Int) = C at *
    simp [evE, evEs, evO, evC, evF, evSrc, evIn, evS, evSs, Option.bind_some, Option.map_some, Option.bind_none, Option.map_none, List.map_cons, List.map_nil, slot_c0, slot_cs, own_c0, own_cs, ownv_c0, ownv_cs, ownt_c0, tup_c0, tup_cs, view_int, view_str, view_bl, view_non, view_tup, view_lst, view_ty, view_fn, p_bin, p_neg, p_cmp, p_ix, p_len_tup, p_len_lst, p_abs, p_int, p_intb, p_isi, p_tuple_tup, p_tuple_lst, p_max, p_min, b_add_int, b_sub_int, c_lt, c_le, c_gt, c_ge, c_eq, c_ne, ix_tup, ix_lst, at0, at1, at2, at3, at4, at5, eq_int, eq_str, eq_bl, truD, set_c0, set_cs, setS_c, isi_tuple_tup, isi_tuple_lst, isi_tuple_str, isi_tuple_int, isi_tuple_non, isi_tuple_bl, isi_str_str, isi_str_tup, isi_str_int, isi_str_non, isi_str_lst, isi_str_bl, if_true_, if_false_, h3, h4, h5, h8, h15, Γf, e1, e2, le_size]
  · rw [← hP] at e3
    generalize lp (a : Int) (b : Int) (c : Int) (r : Int) p1 p2 = X at *
    generalize lp (c0 : Int) (r0 : Int) (a : Int) (b : Int) m n = Y at *
    generalize pl (a : Int) (b : Int) = A at *
    generalize pl (c0 : Int) (r0 : Int) = C at *
    simp [evE, evEs, evO, evC, evF, evSrc, evIn, evS, evSs, Option.bind_some, Option.map_some, Option.bind_none, Option.map_none, List.map_cons, List.map_nil, slot_c0, slot_cs, own_c0, own_cs, ownv_c0, ownv_cs, ownt_c0, tup_c0, tup_cs, view_int, view_str, view_bl, view_non, view_tup, view_lst, view_ty, view_fn, p_bin, p_neg, p_cmp, p_ix, p_len_tup, p_len_lst, p_abs, p_int, p_intb, p_isi, p_tuple_tup, p_tuple_lst, p_max, p_min, b_add_int, b_sub_int, c_lt, c_le, c_gt, c_ge, c_eq, c_ne, ix_tup, ix_lst, at0, at1, at2, at3, at4, at5, eq_int, eq_str, eq_bl, truD, set_c0, set_cs, setS_c, isi_tuple_tup, isi_tuple_lst, isi_tuple_str, isi_tuple_int, isi_tuple_non, isi_tuple_bl, isi_str_str, isi_str_tup, isi_str_int, isi_str_non, isi_str_lst, isi_str_bl, if_true_, if_false_, h3, h4, h5, h8, h14, Γf, e3, e4, e5, le_size, gone]
  · simp only [List.mem_cons, List.not_mem_nil, or_false] at hz
    rcases hz with rfl | rfl | rfl
    · exact sm g1
    · exact sm g2
    · exact sm gone_good
end
end FH.K02
end
section
namespace FH.K02
open PySem PySem.Spec PyProof.Rows L2
section
variable {ρ : Slots} {μ : Store} {cs : List D} {q : Nat × Nat × Nat × Nat} {d e P tg : D} {W : Option Str} {m n p1 p2 : Bool} {T : Str}
theorem prim2_ev {Γ : Env2} {a b : IE} {p : FH.P} {x y z : D} (ha : evE Γ a ρ μ = some (x, μ)) (hb : evE Γ b ρ μ = some (y, μ)) (hp : primD p [viewD μ x, viewD μ y] = some z) : evE Γ (.prim p (.cons a (.cons b .nil))) ρ μ = some (z, μ) := by
  simp only [evE, evEs, ha, hb, Option.bind_some, Option.map_some, List.map_cons, List.map_nil, hp]
theorem k12 {A X M : D} (h3 : slotD ρ 3 = some A) (h5 : slotD ρ 5 = some P) (h14 : slotD ρ 14 = some M) (e1 : run fs 19 9 [A, P, M] μ = some (X, μ)) : evE Γ0 (.call "ref_to" 9 (.cons (.var 3) (.cons (.var 5) (.cons (.var 14) .nil)))) ρ μ = some (X, μ) := by
  simp [evE, evEs, evO, evC, evF, evSrc, evIn, evS, evSs, Option.bind_some, Option.map_some, Option.bind_none, Option.map_none, List.map_cons, List.map_nil, slot_c0, slot_cs, own_c0, own_cs, ownv_c0, ownv_cs, ownt_c0, tup_c0, tup_cs, view_int, view_str, view_bl, view_non, view_tup, view_lst, view_ty, view_fn, p_bin, p_neg, p_cmp, p_ix, p_len_tup, p_len_lst, p_abs, p_int, p_intb, p_isi, p_tuple_tup, p_tuple_lst, p_max, p_min, b_add_int, b_sub_int, c_lt, c_le, c_gt, c_ge, c_eq, c_ne, ix_tup, ix_lst, at0, at1, at2, at3, at4, at5, eq_int, eq_str, eq_bl, truD, set_c0, set_cs, setS_c, isi_tuple_tup, isi_tuple_lst, isi_tuple_str, isi_tuple_int, isi_tuple_non, isi_tuple_bl, isi_str_str, isi_str_tup, isi_str_int, isi_str_non, isi_str_lst, isi_str_bl, if_true_, if_false_, h3, h5, h14, Γf, e1]
theorem k14 {L H X Y M : D} (h6 : slotD ρ 6 = some L) (h7 : slotD ρ 7 = some H) (h5 : slotD ρ 5 = some P) (h14 : slotD ρ 14 = some M) (e1 : run fs 19 24 [L, P, M] μ = some (X, μ)) (e2 : run fs 19 24 [H, P, M] μ = some (Y, μ)) :
    evE Γ0 (.tup (.cons (.call "_law_ref" 24 (.cons (.var 6) (.cons (.var 5) (.cons (.var 14) .nil)))) (.cons (.call "_law_ref" 24 (.cons (.var 7) (.cons (.var 5) (.cons (.var 14) .nil)))) .nil))) ρ μ = some (.tup [X, Y], μ) := by
  simp [evE, evEs, evO, evC, evF, evSrc, evIn, evS, evSs, Option.bind_some, Option.map_some, Option.bind_none, Option.map_none, List.map_cons, List.map_nil, slot_c0, slot_cs, own_c0, own_cs, ownv_c0, ownv_cs, ownt_c0, tup_c0, tup_cs, view_int, view_str, view_bl, view_non, view_tup, view_lst, view_ty, view_fn, p_bin, p_neg, p_cmp, p_ix, p_len_tup, p_len_lst, p_abs, p_int, p_intb, p_isi, p_tuple_tup, p_tuple_lst, p_max, p_min, b_add_int, b_sub_int, c_lt, c_le, c_gt, c_ge, c_eq, c_ne, ix_tup, ix_lst, at0, at1, at2, at3, at4, at5, eq_int, eq_str, eq_bl, truD, set_c0, set_cs, setS_c, isi_tuple_tup, isi_tuple_lst, isi_tuple_str, isi_tuple_int, isi_tuple_non, isi_tuple_bl, isi_str_str, isi_str_tup, isi_str_int, isi_str_non, isi_str_lst, isi_str_bl, if_true_, if_false_, h5, h6, h7, h14, Γf, e1, e2, le_size]
/-- the ends of a range lead back -/
theorem ends_ok {k : Nat} {a b c r : Nat} (ha : a < 26) (hb : b < 200) : run fs (k + 3) 7 [lp a b c r p1 p2, pl c r] μ = some (.non, μ) ∧ run fs (k + 3) 6 [lp a b c r p1 p2, pl c r] μ = some (pl a b, μ) := by
  have e1 := word_of (k := k + 1) (μ := μ) (x := if p1 then Pt.at_ (a : Int) else .by_ ((a : Int) - c)) (y := if p2 then Pt.at_ (b : Int) else .by_ ((b : Int) - r)) (c := c) (r := r)
  have e2 := points_at (k := k + 2) (μ := μ) (x := if p1 then Pt.at_ (a : Int) else .by_ ((a : Int) - c)) (y := if p2 then Pt.at_ (b : Int) else .by_ ((b : Int) - r)) (c := c) (r := r)
  have v1 : (if p1 then Pt.at_ (a : Int) else .by_ ((a : Int) - c)).v (c : Int) = (a : Int) := by cases p1 <;> simp [Pt.v] <;> omega
  have v2 : (if p2 then Pt.at_ (b : Int) else .by_ ((b : Int) - r)).v (r : Int) = (b : Int) := by cases p2 <;> simp [Pt.v] <;> omega
  have hi : inb (a : Int) (b : Int) = true := by unfold inb; simp; omega
  rw [v1, v2, hi] at e1 e2
  exact ⟨e1, e2⟩
theorem rp_fwd {c r : Nat} (hq : q ∈ combos) : run fs 19 8 [lp (q.1 : Nat) (q.2.1 : Nat) c r p1 p2, lp ((q.1 + q.2.2.1 : Nat) : Int) ((q.2.1 + q.2.2.2 : Nat) : Int) c r p1 p2, pl c r] μ = some (.tup (spr q), μ) := by
  have hb : q.1 + q.2.2.1 < 26 ∧ q.2.1 + q.2.2.2 < 200 := by
    obtain ⟨u, v, a, b⟩ := q
    simp only [combos, List.mem_flatMap, List.mem_map, List.mem_range] at hq
    obtain ⟨l0, h0, l1, h1, a', h2, b', h3, e⟩ := hq
    simp only [Prod.mk.injEq] at e
    obtain ⟨rfl, rfl, rfl, rfl⟩ := e
    constructor <;> simp <;> omega
  obtain ⟨a1, a2⟩ := ends_ok (k := 15) (μ := μ) (p1 := p1) (p2 := p2) (a := q.1) (b := q.2.1) (c := c) (r := r) (by omega) (by omega)
  obtain ⟨b1, b2⟩ := ends_ok (k := 15) (μ := μ) (p1 := p1) (p2 := p2) (a := q.1 + q.2.2.1) (b := q.2.1 + q.2.2.2) (c := c) (r := r) (by omega) (by omega)
  refine rp_both (k := 17) a1 b1 a2 b2 ?_
  rw [if_neg (by omega)]
  exact rect (k := 17) q hq
def bk (q : Nat × Nat × Nat × Nat) : D := if q.2.2.1 = 0 ∧ q.2.2.2 = 0 then .tup (spr q) else .str "out"
theorem rp_bwd {c r : Nat} (hq : q ∈ combos) : run fs 19 8 [lp ((q.1 + q.2.2.1 : Nat) : Int) ((q.2.1 + q.2.2.2 : Nat) : Int) c r p1 p2, lp (q.1 : Nat) (q.2.1 : Nat) c r p1 p2, pl c r] μ = some (bk q, μ) := by
  have hb : q.1 + q.2.2.1 < 26 ∧ q.2.1 + q.2.2.2 < 200 := by
    obtain ⟨u, v, a, b⟩ := q
    simp only [combos, List.mem_flatMap, List.mem_map, List.mem_range] at hq
    obtain ⟨l0, h0, l1, h1, a', h2, b', h3, e⟩ := hq
    simp only [Prod.mk.injEq] at e
    obtain ⟨rfl, rfl, rfl, rfl⟩ := e
    constructor <;> simp <;> omega
  obtain ⟨a1, a2⟩ := ends_ok (k := 15) (μ := μ) (p1 := p1) (p2 := p2) (a := q.1) (b := q.2.1) (c := c) (r := r) (by omega) (by omega)
  obtain ⟨b1, b2⟩ := ends_ok (k := 15) (μ := μ) (p1 := p1) (p2 := p2) (a := q.1 + q.2.2.1) (b := q.2.1 + q.2.2.2) (c := c) (r := r) (by omega) (by omega)
  refine rp_both (k := 17) b1 a1 b2 a2 ?_
  unfold bk
  by_cases hz : q.2.2.1 = 0 ∧ q.2.2.2 = 0
  · rw [if_neg (by omega), if_pos hz]
    have e := rect_back (k := 17) (μ := μ) q hq
    unfold back at e
    rw [if_pos hz] at e
    exact e
  · rw [if_pos (by omega), if_neg hz]
/-- the statement about ranges -/
theorem k15 {X Y S : D} (h16 : slotD ρ 16 = some (.tup [X, Y])) (h5 : slotD ρ 5 = some P) (h8 : slotD ρ 8 = some d) (h11 : slotD ρ 11 = some (wd W)) (h12 : slotD ρ 12 = some S) (e1 : run fs 19 8 [X, Y, P] μ = some (S, μ)) (e2 : run fs 19 8 [d, gone, P] μ = some (wd (some (W.getD "gone")), μ))
    (gS : Gs S ∧ S.dep ≤ 8 ∧ S.wgt ≤ 2500) (gW : Gs (wd (some (W.getD "gone"))) ∧ (wd (some (W.getD "gone"))).dep ≤ 8 ∧ (wd (some (W.getD "gone"))).wgt ≤ 2500) : evS Γ0 t15 ρ μ = some (.nx, ρ, μ) := by
  have c1 : evE Γ0 (.call "range_places" 8 (.cons (.prim .ix (.cons (.var 16) (.cons (.lit (.int 0)) .nil))) (.cons (.prim .ix (.cons (.var 16) (.cons (.lit (.int 1)) .nil))) (.cons (.var 5) .nil)))) ρ μ = some (S, μ) := by
    simp [evE, evEs, evO, evC, evF, evSrc, evIn, evS, evSs, Option.bind_some, Option.map_some, Option.bind_none, Option.map_none, List.map_cons, List.map_nil, slot_c0, slot_cs, own_c0, own_cs, ownv_c0, ownv_cs, ownt_c0, tup_c0, tup_cs, view_int, view_str, view_bl, view_non, view_tup, view_lst, view_ty, view_fn, p_bin, p_neg, p_cmp, p_ix, p_len_tup, p_len_lst, p_abs, p_int, p_intb, p_isi, p_tuple_tup, p_tuple_lst, p_max, p_min, b_add_int, b_sub_int, c_lt, c_le, c_gt, c_ge, c_eq, c_ne, ix_tup, ix_lst, at0, at1, at2, at3, at4, at5, eq_int, eq_str, eq_bl, truD, set_c0, set_cs, setS_c, isi_tuple_tup, isi_tuple_lst, isi_tuple_str, isi_tuple_int, isi_tuple_non, isi_tuple_bl, isi_str_str, isi_str_tup, isi_str_int, isi_str_non, isi_str_lst, isi_str_bl, if_true_, if_false_, h16, h5, Γf, e1]
  have c2 : evE Γ0 (.call "range_places" 8 (.cons (.var 8) (.cons (.tup (.cons (.lit (.str "gone")) .nil)) (.cons (.var 5) .nil)))) ρ μ = some (wd (some (W.getD "gone")), μ) := by
    unfold gone at e2
    simp [evE, evEs, evO, evC, evF, evSrc, evIn, evS, evSs, Option.bind_some, Option.map_some, Option.bind_none, Option.map_none, List.map_cons, List.map_nil, slot_c0, slot_cs, own_c0, own_cs, ownv_c0, ownv_cs, ownt_c0, tup_c0, tup_cs, view_int, view_str, view_bl, view_non, view_tup, view_lst, view_ty, view_fn, p_bin, p_neg, p_cmp, p_ix, p_len_tup, p_len_lst, p_abs, p_int, p_intb, p_isi, p_tuple_tup, p_tuple_lst, p_max, p_min, b_add_int, b_sub_int, c_lt, c_le, c_gt, c_ge, c_eq, c_ne, ix_tup, ix_lst, at0, at1, at2, at3, at4, at5, eq_int, eq_str, eq_bl, truD, set_c0, set_cs, setS_c, isi_tuple_tup, isi_tuple_lst, isi_tuple_str, isi_tuple_int, isi_tuple_non, isi_tuple_bl, isi_str_str, isi_str_tup, isi_str_int, isi_str_non, isi_str_lst, isi_str_bl, if_true_, if_false_, h8, h5, Γf, e2, le_size]
  have c3 : evE Γ0 (.cond (.prim (.cmp .IsNot) (.cons (.var 11) (.cons (.lit .non) .nil))) (.var 11) (.lit (.str "gone"))) ρ μ = some (wd (some (W.getD "gone")), μ) := by
    rw [cond_ev (μ' := μ) W.isSome (by simp [evE, evEs, evO, evC, evF, evSrc, evIn, evS, evSs, Option.bind_some, Option.map_some, Option.bind_none, Option.map_none, List.map_cons, List.map_nil, slot_c0, slot_cs, own_c0, own_cs, ownv_c0, ownv_cs, ownt_c0, tup_c0, tup_cs, view_int, view_str, view_bl, view_non, view_tup, view_lst, view_ty, view_fn, p_bin, p_neg, p_cmp, p_ix, p_len_tup, p_len_lst, p_abs, p_int, p_intb, p_isi, p_tuple_tup, p_tuple_lst, p_max, p_min, b_add_int, b_sub_int, c_lt, c_le, c_gt, c_ge, c_eq, c_ne, ix_tup, ix_lst, at0, at1, at2, at3, at4, at5, eq_int, eq_str, eq_bl, truD, set_c0, set_cs, setS_c, isi_tuple_tup, isi_tuple_lst, isi_tuple_str, isi_tuple_int, isi_tuple_non, isi_tuple_bl, isi_str_str, isi_str_tup, isi_str_int, isi_str_non, isi_str_lst, isi_str_bl, if_true_, if_false_, h11, vwd, notn])]
    cases W <;> simp [evE, evEs, evO, evC, evF, evSrc, evIn, evS, evSs, Option.bind_some, Option.map_some, Option.bind_none, Option.map_none, List.map_cons, List.map_nil, slot_c0, slot_cs, own_c0, own_cs, ownv_c0, ownv_cs, ownt_c0, tup_c0, tup_cs, view_int, view_str, view_bl, view_non, view_tup, view_lst, view_ty, view_fn, p_bin, p_neg, p_cmp, p_ix, p_len_tup, p_len_lst, p_abs, p_int, p_intb, p_isi, p_tuple_tup, p_tuple_lst, p_max, p_min, b_add_int, b_sub_int, c_lt, c_le, c_gt, c_ge, c_eq, c_ne, ix_tup, ix_lst, at0, at1, at2, at3, at4, at5, eq_int, eq_str, eq_bl, truD, set_c0, set_cs, setS_c, isi_tuple_tup, isi_tuple_lst, isi_tuple_str, isi_tuple_int, isi_tuple_non, isi_tuple_bl, isi_str_str, isi_str_tup, isi_str_int, isi_str_non, isi_str_lst, isi_str_bl, if_true_, if_false_, h11, wd]
  refine alike_if (d := .lst [S, wd (some (W.getD "gone"))]) (μ1 := μ) (disp2_ev c1 c2) (disp2_ev (by simp [evE, evEs, evO, evC, evF, evSrc, evIn, evS, evSs, Option.bind_some, Option.map_some, Option.bind_none, Option.map_none, List.map_cons, List.map_nil, slot_c0, slot_cs, own_c0, own_cs, ownv_c0, ownv_cs, ownt_c0, tup_c0, tup_cs, view_int, view_str, view_bl, view_non, view_tup, view_lst, view_ty, view_fn, p_bin, p_neg, p_cmp, p_ix, p_len_tup, p_len_lst, p_abs, p_int, p_intb, p_isi, p_tuple_tup, p_tuple_lst, p_max, p_min, b_add_int, b_sub_int, c_lt, c_le, c_gt, c_ge, c_eq, c_ne, ix_tup, ix_lst, at0, at1, at2, at3, at4, at5, eq_int, eq_str, eq_bl, truD, set_c0, set_cs, setS_c, isi_tuple_tup, isi_tuple_lst, isi_tuple_str, isi_tuple_int, isi_tuple_non, isi_tuple_bl, isi_str_str, isi_str_tup, isi_str_int, isi_str_non, isi_str_lst, isi_str_bl, if_true_, if_false_, h12]) c3) (lst_good (fun d hd => ?_) (by simp))
  simp only [List.mem_cons, List.not_mem_nil, or_false] at hd
  rcases hd with rfl | rfl
  · exact gS
  · exact gW
theorem k16 {X Y S L H : D} {z0 : Bool} (h16 : slotD ρ 16 = some (.tup [X, Y])) (h5 : slotD ρ 5 = some P) (h8 : slotD ρ 8 = some d) (h9 : slotD ρ 9 = some e) (h11 : slotD ρ 11 = some (wd W)) (h12 : slotD ρ 12 = some S) (h6 : slotD ρ 6 = some L) (h7 : slotD ρ 7 = some H)
    (e1 : ∀ w, W = some w → run fs 19 8 [d, e, P] μ = some (.str w, μ)) (e2 : run fs 19 8 [Y, X, P] μ = some (if z0 then S else .str "out", μ)) (eqh : eqD L H = some z0) (vL : viewD μ L = L) (vH : viewD μ H = H) (gS : Gs S) (vS : viewD μ S = S) : evS Γ0 t16 ρ μ = some (.nx, ρ, μ) := by
  have c1 : evE Γ0 (.andd (.prim (.cmp .IsNot) (.cons (.var 11) (.cons (.lit .non) .nil))) (.prim (.cmp .NotEq) (.cons (.call "range_places" 8 (.cons (.var 8) (.cons (.var 9) (.cons (.var 5) .nil)))) (.cons (.var 11) .nil)))) ρ μ = some (.bl false, μ) := by
    cases W with
    | none => simp [evE, evEs, evO, evC, evF, evSrc, evIn, evS, evSs, Option.bind_some, Option.map_some, Option.bind_none, Option.map_none, List.map_cons, List.map_nil, slot_c0, slot_cs, own_c0, own_cs, ownv_c0, ownv_cs, ownt_c0, tup_c0, tup_cs, view_int, view_str, view_bl, view_non, view_tup, view_lst, view_ty, view_fn, p_bin, p_neg, p_cmp, p_ix, p_len_tup, p_len_lst, p_abs, p_int, p_intb, p_isi, p_tuple_tup, p_tuple_lst, p_max, p_min, b_add_int, b_sub_int, c_lt, c_le, c_gt, c_ge, c_eq, c_ne, ix_tup, ix_lst, at0, at1, at2, at3, at4, at5, eq_int, eq_str, eq_bl, truD, set_c0, set_cs, setS_c, isi_tuple_tup, isi_tuple_lst, isi_tuple_str, isi_tuple_int, isi_tuple_non, isi_tuple_bl, isi_str_str, isi_str_tup, isi_str_int, isi_str_non, isi_str_lst, isi_str_bl, if_true_, if_false_, h11, wd, cmpD]
    | some w =>
      have e1 := e1 w rfl
      simp only [wd] at h11
      simp [evE, evEs, evO, evC, evF, evSrc, evIn, evS, evSs, Option.bind_some, Option.map_some, Option.bind_none, Option.map_none, List.map_cons, List.map_nil, slot_c0, slot_cs, own_c0, own_cs, ownv_c0, ownv_cs, ownt_c0, tup_c0, tup_cs, view_int, view_str, view_bl, view_non, view_tup, view_lst, view_ty, view_fn, p_bin, p_neg, p_cmp, p_ix, p_len_tup, p_len_lst, p_abs, p_int, p_intb, p_isi, p_tuple_tup, p_tuple_lst, p_max, p_min, b_add_int, b_sub_int, c_lt, c_le, c_gt, c_ge, c_eq, c_ne, ix_tup, ix_lst, at0, at1, at2, at3, at4, at5, eq_int, eq_str, eq_bl, truD, set_c0, set_cs, setS_c, isi_tuple_tup, isi_tuple_lst, isi_tuple_str, isi_tuple_int, isi_tuple_non, isi_tuple_bl, isi_str_str, isi_str_tup, isi_str_int, isi_str_non, isi_str_lst, isi_str_bl, if_true_, if_false_, h11, cmpD, h8, h9, h5, Γf, e1]
  have c2 : evE Γ0 (.cond (.prim (.cmp .Eq) (.cons (.var 6) (.cons (.var 7) .nil))) (.var 12) (.lit (.str "out"))) ρ μ = some (if z0 then S else .str "out", μ) := by
    rw [cond_ev (μ' := μ) z0 (by simp [evE, evEs, evO, evC, evF, evSrc, evIn, evS, evSs, Option.bind_some, Option.map_some, Option.bind_none, Option.map_none, List.map_cons, List.map_nil, slot_c0, slot_cs, own_c0, own_cs, ownv_c0, ownv_cs, ownt_c0, tup_c0, tup_cs, view_int, view_str, view_bl, view_non, view_tup, view_lst, view_ty, view_fn, p_bin, p_neg, p_cmp, p_ix, p_len_tup, p_len_lst, p_abs, p_int, p_intb, p_isi, p_tuple_tup, p_tuple_lst, p_max, p_min, b_add_int, b_sub_int, c_lt, c_le, c_gt, c_ge, c_eq, c_ne, ix_tup, ix_lst, at0, at1, at2, at3, at4, at5, eq_int, eq_str, eq_bl, truD, set_c0, set_cs, setS_c, isi_tuple_tup, isi_tuple_lst, isi_tuple_str, isi_tuple_int, isi_tuple_non, isi_tuple_bl, isi_str_str, isi_str_tup, isi_str_int, isi_str_non, isi_str_lst, isi_str_bl, if_true_, if_false_, h6, h7, eqh, vL, vH])]
    cases z0 <;> simp [evE, evEs, evO, evC, evF, evSrc, evIn, evS, evSs, Option.bind_some, Option.map_some, Option.bind_none, Option.map_none, List.map_cons, List.map_nil, slot_c0, slot_cs, own_c0, own_cs, ownv_c0, ownv_cs, ownt_c0, tup_c0, tup_cs, view_int, view_str, view_bl, view_non, view_tup, view_lst, view_ty, view_fn, p_bin, p_neg, p_cmp, p_ix, p_len_tup, p_len_lst, p_abs, p_int, p_intb, p_isi, p_tuple_tup, p_tuple_lst, p_max, p_min, b_add_int, b_sub_int, c_lt, c_le, c_gt, c_ge, c_eq, c_ne, ix_tup, ix_lst, at0, at1, at2, at3, at4, at5, eq_int, eq_str, eq_bl, truD, set_c0, set_cs, setS_c, isi_tuple_tup, isi_tuple_lst, isi_tuple_str, isi_tuple_int, isi_tuple_non, isi_tuple_bl, isi_str_str, isi_str_tup, isi_str_int, isi_str_non, isi_str_lst, isi_str_bl, if_true_, if_false_, h12]
  have c3 : evE Γ0 (.prim (.cmp .NotEq) (.cons (.call "range_places" 8 (.cons (.prim .ix (.cons (.var 16) (.cons (.lit (.int 1)) .nil))) (.cons (.prim .ix (.cons (.var 16) (.cons (.lit (.int 0)) .nil))) (.cons (.var 5) .nil)))) (.cons (.cond (.prim (.cmp .Eq) (.cons (.var 6) (.cons (.var 7) .nil))) (.var 12) (.lit (.str "out"))) .nil))) ρ μ = some (.bl false, μ) := by
    have er : eqD (if z0 then S else .str "out") (if z0 then S else .str "out") = some true := by
      cases z0
      · show eqD (.str "out") (.str "out") = some true
        exact eqD_refl (by decide +kernel) (by decide +kernel)
      · exact eqD_refl gS.1 (Nat.le_trans gS.2.1 (by decide))
    have vv : viewD μ (if z0 then S else .str "out") = (if z0 then S else .str "out") := by
      cases z0
      · rfl
      · exact vS
    have c0 : evE Γ0 (.call "range_places" 8 (.cons (.prim .ix (.cons (.var 16) (.cons (.lit (.int 1)) .nil))) (.cons (.prim .ix (.cons (.var 16) (.cons (.lit (.int 0)) .nil))) (.cons (.var 5) .nil)))) ρ μ = some (if z0 then S else .str "out", μ) := by
      simp [evE, evEs, evO, evC, evF, evSrc, evIn, evS, evSs, Option.bind_some, Option.map_some, Option.bind_none, Option.map_none, List.map_cons, List.map_nil, slot_c0, slot_cs, own_c0, own_cs, ownv_c0, ownv_cs, ownt_c0, tup_c0, tup_cs, view_int, view_str, view_bl, view_non, view_tup, view_lst, view_ty, view_fn, p_bin, p_neg, p_cmp, p_ix, p_len_tup, p_len_lst, p_abs, p_int, p_intb, p_isi, p_tuple_tup, p_tuple_lst, p_max, p_min, b_add_int, b_sub_int, c_lt, c_le, c_gt, c_ge, c_eq, c_ne, ix_tup, ix_lst, at0, at1, at2, at3, at4, at5, eq_int, eq_str, eq_bl, truD, set_c0, set_cs, setS_c, isi_tuple_tup, isi_tuple_lst, isi_tuple_str, isi_tuple_int, isi_tuple_non, isi_tuple_bl, isi_str_str, isi_str_tup, isi_str_int, isi_str_non, isi_str_lst, isi_str_bl, if_true_, if_false_, h16, h5, Γf, e2]
    exact prim2_ev c0 c2 (by rw [vv, p_cmp, c_ne, er]; rfl)
  unfold t16
  have cc : evE Γ0 (.orr (.andd (.prim (.cmp .IsNot) (.cons (.var 11) (.cons (.lit .non) .nil))) (.prim (.cmp .NotEq) (.cons (.call "range_places" 8 (.cons (.var 8) (.cons (.var 9) (.cons (.var 5) .nil)))) (.cons (.var 11) .nil)))) (.prim (.cmp .NotEq) (.cons (.call "range_places" 8 (.cons (.prim .ix (.cons (.var 16) (.cons (.lit (.int 1)) .nil))) (.cons (.prim .ix (.cons (.var 16) (.cons (.lit (.int 0)) .nil))) (.cons (.var 5) .nil)))) (.cons (.cond (.prim (.cmp .Eq) (.cons (.var 6) (.cons (.var 7) .nil))) (.var 12) (.lit (.str "out"))) .nil)))) ρ μ = some (.bl false, μ) := by
    rw [evE, c1, Option.bind_some]
    simp only [view_bl, truD, Option.bind_some, Bool.false_eq_true, if_false]
    exact c3
  rw [if_ev false cc]
  simp [evSs]
/-! the odd texts -/
def oddB : ISs := (.cons (.ifs (.nott (.call "_law_alike" 21 (.cons (.frz (.disp (.cons (.call "read_ref" 17 (.cons (.var 18) (.cons (.var 5) .nil))) (.cons (.call "read_place" 3 (.cons (.var 18) .nil)) .nil)))) (.cons (.frz (.disp (.cons (.call "_law_read_ref" 30 (.cons (.var 18) (.cons (.var 5) .nil))) (.cons (.call "_law_read_place" 33 (.cons (.var 18) .nil)) .nil)))) .nil)))) (.cons (.ret (.lit (.bl false))) .nil) .nil) (.cons (.set 19 (.call "_law_read_ref" 30 (.cons (.var 18) (.cons (.tup (.cons (.lit (.int 0)) (.cons (.lit (.int 0)) .nil))) .nil)))) (.cons (.ifs (.nott (.call "_law_alike" 21 (.cons (.call "read_ref" 17 (.cons (.var 18) (.cons (.lit .non) .nil))) (.cons (.cond (.andd (.prim (.cmp .IsNot) (.cons (.var 19) (.cons (.lit .non) .nil))) (.prim (.cmp .Eq) (.cons (.call "_law_marks" 26 (.cons (.var 19) .nil)) (.cons (.tup (.cons (.lit (.bl true)) (.cons (.lit (.bl true)) .nil))) .nil)))) (.var 19) (.lit .non)) .nil)))) (.cons (.ret (.lit (.bl false))) .nil) .nil) .nil)))
def oddC : ISs := (.cons (.set 19 (.call "_law_read_ref" 30 (.cons (.var 18) (.cons (.tup (.cons (.lit (.int 0)) (.cons (.lit (.int 0)) .nil))) .nil)))) (.cons (.ifs (.nott (.call "_law_alike" 21 (.cons (.call "read_ref" 17 (.cons (.var 18) (.cons (.lit .non) .nil))) (.cons (.cond (.andd (.prim (.cmp .IsNot) (.cons (.var 19) (.cons (.lit .non) .nil))) (.prim (.cmp .Eq) (.cons (.call "_law_marks" 26 (.cons (.var 19) .nil)) (.cons (.tup (.cons (.lit (.bl true)) (.cons (.lit (.bl true)) .nil))) .nil)))) (.var 19) (.lit .non)) .nil)))) (.cons (.ret (.lit (.bl false))) .nil) .nil) .nil))
def oddF : List D := [.non, .non, .non, .tup [by_ 0, by_ 0], .non, .tup [by_ 25, by_ 199], .non, .tup [at_ 1, at_ 2], .tup [by_ 1, at_ 2], .tup [at_ 1, by_ 2], .non, .non, .non, gone, .non, .tup [by_ 0, by_ 1], .non, .tup [at_ 25, at_ 199], .non, .non, .non, .non, .tup [by_ 999, by_ (-999)], .non, .non, .non, .non, .non]
theorem odd5 {x0 x1 x2 x3 x4 x5 x6 x7 x8 x9 x10 x11 x12 x13 x14 x15 x16 x17 x19 : Slot} :
    odds.map (fun t => evSs Γ0 oddC [x0, x1, x2, x3, x4, x5, x6, x7, x8, x9, x10, x11, x12, x13, x14, x15, x16, x17, .val (.str t), x19] μ) = (odds.zip oddF).map fun p => some (.nx, [x0, x1, x2, x3, x4, x5, x6, x7, x8, x9, x10, x11, x12, x13, x14, x15, x16, x17, .val (.str p.1), .val p.2], μ) := by kernel_rfl
theorem l20 {ρ : Slots} (h : ρ.length = 20) : ∃ x0 x1 x2 x3 x4 x5 x6 x7 x8 x9 x10 x11 x12 x13 x14 x15 x16 x17 x18 x19, ρ = [x0, x1, x2, x3, x4, x5, x6, x7, x8, x9, x10, x11, x12, x13, x14, x15, x16, x17, x18, x19] := by
  match ρ, h with
  | [x0, x1, x2, x3, x4, x5, x6, x7, x8, x9, x10, x11, x12, x13, x14, x15, x16, x17, x18, x19], _ => exact ⟨_, _, _, _, _, _, _, _, _, _, _, _, _, _, _, _, _, _, _, _, rfl⟩
end
end FH.K02
end
section
namespace FH.K02
open PySem PySem.Spec PyProof.Rows L2
section
variable {ρ : Slots} {μ : Store} {cs : List D}
theorem at_i {α β γ : Type} {l : List α} {m : List β} {f : α → γ} {g : β → γ} (h : l.map f = m.map g) {i : Nat} {t : α} {a : β} (ht : l[i]? = some t) (ha : m[i]? = some a) : f t = g a := by
  have := congrArg (fun z : List γ => z[i]?) h
  simpa [ht, ha] using this
theorem small_e {x : Pt} (h : x.n.natAbs < 2000) : x.e.good = true ∧ x.e.dep ≤ 2 ∧ x.e.wgt ≤ 300 := by
  obtain ⟨a, b, c⟩ := e_good h
  exact ⟨a, by omega, by omega⟩
theorem odd_good {c r : Nat} (hc : c < 26) (hr : r < 200) : ∀ d ∈ oddR c r, d.good = true ∧ d.dep ≤ 2 ∧ d.wgt ≤ 300 := by
  have nn : (D.non).good = true ∧ (D.non).dep ≤ 2 ∧ (D.non).wgt ≤ 300 := ⟨rfl, by decide, by decide⟩
  have two : ∀ x y : Pt, x.n.natAbs < 2000 → y.n.natAbs < 2000 → (D.tup [x.e, y.e]).good = true ∧ (D.tup [x.e, y.e]).dep ≤ 2 ∧ (D.tup [x.e, y.e]).wgt ≤ 300 := fun x y hx hy => rf_good hx hy
  intro d hd
  simp only [oddR, List.mem_cons, List.not_mem_nil, or_false] at hd
  rcases hd with rfl | rfl | rfl | rfl | rfl | rfl | rfl | rfl | rfl | rfl | rfl | rfl | rfl | rfl | rfl | rfl | rfl | rfl | rfl | rfl | rfl | rfl | rfl | rfl | rfl | rfl | rfl | rfl <;> first
    | exact nn
    | exact gone_good
    | exact two (.by_ _) (.by_ _) (by simp [Pt.n]; try omega) (by simp [Pt.n]; try omega)
    | exact two (.at_ _) (.at_ _) (by simp [Pt.n]; try omega) (by simp [Pt.n]; try omega)
    | exact two (.by_ _) (.at_ _) (by simp [Pt.n]; try omega) (by simp [Pt.n]; try omega)
    | exact two (.at_ _) (.by_ _) (by simp [Pt.n]; try omega) (by simp [Pt.n]; try omega)
theorem oddP_good : ∀ d ∈ oddP, d.good = true ∧ d.dep ≤ 2 ∧ d.wgt ≤ 300 := by decide +kernel
theorem odd_turn {c r i : Nat} {t : Str} (hl : ρ.length = 20) (h5 : slotD ρ 5 = some (pl c r)) (hc : c < 26) (hr : r < 200) (ht : odds[i]? = some t) : ∃ F, ((asgT (.nm 18) (.str t) ρ).bind fun ρ' => evSs Γ0 oddB ρ' μ) = some (.nx, (ρ.set 18 (.val (.str t))).set 19 (.val F), μ) := by
  have hi : i < 28 := (List.getElem?_eq_some_iff.mp ht).1
  have lR : (oddR (c : Int) (r : Int)).length = 28 := rfl
  have lP : oddP.length = 28 := rfl
  have lF : oddF.length = 28 := rfl
  obtain ⟨A, hA⟩ : ∃ A, (oddR (c : Int) (r : Int))[i]? = some A := ⟨_, List.getElem?_eq_getElem (by rw [lR]; exact hi)⟩
  obtain ⟨B, hB⟩ : ∃ B, oddP[i]? = some B := ⟨_, List.getElem?_eq_getElem (by rw [lP]; exact hi)⟩
  obtain ⟨F, hF⟩ : ∃ F, oddF[i]? = some F := ⟨_, List.getElem?_eq_getElem (by rw [lF]; exact hi)⟩
  have e1 : run fs 19 17 [.str t, pl c r] μ = some (A, μ) := at_i (odd1 (k := 14)) ht hA
  have e2 : run fs 19 30 [.str t, pl c r] μ = some (A, μ) := at_i (odd2 (k := 14)) ht hA
  have e3 : run fs 19 3 [.str t] μ = some (B, μ) := at_i (odd3 (k := 14)) ht hB
  have e4 : run fs 19 33 [.str t] μ = some (B, μ) := at_i (odd4 (k := 14)) ht hB
  have gA := odd_good hc hr A (List.mem_of_getElem? hA)
  have gB := oddP_good B (List.mem_of_getElem? hB)
  refine ⟨F, ?_⟩
  have as : asgT (.nm 18) (.str t) ρ = some (ρ.set 18 (.val (.str t))) := by simp [asgT, hl]
  rw [as, Option.bind_some]
  have v18 : slotD (ρ.set 18 (.val (.str t))) 18 = some (.str t) := slot_on (by omega)
  have v5 : slotD (ρ.set 18 (.val (.str t))) 5 = some (pl c r) := by rw [slot_off (by decide)]; exact h5
  have s1 : evS Γ0 (.ifs (.nott (.call "_law_alike" 21 (.cons (.frz (.disp (.cons (.call "read_ref" 17 (.cons (.var 18) (.cons (.var 5) .nil))) (.cons (.call "read_place" 3 (.cons (.var 18) .nil)) .nil)))) (.cons (.frz (.disp (.cons (.call "_law_read_ref" 30 (.cons (.var 18) (.cons (.var 5) .nil))) (.cons (.call "_law_read_place" 33 (.cons (.var 18) .nil)) .nil)))) .nil)))) (.cons (.ret (.lit (.bl false))) .nil) .nil) (ρ.set 18 (.val (.str t))) μ = some (.nx, ρ.set 18 (.val (.str t)), μ) := by
    generalize pl (c : Int) (r : Int) = P at *
    refine alike_if (d := .lst [A, B]) (μ1 := μ) (disp2_ev (μ1 := μ) (by simp [evE, evEs, evO, evC, evF, evSrc, evIn, evS, evSs, Option.bind_some, Option.map_some, Option.bind_none, Option.map_none, List.map_cons, List.map_nil, slot_c0, slot_cs, own_c0, own_cs, ownv_c0, ownv_cs, ownt_c0, tup_c0, tup_cs, view_int, view_str, view_bl, view_non, view_tup, view_lst, view_ty, view_fn, p_bin, p_neg, p_cmp, p_ix, p_len_tup, p_len_lst, p_abs, p_int, p_intb, p_isi, p_tuple_tup, p_tuple_lst, p_max, p_min, b_add_int, b_sub_int, c_lt, c_le, c_gt, c_ge, c_eq, c_ne, ix_tup, ix_lst, at0, at1, at2, at3, at4, at5, eq_int, eq_str, eq_bl, truD, set_c0, set_cs, setS_c, isi_tuple_tup, isi_tuple_lst, isi_tuple_str, isi_tuple_int, isi_tuple_non, isi_tuple_bl, isi_str_str, isi_str_tup, isi_str_int, isi_str_non, isi_str_lst, isi_str_bl, if_true_, if_false_, v18, v5, Γf, e1]) (by simp [evE, evEs, evO, evC, evF, evSrc, evIn, evS, evSs, Option.bind_some, Option.map_some, Option.bind_none, Option.map_none, List.map_cons, List.map_nil, slot_c0, slot_cs, own_c0, own_cs, ownv_c0, ownv_cs, ownt_c0, tup_c0, tup_cs, view_int, view_str, view_bl, view_non, view_tup, view_lst, view_ty, view_fn, p_bin, p_neg, p_cmp, p_ix, p_len_tup, p_len_lst, p_abs, p_int, p_intb, p_isi, p_tuple_tup, p_tuple_lst, p_max, p_min, b_add_int, b_sub_int, c_lt, c_le, c_gt, c_ge, c_eq, c_ne, ix_tup, ix_lst, at0, at1, at2, at3, at4, at5, eq_int, eq_str, eq_bl, truD, set_c0, set_cs, setS_c, isi_tuple_tup, isi_tuple_lst, isi_tuple_str, isi_tuple_int, isi_tuple_non, isi_tuple_bl, isi_str_str, isi_str_tup, isi_str_int, isi_str_non, isi_str_lst, isi_str_bl, if_true_, if_false_, v18, Γf, e3])) (disp2_ev (μ1 := μ) (by simp [evE, evEs, evO, evC, evF, evSrc, evIn, evS, evSs, Option.bind_some, Option.map_some, Option.bind_none, Option.map_none, List.map_cons, List.map_nil, slot_c0, slot_cs, own_c0, own_cs, ownv_c0, ownv_cs, ownt_c0, tup_c0, tup_cs, view_int, view_str, view_bl, view_non, view_tup, view_lst, view_ty, view_fn, p_bin, p_neg, p_cmp, p_ix, p_len_tup, p_len_lst, p_abs, p_int, p_intb, p_isi, p_tuple_tup, p_tuple_lst, p_max, p_min, b_add_int, b_sub_int, c_lt, c_le, c_gt, c_ge, c_eq, c_ne, ix_tup, ix_lst, at0, at1, at2, at3, at4, at5, eq_int, eq_str, eq_bl, truD, set_c0, set_cs, setS_c, isi_tuple_tup, isi_tuple_lst, isi_tuple_str, isi_tuple_int, isi_tuple_non, isi_tuple_bl, isi_str_str, isi_str_tup, isi_str_int, isi_str_non, isi_str_lst, isi_str_bl, if_true_, if_false_, v18, v5, Γf, e2]) (by simp [evE, evEs, evO, evC, evF, evSrc, evIn, evS, evSs, Option.bind_some, Option.map_some, Option.bind_none, Option.map_none, List.map_cons, List.map_nil, slot_c0, slot_cs, own_c0, own_cs, ownv_c0, ownv_cs, ownt_c0, tup_c0, tup_cs, view_int, view_str, view_bl, view_non, view_tup, view_lst, view_ty, view_fn, p_bin, p_neg, p_cmp, p_ix, p_len_tup, p_len_lst, p_abs, p_int, p_intb, p_isi, p_tuple_tup, p_tuple_lst, p_max, p_min, b_add_int, b_sub_int, c_lt, c_le, c_gt, c_ge, c_eq, c_ne, ix_tup, ix_lst, at0, at1, at2, at3, at4, at5, eq_int, eq_str, eq_bl, truD, set_c0, set_cs, setS_c, isi_tuple_tup, isi_tuple_lst, isi_tuple_str, isi_tuple_int, isi_tuple_non, isi_tuple_bl, isi_str_str, isi_str_tup, isi_str_int, isi_str_non, isi_str_lst, isi_str_bl, if_true_, if_false_, v18, Γf, e4])) (lst_good (fun d hd => ?_) (by simp))
    simp only [List.mem_cons, List.not_mem_nil, or_false] at hd
    rcases hd with rfl | rfl
    · exact sm gA
    · exact sm gB
  show evSs Γ0 (.cons _ oddC) _ _ = _
  rw [seq s1]
  obtain ⟨x0, x1, x2, x3, x4, x5, x6, x7, x8, x9, x10, x11, x12, x13, x14, x15, x16, x17, x18, x19, rfl⟩ := l20 hl
  have hz : (odds.zip oddF)[i]? = some (t, F) := by rw [List.getElem?_zip_eq_some]; exact ⟨ht, hF⟩
  exact at_i (odd5 (μ := μ) (x0 := x0) (x1 := x1) (x2 := x2) (x3 := x3) (x4 := x4) (x5 := x5) (x6 := x6) (x7 := x7) (x8 := x8) (x9 := x9) (x10 := x10) (x11 := x11) (x12 := x12) (x13 := x13) (x14 := x14) (x15 := x15) (x16 := x16) (x17 := x17) (x19 := x19)) ht hz
theorem odd_loop {c r : Nat} (hc : c < 26) (hr : r < 200) : ∀ (ts : List Str) (ρ : Slots), (∀ t ∈ ts, t ∈ odds) → ρ.length = 20 → slotD ρ 5 = some (pl c r) → ∃ ρ', loopF (fun x ρ μ => (asgT (.nm 18) x ρ).bind fun ρ' => evSs Γ0 oddB ρ' μ) (ts.map D.str) ρ μ = some (.nx, ρ', μ) ∧ ρ'.length = 20 ∧ slotD ρ' 1 = slotD ρ 1
  | [], ρ, _, hl, _ => ⟨ρ, rfl, hl, rfl⟩
  | t :: ts, ρ, ht, hl, h5 => by
    obtain ⟨i, hi, rfl⟩ := List.mem_iff_getElem.mp (ht t List.mem_cons_self)
    obtain ⟨F, e⟩ := odd_turn (μ := μ) hl h5 hc hr (List.getElem?_eq_getElem hi)
    obtain ⟨ρ', e', l', s'⟩ := odd_loop hc hr ts ((ρ.set 18 (.val (.str odds[i]))).set 19 (.val F)) (fun u hu => ht u (List.mem_cons_of_mem _ hu)) (by simp [hl]) (by rw [slot_off (by decide), slot_off (by decide)]; exact h5)
    refine ⟨ρ', ?_, l', by rw [s', slot_off (by decide), slot_off (by decide)]⟩
    rw [List.map_cons]
    unfold loopF
    rw [e]
    exact e'
theorem k17 : evE Γ0 (.frz (.disp (.cons (.lit (.str "")) (.cons (.lit (.str "a")) (.cons (.lit (.str "a0")) (.cons (.lit (.str "a1")) (.cons (.lit (.str "a01")) (.cons (.lit (.str "z200")) (.cons (.lit (.str "a201")) (.cons (.lit (.str "$b$3")) (.cons (.lit (.str "b$3")) (.cons (.lit (.str "$b3")) (.cons (.lit (.str "$$b3")) (.cons (.lit (.str "b3$")) (.cons (.lit (.str "B3")) (.cons (.lit (.str "#gone")) (.cons (.lit (.str "#gon")) (.cons (.lit (.str "[+0,+1]")) (.cons (.lit (.str "[-0,+1]")) (.cons (.lit (.str "[=25,=199]")) (.cons (.lit (.str "[=26,=0]")) .nil))))))))))))))))))))) ρ μ = some (.lst ((odds.take 19).map D.str), μ) := by kernel_rfl
theorem k18 (h : slotD ρ 17 = some (.lst ((odds.take 19).map D.str))) : evE Γ0 (.prim (.bin .Add) (.cons (.var 17) (.cons (.frz (.disp (.cons (.lit (.str "[+1]")) (.cons (.lit (.str "[+1,+1,+1]")) (.cons (.lit (.str "[1,+1]")) (.cons (.lit (.str "[+999,-999]")) (.cons (.lit (.str "[+1000,+0]")) (.cons (.lit (.str "[]")) (.cons (.lit (.str "ab3")) (.cons (.lit (.str "3")) (.cons (.lit (.str "[+01,+0]")) .nil))))))))))) .nil))) ρ μ = some (.lst (odds.map D.str), μ) := by
  have e2 : evE Γ0 (.frz (.disp (.cons (.lit (.str "[+1]")) (.cons (.lit (.str "[+1,+1,+1]")) (.cons (.lit (.str "[1,+1]")) (.cons (.lit (.str "[+999,-999]")) (.cons (.lit (.str "[+1000,+0]")) (.cons (.lit (.str "[]")) (.cons (.lit (.str "ab3")) (.cons (.lit (.str "3")) (.cons (.lit (.str "[+01,+0]")) .nil))))))))))) ρ μ = some (.lst ((odds.drop 19).map D.str), μ) := by kernel_rfl
  exact prim2_ev (x := .lst ((odds.take 19).map D.str)) (by simp only [evE, h, Option.map_some]) e2 (by kernel_rfl)
theorem lap (hl : ρ.length = 20) (h1 : slotD ρ 1 = some (.ref 0)) (hb : BagAt μ 0 cs) (ha : AllI cs) : ∃ ρ' μ', evSs Γ0 lapB ρ μ = some (.nx, ρ', μ') ∧ ρ'.length = 20 ∧ slotD ρ' 1 = some (.ref 0) ∧ BagAt μ' 0 cs := by
  -- the places
  obtain ⟨a, b, μ1, e1, st1, ha1, hb1⟩ := drawn_place (k := 16) hb ha
  have hb := hb.stir st1
  obtain ⟨c0, r0, μ2, e2, st2, hc0, hr0⟩ := drawn_place (k := 16) hb ha
  have hb := hb.stir st2
  obtain ⟨c, r, μ3, e3, st3, hc, hr⟩ := drawn_place (k := 16) hb ha
  have hb := hb.stir st3
  have e1 : run fs 19 31 [.ref 0] μ = some (pl a b, μ1) := e1
  have e2 : run fs 19 31 [.ref 0] μ1 = some (pl c0 r0, μ2) := e2
  have e3 : run fs 19 31 [.ref 0] μ2 = some (pl c r, μ3) := e3
  have s0 : evS Γ0 t0 ρ μ = some (.nx, ((ρ.set 3 (.val (pl a b))).set 4 (.val (pl c0 r0))).set 5 (.val (pl c r)), μ3) := by
    generalize pl (a : Int) (b : Int) = A at *
    generalize pl (c0 : Int) (r0 : Int) = B at *
    generalize pl (c : Int) (r : Int) = P at *
    simp [t0, evE, evEs, evO, evC, evF, evSrc, evIn, evS, evSs, Option.bind_some, Option.map_some, Option.bind_none, Option.map_none, List.map_cons, List.map_nil, slot_c0, slot_cs, own_c0, own_cs, ownv_c0, ownv_cs, ownt_c0, tup_c0, tup_cs, view_int, view_str, view_bl, view_non, view_tup, view_lst, view_ty, view_fn, p_bin, p_neg, p_cmp, p_ix, p_len_tup, p_len_lst, p_abs, p_int, p_intb, p_isi, p_tuple_tup, p_tuple_lst, p_max, p_min, b_add_int, b_sub_int, c_lt, c_le, c_gt, c_ge, c_eq, c_ne, ix_tup, ix_lst, at0, at1, at2, at3, at4, at5, eq_int, eq_str, eq_bl, truD, set_c0, set_cs, setS_c, isi_tuple_tup, isi_tuple_lst, isi_tuple_str, isi_tuple_int, isi_tuple_non, isi_tuple_bl, isi_str_str, isi_str_tup, isi_str_int, isi_str_non, isi_str_lst, isi_str_bl, if_true_, if_false_, h1, Γf, e1, e2, e3, hl]
  clear e1 e2 e3
  have v3 : slotD (((ρ.set 3 (.val (pl a b))).set 4 (.val (pl c0 r0))).set 5 (.val (pl c r))) 3 = some (pl a b) := by rw [slot_off (by decide), slot_off (by decide)]; exact slot_on (by omega)
  have v4 : slotD (((ρ.set 3 (.val (pl a b))).set 4 (.val (pl c0 r0))).set 5 (.val (pl c r))) 4 = some (pl c0 r0) := by rw [slot_off (by decide)]; exact slot_on (by simp; omega)
  have v5 : slotD (((ρ.set 3 (.val (pl a b))).set 4 (.val (pl c0 r0))).set 5 (.val (pl c r))) 5 = some (pl c r) := slot_on (by simp; omega)
  have v1 : slotD (((ρ.set 3 (.val (pl a b))).set 4 (.val (pl c0 r0))).set 5 (.val (pl c r))) 1 = some (.ref 0) := by rw [slot_off (by decide), slot_off (by decide), slot_off (by decide)]; exact h1
  have l1 : (((ρ.set 3 (.val (pl a b))).set 4 (.val (pl c0 r0))).set 5 (.val (pl c r))).length = 20 := by simp [hl]
  generalize ((ρ.set 3 (.val (pl a b))).set 4 (.val (pl c0 r0))).set 5 (.val (pl c r)) = ρ1 at s0 v3 v4 v5 v1 l1
  unfold lapB
  rw [seq s0, seq (k1 v3 v4 ha1 hb1 hc0 hr0)]
  -- the corners
  obtain ⟨u, v, hu, hv, _, _, e4⟩ := k2 (ρ := ρ1) (μ := μ3) v3
  have s2 := set_ev (i := 6) e4 (by omega)
  have s2 : evS Γ0 t2 ρ1 μ3 = _ := s2
  rw [seq s2]
  have w6 : slotD (ρ1.set 6 (.val (pl (u : Nat) (v : Nat)))) 6 = some (pl (u : Nat) (v : Nat)) := slot_on (by omega)
  have w1 : slotD (ρ1.set 6 (.val (pl (u : Nat) (v : Nat)))) 1 = some (.ref 0) := by rw [slot_off (by decide)]; exact v1
  have w3 : slotD (ρ1.set 6 (.val (pl (u : Nat) (v : Nat)))) 3 = some (pl a b) := by rw [slot_off (by decide)]; exact v3
  have w4 : slotD (ρ1.set 6 (.val (pl (u : Nat) (v : Nat)))) 4 = some (pl c0 r0) := by rw [slot_off (by decide)]; exact v4
  have w5 : slotD (ρ1.set 6 (.val (pl (u : Nat) (v : Nat)))) 5 = some (pl c r) := by rw [slot_off (by decide)]; exact v5
  have l2 : (ρ1.set 6 (.val (pl (u : Nat) (v : Nat)))).length = 20 := by simp [l1]
  generalize ρ1.set 6 (.val (pl (u : Nat) (v : Nat))) = ρ2 at w6 w1 w3 w4 w5 l2
  clear s2 e4 s0 v3 v4 v5 v1
  obtain ⟨du, dv, μ4, hdu, hdv, st4, e5⟩ := k3 (ρ := ρ2) hb ha w1 w6
  have hb := hb.stir st4
  have s3 : evS Γ0 t3 ρ2 μ3 = _ := set_ev (i := 7) e5 (by omega)
  rw [seq s3]
  have hq := in_combos hu hv hdu hdv
  have x7 : slotD (ρ2.set 7 (.val (pl ((u + du : Nat) : Int) ((v + dv : Nat) : Int)))) 7 = some (high (u, v, du, dv)) := slot_on (by omega)
  have x6 : slotD (ρ2.set 7 (.val (pl ((u + du : Nat) : Int) ((v + dv : Nat) : Int)))) 6 = some (low (u, v, du, dv)) := by rw [slot_off (by decide)]; exact w6
  have x1 : slotD (ρ2.set 7 (.val (pl ((u + du : Nat) : Int) ((v + dv : Nat) : Int)))) 1 = some (.ref 0) := by rw [slot_off (by decide)]; exact w1
  have x3 : slotD (ρ2.set 7 (.val (pl ((u + du : Nat) : Int) ((v + dv : Nat) : Int)))) 3 = some (pl a b) := by rw [slot_off (by decide)]; exact w3
  have x4 : slotD (ρ2.set 7 (.val (pl ((u + du : Nat) : Int) ((v + dv : Nat) : Int)))) 4 = some (pl c0 r0) := by rw [slot_off (by decide)]; exact w4
  have x5 : slotD (ρ2.set 7 (.val (pl ((u + du : Nat) : Int) ((v + dv : Nat) : Int)))) 5 = some (pl c r) := by rw [slot_off (by decide)]; exact w5
  have l3 : (ρ2.set 7 (.val (pl ((u + du : Nat) : Int) ((v + dv : Nat) : Int)))).length = 20 := by simp [l2]
  generalize ρ2.set 7 (.val (pl ((u + du : Nat) : Int) ((v + dv : Nat) : Int))) = ρ3 at x7 x6 x1 x3 x4 x5 l3
  clear s3 e5 w6 w1 w3 w4 w5
  generalize (u, v, du, dv) = q at hq x6 x7
  rw [seq (k4 hq x6 x7)]
  -- the refs
  obtain ⟨d, μ5, f1, st5, hd⟩ := drawn_ref (k := 16) hb ha
  have hb := hb.stir st5
  obtain ⟨e, μ6, f2, st6, he⟩ := drawn_ref (k := 16) hb ha
  have hb := hb.stir st6
  have f1 : run fs 19 32 [.ref 0] μ4 = some (d, μ5) := f1
  have f2 : run fs 19 32 [.ref 0] μ5 = some (e, μ6) := f2
  obtain ⟨W, tg, m, n, T, F⟩ := rf_of hc hr hd
  have s5 : evS Γ0 t5 ρ3 μ4 = some (.nx, (ρ3.set 8 (.val d)).set 9 (.val e), μ6) := by
    simp [t5, evE, evEs, evO, evC, evF, evSrc, evIn, evS, evSs, Option.bind_some, Option.map_some, Option.bind_none, Option.map_none, List.map_cons, List.map_nil, slot_c0, slot_cs, own_c0, own_cs, ownv_c0, ownv_cs, ownt_c0, tup_c0, tup_cs, view_int, view_str, view_bl, view_non, view_tup, view_lst, view_ty, view_fn, p_bin, p_neg, p_cmp, p_ix, p_len_tup, p_len_lst, p_abs, p_int, p_intb, p_isi, p_tuple_tup, p_tuple_lst, p_max, p_min, b_add_int, b_sub_int, c_lt, c_le, c_gt, c_ge, c_eq, c_ne, ix_tup, ix_lst, at0, at1, at2, at3, at4, at5, eq_int, eq_str, eq_bl, truD, set_c0, set_cs, setS_c, isi_tuple_tup, isi_tuple_lst, isi_tuple_str, isi_tuple_int, isi_tuple_non, isi_tuple_bl, isi_str_str, isi_str_tup, isi_str_int, isi_str_non, isi_str_lst, isi_str_bl, if_true_, if_false_, x1, Γf, f1, f2, l3]
  rw [seq s5]
  have g10 : evE Γ0 (.call "_law_points" 23 (.cons (.var 8) (.cons (.var 5) .nil))) ((ρ3.set 8 (.val d)).set 9 (.val e)) μ6 = some (tg, μ6) := by
    have e1 : run fs 19 23 [d, pl c r] μ6 = _ := F.lp 16 μ6
    have y8 : slotD ((ρ3.set 8 (.val d)).set 9 (.val e)) 8 = some d := by rw [slot_off (by decide)]; exact slot_on (by omega)
    have y5 : slotD ((ρ3.set 8 (.val d)).set 9 (.val e)) 5 = some (pl c r) := by rw [slot_off (by decide), slot_off (by decide)]; exact x5
    generalize pl (c : Int) (r : Int) = P at *
    simp [evE, evEs, evO, evC, evF, evSrc, evIn, evS, evSs, Option.bind_some, Option.map_some, Option.bind_none, Option.map_none, List.map_cons, List.map_nil, slot_c0, slot_cs, own_c0, own_cs, ownv_c0, ownv_cs, ownt_c0, tup_c0, tup_cs, view_int, view_str, view_bl, view_non, view_tup, view_lst, view_ty, view_fn, p_bin, p_neg, p_cmp, p_ix, p_len_tup, p_len_lst, p_abs, p_int, p_intb, p_isi, p_tuple_tup, p_tuple_lst, p_max, p_min, b_add_int, b_sub_int, c_lt, c_le, c_gt, c_ge, c_eq, c_ne, ix_tup, ix_lst, at0, at1, at2, at3, at4, at5, eq_int, eq_str, eq_bl, truD, set_c0, set_cs, setS_c, isi_tuple_tup, isi_tuple_lst, isi_tuple_str, isi_tuple_int, isi_tuple_non, isi_tuple_bl, isi_str_str, isi_str_tup, isi_str_int, isi_str_non, isi_str_lst, isi_str_bl, if_true_, if_false_, y8, y5, Γf, e1]
  have s6 : evS Γ0 t6 ((ρ3.set 8 (.val d)).set 9 (.val e)) μ6 = some (.nx, ((ρ3.set 8 (.val d)).set 9 (.val e)).set 10 (.val tg), μ6) := set_ev (i := 10) g10 (by simp; omega)
  rw [seq s6]
  have s7 : evS Γ0 t7 (((ρ3.set 8 (.val d)).set 9 (.val e)).set 10 (.val tg)) μ6 = some (.nx, (((ρ3.set 8 (.val d)).set 9 (.val e)).set 10 (.val tg)).set 11 (.val (wd W)), μ6) := set_ev (i := 11) (k7 F (slot_on (by simp; omega))) (by simp; omega)
  rw [seq s7]
  have gs : evE Γ0 (.call "_law_spread" 25 (.cons (.var 6) (.cons (.var 7) .nil))) ((((ρ3.set 8 (.val d)).set 9 (.val e)).set 10 (.val tg)).set 11 (.val (wd W))) μ6 = some (.tup (spr q), μ6) :=
    k4e (by rw [slot_off (by decide), slot_off (by decide), slot_off (by decide), slot_off (by decide)]; exact x6) (by rw [slot_off (by decide), slot_off (by decide), slot_off (by decide), slot_off (by decide)]; exact x7) (lspread (k := 18) q hq)
  have s8 : evS Γ0 t8 ((((ρ3.set 8 (.val d)).set 9 (.val e)).set 10 (.val tg)).set 11 (.val (wd W))) μ6 = some (.nx, ((((ρ3.set 8 (.val d)).set 9 (.val e)).set 10 (.val tg)).set 11 (.val (wd W))).set 12 (.val (.tup (spr q))), μ6) := set_ev (i := 12) gs (by simp; omega)
  rw [seq s8]
  have z8 : slotD (((((ρ3.set 8 (.val d)).set 9 (.val e)).set 10 (.val tg)).set 11 (.val (wd W))).set 12 (.val (.tup (spr q)))) 8 = some d := by rw [slot_off (by decide), slot_off (by decide), slot_off (by decide), slot_off (by decide)]; exact slot_on (by omega)
  have z9 : slotD (((((ρ3.set 8 (.val d)).set 9 (.val e)).set 10 (.val tg)).set 11 (.val (wd W))).set 12 (.val (.tup (spr q)))) 9 = some e := by rw [slot_off (by decide), slot_off (by decide), slot_off (by decide)]; exact slot_on (by simp; omega)
  have z10 : slotD (((((ρ3.set 8 (.val d)).set 9 (.val e)).set 10 (.val tg)).set 11 (.val (wd W))).set 12 (.val (.tup (spr q)))) 10 = some tg := by rw [slot_off (by decide), slot_off (by decide)]; exact slot_on (by simp; omega)
  have z11 : slotD (((((ρ3.set 8 (.val d)).set 9 (.val e)).set 10 (.val tg)).set 11 (.val (wd W))).set 12 (.val (.tup (spr q)))) 11 = some (wd W) := by rw [slot_off (by decide)]; exact slot_on (by simp; omega)
  have z12 : slotD (((((ρ3.set 8 (.val d)).set 9 (.val e)).set 10 (.val tg)).set 11 (.val (wd W))).set 12 (.val (.tup (spr q)))) 12 = some (.tup (spr q)) := slot_on (by simp; omega)
  have zz : ∀ i, i < 8 → slotD (((((ρ3.set 8 (.val d)).set 9 (.val e)).set 10 (.val tg)).set 11 (.val (wd W))).set 12 (.val (.tup (spr q)))) i = slotD ρ3 i := fun i hi => by rw [slot_off (by omega), slot_off (by omega), slot_off (by omega), slot_off (by omega), slot_off (by omega)]
  have l4 : (((((ρ3.set 8 (.val d)).set 9 (.val e)).set 10 (.val tg)).set 11 (.val (wd W))).set 12 (.val (.tup (spr q)))).length = 20 := by simp [l3]
  generalize ((((ρ3.set 8 (.val d)).set 9 (.val e)).set 10 (.val tg)).set 11 (.val (wd W))).set 12 (.val (.tup (spr q))) = ρ4 at z8 z9 z10 z11 z12 zz l4
  clear s5 s6 s7 s8 gs g10 f1 f2
  have z1 := (zz 1 (by decide)).trans x1
  have z3 := (zz 3 (by decide)).trans x3
  have z4 := (zz 4 (by decide)).trans x4
  have z5 := (zz 5 (by decide)).trans x5
  have z6 := (zz 6 (by decide)).trans x6
  have z7 := (zz 7 (by decide)).trans x7
  clear zz x1 x3 x4 x5 x6 x7
  have s9 : evS Γ0 t9 ρ4 μ6 = some (.nx, ρ4.set 13 (.val (fnd W tg m n T d)), μ6) := set_ev (i := 13) (k9 F z5 z8) (by omega)
  rw [seq s9]
  have o : ∀ i, i < 13 → slotD (ρ4.set 13 (.val (fnd W tg m n T d))) i = slotD ρ4 i := fun i hi => slot_off (by omega)
  have s10 : evS Γ0 t10 (ρ4.set 13 (.val (fnd W tg m n T d))) μ6 = _ := k10 F ((o 5 (by decide)).trans z5) ((o 8 (by decide)).trans z8) ((o 10 (by decide)).trans z10) ((o 11 (by decide)).trans z11) (slot_on (by omega))
  rw [seq s10]
  have l5 : (ρ4.set 13 (.val (fnd W tg m n T d))).length = 20 := by simp [l4]
  have y1 := (o 1 (by decide)).trans z1
  have y3 := (o 3 (by decide)).trans z3
  have y4 := (o 4 (by decide)).trans z4
  have y5 := (o 5 (by decide)).trans z5
  have y6 := (o 6 (by decide)).trans z6
  have y7 := (o 7 (by decide)).trans z7
  have y8 := (o 8 (by decide)).trans z8
  have y9 := (o 9 (by decide)).trans z9
  have y11 := (o 11 (by decide)).trans z11
  have y12 := (o 12 (by decide)).trans z12
  clear o
  generalize ρ4.set 13 (.val (fnd W tg m n T d)) = ρ5 at y1 y3 y4 y5 y6 y7 y8 y9 y11 y12 l5
  clear s9 s10 z1 z3 z4 z5 z6 z7 z8 z9 z10 z11 z12
  -- the marks
  obtain ⟨p1, p2, μ7, st7, g11⟩ := k11 (ρ := ρ5) hb ha y1
  have hb := hb.stir st7
  have s11 : evS Γ0 t11 ρ5 μ6 = some (.nx, ρ5.set 14 (.val (.tup [.bl p1, .bl p2])), μ7) := set_ev (i := 14) g11 (by omega)
  rw [seq s11]
  have o : ∀ i, i < 14 → slotD (ρ5.set 14 (.val (.tup [.bl p1, .bl p2]))) i = slotD ρ5 i := fun i hi => slot_off (by omega)
  have i14 : slotD (ρ5.set 14 (.val (.tup [.bl p1, .bl p2]))) 14 = some (.tup [.bl p1, .bl p2]) := slot_on (by omega)
  have g12 : evE Γ0 (.call "ref_to" 9 (.cons (.var 3) (.cons (.var 5) (.cons (.var 14) .nil)))) (ρ5.set 14 (.val (.tup [.bl p1, .bl p2]))) μ7 = some (lp a b c r p1 p2, μ7) := k12 ((o 3 (by decide)).trans y3) ((o 5 (by decide)).trans y5) i14 (ref_to (k := 18))
  have s12 : evS Γ0 t12 (ρ5.set 14 (.val (.tup [.bl p1, .bl p2]))) μ7 = some (.nx, (ρ5.set 14 (.val (.tup [.bl p1, .bl p2]))).set 15 (.val (lp a b c r p1 p2)), μ7) := set_ev (i := 15) g12 (by simp; omega)
  rw [seq s12]
  have o2 : ∀ i, i < 14 → slotD ((ρ5.set 14 (.val (.tup [.bl p1, .bl p2]))).set 15 (.val (lp a b c r p1 p2))) i = slotD ρ5 i := fun i hi => by rw [slot_off (by omega), slot_off (by omega)]
  have j14 : slotD ((ρ5.set 14 (.val (.tup [.bl p1, .bl p2]))).set 15 (.val (lp a b c r p1 p2))) 14 = some (.tup [.bl p1, .bl p2]) := by rw [slot_off (by decide)]; exact i14
  have s13 : evS Γ0 t13 ((ρ5.set 14 (.val (.tup [.bl p1, .bl p2]))).set 15 (.val (lp a b c r p1 p2))) μ7 = _ := k13 F rfl ((o2 3 (by decide)).trans y3) ((o2 4 (by decide)).trans y4) ((o2 5 (by decide)).trans y5) ((o2 8 (by decide)).trans y8) j14 (slot_on (by simp; omega)) ha1 hb1 hc hr hc0 hr0
  rw [seq s13]
  have l6 : ((ρ5.set 14 (.val (.tup [.bl p1, .bl p2]))).set 15 (.val (lp a b c r p1 p2))).length = 20 := by simp [l5]
  generalize (ρ5.set 14 (.val (.tup [.bl p1, .bl p2]))).set 15 (.val (lp a b c r p1 p2)) = ρ6 at o2 j14 l6
  clear s11 s12 s13 g11 g12 o i14
  have w1 := (o2 1 (by decide)).trans y1
  have w5 := (o2 5 (by decide)).trans y5
  have w6 := (o2 6 (by decide)).trans y6
  have w7 := (o2 7 (by decide)).trans y7
  have w8 := (o2 8 (by decide)).trans y8
  have w9 := (o2 9 (by decide)).trans y9
  have w11 := (o2 11 (by decide)).trans y11
  have w12 := (o2 12 (by decide)).trans y12
  clear o2 y1 y3 y4 y5 y6 y7 y8 y9 y11 y12
  -- the ends
  have g14 := k14 (ρ := ρ6) (μ := μ7) (X := lp (q.1 : Nat) (q.2.1 : Nat) c r p1 p2) (Y := lp ((q.1 + q.2.2.1 : Nat) : Int) ((q.2.1 + q.2.2.2 : Nat) : Int) c r p1 p2) w6 w7 w5 j14 (lref (k := 18)) (lref (k := 18))
  have s14 : evS Γ0 t14 ρ6 μ7 = some (.nx, ρ6.set 16 (.val (.tup [lp (q.1 : Nat) (q.2.1 : Nat) c r p1 p2, lp ((q.1 + q.2.2.1 : Nat) : Int) ((q.2.1 + q.2.2.2 : Nat) : Int) c r p1 p2])), μ7) := set_ev (i := 16) g14 (by omega)
  rw [seq s14]
  have r1 := rp_fwd (μ := μ7) (p1 := p1) (p2 := p2) (c := c) (r := r) hq
  have r2 := rp_bwd (μ := μ7) (p1 := p1) (p2 := p2) (c := c) (r := r) hq
  generalize lp (q.1 : Nat) (q.2.1 : Nat) c r p1 p2 = X at r1 r2 s14 g14 ⊢
  generalize lp ((q.1 + q.2.2.1 : Nat) : Int) ((q.2.1 + q.2.2.2 : Nat) : Int) c r p1 p2 = Y at r1 r2 s14 g14 ⊢
  have o3 : ∀ i, i < 16 → slotD (ρ6.set 16 (.val (.tup [X, Y]))) i = slotD ρ6 i := fun i hi => slot_off (by omega)
  have i16 : slotD (ρ6.set 16 (.val (.tup [X, Y]))) 16 = some (.tup [X, Y]) := slot_on (by omega)
  have gone2 : run fs 19 8 [d, gone, pl c r] μ7 = some (wd (some (W.getD "gone")), μ7) := by
    cases W with
    | none => exact rp_second (k := 17) (F.wo 15 μ7) (word_gone (k := 17))
    | some w => exact rp_first (k := 17) (F.wo 15 μ7)
  have gW : Gs (wd (some (W.getD "gone"))) ∧ (wd (some (W.getD "gone"))).dep ≤ 8 ∧ (wd (some (W.getD "gone"))).wgt ≤ 2500 := by
    cases W with
    | none => exact sm ⟨by decide +kernel, by decide +kernel, by decide +kernel⟩
    | some w => exact sm F.wg
  have s15 : evS Γ0 t15 (ρ6.set 16 (.val (.tup [X, Y]))) μ7 = _ := k15 i16 ((o3 5 (by decide)).trans w5) ((o3 8 (by decide)).trans w8) ((o3 11 (by decide)).trans w11) ((o3 12 (by decide)).trans w12) r1 gone2 (sm_spr hq) gW
  rw [seq s15]
  have eqh : eqD (low q) (high q) = some (decide (q.2.2.1 = 0 ∧ q.2.2.2 = 0)) := by
    have hd : decide ((q.1 : Int) = ((q.1 + q.2.2.1 : Nat) : Int) ∧ (q.2.1 : Int) = ((q.2.1 + q.2.2.2 : Nat) : Int)) = decide (q.2.2.1 = 0 ∧ q.2.2.2 = 0) := by
      rw [Bool.eq_iff_iff]
      simp only [decide_eq_true_eq]
      omega
    rw [← hd]
    exact eq_pl
  have r3 : run fs 19 8 [Y, X, pl c r] μ7 = some (if decide (q.2.2.1 = 0 ∧ q.2.2.2 = 0) then .tup (spr q) else .str "out", μ7) := by
    rw [r2]; unfold bk
    by_cases hz : q.2.2.1 = 0 ∧ q.2.2.2 = 0
    · simp [hz]
    · simp [hz]
  have s16 : evS Γ0 t16 (ρ6.set 16 (.val (.tup [X, Y]))) μ7 = _ := k16 i16 ((o3 5 (by decide)).trans w5) ((o3 8 (by decide)).trans w8) ((o3 9 (by decide)).trans w9) ((o3 11 (by decide)).trans w11) ((o3 12 (by decide)).trans w12) ((o3 6 (by decide)).trans w6) ((o3 7 (by decide)).trans w7)
    (fun w hw => by subst hw; exact rp_first (k := 17) (F.wo 15 μ7)) r3 eqh rfl rfl (sm_spr hq).1 rfl
  rw [seq s16]
  have l7 : (ρ6.set 16 (.val (.tup [X, Y]))).length = 20 := by simp [l6]
  have v1 := (o3 1 (by decide)).trans w1
  have v5 := (o3 5 (by decide)).trans w5
  generalize ρ6.set 16 (.val (.tup [X, Y])) = ρ7 at v1 v5 l7
  clear s14 s15 s16 r1 r2 r3 g14 o3 i16 w1 w5 w6 w7 w8 w9 w11 w12
  -- the odd texts
  have s17 : evS Γ0 t17 ρ7 μ7 = some (.nx, ρ7.set 17 (.val (.lst ((odds.take 19).map D.str))), μ7) := set_ev (i := 17) k17 (by omega)
  rw [seq s17]
  have s18 : evS Γ0 t18 (ρ7.set 17 (.val (.lst ((odds.take 19).map D.str)))) μ7 = some (.nx, (ρ7.set 17 (.val (.lst ((odds.take 19).map D.str)))).set 17 (.val (.lst (odds.map D.str))), μ7) := set_ev (i := 17) (k18 (slot_on (by omega))) (by simp; omega)
  rw [seq s18, one]
  have q17 : slotD ((ρ7.set 17 (.val (.lst ((odds.take 19).map D.str)))).set 17 (.val (.lst (odds.map D.str)))) 17 = some (.lst (odds.map D.str)) := slot_on (by simp; omega)
  have q5 : slotD ((ρ7.set 17 (.val (.lst ((odds.take 19).map D.str)))).set 17 (.val (.lst (odds.map D.str)))) 5 = some (pl c r) := by rw [slot_off (by decide), slot_off (by decide)]; exact v5
  have q1' : slotD ((ρ7.set 17 (.val (.lst ((odds.take 19).map D.str)))).set 17 (.val (.lst (odds.map D.str)))) 1 = some (.ref 0) := by rw [slot_off (by decide), slot_off (by decide)]; exact v1
  have l8 : ((ρ7.set 17 (.val (.lst ((odds.take 19).map D.str)))).set 17 (.val (.lst (odds.map D.str)))).length = 20 := by simp [l7]
  generalize (ρ7.set 17 (.val (.lst ((odds.take 19).map D.str)))).set 17 (.val (.lst (odds.map D.str))) = ρ8 at q17 q5 q1' l8
  have src : evSrc Γ0 (.it (.var 17)) ρ8 μ7 = some (.items (odds.map D.str), μ7) := by
    simp only [evSrc, evE, q17, Option.map_some, Option.bind_some, itemsD]
  obtain ⟨ρ9, e9, l9, s9⟩ := odd_loop (μ := μ7) hc hr odds ρ8 (fun t h => h) l8 q5
  refine ⟨ρ9, μ7, ?_, l9, by rw [s9]; exact q1', hb⟩
  unfold t19
  simp only [evS, src, Option.bind_some]
  exact e9
theorem laps (ha : AllI cs) : ∀ (ds : List D) (ρ : Slots) (μ : Store), ρ.length = 20 → slotD ρ 1 = some (.ref 0) → BagAt μ 0 cs → ∃ ρ' μ', loopF (fun x ρ μ => (asgT (.nm 2) x ρ).bind fun ρ' => evSs Γ0 lapB ρ' μ) ds ρ μ = some (.nx, ρ', μ') ∧ ρ'.length = 20
  | [], ρ, μ, hl, _, _ => ⟨ρ, μ, rfl, hl⟩
  | d :: ds, ρ, μ, hl, h1, hb => by
    have a : asgT (.nm 2) d ρ = some (ρ.set 2 (.val d)) := by simp [asgT, hl]
    unfold loopF
    rw [a, Option.bind_some]
    obtain ⟨ρ2, μ2, e, l2, h2, b2⟩ := lap (ρ := ρ.set 2 (.val d)) (by simp [hl]) (by rw [slot_off (by decide)]; exact h1) hb ha
    rw [e]
    exact laps ha ds ρ2 μ2 l2 h2 b2
end
theorem plain (ns : List Int) (hn : ns.length ≤ 63) : ∃ μ, run fs 20 34 [.lst (ns.map .int)] [] = some (.bl true, μ) := by
  obtain ⟨cs, e, ha⟩ := bag_at (fs := fs) (b := 18) (k := 18) (μ := []) (ns := ns) (i := 0) rfl hn
  have e : run fs 19 18 [.lst (ns.map .int)] [] = some (.ref 0, [bagC 0 1234567891 0 cs]) := e
  rw [run_eq (k := 19) (F := ⟨1, 20, b34⟩) rfl rfl, b34_eq]
  show ∃ μ, retOf (evSs Γ0 _ _ _) = _
  have hl : (start0 ⟨1, 20, (.cons wBag (.cons wLap (.cons wRet .nil)))⟩ [.lst (ns.map .int)]).length = 20 := by simp [start0]
  have h0 : slotD (start0 ⟨1, 20, (.cons wBag (.cons wLap (.cons wRet .nil)))⟩ [.lst (ns.map .int)]) 0 = some (.lst (ns.map .int)) := rfl
  generalize start0 ⟨1, 20, (.cons wBag (.cons wLap (.cons wRet .nil)))⟩ [.lst (ns.map .int)] = ρ at hl h0
  have s1 : evS Γ0 wBag ρ [] = some (.nx, ρ.set 1 (.val (.ref 0)), [bagC 0 1234567891 0 cs]) :=
    set_ev (by simp [evE, evEs, evO, evC, evF, evSrc, evIn, evS, evSs, Option.bind_some, Option.map_some, Option.bind_none, Option.map_none, List.map_cons, List.map_nil, slot_c0, slot_cs, own_c0, own_cs, ownv_c0, ownv_cs, ownt_c0, tup_c0, tup_cs, view_int, view_str, view_bl, view_non, view_tup, view_lst, view_ty, view_fn, p_bin, p_neg, p_cmp, p_ix, p_len_tup, p_len_lst, p_abs, p_int, p_intb, p_isi, p_tuple_tup, p_tuple_lst, p_max, p_min, b_add_int, b_sub_int, c_lt, c_le, c_gt, c_ge, c_eq, c_ne, ix_tup, ix_lst, at0, at1, at2, at3, at4, at5, eq_int, eq_str, eq_bl, truD, set_c0, set_cs, setS_c, isi_tuple_tup, isi_tuple_lst, isi_tuple_str, isi_tuple_int, isi_tuple_non, isi_tuple_bl, isi_str_str, isi_str_tup, isi_str_int, isi_str_non, isi_str_lst, isi_str_bl, if_true_, if_false_, h0, Γf, e]) (by omega)
  rw [seq s1]
  have src : ∀ ρ μ, evSrc Γ0 (.range1 (.lit (.int 20))) ρ μ = some (.items (rangeD 0 20), μ) := fun ρ μ => by
    unfold evSrc
    simp only [evE, Option.bind_some]
    rw [if_pos (by decide)]; rfl
  obtain ⟨ρ2, μ2, e2, l2⟩ := laps ha (rangeD 0 20) (ρ.set 1 (.val (.ref 0))) [bagC 0 1234567891 0 cs] (by simp [hl]) (slot_on (by omega)) ⟨0, 1234567891, 0, rfl⟩
  have s2 : evS Γ0 wLap (ρ.set 1 (.val (.ref 0))) [bagC 0 1234567891 0 cs] = some (.nx, ρ2, μ2) := by
    unfold wLap
    simp only [evS, src, Option.bind_some]
    exact e2
  rw [seq s2]
  exact ⟨μ2, rfl⟩
end FH.K02
end
open PySem PySem.W PyProof.Rows
set_option maxHeartbeats 0 in
theorem PySem.Challenge.cw_formulahall_k02_whole_places_and_refs_holds : PySem.Challenge.rw_formulahall_k02_whole_places_and_refs.Holds := by
  w_on; o_law; k_head; (case hw => w_witness2)
  k_fill
  refine FH.walk_fh (l := PySem.Challenge.rw_formulahall_k02_whole_places_and_refs) (n := 63) (T := FH.K02.prg.T) (fs := FH.K02.prg.fs) (k := 20) (i := 34) rfl (by decide) rfl ⟨rfl, by decide, by decide⟩ ?F FH.K02.plain
  case F =>
    intro w mg fa h Y G name
    exact FH.head_fh (P := FH.K02.prg) (x := "law") FH.K02.at_ok FH.K02.ok_ok FH.K02.bnd_ok (FH.fnG_ok (by decide +kernel)) (PySem.W.kIn_of Y) G name (by show He.obsT _ _ _ _ = He.valT _ _ _; kernel_rfl) (by kernel_rfl)
