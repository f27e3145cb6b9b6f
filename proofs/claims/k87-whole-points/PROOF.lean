import PyProof.Rows.All
import Wide.All
import OpenK.AllK
import Wide.FinOn
import HandS.ForMost
import HandS.RepeatKit
import PyProof.TupleOfSeq
import HandS.Style
import HandS.Conv
import HandS.IsInst
import HandS.Property
import HandS.OwnEq
import HandS.Walk
import HandS.Evl
import KE.GoesNew
import HandS.SetFor
import HandS.Strs
import KE.SortData
import KE.KDictKeyed
import PySem.Challenge.RW_flippedpoints_k87_whole_points_turned_an
set_option Elab.async false
set_option linter.all false
set_option maxRecDepth 100000
section part_P0
set_option maxHeartbeats 2000000
/-! itertools.product of two lists: made, walked -/
namespace Prd
open PySem PySem.Spec
open Sem (wp)
theorem mro_prod : mroOf (.type "itertools.product") = pure [.type "itertools.product", .type "object"] := by rw [mroOf_type]; kernel_rfl
theorem lookup_prod_new : typeLookup (.type "itertools.product") "__new__" = pure (some (.builtin "itertools.product.__new__")) := by rw [typeLookup_type, builtinLookup_eq_fast]; kernel_rfl
theorem slot_prod_init : Slot "itertools.product" "__init__" "object.__init__" :=
  .of (owner := "object") (n := "__init__") (by rw [typeLookup_type, builtinLookup_eq_fast]; kernel_rfl) (by decide +kernel) (by decide +kernel) (by decide +kernel)
    (by first | exact .inl (by decide +kernel) | exact .inr (by decide +kernel)) (by rw [isSubtype_type]; kernel_rfl)
theorem sub_prod : isSubtype (.type "itertools.product") (.type "itertools.product") = pure true := by rw [isSubtype_type]; kernel_rfl
theorem called_prod : TypeCalled "itertools.product" "itertools.product.__new__" "object.__init__" :=
  ⟨by decide +kernel, by decide +kernel, ⟨_, _, mro_prod⟩, madeBy_type mro_prod lookup_prod_new (by decide +kernel), by decide +kernel, sub_prod, slot_prod_init⟩
theorem typeCall_prod_2 (a b : Value) : checkTypeCall "itertools.product" ⟨[a, b], []⟩ = pure () := by kernel_rfl
theorem newCall_prod_2 (a b : Value) : checkBuiltinCall "itertools.product.__new__" ⟨[.type "itertools.product", a, b], []⟩ = pure () := by kernel_rfl
theorem entry_prod_new : entryFor table "itertools.product.__new__" = some Builtin.«itertools.product.__new__» := entryFor_of_tree (by kernel_rfl)
theorem slot_prod_iter : Slot "itertools.product" "__iter__" "itertools.product.__iter__" :=
  .of (owner := "itertools.product") (n := "__iter__") (by rw [typeLookup_type, builtinLookup_eq_fast]; kernel_rfl) (by decide +kernel) (by decide +kernel) (by decide +kernel)
    (by first | exact .inl (by decide +kernel) | exact .inr (by decide +kernel)) sub_prod
theorem slot_prod_next : Slot "itertools.product" "__next__" "itertools.product.__next__" :=
  .of (owner := "itertools.product") (n := "__next__") (by rw [typeLookup_type, builtinLookup_eq_fast]; kernel_rfl) (by decide +kernel) (by decide +kernel) (by decide +kernel)
    (by first | exact .inl (by decide +kernel) | exact .inr (by decide +kernel)) sub_prod
theorem entry_prod_iter : entryFor table "itertools.product.__iter__" = some Builtin.«dict_keyiterator.__iter__» :=
  entryFor_alias (id' := "dict_keyiterator.__iter__") (by kernel_rfl) (by first | rfl | decide +kernel | (unfold String.splitOn; simp +decide [String.splitOnAux])) (by decide +kernel) (by kernel_rfl)
theorem entry_prod_next : entryFor table "itertools.product.__next__" = some Builtin.«itertools.product.__next__» := entryFor_of_tree (by kernel_rfl)
theorem owner_prod : Manifest.owners.lookup (String.ofList ['t', 'c', 'u', 'd', 'o', 'r', 'p', '.', 's', 'l', 'o', 'o', 't', 'r', 'e', 't', 'i'].reverse) = some Manifest.sig_itertools_product := by kernel_rfl
theorem args_prod_iter (a : Value) : argsOk "itertools.product.__iter__" ⟨[a], []⟩ := by
  unfold argsOk; rw [signature?_of (id := "itertools.product.__iter__") (n := ['_', '_', 'r', 'e', 't', 'i', '_', '_']) (o := ['t', 'c', 'u', 'd', 'o', 'r', 'p', '.', 's', 'l', 'o', 'o', 't', 'r', 'e', 't', 'i']) (by kernel_rfl) owner_prod]; kernel_rfl
theorem args_prod_next (a : Value) : argsOk "itertools.product.__next__" ⟨[a], []⟩ := by
  unfold argsOk; rw [signature?_of (id := "itertools.product.__next__") (n := ['_', '_', 't', 'x', 'e', 'n', '_', '_']) (o := ['t', 'c', 'u', 'd', 'o', 'r', 'p', '.', 's', 'l', 'o', 'o', 't', 'r', 'e', 't', 'i']) (by kernel_rfl) owner_prod]; kernel_rfl
theorem noDict_prod : typeHasDict (.type "itertools.product") = false := by decide +kernel

/-- the object: the pools' tuple, its phase, what it gave last, its two places -/
abbrev prodObj (pt : Addr) (st : Int) (last : Value) (i j : Int) : Obj := { cls := .type "itertools.product", dict := none, data := .fields #[.ref pt, .int st 0, last, .int i 0, .int j 0], slots := #[] }
abbrev tupObj (vs : Array Value) : Obj := { cls := .type "tuple", dict := none, data := .seq vs 0, slots := #[] }

end Prd
end part_P0
section part_P1
set_option maxHeartbeats 4000000
namespace Prd
open PySem PySem.Spec PyProof.Rows
open Sem (wp)
/-- the heap behind collect(list) -/
abbrev colH (h : Heap) (vs : List Value) : Heap := (h.push (seqObj "list" #[] 0)).update h.objs.size (Obj.mapSeq (· ++ vs.toArray))
theorem colH_size (h : Heap) (vs : List Value) : (colH h vs).objs.size = h.objs.size + 1 := by
  rw [Heap.size_update, Heap.size_push]
theorem colH_get {h : Heap} {vs : List Value} {b : Addr} {o : Obj} (e : h.get? b = some o) : (colH h vs).get? b = some o := by
  have ne : b ≠ h.objs.size := Nat.ne_of_lt (Heap.lt_size e)
  rw [Heap.get?_update_ne _ _ _ _ ne]
  exact Heap.get?_push_of_some _ e
theorem nlt (n a b : Nat) (h : a < b) : n + a < n + b := Nat.add_lt_add_left h n
theorem nle (n a b : Nat) (h : a ≤ b) : n + a ≤ n + b := Nat.add_le_add_left h n
theorem meets_prod_new (a b : Addr) (xs ys : List Value) (sa : xs.length ≤ sizeLine) (sb : ys.length ≤ sizeLine) :
    Meets (Builtin.«itertools.product.__new__» ⟨[.type "itertools.product", .ref a, .ref b], []⟩)
      (fun _ R s => (s.heap.IsList a xs.toArray ∧ s.heap.IsList b ys.toArray) ∧ ∀ (h' : Heap) (p1 p2 pt : Addr), s.heap.objs.size ≤ p1 → s.heap.objs.size ≤ p2 → s.heap.objs.size ≤ pt →
        p1 ≠ p2 → p1 ≠ pt → p2 ≠ pt → p1 < h'.objs.size → p2 < h'.objs.size → pt < h'.objs.size → h'.get? p1 = some (tupObj xs.toArray) → h'.get? p2 = some (tupObj ys.toArray) → h'.get? pt = some (tupObj #[.ref p1, .ref p2]) → (∀ c o, s.heap.get? c = some o → h'.get? c = some o) →
        R (.ok (.ret (.ref h'.objs.size))) { s with heap := h'.push (prodObj pt 0 .none 0 0) }) :=
  .of_wp fun prog w A R s h => by
    obtain ⟨hp, g, dd, tk, os⟩ := s
    obtain ⟨⟨h1, h2⟩, h⟩ := h
    have hsub : isSubtype (.type "itertools.product") (.type ("itertools." ++ "product")) = pure true := by
      rw [show ("itertools." ++ "product" : String) = "itertools.product" by decide]; exact sub_prod
    have hd := noDict_prod
    have h2' : ((colH hp xs).push { cls := .type "tuple", data := .seq xs.toArray }).IsList b ys.toArray := h2.at fun o e => Heap.get?_push_of_some _ (colH_get e)
    repeat (first
      | (with_reducible show wpAny _ _ (collect (Value.ref a)) _ _ _; refine collect_list h1 ?_ sa)
      | (with_reducible show wpAny _ _ (collect (Value.ref b)) _ _ _; refine collect_list h2' ?_ sb)
      | wp_step
      | simp only [List.head?_cons, Option.some_or, List.getElem?_cons_succ, List.getElem?_cons_zero, List.length_cons, List.length_nil, List.forIn_nil, List.forIn_cons])
    refine ⟨_, rfl, ?_⟩
    have z1 := colH_size hp xs
    have zp1 : ((colH hp xs).push { cls := .type "tuple", data := .seq xs.toArray }).objs.size = hp.objs.size + 2 := by rw [Heap.size_push, z1]
    have z2 := colH_size ((colH hp xs).push { cls := .type "tuple", data := .seq xs.toArray }) ys
    rw [zp1] at z2
    have zp2 : ((colH ((colH hp xs).push { cls := .type "tuple", data := .seq xs.toArray }) ys).push { cls := .type "tuple", data := .seq ys.toArray }).objs.size = hp.objs.size + 4 := by rw [Heap.size_push, z2]
    have zt : (((colH ((colH hp xs).push { cls := .type "tuple", data := .seq xs.toArray }) ys).push { cls := .type "tuple", data := .seq ys.toArray }).push (tupObj #[.ref (colH hp xs).objs.size, .ref (colH ((colH hp xs).push { cls := .type "tuple", data := .seq xs.toArray }) ys).objs.size])).objs.size = hp.objs.size + 5 := by rw [Heap.size_push, zp2]
    have q := h (((colH ((colH hp xs).push { cls := .type "tuple", data := .seq xs.toArray }) ys).push { cls := .type "tuple", data := .seq ys.toArray }).push (tupObj #[.ref (colH hp xs).objs.size, .ref (colH ((colH hp xs).push { cls := .type "tuple", data := .seq xs.toArray }) ys).objs.size]))
      (colH hp xs).objs.size (colH ((colH hp xs).push { cls := .type "tuple", data := .seq xs.toArray }) ys).objs.size ((colH ((colH hp xs).push { cls := .type "tuple", data := .seq xs.toArray }) ys).push { cls := .type "tuple", data := .seq ys.toArray }).objs.size
      (by rw [z1]; exact Nat.le_add_right _ _) (by rw [z2]; exact Nat.le_trans (Nat.le_add_right _ _) (Nat.le_succ _)) (by rw [zp2]; exact Nat.le_add_right _ _)
      (by rw [z1, z2]; exact Nat.ne_of_lt (nlt _ 1 3 (by decide))) (by rw [z1, zp2]; exact Nat.ne_of_lt (nlt _ 1 4 (by decide))) (by rw [z2, zp2]; exact Nat.ne_of_lt (nlt _ 3 4 (by decide)))
      (Nat.lt_of_lt_of_eq (by rw [z1]; exact nlt _ 1 5 (by decide)) zt.symm) (Nat.lt_of_lt_of_eq (by rw [z2]; exact nlt _ 3 5 (by decide)) zt.symm) (Nat.lt_of_lt_of_eq (by rw [zp2]; exact nlt _ 4 5 (by decide)) zt.symm)
      (Heap.get?_push_of_some _ (Heap.get?_push_of_some _ (colH_get (Heap.get?_push_size _ rfl)))) (Heap.get?_push_of_some _ (Heap.get?_push_size _ rfl)) (Heap.get?_push_size _ rfl)
      (fun c o e => Heap.get?_push_of_some _ (Heap.get?_push_of_some _ (colH_get (Heap.get?_push_of_some _ (colH_get e)))))
    exact q
theorem call_prod {prog : Program} {w : World} {A : Around} {E : Value → Shared → Prop} {s : Shared} {a b : Addr} {xs ys : List Value} {Q : Value → Shared → Prop} (ha : s.heap.IsList a xs.toArray) (hb : s.heap.IsList b ys.toArray) (sa : xs.length ≤ sizeLine) (sb : ys.length ≤ sizeLine)
    (h : ∀ (h' : Heap) (p1 p2 pt : Addr), s.heap.objs.size ≤ p1 → s.heap.objs.size ≤ p2 → s.heap.objs.size ≤ pt →
        p1 ≠ p2 → p1 ≠ pt → p2 ≠ pt → p1 < h'.objs.size → p2 < h'.objs.size → pt < h'.objs.size → h'.get? p1 = some (tupObj xs.toArray) → h'.get? p2 = some (tupObj ys.toArray) → h'.get? pt = some (tupObj #[.ref p1, .ref p2]) → (∀ c o, s.heap.get? c = some o → h'.get? c = some o) →
        Q (.ref h'.objs.size) { s with heap := h'.push (prodObj pt 0 .none 0 0) }) :
    wpAny (model prog w) A (call (.type "itertools.product") [.ref a, .ref b]) Q E s := by
  refine callType_new called_prod (by decide +kernel) (typeCall_prod_2 _ _) (newCall_prod_2 _ _) (fun obj => F.args_object_init_3 obj _ _) entry_prod_new (meets_prod_new a b xs ys sa sb) ⟨⟨ha, hb⟩, ?_⟩
  intro h' p1 p2 pt l1 l2 lt d1 d2 d3 m1 m2 mt e1 e2 et k
  show _ ∧ _
  exact ⟨⟨_, Heap.get?_push_size _ rfl, rfl⟩, h h' p1 p2 pt l1 l2 lt d1 d2 d3 m1 m2 mt e1 e2 et k⟩
end Prd
end part_P1
section part_P2
set_option maxHeartbeats 4000000
namespace Prd
open PySem PySem.Spec PyProof.Rows
open Sem (wp)


section
variable {prog : Program} {w : World} {A : Around} {E : Value → Shared → Prop} {s : Shared}
/-- the heap behind keep -/
theorem keep_ok {it pt : Addr} {st i j : Int} {last : Value} {vals : List Value} {Q : Value → Shared → Prop} (hit : s.heap.get? it = some (prodObj pt st last i j)) (hz : vals.length ≤ 1000)
    (hQ : ∀ h', h'.get? it = some (prodObj pt st (.ref s.heap.objs.size) i j) → h'.get? s.heap.objs.size = some (tupObj vals.toArray) → (∀ b o, b ≠ it → s.heap.get? b = some o → h'.get? b = some o) → Q (.ref s.heap.objs.size) { s with heap := h' }) :
    wpAny (model prog w) A (do let t ← newTuple vals; let before ← field (.ref it) 2; setField (.ref it) 2 t; letGo [before] [t]; pure t) Q E s := by
  refine wpAny_bind (wpAny_newObj_type ?_ (show vals.toArray.size ≤ sizeLine by rw [List.size_toArray]; exact Nat.le_trans hz (by decide)))
  have ne : it ≠ s.heap.objs.size := Nat.ne_of_lt (Heap.lt_size hit)
  have hit2 : (s.heap.push (tupObj vals.toArray)).get? it = some (prodObj pt st last i j) := Heap.get?_push_of_some _ hit
  have hn : (s.heap.push (tupObj vals.toArray)).get? s.heap.objs.size = some (tupObj vals.toArray) := Heap.get?_push_size _ rfl
  refine wpAny_bind (wpAny_field (s := { s with heap := s.heap.push (tupObj vals.toArray) }) hit2 rfl (x := last) rfl ?_)
  refine wpAny_bind (wpAny_setField (s := { s with heap := s.heap.push (tupObj vals.toArray) }) hit2 rfl (by show 2 < 5; decide) ?_)
  refine wpAny_bind (wpAny_letGo (wpAny_pure ?_))
  refine hQ _ (Heap.get?_update_self _ hit2 rfl) ?_ fun b o hb e => ?_
  · rw [Heap.get?_update_ne _ _ _ _ ne.symm]; exact hn
  · rw [Heap.get?_update_ne _ _ _ _ hb]; exact Heap.get?_push_of_some _ e
theorem stop_ok {β : Type} {it : Addr} {Q : β → Shared → Prop} {s0 : Shared} (hh : A.handled = none) (hs : ∀ b o, b ≠ it → s0.heap.get? b = some o → s.heap.get? b = some o) (e1 : s.gens = s0.gens) (e2 : s.drawn = s0.drawn) (e3 : s.toks = s0.toks) (e4 : s.os = s0.os)
    (hQ : ∀ e h', CpRep.StopE e h' → (∀ b o, b ≠ it → s0.heap.get? b = some o → h'.get? b = some o) → E e { s0 with heap := h' }) :
    wpAny (model prog w) A (Builtin.Itertools.itStop : Sem β) Q E s := by
  obtain ⟨h, g, d, t, o⟩ := s
  cases e1
  cases e2
  cases e3
  cases e4
  show wpAny _ _ (newExc (.type "StopIteration") [] >>= _) _ _ _
  refine wpAny_bind ?_
  simp only [newExc, newTuple]
  refine wpAny_bind (wpAny_newObj_type ?_ (by size_fits))
  refine wpAny_bind (m := firstArgMember _ _) (wpAny_of_eq (a := Value.none) (by first | rfl | (simp only [firstArgMember]; rfl)) ?_)
  refine wpAny_newObj_type ?_ (by size_fits)
  simp only [raiseNew]
  refine wpAny_bind (wpAny_handled ?_)
  rw [hh]
  refine wpAny_bind (wpAny_pure (wpAny_throw ?_))
  exact hQ _ _ ⟨_, _, _, rfl, Heap.get?_push_size _ rfl, rfl, rfl, rfl⟩ fun b o hb e => Heap.get?_push_of_some _ (Heap.get?_push_of_some _ (hs b o hb e))
theorem ne_of_get {xs : Array Value} {k : Nat} {x : Value} (h : xs[k]? = some x) : xs.isEmpty = false := by
  cases hb : xs.isEmpty with
  | false => rfl
  | true => rw [Array.isEmpty_iff.mp hb] at h; simp at h
theorem getD_of {xs : Array Value} {k : Nat} {x : Value} (h : xs[k]? = some x) : xs.getD k Value.none = x := by simp [Array.getD_eq_getD_getElem?, h]
theorem prod_first {it pt p1 p2 : Addr} {xs ys : Array Value} {x y last : Value} {Q : Option Value → Shared → Prop} (hit : s.heap.get? it = some (prodObj pt 0 last 0 0)) (ht : s.heap.get? pt = some (tupObj #[.ref p1, .ref p2])) (h1 : s.heap.get? p1 = some (tupObj xs)) (h2 : s.heap.get? p2 = some (tupObj ys))
    (hx : xs[0]? = some x) (hy : ys[0]? = some y)
    (hQ : ∀ h' last', h'.get? it = some (prodObj pt 1 last' 0 0) → h'.get? s.heap.objs.size = some (tupObj #[x, y]) → (∀ b o, b ≠ it → s.heap.get? b = some o → h'.get? b = some o) → Q (some (.ref s.heap.objs.size)) { s with heap := h' }) :
    wpAny (model prog w) A (callSpecial? (.ref it) "__next__") Q E s := by
  have hT : s.TypeIs (.ref it) "itertools.product" := ⟨_, hit, rfl⟩
  refine wpAny_callSpecial?_slot (name := Str.ofString "__next__") hT slot_prod_next (wpAny_call_entry slot_prod_next hT entry_prod_next ?_ (args_prod_next _))
  show wpAny _ _ (field (.ref it) 0 >>= _) _ _ s
  refine wpAny_bind (wpAny_field hit rfl (x := .ref pt) rfl ?_)
  show wpAny _ _ ((seqItems? (.ref pt) >>= _) >>= _) _ _ s
  refine wpAny_bind (wpAny_bind (wpAny_seqItems ht rfl (wpAny_pure ?_)))
  show wpAny _ _ (List.mapM Builtin.Itertools.itPoolItems [.ref p1, .ref p2] >>= _) _ _ s
  rw [List.mapM_cons, List.mapM_cons, List.mapM_nil]
  refine wpAny_bind (wpAny_bind ?_)
  show wpAny _ _ (seqItems? (.ref p1) >>= _) _ _ s
  refine wpAny_bind (wpAny_seqItems h1 rfl (wpAny_pure (wpAny_bind (wpAny_bind ?_))))
  show wpAny _ _ (seqItems? (.ref p2) >>= _) _ _ s
  refine wpAny_bind (wpAny_seqItems h2 rfl (wpAny_pure (wpAny_bind (wpAny_pure (wpAny_pure (wpAny_pure ?_))))))
  refine wpAny_bind ?_
  show wpAny _ _ (load it >>= _) _ _ s
  refine wpAny_bind (wpAny_load hit (wpAny_pure ?_))
  show wpAny _ _ (Builtin.Itertools.itIntField (.ref it) 1 >>= _) _ _ s
  refine wpAny_bind ?_
  show wpAny _ _ (field (.ref it) 1 >>= _) _ _ s
  refine wpAny_bind (wpAny_field hit rfl (x := .int 0 0) rfl (wpAny_pure ?_))
  show wpAny _ _ (if ([xs, ys].any fun x => x.isEmpty) = true then _ else _) _ _ s
  rw [if_neg (by simp [ne_of_get hx, ne_of_get hy])]
  refine wpAny_bind (wpAny_setField hit rfl (by show 1 < 5; decide) ?_)
  have hit2 : (s.heap.update it (Obj.mapFields fun x => x.setIfInBounds 1 (rawInt 1))).get? it = some (prodObj pt 1 last 0 0) := Heap.get?_update_self _ hit rfl
  refine wpAny_bind ?_
  have hz : (s.heap.update it (Obj.mapFields fun x => x.setIfInBounds 1 (rawInt 1))).objs.size = s.heap.objs.size := Heap.size_update _ _ _
  refine keep_ok (s := { s with heap := s.heap.update it (Obj.mapFields fun x => x.setIfInBounds 1 (rawInt 1)) }) hit2 (by show 2 ≤ 1000; decide) fun h' e1 e2 k => ?_
  rw [hz] at e1 e2 ⊢
  refine wpAny_pure ⟨_, rfl, hQ h' _ e1 ?_ fun b o hb e => k b o hb ((Heap.get?_update_ne _ _ _ _ hb).trans e)⟩
  rw [e2]
  show some (tupObj #[xs.getD 0 Value.none, ys.getD 0 Value.none]) = _
  rw [getD_of hx, getD_of hy]
/-- from one pair to the next -/
theorem prod_next {it pt p1 p2 : Addr} {xs ys : Array Value} {i j : Nat} {i' j' : Nat} {x y last : Value} {Q : Option Value → Shared → Prop} (hit : s.heap.get? it = some (prodObj pt 1 last (i : Int) (j : Int))) (ht : s.heap.get? pt = some (tupObj #[.ref p1, .ref p2])) (h1 : s.heap.get? p1 = some (tupObj xs)) (h2 : s.heap.get? p2 = some (tupObj ys))
    (hst : (j + 1 < ys.size ∧ i' = i ∧ j' = j + 1) ∨ (j + 1 = ys.size ∧ i + 1 < xs.size ∧ i' = i + 1 ∧ j' = 0)) (hx : xs[i']? = some x) (hy : ys[j']? = some y)
    (hQ : ∀ h' last', h'.get? it = some (prodObj pt 1 last' (i' : Int) (j' : Int)) → h'.get? s.heap.objs.size = some (tupObj #[x, y]) → (∀ b o, b ≠ it → s.heap.get? b = some o → h'.get? b = some o) → Q (some (.ref s.heap.objs.size)) { s with heap := h' }) :
    wpAny (model prog w) A (callSpecial? (.ref it) "__next__") Q E s := by
  have hT : s.TypeIs (.ref it) "itertools.product" := ⟨_, hit, rfl⟩
  refine wpAny_callSpecial?_slot (name := Str.ofString "__next__") hT slot_prod_next (wpAny_call_entry slot_prod_next hT entry_prod_next ?_ (args_prod_next _))
  show wpAny _ _ (field (.ref it) 0 >>= _) _ _ s
  refine wpAny_bind (wpAny_field hit rfl (x := .ref pt) rfl ?_)
  show wpAny _ _ ((seqItems? (.ref pt) >>= _) >>= _) _ _ s
  refine wpAny_bind (wpAny_bind (wpAny_seqItems ht rfl (wpAny_pure ?_)))
  show wpAny _ _ (List.mapM Builtin.Itertools.itPoolItems [.ref p1, .ref p2] >>= _) _ _ s
  rw [List.mapM_cons, List.mapM_cons, List.mapM_nil]
  refine wpAny_bind (wpAny_bind ?_)
  show wpAny _ _ (seqItems? (.ref p1) >>= _) _ _ s
  refine wpAny_bind (wpAny_seqItems h1 rfl (wpAny_pure (wpAny_bind (wpAny_bind ?_))))
  show wpAny _ _ (seqItems? (.ref p2) >>= _) _ _ s
  refine wpAny_bind (wpAny_seqItems h2 rfl (wpAny_pure (wpAny_bind (wpAny_pure (wpAny_pure (wpAny_pure ?_))))))
  refine wpAny_bind ?_
  show wpAny _ _ (load it >>= _) _ _ s
  refine wpAny_bind (wpAny_load hit (wpAny_pure ?_))
  show wpAny _ _ (Builtin.Itertools.itIntField (.ref it) 1 >>= _) _ _ s
  refine wpAny_bind ?_
  show wpAny _ _ (field (.ref it) 1 >>= _) _ _ s
  refine wpAny_bind (wpAny_field hit rfl (x := .int 1 0) rfl (wpAny_pure ?_))
  dsimp only
  split
  · rename_i h
    exact absurd h (by decide)
  · split
    · rename_i nx heq
      change (if j + 1 == ys.size then (0 :: ·) <$> (if i + 1 == xs.size then (0 :: ·) <$> (none : Option (List Nat)) else some [i + 1]) else some [j + 1, i]) = some nx at heq
      have en : nx = [j', i'] := by
        rcases hst with ⟨a, rfl, rfl⟩ | ⟨a, b, rfl, rfl⟩
        · rw [if_neg (by rw [beq_iff_eq]; omega)] at heq
          exact (Option.some.inj heq).symm
        · rw [if_pos (by rw [beq_iff_eq]; omega), if_neg (by rw [beq_iff_eq]; omega)] at heq
          exact (Option.some.inj heq).symm
      subst en
      refine wpAny_bind ?_
      show wpAny _ _ (updateFields it fun fs => fs.extract 0 3 ++ #[rawInt i', rawInt j']) _ _ s
      refine wpAny_updateFields hit rfl ?_ (by show 5 ≤ sizeLine + 3; decide)
      have hz : (s.heap.update it (Obj.mapFields fun fs => fs.extract 0 3 ++ #[rawInt i', rawInt j'])).objs.size = s.heap.objs.size := Heap.size_update _ _ _
      have hit2 : (s.heap.update it (Obj.mapFields fun fs => fs.extract 0 3 ++ #[rawInt i', rawInt j'])).get? it = some (prodObj pt 1 last i' j') := Heap.get?_update_self _ hit rfl
      refine wpAny_bind (keep_ok (s := { s with heap := s.heap.update it (Obj.mapFields fun fs => fs.extract 0 3 ++ #[rawInt i', rawInt j']) }) hit2 (by show 2 ≤ 1000; decide) fun h' e1 e2 k => ?_)
      rw [hz] at e1 e2 ⊢
      refine wpAny_pure ⟨_, rfl, hQ h' _ e1 ?_ fun b o hb e => k b o hb ((Heap.get?_update_ne _ _ _ _ hb).trans e)⟩
      rw [e2]
      show some (tupObj #[xs.getD i' Value.none, ys.getD j' Value.none]) = _
      rw [getD_of hx, getD_of hy]
    · rename_i heq
      change (if j + 1 == ys.size then (0 :: ·) <$> (if i + 1 == xs.size then (0 :: ·) <$> (none : Option (List Nat)) else some [i + 1]) else some [j + 1, i]) = none at heq
      rcases hst with ⟨a, rfl, rfl⟩ | ⟨a, b, rfl, rfl⟩
      · rw [if_neg (by rw [beq_iff_eq]; omega)] at heq
        cases heq
      · rw [if_pos (by rw [beq_iff_eq]; omega), if_neg (by rw [beq_iff_eq]; omega)] at heq
        cases heq
  · rename_i h1 h2
    exact absurd rfl h2
/-- an empty pool -/
theorem prod_empty {it pt p1 p2 : Addr} {xs ys : Array Value} {last : Value} {Q : Option Value → Shared → Prop} (hh : A.handled = none) (hit : s.heap.get? it = some (prodObj pt 0 last 0 0)) (ht : s.heap.get? pt = some (tupObj #[.ref p1, .ref p2])) (h1 : s.heap.get? p1 = some (tupObj xs)) (h2 : s.heap.get? p2 = some (tupObj ys))
    (hx : xs.size = 0 ∨ ys.size = 0) (hQ : ∀ e h', CpRep.StopE e h' → (∀ b o, b ≠ it → s.heap.get? b = some o → h'.get? b = some o) → E e { s with heap := h' }) :
    wpAny (model prog w) A (callSpecial? (.ref it) "__next__") Q E s := by
  have hT : s.TypeIs (.ref it) "itertools.product" := ⟨_, hit, rfl⟩
  refine wpAny_callSpecial?_slot (name := Str.ofString "__next__") hT slot_prod_next (wpAny_call_entry slot_prod_next hT entry_prod_next ?_ (args_prod_next _))
  show wpAny _ _ (field (.ref it) 0 >>= _) _ _ s
  refine wpAny_bind (wpAny_field hit rfl (x := .ref pt) rfl ?_)
  show wpAny _ _ ((seqItems? (.ref pt) >>= _) >>= _) _ _ s
  refine wpAny_bind (wpAny_bind (wpAny_seqItems ht rfl (wpAny_pure ?_)))
  show wpAny _ _ (List.mapM Builtin.Itertools.itPoolItems [.ref p1, .ref p2] >>= _) _ _ s
  rw [List.mapM_cons, List.mapM_cons, List.mapM_nil]
  refine wpAny_bind (wpAny_bind ?_)
  show wpAny _ _ (seqItems? (.ref p1) >>= _) _ _ s
  refine wpAny_bind (wpAny_seqItems h1 rfl (wpAny_pure (wpAny_bind (wpAny_bind ?_))))
  show wpAny _ _ (seqItems? (.ref p2) >>= _) _ _ s
  refine wpAny_bind (wpAny_seqItems h2 rfl (wpAny_pure (wpAny_bind (wpAny_pure (wpAny_pure (wpAny_pure ?_))))))
  refine wpAny_bind ?_
  show wpAny _ _ (load it >>= _) _ _ s
  refine wpAny_bind (wpAny_load hit (wpAny_pure ?_))
  show wpAny _ _ (Builtin.Itertools.itIntField (.ref it) 1 >>= _) _ _ s
  refine wpAny_bind ?_
  show wpAny _ _ (field (.ref it) 1 >>= _) _ _ s
  refine wpAny_bind (wpAny_field hit rfl (x := .int 0 0) rfl (wpAny_pure ?_))
  show wpAny _ _ (if ([xs, ys].any fun x => x.isEmpty) = true then _ else _) _ _ s
  rw [if_pos (by simp only [List.any_cons, List.any_nil, Bool.or_false, Bool.or_eq_true, Array.isEmpty_iff_size_eq_zero]; exact hx)]
  refine wpAny_bind (wpAny_rule (wpAny_bind (wpAny_setField hit rfl (by show 1 < 5; decide) ?_)))
  refine wpAny_bind ?_
  exact stop_ok (s0 := s) hh (fun b o hb e => (Heap.get?_update_ne _ _ _ _ hb).trans e) rfl rfl rfl rfl hQ
/-- behind the last pair -/
theorem prod_end {it pt p1 p2 : Addr} {xs ys : Array Value} {i j : Nat} {last : Value} {Q : Option Value → Shared → Prop} (hh : A.handled = none) (hit : s.heap.get? it = some (prodObj pt 1 last (i : Int) (j : Int))) (ht : s.heap.get? pt = some (tupObj #[.ref p1, .ref p2])) (h1 : s.heap.get? p1 = some (tupObj xs)) (h2 : s.heap.get? p2 = some (tupObj ys))
    (hi : i + 1 = xs.size) (hj : j + 1 = ys.size) (hQ : ∀ e h', CpRep.StopE e h' → (∀ b o, b ≠ it → s.heap.get? b = some o → h'.get? b = some o) → E e { s with heap := h' }) :
    wpAny (model prog w) A (callSpecial? (.ref it) "__next__") Q E s := by
  have hT : s.TypeIs (.ref it) "itertools.product" := ⟨_, hit, rfl⟩
  refine wpAny_callSpecial?_slot (name := Str.ofString "__next__") hT slot_prod_next (wpAny_call_entry slot_prod_next hT entry_prod_next ?_ (args_prod_next _))
  show wpAny _ _ (field (.ref it) 0 >>= _) _ _ s
  refine wpAny_bind (wpAny_field hit rfl (x := .ref pt) rfl ?_)
  show wpAny _ _ ((seqItems? (.ref pt) >>= _) >>= _) _ _ s
  refine wpAny_bind (wpAny_bind (wpAny_seqItems ht rfl (wpAny_pure ?_)))
  show wpAny _ _ (List.mapM Builtin.Itertools.itPoolItems [.ref p1, .ref p2] >>= _) _ _ s
  rw [List.mapM_cons, List.mapM_cons, List.mapM_nil]
  refine wpAny_bind (wpAny_bind ?_)
  show wpAny _ _ (seqItems? (.ref p1) >>= _) _ _ s
  refine wpAny_bind (wpAny_seqItems h1 rfl (wpAny_pure (wpAny_bind (wpAny_bind ?_))))
  show wpAny _ _ (seqItems? (.ref p2) >>= _) _ _ s
  refine wpAny_bind (wpAny_seqItems h2 rfl (wpAny_pure (wpAny_bind (wpAny_pure (wpAny_pure (wpAny_pure ?_))))))
  refine wpAny_bind ?_
  show wpAny _ _ (load it >>= _) _ _ s
  refine wpAny_bind (wpAny_load hit (wpAny_pure ?_))
  show wpAny _ _ (Builtin.Itertools.itIntField (.ref it) 1 >>= _) _ _ s
  refine wpAny_bind ?_
  show wpAny _ _ (field (.ref it) 1 >>= _) _ _ s
  refine wpAny_bind (wpAny_field hit rfl (x := .int 1 0) rfl (wpAny_pure ?_))
  dsimp only
  split
  · rename_i h
    exact absurd h (by decide)
  · split
    · rename_i nx heq
      change (if j + 1 == ys.size then (0 :: ·) <$> (if i + 1 == xs.size then (0 :: ·) <$> (none : Option (List Nat)) else some [i + 1]) else some [j + 1, i]) = some nx at heq
      rw [if_pos (by rw [beq_iff_eq]; omega), if_pos (by rw [beq_iff_eq]; omega)] at heq
      cases heq
    · refine wpAny_bind (wpAny_setField hit rfl (by show 1 < 5; decide) ?_)
      have hz : (s.heap.update it (Obj.mapFields fun x => x.setIfInBounds 1 (rawInt 2))).objs.size = s.heap.objs.size := Heap.size_update _ _ _
      have hit2 : (s.heap.update it (Obj.mapFields fun x => x.setIfInBounds 1 (rawInt 2))).get? it = some (prodObj pt 2 last i j) := Heap.get?_update_self _ hit rfl
      refine wpAny_bind (keep_ok (s := { s with heap := s.heap.update it (Obj.mapFields fun x => x.setIfInBounds 1 (rawInt 2)) }) hit2 (by show 2 ≤ 1000; decide) fun h' e1 e2 k => ?_)
      exact stop_ok (s0 := s) (s := { s with heap := h' }) hh (fun b o hb e => k b o hb ((Heap.get?_update_ne _ _ _ _ hb).trans e)) rfl rfl rfl rfl hQ
  · rename_i h1 h2
    exact absurd rfl h2
end
end Prd
end part_P2
section part_B1
set_option maxHeartbeats 2000000
namespace Fp
open PySem PySem.Spec PyProof.Rows L2
/-! ### a def by what it promises, wherever it stands -/
def Cal (P : Program) (w : World) (K : PySem.W.Frag) (mg : Str → Option Value) (base : Heap) (x : Str) (ps : List Str) (k : Nat) (sp : Sp) : Prop :=
  ∃ f fd, FnOk P w K mg base CX0 k f fd ps sp ∧ mg x = some (.ref f) ∧ PySem.W.keepIn K (.ref f) = true ∧ Binds K fd ps []
def MCal (P : Program) (w : World) (K : PySem.W.Frag) (mg : Str → Option Value) (base : Heap) (C : Addr) (m : Str) (ps : List Str) (k : Nat) (sp : Sp) : Prop :=
  ∃ f fd, FnOk P w K mg base CX0 k f fd ps sp ∧ Meth K C m f ∧ Binds K fd ps []
def MkCal (P : Program) (w : World) (K : PySem.W.Frag) (mg : Str → Option Value) (base : Heap) (x : Str) (C : Addr) (ps : List Str) (k : Nat) (sp : Sp) : Prop :=
  ∃ f fd, FnOk P w K mg base CX0 k f fd ps sp ∧ Mk K C f ∧ mg x = some (.ref C) ∧ Binds K fd ps []
def PCal (P : Program) (w : World) (K : PySem.W.Frag) (mg : Str → Option Value) (base : Heap) (C : Addr) (m : Str) (k : Nat) (sp : Sp) : Prop :=
  ∃ p f fd, FnOk P w K mg base CX0 k f fd ["self"] sp ∧ PropOf K C m p f ∧ Binds K fd ["self"] []
section
variable {X : Cx} {x m : Str} {ps : List Str} {k : Nat} {sp : Sp} {C : Addr} {p pos apos : Pos} {e o : Expr} {es : List Expr} {t : TA} {to : TE}
theorem pe_cal (c : Cal X.prog X.w X.K X.mg X.base x ps k sp) (hr : Room k X.A) (hg : Gl X x) (ha : PA X (e :: es) t) (hdb : (x == ("__debug__" : Str)) = false := by decide)
    (he : starEach (e :: es) X.env = (false, eval e X.env) :: starEach es X.env := by rfl) (hpl : (backTo pos (starEach es X.env)).any (·.1) = false := by rfl) :
    PE X (.Call (.Name x p) (e :: es) [] pos) (tCall sp [] E0 t) := by
  obtain ⟨f, fd, F, hm, hk, hb⟩ := c
  exact pe_call F hr hg hm hk hb .nil pass0 ha hdb he hpl
theorem pe_mcal {pl : Sem Bool} (cl : Cls X.K C) (c : MCal X.prog X.w X.K X.mg X.base C m ps k sp) (hr : Room k X.A) (ho : PE X o to) (ha : PA X (e :: es) t)
    (hst : starEach (e :: es) X.env = (false, eval e X.env) :: starEach es X.env := by rfl) (hpl : (backTo pos (starEach es X.env)).any (·.1) = false := by rfl)
    (ht : eval (.Call (.Attribute o m apos) (e :: es) [] pos) X.env = (do
      let ov ← eval o X.env
      standAt apos.atName
      let (f, first) ← holding [ov] (getMethod ov m pl)
      callWith pos f first (backTo pos (starEach (e :: es) X.env)) (backToKw pos (keywordEach [] X.env))) := by rfl) :
    PE X (.Call (.Attribute o m apos) (e :: es) [] pos) (tMeth C m sp [] E0 to t) := by
  obtain ⟨f, fd, F, hm, hb⟩ := c
  exact pe_meth ho cl hm F hr hb .nil pass0 ha hst hpl ht
theorem pe_mcal0 {pl : Sem Bool} (cl : Cls X.K C) (c : MCal X.prog X.w X.K X.mg X.base C m ps k sp) (hr : Room k X.A) (ho : PE X o to)
    (ht : eval (.Call (.Attribute o m apos) [] [] pos) X.env = (do
      let ov ← eval o X.env
      standAt apos.atName
      let (f, first) ← holding [ov] (getMethod ov m pl)
      callWith pos f first (backTo pos (starEach [] X.env)) (backToKw pos (keywordEach [] X.env))) := by rfl) :
    PE X (.Call (.Attribute o m apos) [] [] pos) (tMeth C m sp [] E0 to tNil) := by
  obtain ⟨f, fd, F, hm, hb⟩ := c
  exact pe_meth0 ho cl hm F hr hb .nil pass0 ht
theorem pe_mk (c : MkCal X.prog X.w X.K X.mg X.base x C ps k sp) (hr : Room (k + 1) X.A) (hg : Gl X x) (ha : PA X (e :: es) t) (hdb : (x == ("__debug__" : Str)) = false := by decide)
    (he : starEach (e :: es) X.env = (false, eval e X.env) :: starEach es X.env := by rfl) (hpl : (backTo pos (starEach es X.env)).any (·.1) = false := by rfl) :
    PE X (.Call (.Name x p) (e :: es) [] pos) (tMake C sp [] E0 t) := by
  obtain ⟨f, fd, F, M, hm, hb⟩ := c
  exact pe_make M F hr hg hm hb .nil pass0 ha hdb he hpl
theorem pe_pcal (cl : Cls X.K C) (c : PCal X.prog X.w X.K X.mg X.base C m k sp) (hr : Room (k + 1) X.A) (ho : PE X o to) (hab : attributeBase o m X.env (eval o X.env) = eval o X.env := by rfl) :
    PE X (.Attribute o m pos) (tProp C sp [] E0 to) := by
  obtain ⟨q, f, fd, F, hp, hb⟩ := c
  exact pe_prop ho cl hp F hr hb .nil pass0 hab
/-- a constant of the module -/
def CstG (mg : Str → Option Value) (x : Str) (v : V) : Prop := ∃ u, mg x = some u ∧ RelV v u
theorem pe_cst {v : V} (hg : Gl X x) (c : CstG X.mg x v) (hd : (x == ("__debug__" : Str)) = false := by decide) : PE X (.Name x pos) (tC v) := by
  obtain ⟨u, hm, r⟩ := c
  exact pe_glob hg hm r hd
/-- f(k = v, ..), every argument by keyword -/
def KCal (P : Program) (w : World) (K : PySem.W.Frag) (mg : Str → Option Value) (base : Heap) (x : Str) (ps ks : List Str) (g : List Value → List Value → List Value) (gV : List V → List V → List V) (k : Nat) (sp : Sp) : Prop :=
  ∃ f fd, FnOk P w K mg base CX0 k f fd ps sp ∧ mg x = some (.ref f) ∧ PySem.W.keepIn K (.ref f) = true ∧ KBinds K fd ps ks g gV
theorem pe_calK {ks : List Str} {g : List Value → List Value → List Value} {gV : List V → List V → List V} {kws : List Keyword} {tk : TA} (c : KCal X.prog X.w X.K X.mg X.base x ps ks g gV k sp) (hr : Room k X.A) (hg : Gl X x) (hkw : PK X kws tk)
    (hall : (backToKw pos (keywordEach kws X.env)).all (·.1.isSome) = true := by rfl) (hks : (backToKw pos (keywordEach kws X.env)).filterMap (·.1) = ks := by rfl) (hdb : (x == ("__debug__" : Str)) = false := by decide)
    (hpl : ((backTo pos (starEach [] X.env)).any (·.1) || (backToKw pos (keywordEach kws X.env)).any (·.1.isNone)) = false := by rfl) :
    PE X (.Call (.Name x p) [] kws pos) (tCallK sp gV E0 tNil tk) := by
  obtain ⟨f, fd, F, hm, hk, hb⟩ := c
  refine ⟨fun pins s σ H Q I h => ?_⟩
  refine wpAny_Call_Name_kw (ld_glob I hg hm ?_ hdb)
  refine PySem.W.callWith_KW0 (h₀ := X.base) I.ok.mod.kin hk hall ?_ hpl
  refine thn (hkw.run pos pins s σ H _ I h) fun ws s2 ⟨zs, H2, I2, rz, q2⟩ => ⟨I2.kIn, ?_⟩
  rw [hks]
  exact run_fnk (us := []) F hr hb pass0 I2 .nil rz q2
end
/-! ### list.extend of a tuple -/
section
open AutoSeq1 (wpAny_loadPart')
open PySem.MeetsSeq PySem.MeetsSeq2 PySem.MeetsSeq3
theorem extend_tup (l : Addr) (items : Array Value) (n : Nat) (b : Addr) (items2 : Array Value) (n2 : Nat) (dd : Option Addr) (sl : Array (Option Value)) (hs0 : ¬(!items.isEmpty && Builtin.List.listTooLong (items.size + items2.size)) = true) (hs1 : items.size ≤ sizeLine) (hs2 : items.size + items2.size ≤ sizeLine + 1) :
    Meets (Builtin.«list.extend» ⟨[.ref l, .ref b], []⟩) (fun _ R s => s.heap.get? l = some { cls := .type "list", dict := none, data := .seq items n, slots := #[] } ∧ s.heap.get? b = some { cls := .type "tuple", dict := dd, data := .seq items2 n2, slots := sl } ∧ R (.ok (.ret Value.none)) { s with heap := s.heap.update l (Obj.mapSeq fun x => x ++ items2), toks := s.toks }) :=
  .of_wp fun prog w A R s h => by
    obtain ⟨hp, g, d, tk, os⟩ := s
    obtain ⟨hl, hb, h⟩ := h
    have f1 := AutoSeq1.idx_int
    have f2 := AutoSeq1.sub_tuple_tuple
    have f3 := AutoSeq1.sub_list_list
    have f4 := AutoSeq1.sub_tuple_list
    have f5 := AutoSeq1.sub_list_tuple
    have hz' : (items ++ items2).size ≤ sizeLine + 1 := by rw [Array.size_append]; exact hs2
    wp_walk using (wpAny_updateSeq hl rfl (hz := hs1) (_hz' := hz')), wpAny_loadPart' hl, wpAny_loadPart' hb
    exact ⟨_, rfl, h⟩
end
section
variable {X : Cx}
def rExtendT (K : PySem.W.Frag) : V → List V → Hp → VK → Prop := fun x vs H Q => ∃ l b xs zs, x = .ref l ∧ vs = [.ref b] ∧ H l = some (.lst xs) ∧ SqT K H b zs ∧ xs.length + zs.length ≤ sizeLine ∧ Q .non (upd H l (.lst (xs ++ zs)))
theorem mt_extendT : MtR X "list.extend" (rExtendT X.K) := by
  intro pins s σ H x vs v us Q I rx rv h
  obtain ⟨l, b, xs, zs, rfl, rfl, hH, hB, hz, q⟩ := h
  cases rx
  obtain ⟨u, rfl, ru⟩ := rv.one
  cases ru
  obtain ⟨z, its, n, r, hl, e⟩ := I.lstM hH
  obtain ⟨its2, r2, ht, z2⟩ := I.tuple hB
  obtain ⟨⟨c2, d2, dt2, s2⟩, e2, hc2, n2, hd2⟩ := ht
  simp only at hc2 hd2
  subst hc2 hd2
  have hl2 := r2.length
  have hsz : its.toArray.size + its2.toArray.size ≤ sizeLine := by rw [List.size_toArray, List.size_toArray]; omega
  have hlong : ¬ (!its.toArray.isEmpty && Builtin.List.listTooLong (its.toArray.size + its2.toArray.size)) = true := by
    rw [notLongL hsz, Bool.and_false]
    exact Bool.false_ne_true
  refine call_meets F.slot_list_extend ⟨_, e, rfl⟩ F.entry_list_extend (F.args_list_extend_2 _ _)
    (extend_tup l its.toArray n b its2.toArray n2 d2 s2 hlong (by rw [List.size_toArray]; omega) (by omega)) ⟨e, e2, ?_⟩
  refine ⟨.non, _, I.lset (its' := its ++ its2) hH e (by simp) (r.append r2) ?_, rfl, q⟩
  rw [List.length_append]
  omega
end
end Fp
end part_B1
section part_B2
set_option maxHeartbeats 2000000
namespace Fp
open PySem PySem.Spec PyProof.Rows L2
/-! ### a list or a tuple, as a source -/
/-- k: a tuple -/
def SqK (k : Bool) (K : PySem.W.Frag) (H : Hp) (a : Addr) (xs : List V) : Prop := if k = true then SqT K H a xs else SqL K H a xs
def ItAt (k : Bool) (h : Heap) (it a : Addr) (i : Nat) : Prop := if k = true then h.IsTupleIter it a i else h.IsListIter it a i
def SeqH (k : Bool) (h : Heap) (a : Addr) (its : Array Value) : Prop := if k = true then h.IsTuple a its else h.IsList a its
def itObj (k : Bool) (a : Addr) : Obj := if k = true then { cls := .type "tuple_iterator", data := .fields #[.ref a, .int 0 0] } else { cls := .type "list_iterator", data := .fields #[.ref a, .int 0 0] }
theorem draws_k {P : Program} {w : World} {A : Around} (k : Bool) (hh : A.handled = none) (it a : Addr) (hne : a ≠ it) (its : Array Value) :
    Draws P w A it [it, a] its.size (fun i v => its[i]? = some v) (fun i h => ItAt k h it a i ∧ SeqH k h a its) := by
  cases k with
  | true => exact Draws.tuple hh it a hne its
  | false => exact Draws.list hh it a hne its
theorem begins_k (k : Bool) (a : Addr) (its : Array Value) : Begins (.ref a) (itObj k a) fun h => SeqH k h a its := by
  cases k with
  | true => exact begins_tuple a its
  | false => exact begins_list a its
theorem itAt_new {k : Bool} {h : Heap} {it a : Addr} (e : h.get? it = some (itObj k a)) : ItAt k h it a 0 := by
  cases k with
  | true => exact ⟨_, e, rfl, rfl⟩
  | false => exact ⟨_, e, rfl, rfl⟩
theorem ItAt.at {k : Bool} {h h' : Heap} {it a : Addr} {i : Nat} (x : ItAt k h it a i) (f : ∀ o, h.get? it = some o → h'.get? it = some o) : ItAt k h' it a i := by
  cases k with
  | true => exact Heap.IsTupleIter.at x f
  | false => exact Heap.IsListIter.at x f
theorem ItAt.obj {k : Bool} {h : Heap} {it a : Addr} {i : Nat} (x : ItAt k h it a i) : ∃ o, h.get? it = some o ∧ ∀ v, o.data ≠ .cell v := by
  cases k with
  | true =>
    obtain ⟨o, e, _, d⟩ := (show h.IsTupleIter it a i from x)
    exact ⟨o, e, fun v z => by rw [d] at z; cases z⟩
  | false =>
    obtain ⟨o, e, _, d⟩ := (show h.IsListIter it a i from x)
    exact ⟨o, e, fun v z => by rw [d] at z; cases z⟩
theorem Inv.seqK {X : Cx} {pins : List (Addr × Obj)} {σ : L2.St} {H : Hp} {s : Shared} {a : Addr} {xs : List V} {k : Bool} (I : Inv X pins σ H s) (h : SqK k X.K H a xs) : ∃ its : List Value, Vals xs its ∧ SeqH k s.heap a its.toArray ∧ a < s.heap.objs.size := by
  cases k with
  | true =>
    obtain ⟨its, r, t, _⟩ := I.tuple (show SqT X.K H a xs from h)
    exact ⟨its, r, t, t.lt⟩
  | false =>
    obtain ⟨its, r, t, _⟩ := I.list (show SqL X.K H a xs from h)
    exact ⟨its, r, t.isList, t.lt⟩
theorem Inv.seqK_inj {X : Cx} {pins : List (Addr × Obj)} {σ : L2.St} {H : Hp} {s : Shared} {a : Addr} {xs ys : List V} {k : Bool} (I : Inv X pins σ H s) (h : SqK k X.K H a xs) (h' : SqK k X.K H a ys) : xs = ys := by
  cases k with
  | true => exact I.tuple_inj h h'
  | false => exact I.list_inj h h'
/-! ### from the library's walks of new tuples to turns -/
/-- what a walk must give at a state -/
theorem item_of_goes {P : Program} {w : World} {tg : Expr} {X : Cx} {pins : List (Addr × Obj)} {σ : L2.St} {H : Hp} {s : Shared} {E : Value → Shared → Prop} {it : Addr} {fp fpI wr : List Addr} {n i : Nat} {Y : Nat → Heap → Value → Heap → Prop} {St : Nat → Heap → Prop} {yld : V → Hp → Prop} {tn : Heap → Prop}
    (hP : X.prog = P) (hw : X.w = w) (I : Inv X pins σ H s) (W : GoesN P w X.A tg it fp wr n Y St) (hi : i < n) (st : St i s.heap) (hf : ∀ b ∈ fpI, FpOk X pins H b) (hl : ∀ b ∈ fpI, b < s.heap.objs.size) (hwr : ∀ b ∈ wr, b ∈ fpI)
    (hy : ∀ v h', Y i s.heap v h' → ∃ T xs its, v = .ref T ∧ s.heap.objs.size ≤ T ∧ h'.IsTuple T its ∧ Vals xs its.toList ∧ xs.length ≤ 1000 ∧ yld (.ref T) (upd H T (.tup xs))) (ht : ∀ h', St (i + 1) h' → tn h') :
    wpAny (model P w) X.A (pyNext (.ref it)) (fun r s1 => ∃ u, r = some u ∧
      wpAny (model P w) X.A (letOwnedTupleGo tg (.ref it) u) (fun _ s2 => ∃ x H', Inv X pins σ H' s2 ∧ RelV x u ∧ yld x H' ∧ tn s2.heap ∧ ∀ b ∈ fpI, H' b = none) E s1) E s := by
  subst hP hw
  refine W.goes i s _ E hi st fun v h' tk hY st' hk _ => ?_
  obtain ⟨T, xs, its, rfl, hT, hit, hv, hz, y⟩ := hy v h' hY
  refine ⟨.ref T, upd H T (.tup xs), I.turnedNew (ch := fpI) (fun b o hb e => hk b o (fun q => hb (hwr b q)) e) hf hT ?_, rfl, y, ht _ st', fun b hb => ?_⟩
  · have e : its.toList.toArray = its := by simp
    exact ⟨Nat.le_trans hz (by decide), its.toList, hv, by rw [e]; exact hit⟩
  · rw [upd_ne (Nat.ne_of_lt (Nat.lt_of_lt_of_le (hl b hb) hT))]
    exact (hf b hb).1
theorem done_of_goes {P : Program} {w : World} {tg : Expr} {X : Cx} {pins : List (Addr × Obj)} {σ : L2.St} {H : Hp} {s : Shared} {E : Value → Shared → Prop} {it : Addr} {fp fpI wr : List Addr} {n : Nat} {Y : Nat → Heap → Value → Heap → Prop} {St : Nat → Heap → Prop}
    (hP : X.prog = P) (hw : X.w = w) (I : Inv X pins σ H s) (W : GoesN P w X.A tg it fp wr n Y St) (st : St n s.heap) (hf : ∀ b ∈ fpI, FpOk X pins H b) (hwr : ∀ b ∈ wr, b ∈ fpI) :
    wpAny (model P w) X.A (pyNext (.ref it)) (fun r s1 => r = none ∧ Inv X pins σ H s1) E s := by
  subst hP hw
  exact W.stops s _ E st fun h' tk hk _ => I.turnedL (ch := fpI) (fun b o hb e => hk b o (fun q => hb (hwr b q)) e) hf
/-! ### zip of two, of any kind -/
/-- the two as they stand at each turn, the items in new pairs -/
def ItzK (k1 k2 : Bool) (K : PySem.W.Frag) (a b : Addr) : It :=
  ⟨fun i H => ∃ (xs ys : List V), SqK k1 K H a xs ∧ SqK k2 K H b ys ∧ i < min xs.length ys.length,
    fun i H v H' => ∃ T x y, v = .ref T ∧ H T = none ∧ H' = upd H T (.tup [x, y]) ∧ (∀ xs, SqK k1 K H a xs → xs[i]? = some x) ∧ ∀ ys, SqK k2 K H b ys → ys[i]? = some y,
    fun i H => ∃ xs ys : List V, SqK k1 K H a xs ∧ SqK k2 K H b ys ∧ i = min xs.length ys.length⟩
theorem sep2 {z TI TO i1 i2 a b : Addr} (n : Addr) (ez : z = n + 4) (eI : TI = n + 2) (eO : TO = n + 3) (e1 : i1 = n) (e2 : i2 = n + 1) (ha : a < n) (hb : b < n) : ZipSep2 z TI TO i1 i2 [i1, a] [i2, b] := by
  have f : ∀ (n a b : Nat), a < n → b < n → n + 4 ≠ a ∧ n + 4 ≠ b ∧ n + 3 ≠ a ∧ n + 3 ≠ b ∧ n ≠ b ∧ n + 1 ≠ a := fun n a b h1 h2 => by omega
  have g : ∀ (n : Nat), n + 2 ≠ n + 4 ∧ n + 3 ≠ n + 4 ∧ n + 2 ≠ n + 3 ∧ n + 2 ≠ n ∧ n + 4 ≠ n ∧ n + 3 ≠ n ∧ n + 2 ≠ n + 1 ∧ n + 4 ≠ n + 1 ∧ n + 3 ≠ n + 1 ∧ n ≠ n + 1 ∧ n + 1 ≠ n := fun n => by omega
  obtain ⟨f1, f2, f3, f4, f5, f6⟩ := f n a b ha hb
  obtain ⟨g1, g2, g3, g4, g5, g6, g7, g8, g9, g10, g11⟩ := g n
  subst ez eI eO e1 e2
  exact ⟨g1, g2, g3, g4, by simp, by simp only [List.mem_cons, List.not_mem_nil, or_false, not_or]; exact ⟨g5, f1⟩, by simp only [List.mem_cons, List.not_mem_nil, or_false, not_or]; exact ⟨g6, f3⟩, g7, by simp,
    by simp only [List.mem_cons, List.not_mem_nil, or_false, not_or]; exact ⟨g8, f2⟩, by simp only [List.mem_cons, List.not_mem_nil, or_false, not_or]; exact ⟨g9, f4⟩, by simp only [List.mem_cons, List.not_mem_nil, or_false, not_or]; exact ⟨g10, f5⟩, by simp only [List.mem_cons, List.not_mem_nil, or_false, not_or]; exact ⟨g11, f6⟩⟩
theorem turn_zipK {P : Program} {w : World} {K : PySem.W.Frag} {elts : List Expr} {kk : Nat} {tpos : Pos} {k1 k2 : Bool} {a b : Addr} (n : Addr) (ha : a < n) (hb : b < n) :
    Turn P w K (.Tuple elts kk tpos) (ItzK k1 k2 K a b) [n + 4, n + 2, n + 3, n, n + 1] (n + 4) (fun i h => IsZip h (n + 4) (n + 2) (n + 3) .none ∧ IsTupOf2 h (n + 2) (.ref n) (.ref (n + 1)) ∧ (∃ x y, IsTupOf2 h (n + 3) x y) ∧ ItAt k1 h n a i ∧ ItAt k2 h (n + 1) b i) where
  mem := by simp
  obj := fun i h st c hc => by
    obtain ⟨hz, hTI, ⟨x, y, hTO⟩, h1, h2⟩ := st
    have e' : c = n + 4 ∨ c = n + 2 ∨ c = n + 3 ∨ c = n ∨ c = n + 1 := by simpa using hc
    rcases e' with q | q | q | q | q
    · rw [q]; exact ⟨_, hz, fun v q => nomatch q⟩
    · rw [q]; exact ⟨_, hTI, fun v q => nomatch q⟩
    · rw [q]; exact ⟨_, hTO, fun v q => nomatch q⟩
    · rw [q]; exact h1.obj
    · rw [q]; exact h2.obj
  keep := fun i h h' st k => by
    obtain ⟨hz, hTI, ⟨x, y, hTO⟩, h1, h2⟩ := st
    exact ⟨k _ (by simp) _ hz, k _ (by simp) _ hTI, ⟨x, y, k _ (by simp) _ hTO⟩, h1.at fun o q => k _ (by simp) o q, h2.at fun o q => k _ (by simp) o q⟩
  item := by
    intro X hP hw hK hc i pins s σ H E I hf st hg
    have hK' := hK
    subst hK
    obtain ⟨hz, hTI, hTO, h1, h2⟩ := st
    obtain ⟨xs, ys, hqx, hqy, hi⟩ := hg
    obtain ⟨its, rv, p, _⟩ := Inv.seqK I hqx
    obtain ⟨its2, rv2, p2, _⟩ := Inv.seqK I hqy
    have l1 := rv.length
    have l2 := rv2.length
    have hh : X.A.in1.handled = none := I.ok.hd hc
    have W := GoesN.zip2 (elts := elts) (x1 := kk) (pos := tpos) (prog := P) (w := w) (A := X.A) (sep2 n rfl rfl rfl rfl rfl ha hb) (draws_k k1 hh n a (Nat.ne_of_lt ha) its.toArray) (draws_k k2 hh (n + 1) b (Nat.ne_of_lt (Nat.lt_succ_of_lt hb)) its2.toArray)
    have hlz : n + 4 < s.heap.objs.size := Heap.lt_size hz
    refine item_of_goes hP hw I W (i := i) (yld := fun x H' => (ItzK k1 k2 X.K a b).yld i H x H') (tn := fun h => IsZip h (n + 4) (n + 2) (n + 3) .none ∧ IsTupOf2 h (n + 2) (.ref n) (.ref (n + 1)) ∧ (∃ x y, IsTupOf2 h (n + 3) x y) ∧ ItAt k1 h n a (i + 1) ∧ ItAt k2 h (n + 1) b (i + 1)) (by rw [List.size_toArray, List.size_toArray, ← l1, ← l2]; exact hi) ⟨hz, hTI, hTO, ⟨h1, p⟩, ⟨h2, p2⟩⟩ hf (fun c hcm => ?_) (fun c hcm => ?_) (fun v h' hY => ?_) fun h' q => ⟨q.1, q.2.1, q.2.2.1, q.2.2.2.1.1, q.2.2.2.2.1⟩
    · have e' : c = n + 4 ∨ c = n + 2 ∨ c = n + 3 ∨ c = n ∨ c = n + 1 := by simpa using hcm
      have f : ∀ n m : Nat, n + 4 < m → n + 2 < m ∧ n + 3 < m ∧ n < m ∧ n + 1 < m := fun n m h => by omega
      obtain ⟨q1, q2, q3, q4⟩ := f n _ hlz
      rcases e' with q | q | q | q | q
      · rw [q]; exact hlz
      · rw [q]; exact q1
      · rw [q]; exact q2
      · rw [q]; exact q3
      · rw [q]; exact q4
    · have e' : c = n + 4 ∨ c = n + 3 ∨ c = n ∨ c = n + 1 := by simpa using hcm
      rcases e' with q | q | q | q
      · rw [q]; simp
      · rw [q]; simp
      · rw [q]; simp
      · rw [q]; simp
    · obtain ⟨T, u, u2, rfl, hT, hu, hu2, hit⟩ := hY
      have i1 : i < xs.length := Nat.lt_of_lt_of_le hi (Nat.min_le_left _ _)
      have i2 : i < ys.length := Nat.lt_of_lt_of_le hi (Nat.min_le_right _ _)
      obtain ⟨u', hu', ru⟩ := rv.get (List.getElem?_eq_getElem i1)
      obtain ⟨u2', hu2', ru2⟩ := rv2.get (List.getElem?_eq_getElem i2)
      have eu : u' = u := by
        have q : its[i]? = some u := by simpa using hu
        rw [hu'] at q
        exact Option.some.inj q
      have eu2 : u2' = u2 := by
        have q : its2[i]? = some u2 := by simpa using hu2
        rw [hu2'] at q
        exact Option.some.inj q
      subst eu eu2
      exact ⟨T, [xs[i], ys[i]], #[u', u2'], rfl, hT, hit, .cons ru (.cons ru2 .nil), by show 2 ≤ 1000; decide, T, _, _, rfl, I.hok.fresh hT, rfl, fun l hl => by rw [Inv.seqK_inj I hl hqx]; exact List.getElem?_eq_getElem i1, fun l hl => by rw [Inv.seqK_inj I hl hqy]; exact List.getElem?_eq_getElem i2⟩
  done := by
    intro X hP hw hK hc i pins s σ H E I hf st hg
    subst hK
    obtain ⟨hz, hTI, hTO, h1, h2⟩ := st
    obtain ⟨xs, ys, hqx, hqy, hi⟩ := hg
    obtain ⟨its, rv, p, _⟩ := Inv.seqK I hqx
    obtain ⟨its2, rv2, p2, _⟩ := Inv.seqK I hqy
    have l1 := rv.length
    have l2 := rv2.length
    have hh : X.A.in1.handled = none := I.ok.hd hc
    have W := GoesN.zip2 (elts := elts) (x1 := kk) (pos := tpos) (prog := P) (w := w) (A := X.A) (sep2 n rfl rfl rfl rfl rfl ha hb) (draws_k k1 hh n a (Nat.ne_of_lt ha) its.toArray) (draws_k k2 hh (n + 1) b (Nat.ne_of_lt (Nat.lt_succ_of_lt hb)) its2.toArray)
    have ei : min its.toArray.size its2.toArray.size = i := by rw [List.size_toArray, List.size_toArray, ← l1, ← l2]; exact hi.symm
    refine done_of_goes hP hw I W (by rw [ei]; exact ⟨hz, hTI, hTO, ⟨h1, p⟩, ⟨h2, p2⟩⟩) hf (fun c hcm => ?_)
    have e' : c = n + 4 ∨ c = n + 3 ∨ c = n ∨ c = n + 1 := by simpa using hcm
    rcases e' with q | q | q | q
    · rw [q]; simp
    · rw [q]; simp
    · rw [q]; simp
    · rw [q]; simp
  self := fun A i s Q E st h => wpAny_pyIter_zip st.1 h
def iZipK (k1 k2 : Bool) (K : PySem.W.Frag) (ta : TA) : TI := fun σ H R => ta σ H fun vs H1 => ∃ a b xs ys, vs = [.ref a, .ref b] ∧ SqK k1 K H1 a xs ∧ SqK k2 K H1 b ys ∧ R (ItzK k1 k2 K a b) H1
theorem pi_zipK {X : Cx} {e e2 : Expr} {ta : TA} {p pos tpos : Pos} {elts : List Expr} {kk : Nat} (k1 k2 : Bool) (hg : Gl X "zip") (hm : X.mg "zip" = none) (ha : PA X [e, e2] ta)
    (hs : starEach [e, e2] X.env = (false, eval e X.env) :: starEach [e2] X.env := by rfl) (hpl : (backTo pos (starEach [e2] X.env)).any (·.1) = false := by rfl) :
    PI X (.Tuple elts kk tpos) (.Call (.Name "zip" p) [e, e2] [] pos) (iZipK k1 k2 X.K ta) := by
  refine ⟨fun pins s σ H R I h => ?_⟩
  refine Call_ (ld_blt I hg hm PyProof.Rows.boot_zip (PyProof.Rows.callWith_type1 (thn (ha.run pos pins s σ H _ I h) fun us s1 ⟨vs, H1, I1, r1, q1⟩ => ?_) hs hpl))
  obtain ⟨a, b, xs, ys, rfl, hqx, hqy, q⟩ := q1
  cases r1 with
  | cons r rr =>
    cases rr with
    | cons r' rr =>
      cases rr
      cases r
      cases r'
      obtain ⟨its, rv, p1, la⟩ := Inv.seqK I1 hqx
      obtain ⟨its2, rv2, p2, lb⟩ := Inv.seqK I1 hqy
      refine zip_begins2 (begins_k k1 a its.toArray) (begins_k k2 b its2.toArray) p1 p2 fun h' hz hTI hTO g1 g2 hsz hk => wpAny_pyIter_zip hz ?_
      have I2 : Inv X pins σ H1 { s1 with heap := h' } := I1.kept (t' := s1.toks) hk
      refine ⟨s1.heap.objs.size + 4, [s1.heap.objs.size + 4, s1.heap.objs.size + 2, s1.heap.objs.size + 3, s1.heap.objs.size, s1.heap.objs.size + 1], _, _, H1, rfl, I2, turn_zipK (k1 := k1) (k2 := k2) s1.heap.objs.size la lb, ⟨hz, hTI, ⟨_, _, hTO⟩, itAt_new g1, itAt_new g2⟩, fun c hcm => ?_, q⟩
      have e' : c = s1.heap.objs.size + 4 ∨ c = s1.heap.objs.size + 2 ∨ c = s1.heap.objs.size + 3 ∨ c = s1.heap.objs.size ∨ c = s1.heap.objs.size + 1 := by simpa using hcm
      have hle : s1.heap.objs.size ≤ c := by
        rcases e' with z | z | z | z | z
        · rw [z]; exact Nat.le_add_right _ _
        · rw [z]; exact Nat.le_add_right _ _
        · rw [z]; exact Nat.le_add_right _ _
        · rw [z]; exact Nat.le_refl _
        · rw [z]; exact Nat.le_add_right _ _
      obtain ⟨f0, f1, f2, f3, f4, f5⟩ := I1.fpOk hle (I1.hok.fresh hle)
      exact ⟨f0, f1, f2, f3, f4, f5⟩
theorem walk_zipK {k1 k2 : Bool} {K : PySem.W.Frag} {a b : Addr} {xs ys : List V} {n : Nat} (hn : n = min xs.length ys.length) : Walk (ItzK k1 k2 K a b) n (fun H => SqK k1 K H a xs ∧ SqK k2 K H b ys) (YPair (fun i => xs[i]?) (fun i => ys[i]?)) := by
  subst hn
  refine ⟨fun i _ hi q => ⟨xs, ys, q.1, q.2, hi⟩, fun _ q => ⟨xs, ys, q.1, q.2, rfl⟩, fun i H v H' _ q y => ?_⟩
  obtain ⟨T, x, z, h1, h2, h3, h4, h5⟩ := y
  exact ⟨T, x, z, h1, h2, h3, h4 xs q.1, h5 ys q.2⟩
end Fp
end part_B2
section part_B3
set_option maxHeartbeats 2000000
namespace Fp
open PySem PySem.Spec PyProof.Rows L2
/-! ### enumerate of a list or a tuple -/
def IteK (k : Bool) (K : PySem.W.Frag) (a : Addr) : It :=
  ⟨fun i H => ∃ (xs : List V), SqK k K H a xs ∧ i < xs.length, fun i H v H' => ∃ T x, v = .ref T ∧ H T = none ∧ H' = upd H T (.tup [.int (i : Nat), x]) ∧ ∀ xs, SqK k K H a xs → xs[i]? = some x, fun i H => ∃ xs : List V, SqK k K H a xs ∧ i = xs.length⟩
theorem turn_enumK {P : Program} {w : World} {K : PySem.W.Frag} {elts : List Expr} {kk : Nat} {tpos : Pos} {k : Bool} {a : Addr} (n : Addr) (ha : a < n) :
    Turn P w K (.Tuple elts kk tpos) (IteK k K a) [n + 1, n] (n + 1) (fun i h => (∃ old, IsEnum h (n + 1) n ((0 : Int) + (i : Int)) old) ∧ ItAt k h n a i) where
  mem := by simp
  obj := fun i h st c hc => by
    obtain ⟨⟨old, he⟩, h1⟩ := st
    have e' : c = n + 1 ∨ c = n := by simpa using hc
    rcases e' with q | q
    · rw [q]; exact ⟨_, he, fun v q => nomatch q⟩
    · rw [q]; exact h1.obj
  keep := fun i h h' st k => by
    obtain ⟨⟨old, he⟩, h1⟩ := st
    exact ⟨⟨old, k _ (by simp) _ he⟩, h1.at fun o q => k _ (by simp) o q⟩
  item := by
    intro X hP hw hK hc i pins s σ H E I hf st hg
    subst hK
    obtain ⟨⟨old, he⟩, h1⟩ := st
    obtain ⟨xs, hqx, hi⟩ := hg
    obtain ⟨its, rv, p, _⟩ := Inv.seqK I hqx
    have l1 := rv.length
    have hh : X.A.in1.handled = none := I.ok.hd hc
    have g : ∀ n a : Nat, a < n → n + 1 ≠ n ∧ n + 1 ≠ a := fun n a h => by omega
    obtain ⟨g1, g2⟩ := g n a ha
    have W := GoesN.enumFrom (elts := elts) (x1 := kk) (pos := tpos) (prog := P) (w := w) (A := X.A) 0 (draws_k k hh n a (Nat.ne_of_lt ha) its.toArray) (n + 1) g1 (by simp only [List.mem_cons, List.not_mem_nil, or_false, not_or]; exact ⟨g1, g2⟩) (by simp)
    have hlz : n + 1 < s.heap.objs.size := Heap.lt_size he
    refine item_of_goes hP hw I W (i := i) (yld := fun x H' => (IteK k X.K a).yld i H x H') (tn := fun h => (∃ old, IsEnum h (n + 1) n ((0 : Int) + ((i + 1 : Nat) : Int)) old) ∧ ItAt k h n a (i + 1)) (by rw [List.size_toArray, ← l1]; exact hi) ⟨⟨old, he⟩, ⟨h1, p⟩⟩ hf (fun c hcm => ?_) (fun c hcm => ?_) (fun v h' hY => ?_) fun h' q => ⟨q.1, q.2.1⟩
    · have e' : c = n + 1 ∨ c = n := by simpa using hcm
      rcases e' with q | q
      · rw [q]; exact hlz
      · rw [q]; exact Nat.lt_of_succ_lt hlz
    · exact hcm
    · obtain ⟨T, t, u, rfl, hT, hu, hit⟩ := hY
      obtain ⟨u', hu', ru⟩ := rv.get (List.getElem?_eq_getElem hi)
      have eu : u' = u := by
        have q : its[i]? = some u := by simpa using hu
        rw [hu'] at q
        exact Option.some.inj q
      subst eu
      exact ⟨T, [.int (i : Nat), xs[i]], #[.int (0 + (i : Int)) t, u'], rfl, hT, hit, .cons ⟨t, by rw [Int.zero_add]⟩ (.cons ru .nil), by show 2 ≤ 1000; decide, T, _, rfl, I.hok.fresh hT, rfl, fun l hl => by rw [Inv.seqK_inj I hl hqx]; exact List.getElem?_eq_getElem hi⟩
  done := by
    intro X hP hw hK hc i pins s σ H E I hf st hg
    subst hK
    obtain ⟨⟨old, he⟩, h1⟩ := st
    obtain ⟨xs, hqx, hi⟩ := hg
    obtain ⟨its, rv, p, _⟩ := Inv.seqK I hqx
    have l1 := rv.length
    have hh : X.A.in1.handled = none := I.ok.hd hc
    have g : ∀ n a : Nat, a < n → n + 1 ≠ n ∧ n + 1 ≠ a := fun n a h => by omega
    obtain ⟨g1, g2⟩ := g n a ha
    have W := GoesN.enumFrom (elts := elts) (x1 := kk) (pos := tpos) (prog := P) (w := w) (A := X.A) 0 (draws_k k hh n a (Nat.ne_of_lt ha) its.toArray) (n + 1) g1 (by simp only [List.mem_cons, List.not_mem_nil, or_false, not_or]; exact ⟨g1, g2⟩) (by simp)
    have ei : its.toArray.size = i := by rw [List.size_toArray, ← l1]; exact hi.symm
    exact done_of_goes hP hw I W (by rw [ei]; exact ⟨⟨old, he⟩, ⟨h1, p⟩⟩) hf (fun c hcm => hcm)
  self := fun A i s Q E st h => let ⟨⟨_, he⟩, _⟩ := st; wpAny_pyIter_enum he h
theorem meets_enum1 {v : Value} {o : Obj} {H : Heap → Prop} (B : Begins v o H) :
    Meets (Builtin.«enumerate.__new__» ⟨[.type "enumerate", v], []⟩) (fun _ R s => H s.heap ∧
      R (.ok (.ret (.ref (s.heap.push o).objs.size))) { s with heap := (s.heap.push o).push { cls := .type "enumerate", data := .fields #[.none, .bool false, .ref s.heap.objs.size, rawInt 0, .none, .none] } }) :=
  .of_wp fun prog w A R s h => by
    obtain ⟨hp, g, d, tk, os⟩ := s
    obtain ⟨h1, h⟩ := h
    have hsub := sub_enumerate
    have q1 : ∀ {A' : Around} {E : Value → Shared → Prop} {Q : Value → Shared → Prop}, Q (.ref hp.objs.size) ⟨hp.push o, g, d, tk, os⟩ → wpAny (model prog w) A' (pyIter v) Q E ⟨hp, g, d, tk, os⟩ :=
      fun q => B.iter prog w _ _ ⟨hp, g, d, tk, os⟩ _ h1 q
    wp_walk using q1
    refine wpAny_stack_any fun st => wpAny_pure ?_
    split
    · rename_i c _ _ _ _ _
      cases (c == Value.type "enumerate")
      · wp_walk using q1
        exact ⟨_, rfl, h⟩
      · wp_walk using q1
        exact ⟨_, rfl, h⟩
    · wp_walk using q1
      exact ⟨_, rfl, h⟩
theorem enum_begins1 {prog : Program} {w : World} {A : Around} {E : Value → Shared → Prop} {s : Shared} {v : Value} {o : Obj} {H : Heap → Prop} {Q : Value → Shared → Prop} (B : Begins v o H) (h1 : H s.heap)
    (h : ∀ h', IsEnum h' (s.heap.objs.size + 1) s.heap.objs.size 0 .none → h'.get? s.heap.objs.size = some o →
      (∀ b o, s.heap.get? b = some o → h'.get? b = some o) → Q (.ref (s.heap.objs.size + 1)) { s with heap := h' }) :
    wpAny (model prog w) A (call (.type "enumerate") [v]) Q E s := by
  refine callType_new F.called_enumerate (by decide) (F.typeCall_enumerate_1 _) (F.newCall_enumerate_1 _) (fun obj => F.args_object_init_2 obj _) F.entry_enumerate_new (meets_enum1 B) ⟨h1, ?_⟩
  have hz : (s.heap.push o).objs.size = s.heap.objs.size + 1 := Heap.size_push ..
  show _ ∧ _
  rw [hz]
  have he : IsEnum ((s.heap.push o).push { cls := .type "enumerate", data := .fields #[.none, .bool false, .ref s.heap.objs.size, rawInt 0, .none, .none] }) (s.heap.objs.size + 1) s.heap.objs.size 0 .none := by
    have := Heap.get?_push_size (s.heap.push o) (o := { cls := .type "enumerate", data := .fields #[.none, .bool false, .ref s.heap.objs.size, rawInt 0, .none, .none] }) rfl
    rw [hz] at this
    exact this
  exact ⟨⟨_, he, rfl⟩, h _ he (Heap.get?_push_of_some _ (Heap.get?_push_size _ B.free)) fun b o x => Heap.get?_push_of_some _ (Heap.get?_push_of_some _ x)⟩
def iEnumK (k : Bool) (K : PySem.W.Frag) (ta : TA) : TI := fun σ H R => ta σ H fun vs H1 => ∃ a xs, vs = [.ref a] ∧ SqK k K H1 a xs ∧ R (IteK k K a) H1
theorem pi_enumK {X : Cx} {e : Expr} {ta : TA} {p pos tpos : Pos} {elts : List Expr} {kk : Nat} (k : Bool) (hg : Gl X "enumerate") (hm : X.mg "enumerate" = none) (ha : PA X [e] ta) (hs : starEach [e] X.env = [(false, eval e X.env)] := by rfl) :
    PI X (.Tuple elts kk tpos) (.Call (.Name "enumerate" p) [e] [] pos) (iEnumK k X.K ta) := by
  refine ⟨fun pins s σ H R I h => ?_⟩
  refine Call_ (ld_blt I hg hm boot_enumerate (PyProof.Rows.callWith_type1 (thn (ha.run pos pins s σ H _ I h) fun us s1 ⟨vs, H1, I1, r1, q1⟩ => ?_) hs rfl))
  obtain ⟨a, xs, rfl, hqx, q⟩ := q1
  cases r1 with
  | cons r rr =>
    cases rr
    cases r
    obtain ⟨its, rv, p1, la⟩ := Inv.seqK I1 hqx
    refine enum_begins1 (begins_k k a its.toArray) p1 fun h' he g1 hk => wpAny_pyIter_enum he ?_
    have I2 : Inv X pins σ H1 { s1 with heap := h' } := I1.kept (t' := s1.toks) hk
    refine ⟨s1.heap.objs.size + 1, [s1.heap.objs.size + 1, s1.heap.objs.size], _, _, H1, rfl, I2, turn_enumK (k := k) s1.heap.objs.size la, ⟨⟨_, he⟩, itAt_new g1⟩, fun c hcm => ?_, q⟩
    have e' : c = s1.heap.objs.size + 1 ∨ c = s1.heap.objs.size := by simpa using hcm
    have hle : s1.heap.objs.size ≤ c := by
      rcases e' with z | z
      · rw [z]; exact Nat.le_add_right _ _
      · rw [z]; exact Nat.le_refl _
    obtain ⟨f0, f1, f2, f3, f4, f5⟩ := I1.fpOk hle (I1.hok.fresh hle)
    exact ⟨f0, f1, f2, f3, f4, f5⟩
theorem walk_enumK {k : Bool} {K : PySem.W.Frag} {a : Addr} {xs : List V} : Walk (IteK k K a) xs.length (fun H => SqK k K H a xs) (YPair (fun i => some (.int (i : Nat))) (fun i => xs[i]?)) := by
  refine ⟨fun i _ hi q => ⟨xs, q, hi⟩, fun _ q => ⟨xs, q, rfl⟩, fun i H v H' _ q y => ?_⟩
  obtain ⟨T, x, h1, h2, h3, h4⟩ := y
  exact ⟨T, .int (i : Nat), x, h1, h2, h3, rfl, h4 xs q⟩
/-! ### zip of three -/
def ItzK3 (k1 k2 k3 : Bool) (K : PySem.W.Frag) (a b c : Addr) : It :=
  ⟨fun i H => ∃ (xs ys zs : List V), SqK k1 K H a xs ∧ SqK k2 K H b ys ∧ SqK k3 K H c zs ∧ i < min (min xs.length ys.length) zs.length,
    fun i H v H' => ∃ T x y z, v = .ref T ∧ H T = none ∧ H' = upd H T (.tup [x, y, z]) ∧ (∀ xs, SqK k1 K H a xs → xs[i]? = some x) ∧ (∀ ys, SqK k2 K H b ys → ys[i]? = some y) ∧ ∀ zs, SqK k3 K H c zs → zs[i]? = some z,
    fun i H => ∃ xs ys zs : List V, SqK k1 K H a xs ∧ SqK k2 K H b ys ∧ SqK k3 K H c zs ∧ i = min (min xs.length ys.length) zs.length⟩
theorem sep3 {a b c : Addr} (n : Addr) (ha : a < n) (hb : b < n) (hc : c < n) : ZipSep3 (n + 5) (n + 3) (n + 4) n (n + 1) (n + 2) [n, a] [n + 1, b] [n + 2, c] := by
  have f : ∀ (n a b c : Nat), a < n → b < n → c < n → n + 5 ≠ a ∧ n + 5 ≠ b ∧ n + 5 ≠ c ∧ n + 4 ≠ a ∧ n + 4 ≠ b ∧ n + 4 ≠ c ∧ n ≠ b ∧ n ≠ c ∧ n + 1 ≠ a ∧ n + 1 ≠ c ∧ n + 2 ≠ a ∧ n + 2 ≠ b := fun n a b c h1 h2 h3 => by omega
  have g : ∀ (n : Nat), n + 3 ≠ n + 5 ∧ n + 4 ≠ n + 5 ∧ n + 3 ≠ n + 4 ∧ n + 3 ≠ n ∧ n + 5 ≠ n ∧ n + 4 ≠ n ∧ n + 3 ≠ n + 1 ∧ n + 5 ≠ n + 1 ∧ n + 4 ≠ n + 1 ∧ n + 3 ≠ n + 2 ∧ n + 5 ≠ n + 2 ∧ n + 4 ≠ n + 2 ∧ n ≠ n + 1 ∧ n ≠ n + 2 ∧ n + 1 ≠ n ∧ n + 1 ≠ n + 2 ∧ n + 2 ≠ n ∧ n + 2 ≠ n + 1 := fun n => by omega
  obtain ⟨f1, f2, f3, f4, f5, f6, f7, f8, f9, f10, f11, f12⟩ := f n a b c ha hb hc
  obtain ⟨g1, g2, g3, g4, g5, g6, g7, g8, g9, g10, g11, g12, g13, g14, g15, g16, g17, g18⟩ := g n
  have m2 : ∀ {x y z : Addr}, x ≠ y → x ≠ z → x ∉ [y, z] := fun {x y z} h1 h2 => by simp only [List.mem_cons, List.not_mem_nil, or_false, not_or]; exact ⟨h1, h2⟩
  exact ⟨g1, g2, g3, g4, by simp, m2 g5 f1, m2 g6 f4, g7, by simp, m2 g8 f2, m2 g9 f5, g10, by simp, m2 g11 f3, m2 g12 f6, m2 g13 f7, m2 g14 f8, m2 g15 f9, m2 g16 f10, m2 g17 f11, m2 g18 f12⟩
theorem turn_zipK3 {P : Program} {w : World} {K : PySem.W.Frag} {elts : List Expr} {kk : Nat} {tpos : Pos} {k1 k2 k3 : Bool} {a b c : Addr} (n : Addr) (ha : a < n) (hb : b < n) (hc' : c < n) :
    Turn P w K (.Tuple elts kk tpos) (ItzK3 k1 k2 k3 K a b c) [n + 5, n + 3, n + 4, n, n + 1, n + 2] (n + 5) (fun i h => IsZip h (n + 5) (n + 3) (n + 4) .none ∧ IsTupOf3 h (n + 3) (.ref n) (.ref (n + 1)) (.ref (n + 2)) ∧ (∃ x y z, IsTupOf3 h (n + 4) x y z) ∧ ItAt k1 h n a i ∧ ItAt k2 h (n + 1) b i ∧ ItAt k3 h (n + 2) c i) where
  mem := by simp
  obj := fun i h st d hd => by
    obtain ⟨hz, hTI, ⟨x, y, z, hTO⟩, h1, h2, h3⟩ := st
    have e' : d = n + 5 ∨ d = n + 3 ∨ d = n + 4 ∨ d = n ∨ d = n + 1 ∨ d = n + 2 := by simpa using hd
    rcases e' with q | q | q | q | q | q
    · rw [q]; exact ⟨_, hz, fun v q => nomatch q⟩
    · rw [q]; exact ⟨_, hTI, fun v q => nomatch q⟩
    · rw [q]; exact ⟨_, hTO, fun v q => nomatch q⟩
    · rw [q]; exact h1.obj
    · rw [q]; exact h2.obj
    · rw [q]; exact h3.obj
  keep := fun i h h' st k => by
    obtain ⟨hz, hTI, ⟨x, y, z, hTO⟩, h1, h2, h3⟩ := st
    exact ⟨k _ (by simp) _ hz, k _ (by simp) _ hTI, ⟨x, y, z, k _ (by simp) _ hTO⟩, h1.at fun o q => k _ (by simp) o q, h2.at fun o q => k _ (by simp) o q, h3.at fun o q => k _ (by simp) o q⟩
  item := by
    intro X hP hw hK hc i pins s σ H E I hf st hg
    subst hK
    obtain ⟨hz, hTI, hTO, h1, h2, h3⟩ := st
    obtain ⟨xs, ys, zs, hqx, hqy, hqz, hi⟩ := hg
    obtain ⟨its, rv, p, _⟩ := Inv.seqK I hqx
    obtain ⟨its2, rv2, p2, _⟩ := Inv.seqK I hqy
    obtain ⟨its3, rv3, p3, _⟩ := Inv.seqK I hqz
    have l1 := rv.length
    have l2 := rv2.length
    have l3 := rv3.length
    have hh : X.A.in1.handled = none := I.ok.hd hc
    have W := GoesN.zip3 (elts := elts) (x1 := kk) (pos := tpos) (prog := P) (w := w) (A := X.A) (sep3 n ha hb hc') (draws_k k1 hh n a (Nat.ne_of_lt ha) its.toArray) (draws_k k2 hh (n + 1) b (Nat.ne_of_lt (Nat.lt_succ_of_lt hb)) its2.toArray) (draws_k k3 hh (n + 2) c (Nat.ne_of_lt (Nat.lt_succ_of_lt (Nat.lt_succ_of_lt hc'))) its3.toArray)
    have hlz : n + 5 < s.heap.objs.size := Heap.lt_size hz
    refine item_of_goes hP hw I W (i := i) (yld := fun x H' => (ItzK3 k1 k2 k3 X.K a b c).yld i H x H') (tn := fun h => IsZip h (n + 5) (n + 3) (n + 4) .none ∧ IsTupOf3 h (n + 3) (.ref n) (.ref (n + 1)) (.ref (n + 2)) ∧ (∃ x y z, IsTupOf3 h (n + 4) x y z) ∧ ItAt k1 h n a (i + 1) ∧ ItAt k2 h (n + 1) b (i + 1) ∧ ItAt k3 h (n + 2) c (i + 1))
      (by rw [List.size_toArray, List.size_toArray, List.size_toArray, ← l1, ← l2, ← l3]; exact hi) ⟨hz, hTI, hTO, ⟨h1, p⟩, ⟨h2, p2⟩, ⟨h3, p3⟩⟩ hf (fun d hcm => ?_) (fun d hcm => ?_) (fun v h' hY => ?_) fun h' q => ⟨q.1, q.2.1, q.2.2.1, q.2.2.2.1.1, q.2.2.2.2.1.1, q.2.2.2.2.2.1⟩
    · have e' : d = n + 5 ∨ d = n + 3 ∨ d = n + 4 ∨ d = n ∨ d = n + 1 ∨ d = n + 2 := by simpa using hcm
      have f : ∀ n m : Nat, n + 5 < m → n + 3 < m ∧ n + 4 < m ∧ n < m ∧ n + 1 < m ∧ n + 2 < m := fun n m h => by omega
      obtain ⟨q1, q2, q3, q4, q5⟩ := f n _ hlz
      rcases e' with q | q | q | q | q | q
      · rw [q]; exact hlz
      · rw [q]; exact q1
      · rw [q]; exact q2
      · rw [q]; exact q3
      · rw [q]; exact q4
      · rw [q]; exact q5
    · have e' : d = n + 5 ∨ d = n + 4 ∨ d = n ∨ d = n + 1 ∨ d = n + 2 := by simpa using hcm
      rcases e' with q | q | q | q | q
      · rw [q]; simp
      · rw [q]; simp
      · rw [q]; simp
      · rw [q]; simp
      · rw [q]; simp
    · obtain ⟨T, u, u2, u3, rfl, hT, hu, hu2, hu3, hit⟩ := hY
      have i1 : i < xs.length := Nat.lt_of_lt_of_le hi (Nat.le_trans (Nat.min_le_left _ _) (Nat.min_le_left _ _))
      have i2 : i < ys.length := Nat.lt_of_lt_of_le hi (Nat.le_trans (Nat.min_le_left _ _) (Nat.min_le_right _ _))
      have i3 : i < zs.length := Nat.lt_of_lt_of_le hi (Nat.min_le_right _ _)
      obtain ⟨u', hu', ru⟩ := rv.get (List.getElem?_eq_getElem i1)
      obtain ⟨u2', hu2', ru2⟩ := rv2.get (List.getElem?_eq_getElem i2)
      obtain ⟨u3', hu3', ru3⟩ := rv3.get (List.getElem?_eq_getElem i3)
      have eu : u' = u := by
        have q : its[i]? = some u := by simpa using hu
        rw [hu'] at q
        exact Option.some.inj q
      have eu2 : u2' = u2 := by
        have q : its2[i]? = some u2 := by simpa using hu2
        rw [hu2'] at q
        exact Option.some.inj q
      have eu3 : u3' = u3 := by
        have q : its3[i]? = some u3 := by simpa using hu3
        rw [hu3'] at q
        exact Option.some.inj q
      subst eu eu2 eu3
      exact ⟨T, [xs[i], ys[i], zs[i]], #[u', u2', u3'], rfl, hT, hit, .cons ru (.cons ru2 (.cons ru3 .nil)), by show 3 ≤ 1000; decide, T, _, _, _, rfl, I.hok.fresh hT, rfl, fun l hl => by rw [Inv.seqK_inj I hl hqx]; exact List.getElem?_eq_getElem i1,
        fun l hl => by rw [Inv.seqK_inj I hl hqy]; exact List.getElem?_eq_getElem i2, fun l hl => by rw [Inv.seqK_inj I hl hqz]; exact List.getElem?_eq_getElem i3⟩
  done := by
    intro X hP hw hK hc i pins s σ H E I hf st hg
    subst hK
    obtain ⟨hz, hTI, hTO, h1, h2, h3⟩ := st
    obtain ⟨xs, ys, zs, hqx, hqy, hqz, hi⟩ := hg
    obtain ⟨its, rv, p, _⟩ := Inv.seqK I hqx
    obtain ⟨its2, rv2, p2, _⟩ := Inv.seqK I hqy
    obtain ⟨its3, rv3, p3, _⟩ := Inv.seqK I hqz
    have l1 := rv.length
    have l2 := rv2.length
    have l3 := rv3.length
    have hh : X.A.in1.handled = none := I.ok.hd hc
    have W := GoesN.zip3 (elts := elts) (x1 := kk) (pos := tpos) (prog := P) (w := w) (A := X.A) (sep3 n ha hb hc') (draws_k k1 hh n a (Nat.ne_of_lt ha) its.toArray) (draws_k k2 hh (n + 1) b (Nat.ne_of_lt (Nat.lt_succ_of_lt hb)) its2.toArray) (draws_k k3 hh (n + 2) c (Nat.ne_of_lt (Nat.lt_succ_of_lt (Nat.lt_succ_of_lt hc'))) its3.toArray)
    have ei : min (min its.toArray.size its2.toArray.size) its3.toArray.size = i := by rw [List.size_toArray, List.size_toArray, List.size_toArray, ← l1, ← l2, ← l3]; exact hi.symm
    refine done_of_goes hP hw I W (by rw [ei]; exact ⟨hz, hTI, hTO, ⟨h1, p⟩, ⟨h2, p2⟩, ⟨h3, p3⟩⟩) hf (fun d hcm => ?_)
    have e' : d = n + 5 ∨ d = n + 4 ∨ d = n ∨ d = n + 1 ∨ d = n + 2 := by simpa using hcm
    rcases e' with q | q | q | q | q
    · rw [q]; simp
    · rw [q]; simp
    · rw [q]; simp
    · rw [q]; simp
    · rw [q]; simp
  self := fun A i s Q E st h => wpAny_pyIter_zip st.1 h
def iZipK3 (k1 k2 k3 : Bool) (K : PySem.W.Frag) (ta : TA) : TI := fun σ H R => ta σ H fun vs H1 => ∃ a b c xs ys zs, vs = [.ref a, .ref b, .ref c] ∧ SqK k1 K H1 a xs ∧ SqK k2 K H1 b ys ∧ SqK k3 K H1 c zs ∧ R (ItzK3 k1 k2 k3 K a b c) H1
theorem pi_zipK3 {X : Cx} {e e2 e3 : Expr} {ta : TA} {p pos tpos : Pos} {elts : List Expr} {kk : Nat} (k1 k2 k3 : Bool) (hg : Gl X "zip") (hm : X.mg "zip" = none) (ha : PA X [e, e2, e3] ta)
    (hs : starEach [e, e2, e3] X.env = (false, eval e X.env) :: starEach [e2, e3] X.env := by rfl) (hpl : (backTo pos (starEach [e2, e3] X.env)).any (·.1) = false := by rfl) :
    PI X (.Tuple elts kk tpos) (.Call (.Name "zip" p) [e, e2, e3] [] pos) (iZipK3 k1 k2 k3 X.K ta) := by
  refine ⟨fun pins s σ H R I h => ?_⟩
  refine Call_ (ld_blt I hg hm PyProof.Rows.boot_zip (PyProof.Rows.callWith_type1 (thn (ha.run pos pins s σ H _ I h) fun us s1 ⟨vs, H1, I1, r1, q1⟩ => ?_) hs hpl))
  obtain ⟨a, b, c, xs, ys, zs, rfl, hqx, hqy, hqz, q⟩ := q1
  cases r1 with
  | cons r rr =>
    cases rr with
    | cons r' rr =>
      cases rr with
      | cons r'' rr =>
        cases rr
        cases r
        cases r'
        cases r''
        obtain ⟨its, rv, p1, la⟩ := Inv.seqK I1 hqx
        obtain ⟨its2, rv2, p2, lb⟩ := Inv.seqK I1 hqy
        obtain ⟨its3, rv3, p3, lc⟩ := Inv.seqK I1 hqz
        refine zip_begins3 (begins_k k1 a its.toArray) (begins_k k2 b its2.toArray) (begins_k k3 c its3.toArray) p1 p2 p3 fun h' hz hTI hTO g1 g2 g3 hsz hk => wpAny_pyIter_zip hz ?_
        have I2 : Inv X pins σ H1 { s1 with heap := h' } := I1.kept (t' := s1.toks) hk
        refine ⟨s1.heap.objs.size + 5, [s1.heap.objs.size + 5, s1.heap.objs.size + 3, s1.heap.objs.size + 4, s1.heap.objs.size, s1.heap.objs.size + 1, s1.heap.objs.size + 2], _, _, H1, rfl, I2, turn_zipK3 (k1 := k1) (k2 := k2) (k3 := k3) s1.heap.objs.size la lb lc, ⟨hz, hTI, ⟨_, _, _, hTO⟩, itAt_new g1, itAt_new g2, itAt_new g3⟩, fun d hcm => ?_, q⟩
        have e' : d = s1.heap.objs.size + 5 ∨ d = s1.heap.objs.size + 3 ∨ d = s1.heap.objs.size + 4 ∨ d = s1.heap.objs.size ∨ d = s1.heap.objs.size + 1 ∨ d = s1.heap.objs.size + 2 := by simpa using hcm
        have hle : s1.heap.objs.size ≤ d := by
          rcases e' with z | z | z | z | z | z
          · rw [z]; exact Nat.le_add_right _ _
          · rw [z]; exact Nat.le_add_right _ _
          · rw [z]; exact Nat.le_add_right _ _
          · rw [z]; exact Nat.le_refl _
          · rw [z]; exact Nat.le_add_right _ _
          · rw [z]; exact Nat.le_add_right _ _
        obtain ⟨f0, f1, f2, f3, f4, f5⟩ := I1.fpOk hle (I1.hok.fresh hle)
        exact ⟨f0, f1, f2, f3, f4, f5⟩
/-- a new triple -/
def YTrip (xs ys zs : Nat → Option V) : Nat → Hp → V → Hp → Prop := fun i H v H' => ∃ T x y z, v = .ref T ∧ H T = none ∧ H' = upd H T (.tup [x, y, z]) ∧ xs i = some x ∧ ys i = some y ∧ zs i = some z
theorem walk_zipK3 {k1 k2 k3 : Bool} {K : PySem.W.Frag} {a b c : Addr} {xs ys zs : List V} {n : Nat} (hn : n = min (min xs.length ys.length) zs.length) : Walk (ItzK3 k1 k2 k3 K a b c) n (fun H => SqK k1 K H a xs ∧ SqK k2 K H b ys ∧ SqK k3 K H c zs) (YTrip (fun i => xs[i]?) (fun i => ys[i]?) (fun i => zs[i]?)) := by
  subst hn
  refine ⟨fun i _ hi q => ⟨xs, ys, zs, q.1, q.2.1, q.2.2, hi⟩, fun _ q => ⟨xs, ys, zs, q.1, q.2.1, q.2.2, rfl⟩, fun i H v H' _ q y => ?_⟩
  obtain ⟨T, x, y, z, h1, h2, h3, h4, h5, h6⟩ := y
  exact ⟨T, x, y, z, h1, h2, h3, h4 xs q.1, h5 ys q.2.1, h6 zs q.2.2⟩
end Fp
end part_B3
section part_B4
set_option maxHeartbeats 2000000
namespace Fp
open PySem PySem.Spec PyProof.Rows L2 Prd
/-! ### itertools.product of two lists, walked -/
theorem place_next {n m j : Nat} (h : j + 1 < n * m) : (j % m + 1 < m ∧ (j + 1) / m = j / m ∧ (j + 1) % m = j % m + 1) ∨ (j % m + 1 = m ∧ j / m + 1 < n ∧ (j + 1) / m = j / m + 1 ∧ (j + 1) % m = 0) := by
  have hm : 0 < m := by
    rcases Nat.eq_zero_or_pos m with e | e
    · rw [e, Nat.mul_zero] at h
      omega
    · exact e
  have ej := Nat.div_add_mod j m
  have hb := Nat.mod_lt j hm
  by_cases hlt : j % m + 1 < m
  · left
    have e1 : j + 1 = m * (j / m) + (j % m + 1) := by omega
    refine ⟨hlt, ?_, ?_⟩
    · rw [e1, Nat.mul_add_div hm, Nat.div_eq_of_lt hlt, Nat.add_zero]
    · rw [e1, Nat.mul_add_mod, Nat.mod_eq_of_lt hlt]
  · right
    have e0 : j % m + 1 = m := by omega
    have e1 : j + 1 = m * (j / m + 1) := by rw [Nat.mul_add, Nat.mul_one]; omega
    refine ⟨e0, ?_, ?_, ?_⟩
    · rw [e1, Nat.mul_comm] at h
      exact Nat.lt_of_mul_lt_mul_right h
    · rw [e1, Nat.mul_div_cancel_left _ hm]
    · rw [e1, Nat.mul_mod_right]
theorem place_lt {n m i : Nat} (h : i < n * m) : i / m < n ∧ i % m < m := by
  have hm : 0 < m := by
    rcases Nat.eq_zero_or_pos m with e | e
    · rw [e, Nat.mul_zero] at h
      omega
    · exact e
  exact ⟨Nat.div_lt_of_lt_mul (by rw [Nat.mul_comm]; exact h), Nat.mod_lt _ hm⟩
theorem place_last {n m j : Nat} (h : j + 1 = n * m) : j / m + 1 = n ∧ j % m + 1 = m := by
  have hm : 0 < m := by
    rcases Nat.eq_zero_or_pos m with e | e
    · rw [e, Nat.mul_zero] at h
      omega
    · exact e
  have ej := Nat.div_add_mod j m
  have hb := Nat.mod_lt j hm
  have ha : j / m < n := Nat.div_lt_of_lt_mul (by rw [Nat.mul_comm]; omega)
  by_cases hq : j / m + 1 < n
  · exfalso
    have q : (j / m + 2) * m ≤ n * m := Nat.mul_le_mul_right m hq
    rw [Nat.add_mul, Nat.mul_comm (j / m) m] at q
    omega
  · have e : j / m + 1 = n := by omega
    refine ⟨e, ?_⟩
    have q : n * m = m * (j / m) + m := by rw [← e, Nat.add_mul, Nat.mul_comm (j / m) m, Nat.one_mul]
    omega
section
variable {prog : Program} {w : World} {A : Around} {E : Value → Shared → Prop} {s : Shared}
theorem next_some {it : Addr} {u : Value} {Q : Option Value → Shared → Prop} (h : wpAny (model prog w) A (callSpecial? (.ref it) "__next__") (fun r s' => ∃ u, r = some u ∧ Q (some u) s') (fun _ _ => False) s) : wpAny (model prog w) A (pyNext (.ref it)) Q E s := by
  unfold pyNext
  refine wpAny_bind (wpAny_attempt (wpAny_mono h (fun r s' q => ?_) fun _ _ z => z.elim))
  obtain ⟨u, rfl, q⟩ := q
  exact wpAny_pure q
theorem next_stop {it : Addr} {Q : Option Value → Shared → Prop} (h : wpAny (model prog w) A (callSpecial? (.ref it) "__next__") (fun _ _ => False) (fun e s' => CpRep.StopE e s'.heap ∧ Q none s') s) : wpAny (model prog w) A (pyNext (.ref it)) Q E s := by
  unfold pyNext
  refine wpAny_bind (wpAny_attempt (wpAny_mono h (fun r s' q => q.elim) fun e s' q => ?_))
  obtain ⟨⟨a, o, vs, rfl, ho, hc, _, _⟩, q⟩ := q
  exact wpAny_bind (wpAny_isInstance (T := "StopIteration") (b := true) ⟨o, ho, hc⟩ isSubtype_stop (wpAny_pure q))
theorem iter_prod {it pt : Addr} {st i j : Int} {last : Value} {Q : Value → Shared → Prop} (hit : s.heap.get? it = some (prodObj pt st last i j)) (h : Q (.ref it) s) : wpAny (model prog w) A (pyIter (.ref it)) Q E s := by
  have hT : s.TypeIs (.ref it) "itertools.product" := ⟨_, hit, rfl⟩
  refine wpAny_pyIter_slot hT slot_prod_iter (wpAny_call_entry slot_prod_iter hT entry_prod_iter ?_ (args_prod_iter _))
  show wpAny _ _ (ret (.ref it)) _ _ s
  exact wpAny_pure ⟨_, rfl, "itertools.product", _, hT, slot_prod_next.lookup, h⟩
end
/-- the pairs of xs and ys, as they stood when the product was made -/
def Itp (xs ys : List V) : It :=
  ⟨fun i _ => i < xs.length * ys.length, fun i H v H' => ∃ T x y, v = .ref T ∧ H T = none ∧ H' = upd H T (.tup [x, y]) ∧ xs[i / ys.length]? = some x ∧ ys[i % ys.length]? = some y, fun i _ => i = xs.length * ys.length⟩
def ProdAt (h : Heap) (it pt p1 p2 : Addr) (its its2 : List Value) (m i : Nat) : Prop :=
  (∃ (last : Value) (st a b : Int), h.get? it = some (prodObj pt st last a b) ∧ ((i = 0 ∧ st = 0 ∧ a = 0 ∧ b = 0) ∨ ∃ j, i = j + 1 ∧ st = 1 ∧ a = ((j / m : Nat) : Int) ∧ b = ((j % m : Nat) : Int))) ∧
    h.get? pt = some (tupObj #[.ref p1, .ref p2]) ∧ h.get? p1 = some (tupObj its.toArray) ∧ h.get? p2 = some (tupObj its2.toArray)
theorem turn_prod {P : Program} {w : World} {K : PySem.W.Frag} {tg : Expr} {it pt p1 p2 : Addr} {its its2 : List Value} {xs ys : List V} (rv : Vals xs its) (rv2 : Vals ys its2) (d1 : pt ≠ it) (d2 : p1 ≠ it) (d3 : p2 ≠ it) :
    Turn P w K tg (Itp xs ys) [it, pt, p1, p2] it (fun i h => ProdAt h it pt p1 p2 its its2 ys.length i) where
  mem := by simp
  obj := fun i h st c hc => by
    obtain ⟨⟨last, z, a, b, e, _⟩, e1, e2, e3⟩ := st
    have e' : c = it ∨ c = pt ∨ c = p1 ∨ c = p2 := by simpa using hc
    rcases e' with q | q | q | q
    · rw [q]; exact ⟨_, e, fun v q => nomatch q⟩
    · rw [q]; exact ⟨_, e1, fun v q => nomatch q⟩
    · rw [q]; exact ⟨_, e2, fun v q => nomatch q⟩
    · rw [q]; exact ⟨_, e3, fun v q => nomatch q⟩
  keep := fun i h h' st k => by
    obtain ⟨⟨last, z, a, b, e, p⟩, e1, e2, e3⟩ := st
    exact ⟨⟨last, z, a, b, k _ (by simp) _ e, p⟩, k _ (by simp) _ e1, k _ (by simp) _ e2, k _ (by simp) _ e3⟩
  item := by
    intro X hP hw hK hc i pins s σ H E I hf st hg
    subst hP hw hK
    have hg : i < xs.length * ys.length := hg
    obtain ⟨⟨last, z, a, b, e, p⟩, e1, e2, e3⟩ := st
    obtain ⟨q1, q2⟩ := place_lt hg
    obtain ⟨u, hu, ru⟩ := rv.get (List.getElem?_eq_getElem q1)
    obtain ⟨u2, hu2, ru2⟩ := rv2.get (List.getElem?_eq_getElem q2)
    have fin : ∀ (h' : Heap) (last' : Value), h'.get? it = some (prodObj pt 1 last' ((i / ys.length : Nat) : Int) ((i % ys.length : Nat) : Int)) → h'.get? s.heap.objs.size = some (tupObj #[u, u2]) → (∀ b o, b ≠ it → s.heap.get? b = some o → h'.get? b = some o) →
        ∃ v, (some (.ref s.heap.objs.size) : Option Value) = some v ∧ ∃ u, (some v : Option Value) = some u ∧ wpAny (model X.prog X.w) X.A (letOwnedTupleGo tg (.ref it) u) (fun _ s2 => ∃ x H', Inv X pins σ H' s2 ∧ RelV x u ∧ (Itp xs ys).yld i H x H' ∧ ProdAt s2.heap it pt p1 p2 its its2 ys.length (i + 1) ∧ ∀ b ∈ [it, pt, p1, p2], H' b = none) E { s with heap := h' } := by
      intro h' last' g1 g2 g3
      refine ⟨_, rfl, _, rfl, go_of (s := { s with heap := h' }) g1 rfl rfl (by decide) ?_⟩
      have new : ObjOk X.prog X.w (upd H s.heap.objs.size (.tup [xs[i / ys.length], ys[i % ys.length]])) h' s.heap.objs.size (.tup [xs[i / ys.length], ys[i % ys.length]]) :=
        ⟨by show 2 ≤ sizeLine; decide, [u, u2], .cons ru (.cons ru2 .nil), ⟨_, g2, rfl, _, rfl⟩⟩
      have I1 : Inv X pins σ (upd H s.heap.objs.size (.tup [xs[i / ys.length], ys[i % ys.length]])) { s with heap := h' } :=
        I.turnedNew (t' := s.toks) (ch := [it]) (fun c o hb q => g3 c o (fun z => hb (by simp [z])) q) (fun c hc => hf c (by simp at hc; simp [hc])) (Nat.le_refl _) new
      refine ⟨.ref s.heap.objs.size, _, I1, rfl, ⟨_, _, _, rfl, I.hok.fresh (Nat.le_refl _), rfl, List.getElem?_eq_getElem q1, List.getElem?_eq_getElem q2⟩, ⟨⟨last', 1, _, _, g1, .inr ⟨i, rfl, rfl, rfl, rfl⟩⟩, g3 _ _ d1 e1, g3 _ _ d2 e2, g3 _ _ d3 e3⟩, fun c hcm => ?_⟩
      have hlt : c < s.heap.objs.size := by
        have e' : c = it ∨ c = pt ∨ c = p1 ∨ c = p2 := by simpa using hcm
        rcases e' with q | q | q | q
        · rw [q]; exact Heap.lt_size e
        · rw [q]; exact Heap.lt_size e1
        · rw [q]; exact Heap.lt_size e2
        · rw [q]; exact Heap.lt_size e3
      rw [upd_ne (Nat.ne_of_lt hlt)]
      exact (hf c hcm).1
    rcases p with ⟨rfl, rfl, rfl, rfl⟩ | ⟨j, rfl, rfl, rfl, rfl⟩
    · refine next_some (u := .none) (prod_first e e1 e2 e3 (x := u) (y := u2) ?_ ?_ fun h' last' g1 g2 g3 => fin h' last' ?_ g2 g3)
      · rw [Nat.zero_div] at hu
        simpa using hu
      · rw [Nat.zero_mod] at hu2
        simpa using hu2
      · rw [Nat.zero_div, Nat.zero_mod]
        exact g1
    · refine next_some (u := .none) (prod_next e e1 e2 e3 (i' := (j + 1) / ys.length) (j' := (j + 1) % ys.length) (x := u) (y := u2) ?_ (by simpa using hu) (by simpa using hu2) fun h' last' g1 g2 g3 => fin h' last' g1 g2 g3)
      have l1 := rv.length
      have l2 := rv2.length
      rw [List.size_toArray, List.size_toArray, ← l1, ← l2]
      rcases place_next hg with ⟨h1, h2, h3⟩ | ⟨h1, h2, h3, h4⟩
      · exact .inl ⟨h1, h2, h3⟩
      · exact .inr ⟨h1, h2, h3, h4⟩
  done := by
    intro X hP hw hK hc i pins s σ H E I hf st hg
    subst hP hw hK
    have hg : i = xs.length * ys.length := hg
    obtain ⟨⟨last, z, a, b, e, p⟩, e1, e2, e3⟩ := st
    have l1 := rv.length
    have l2 := rv2.length
    have hh : X.A.handled = none := I.ok.hd hc
    have fin : ∀ e' h', CpRep.StopE e' h' → (∀ b o, b ≠ it → s.heap.get? b = some o → h'.get? b = some o) → CpRep.StopE e' ({ s with heap := h' } : Shared).heap ∧ (none : Option Value) = none ∧ Inv X pins σ H { s with heap := h' } := fun e' h' hs hk =>
      ⟨hs, rfl, I.turnedL (t' := s.toks) (ch := [it]) (fun c o hb q => hk c o (fun z => hb (by simp [z])) q) (fun c hc => hf c (by simp at hc; simp [hc]))⟩
    rcases p with ⟨rfl, rfl, rfl, rfl⟩ | ⟨j, rfl, rfl, rfl, rfl⟩
    · refine next_stop (prod_empty hh e e1 e2 e3 ?_ fin)
      rw [List.size_toArray, List.size_toArray, ← l1, ← l2]
      rcases Nat.eq_zero_or_pos xs.length with z | z
      · exact .inl z
      · rcases Nat.eq_zero_or_pos ys.length with z' | z'
        · exact .inr z'
        · have := Nat.mul_pos z z'
          omega
    · obtain ⟨h1, h2⟩ := place_last hg
      exact next_stop (prod_end hh e e1 e2 e3 (by rw [List.size_toArray, ← l1]; exact h1) (by rw [List.size_toArray, ← l2]; exact h2) fin)
  self := fun A i s Q E st h => let ⟨⟨_, _, _, _, e, _⟩, _⟩ := st; iter_prod e h
def iProd (K : PySem.W.Frag) (ta : TA) : TI := fun σ H R => ta σ H fun vs H1 => ∃ a b xs ys, vs = [.ref a, .ref b] ∧ SqL K H1 a xs ∧ SqL K H1 b ys ∧ R (Itp xs ys) H1
theorem pi_product {X : Cx} {tg e e2 : Expr} {ta : TA} {p pos : Pos} (hg : Gl X "product") (hm : X.mg "product" = some (.type "itertools.product")) (ha : PA X [e, e2] ta)
    (hs : starEach [e, e2] X.env = (false, eval e X.env) :: starEach [e2] X.env := by rfl) (hpl : (backTo pos (starEach [e2] X.env)).any (·.1) = false := by rfl) :
    PI X tg (.Call (.Name "product" p) [e, e2] [] pos) (iProd X.K ta) := by
  refine ⟨fun pins s σ H R I h => ?_⟩
  refine Call_ (ld_glob I hg hm (PyProof.Rows.callWith_type1 (thn (ha.run pos pins s σ H _ I h) fun us s1 ⟨vs, H1, I1, r1, q1⟩ => ?_) hs hpl))
  obtain ⟨a, b, xs, ys, rfl, hqx, hqy, q⟩ := q1
  cases r1 with
  | cons r rr =>
    cases rr with
    | cons r' rr =>
      cases rr
      cases r
      cases r'
      obtain ⟨its, rv, p1, z1⟩ := I1.list hqx
      obtain ⟨its2, rv2, p2, z2⟩ := I1.list hqy
      have l1 := rv.length
      have l2 := rv2.length
      refine call_prod p1.isList p2.isList (by rw [← l1]; exact z1) (by rw [← l2]; exact z2) fun h' q1 q2 qt n1 n2 nt d1 d2 d3 m1 m2 mt g1 g2 gt hk => ?_
      have e0 : (h'.push (prodObj qt 0 .none 0 0)).get? h'.objs.size = some (prodObj qt 0 .none 0 0) := Heap.get?_push_size _ rfl
      refine iter_prod (s := { s1 with heap := h'.push (prodObj qt 0 .none 0 0) }) e0 ?_
      have I2 : Inv X pins σ H1 { s1 with heap := h'.push (prodObj qt 0 .none 0 0) } := I1.kept (t' := s1.toks) fun b o e => Heap.get?_push_of_some _ (hk b o e)
      have hz : s1.heap.objs.size ≤ h'.objs.size := Nat.le_of_lt (Nat.lt_of_le_of_lt n1 m1)
      refine ⟨h'.objs.size, [h'.objs.size, qt, q1, q2], _, _, H1, rfl, I2, turn_prod rv rv2 (Nat.ne_of_lt mt) (Nat.ne_of_lt m1) (Nat.ne_of_lt m2), ⟨⟨.none, 0, 0, 0, e0, .inl ⟨rfl, rfl, rfl, rfl⟩⟩, Heap.get?_push_of_some _ gt, Heap.get?_push_of_some _ g1, Heap.get?_push_of_some _ g2⟩, fun c hcm => ?_, q⟩
      have hle : s1.heap.objs.size ≤ c := by
        have e' : c = h'.objs.size ∨ c = qt ∨ c = q1 ∨ c = q2 := by simpa using hcm
        rcases e' with z | z | z | z
        · rw [z]; exact hz
        · rw [z]; exact nt
        · rw [z]; exact n1
        · rw [z]; exact n2
      exact I1.fpOk hle (I1.hok.fresh hle)
theorem walk_prod {xs ys : List V} {n : Nat} (hn : n = xs.length * ys.length) : Walk (Itp xs ys) n (fun _ => True) (YPair (fun i => xs[i / ys.length]?) (fun i => ys[i % ys.length]?)) := by
  subst hn
  exact ⟨fun _ _ hi _ => hi, fun _ _ => rfl, fun _ _ _ _ _ _ y => y⟩
end Fp
end part_B4
section part_D0
set_option maxHeartbeats 2000000
namespace Fp
open PySem PySem.Spec PyProof.Rows L2 Evl
/-! ### two lists, item by item -/
inductive All2 {α β : Type} (R : α → β → Prop) : List α → List β → Prop where
  | nil : All2 R [] []
  | cons {a : α} {b : β} {as : List α} {bs : List β} : R a b → All2 R as bs → All2 R (a :: as) (b :: bs)
namespace All2
variable {α β γ : Type} {R S : α → β → Prop} {xs : List α} {ys : List β}
theorem len (h : All2 R xs ys) : xs.length = ys.length := by
  induction h with
  | nil => rfl
  | cons _ _ ih => rw [List.length_cons, List.length_cons, ih]
theorem imp (h : All2 R xs ys) (f : ∀ a b, R a b → S a b) : All2 S xs ys := by
  induction h with
  | nil => exact .nil
  | cons r _ ih => exact .cons (f _ _ r) ih
theorem snoc (h : All2 R xs ys) {a : α} {b : β} (r : R a b) : All2 R (xs ++ [a]) (ys ++ [b]) := by
  induction h with
  | nil => exact .cons r .nil
  | cons r' _ ih => exact .cons r' ih
theorem app {xs2 : List α} {ys2 : List β} (h : All2 R xs ys) (h2 : All2 R xs2 ys2) : All2 R (xs ++ xs2) (ys ++ ys2) := by
  induction h with
  | nil => exact h2
  | cons r' _ ih => exact .cons r' ih
theorem get {i : Nat} {b : β} (h : All2 R xs ys) (e : ys[i]? = some b) : ∃ a, xs[i]? = some a ∧ R a b := by
  induction h generalizing i with
  | nil => simp at e
  | cons r _ ih =>
    cases i with
    | zero =>
      simp at e
      subst e
      exact ⟨_, rfl, r⟩
    | succ i => exact ih (by simpa using e)
theorem getl {i : Nat} {a : α} (h : All2 R xs ys) (e : xs[i]? = some a) : ∃ b, ys[i]? = some b ∧ R a b := by
  induction h generalizing i with
  | nil => simp at e
  | cons r _ ih =>
    cases i with
    | zero =>
      simp at e
      subst e
      exact ⟨_, rfl, r⟩
    | succ i => exact ih (by simpa using e)
theorem of_get (hl : xs.length = ys.length) (h : ∀ (i : Nat) (a : α) (b : β), xs[i]? = some a → ys[i]? = some b → R a b) : All2 R xs ys := by
  induction xs generalizing ys with
  | nil =>
    cases ys with
    | nil => exact .nil
    | cons _ _ => simp at hl
  | cons x xs ih =>
    cases ys with
    | nil => simp at hl
    | cons y ys => exact .cons (h 0 x y rfl rfl) (ih (by simpa using hl) fun i a b p q => h (i + 1) a b (by simpa using p) (by simpa using q))
theorem mapR {f : γ → β} {zs : List γ} : All2 R xs (zs.map f) ↔ All2 (fun a c => R a (f c)) xs zs := by
  constructor
  · intro h
    induction zs generalizing xs with
    | nil =>
      cases h
      exact .nil
    | cons z zs ih =>
      cases h with
      | cons r t => exact .cons r (ih t)
  · intro h
    induction h with
    | nil => exact .nil
    | cons r _ ih => exact .cons r ih
theorem eq_map {f : β → α} (h : All2 (fun a b => a = f b) xs ys) : xs = ys.map f := by
  induction h with
  | nil => rfl
  | cons r _ ih => rw [r, ih, List.map_cons]
theorem set {i : Nat} {a : α} {b : β} (h : All2 R xs ys) (r : R a b) : All2 R (xs.set i a) (ys.set i b) := by
  induction h generalizing i with
  | nil => exact .nil
  | cons r' h' ih =>
    cases i with
    | zero => exact .cons r h'
    | succ i => exact .cons r' ih
end All2
/-! ### lists of ints, lists of such -/
abbrev nI (xs : List Nat) : List V := xs.map fun n => V.int ((n : Nat) : Int)
theorem nI_map (xs : List Nat) : nI xs = (xs.map fun n : Nat => (n : Int)).map V.int := by rw [List.map_map]; rfl
/-- v is a list (tuple) of the ints -/
def IsL (H : Hp) (v : V) (xs : List Int) : Prop := ∃ a, v = .ref a ∧ H a = some (.lst (xs.map V.int))
def IsU (H : Hp) (v : V) (xs : List Int) : Prop := ∃ a, v = .ref a ∧ H a = some (.tup (xs.map V.int))
def IsLN (H : Hp) (v : V) (xs : List Nat) : Prop := ∃ a, v = .ref a ∧ H a = some (.lst (nI xs))
theorem IsL.ex {H H' : Hp} {v : V} {xs : List Int} (e : Ex H H') (h : IsL H v xs) : IsL H' v xs := let ⟨a, h1, h2⟩ := h; ⟨a, h1, e _ _ h2⟩
theorem IsU.ex {H H' : Hp} {v : V} {xs : List Int} (e : Ex H H') (h : IsU H v xs) : IsU H' v xs := let ⟨a, h1, h2⟩ := h; ⟨a, h1, e _ _ h2⟩
theorem IsLN.ex {H H' : Hp} {v : V} {xs : List Nat} (e : Ex H H') (h : IsLN H v xs) : IsLN H' v xs := let ⟨a, h1, h2⟩ := h; ⟨a, h1, e _ _ h2⟩
/-- a list of lists (a tuple of tuples) of ints at a -/
def LL (H : Hp) (a : Addr) (rows : List (List Int)) : Prop := ∃ vs, H a = some (.lst vs) ∧ All2 (IsL H) vs rows
def UU (H : Hp) (a : Addr) (rows : List (List Int)) : Prop := ∃ vs, H a = some (.tup vs) ∧ All2 (IsU H) vs rows
/-- a list of lists of naturals -/
def LLN (H : Hp) (a : Addr) (rows : List (List Nat)) : Prop := ∃ vs, H a = some (.lst vs) ∧ All2 (IsLN H) vs rows
theorem LL.ex {H H' : Hp} {a : Addr} {rows : List (List Int)} (e : Ex H H') (h : LL H a rows) : LL H' a rows := let ⟨vs, h1, h2⟩ := h; ⟨vs, e _ _ h1, h2.imp fun _ _ => IsL.ex e⟩
theorem UU.ex {H H' : Hp} {a : Addr} {rows : List (List Int)} (e : Ex H H') (h : UU H a rows) : UU H' a rows := let ⟨vs, h1, h2⟩ := h; ⟨vs, e _ _ h1, h2.imp fun _ _ => IsU.ex e⟩
theorem LLN.ex {H H' : Hp} {a : Addr} {rows : List (List Nat)} (e : Ex H H') (h : LLN H a rows) : LLN H' a rows := let ⟨vs, h1, h2⟩ := h; ⟨vs, e _ _ h1, h2.imp fun _ _ => IsLN.ex e⟩
/-! ### a net in the heap -/
def firsts : Nat → List (List Int) → List Nat
  | _, [] => []
  | n, r :: rs => n :: firsts (n + r.length) rs
theorem kEX : ¬ (("own_exits" : Str) = "own_ends") := by decide +kernel
theorem kTE : ¬ (("own_targets" : Str) = "own_ends") := by decide +kernel
theorem kTX : ¬ (("own_targets" : Str) = "own_exits") := by decide +kernel
theorem kFE : ¬ (("own_firsts" : Str) = "own_ends") := by decide +kernel
theorem kFX : ¬ (("own_firsts" : Str) = "own_exits") := by decide +kernel
theorem kFT : ¬ (("own_firsts" : Str) = "own_targets") := by decide +kernel
/-- the fields as lay stores them -/
def layF (e : Int) (ex tg fi : Addr) (fs : List (Str × V)) : List (Str × V) := putF "own_firsts" (.ref fi) (putF "own_targets" (.ref tg) (putF "own_exits" (.ref ex) (putF "own_ends" (.int e) fs)))
theorem layF_ends (e : Int) (ex tg fi : Addr) (fs : List (Str × V)) : (layF e ex tg fi fs).lookup ("own_ends" : Str) = some (.int e) := by
  unfold layF
  rw [lookup_putF, if_neg (Ne.symm kFE), lookup_putF, if_neg (Ne.symm kTE), lookup_putF, if_neg (Ne.symm kEX), lookup_putF, if_pos rfl]
theorem layF_exits (e : Int) (ex tg fi : Addr) (fs : List (Str × V)) : (layF e ex tg fi fs).lookup ("own_exits" : Str) = some (.ref ex) := by
  unfold layF
  rw [lookup_putF, if_neg (Ne.symm kFX), lookup_putF, if_neg (Ne.symm kTX), lookup_putF, if_pos rfl]
theorem layF_targets (e : Int) (ex tg fi : Addr) (fs : List (Str × V)) : (layF e ex tg fi fs).lookup ("own_targets" : Str) = some (.ref tg) := by
  unfold layF
  rw [lookup_putF, if_neg (Ne.symm kFT), lookup_putF, if_pos rfl]
theorem layF_firsts (e : Int) (ex tg fi : Addr) (fs : List (Str × V)) : (layF e ex tg fi fs).lookup ("own_firsts" : Str) = some (.ref fi) := by
  unfold layF
  rw [lookup_putF, if_pos rfl]
theorem layF_no (e : Int) (ex tg fi : Addr) (fs : List (Str × V)) {m : Str} (h : fs.lookup m = none) (h1 : ¬ m = "own_ends") (h2 : ¬ m = "own_exits") (h3 : ¬ m = "own_targets") (h4 : ¬ m = "own_firsts") : (layF e ex tg fi fs).lookup m = none := by
  unfold layF
  rw [lookup_putF, if_neg h4, lookup_putF, if_neg h3, lookup_putF, if_neg h2, lookup_putF, if_neg h1]
  exact h
/-- an instance of the class at C stands at p: a net of so many ends and these rows -/
structure NetF (H : Hp) (e : Nat) (rows : List (List Int)) (ex tg fi : Addr) : Prop where
  ex : UU H ex rows
  tg : H tg = some (.tup (rows.flatten.map V.int))
  fi : H fi = some (.tup (nI (firsts 0 rows)))
def NetAt (C : Addr) (H : Hp) (p : Addr) (e : Nat) (rows : List (List Int)) : Prop :=
  ∃ dx fs ex tg fi, H p = some (.ins C dx (layF (e : Int) ex tg fi fs)) ∧ fs.lookup ("exits" : Str) = none ∧ fs.lookup ("lay" : Str) = none ∧ NetF H e rows ex tg fi
theorem NetF.mono {H H' : Hp} {e : Nat} {rows : List (List Int)} {ex tg fi : Addr} (k : Ex H H') (h : NetF H e rows ex tg fi) : NetF H' e rows ex tg fi := ⟨h.1.ex k, k _ _ h.2, k _ _ h.3⟩
theorem NetAt.mono {C : Addr} {H H' : Hp} {p : Addr} {e : Nat} {rows : List (List Int)} (k : Ex H H') (h : NetAt C H p e rows) : NetAt C H' p e rows :=
  let ⟨dx, fs, ex, tg, fi, h1, h2, h3, h4⟩ := h
  ⟨dx, fs, ex, tg, fi, k _ _ h1, h2, h3, h4.mono k⟩
/-! ### a comprehension over anything, what it makes told item by item -/
/-- the heap without what stands at D -/
def hide (D : Addr) (H : Hp) : Hp := fun a => if a = D then none else H a
theorem hide_ne {D a : Addr} {H : Hp} (h : a ≠ D) : hide D H a = H a := if_neg h
theorem hide_in {D : Addr} {H H' : Hp} (e : Ex H H') (h : H D = none) : Ex H (hide D H') := fun a o q => by
  rw [hide_ne (ne_of_none q h)]
  exact e a o q
theorem hide_out {D : Addr} {H : Hp} : Ex (hide D H) H := fun a o q => by
  unfold hide at q
  by_cases z : a = D
  · rw [if_pos z] at q
    cases q
  · rwa [if_neg z] at q
theorem hide_mono {D : Addr} {H H' : Hp} (e : Ex H H') : Ex (hide D H) (hide D H') := fun a o q => by
  unfold hide at q ⊢
  by_cases z : a = D
  · rw [if_pos z] at q
    cases q
  · rw [if_neg z] at q ⊢
    exact e a o q
theorem hide_upd {D : Addr} {H : Hp} {o : HO} : hide D (upd H D o) = hide D H := funext fun a => by
  unfold hide
  by_cases z : a = D
  · rw [if_pos z, if_pos z]
  · rw [if_neg z, if_neg z, upd_ne z]
/-- an object new since H, seen with D hidden -/
theorem hide_new {D a : Addr} {H H' : Hp} {o u : HO} (hD : H D = some u) (ha : H a = none) (h : H' a = some o) : hide D H' a = some o := by
  rw [hide_ne (Ne.symm (ne_of_none hD ha))]
  exact h
section
variable {J : It} {n : Nat} {G : Hp → Prop} {Y : Nat → Hp → V → Hp → Prop}
theorem lcG {g : TG} {tt : TT} {te : TE} {vs : List Nat} {σ : L2.St} {H1 : Hp} {D : Addr} {Qd : Hp → Prop} (w : Walk J n G Y) (hD : H1 D = none) (hn : n ≤ 100000) (f : Nat → Bool) (R : Nat → V → Hp → Prop)
    (hR : ∀ i y H H', Ex H H' → R i y H → R i y H') (hG : ∀ H, Ex H1 H → G H)
    (hs : ∀ i x H H' (Ky : V → Hp → Prop) (Kn : Hp → Prop), i < n → Ex H1 H → (∃ u, H D = some u) → Y i H x H' → (∀ y H4, f i = true → Ex H H4 → R i y (hide D H4) → Ky y H4) → (∀ H3, f i = false → Ex H H3 → Kn H3) →
      g x (wipe σ vs) H' fun σ2 H2 => wipe σ2 vs = wipe σ vs ∧ tt σ2 H2 fun b H3 => if b = true then te σ2 H3 Ky else Kn H3)
    (hd : ∀ H ys, Ex H1 H → H D = some (.lst ys) → All2 (fun y i => R i y (hide D H)) ys ((List.range n).filter f) → Qd H) :
    ∃ W : Nat → Nat → Hp → Prop, (∃ m, W 0 m (upd H1 D (.lst []))) ∧ ∀ i m H, W i m H →
      (J.stop i H ∧ Qd H) ∨ (J.go i H ∧ ∃ Nx : Hp → Prop, (∀ H', Nx H' → ∃ m', m' < m ∧ W (i + 1) m' H') ∧ ∀ x H', J.yld i H x H' → g x (wipe σ vs) H' fun σ2 H2 => wipe σ2 vs = wipe σ vs ∧ tt σ2 H2 fun b H3 =>
        if b = true then te σ2 H3 fun y H4 => ∃ acc, H4 D = some (.lst acc) ∧ acc.length < sizeLine ∧ Nx (upd H4 D (.lst (acc ++ [y]))) else Nx H3) := by
  refine lc_it w (fun i H => Ex H1 H ∧ ∃ ys, H D = some (.lst ys) ∧ ys.length ≤ i ∧ All2 (fun y i => R i y (hide D H)) ys ((List.range i).filter f)) ⟨Ex.new hD, [], upd_same, Nat.le_refl _, .nil⟩ (fun i H _ p => hG H p.1) ?_ fun H p => ?_
  · rintro i x H H' hi ⟨e, ys, hy, hl, ha⟩ hY
    refine hs i x H H' _ _ hi e ⟨_, hy⟩ hY (fun y H4 hf e4 hr => ⟨ys, e4 _ _ hy, sz_lt (by omega), Ex.mut (e.trans e4) hD, ys ++ [y], upd_same, by rw [List.length_append]; show ys.length + 1 ≤ i + 1; omega, ?_⟩) (fun H3 hf e3 => ⟨e.trans e3, ys, e3 _ _ hy, by omega, ?_⟩)
    · rw [List.range_succ, List.filter_append, List.filter_cons, if_pos hf, hide_upd]
      exact (ha.imp fun y i => hR i y _ _ (hide_mono e4)).snoc hr
    · rw [List.range_succ, List.filter_append, List.filter_cons, if_neg (by rw [hf]; decide)]
      show All2 _ ys (_ ++ [])
      rw [List.append_nil]
      exact ha.imp fun y i => hR i y _ _ (hide_mono e3)
  · obtain ⟨e, ys, hy, _, ha⟩ := p
    exact hd H ys e hy ha
/-- the same for values that are no new objects -/
theorem lcV {g : TG} {tt : TT} {te : TE} {vs : List Nat} {σ : L2.St} {H1 : Hp} {D : Addr} {Qd : Hp → Prop} (w : Walk J n G Y) (hD : H1 D = none) (hn : n ≤ 100000) (f : Nat → Bool) (v : Nat → V) (hG : ∀ H, Ex H1 H → G H)
    (hs : ∀ i x H H' (Ky : V → Hp → Prop) (Kn : Hp → Prop), i < n → Ex H1 H → Y i H x H' → (∀ H4, f i = true → Ex H H4 → Ky (v i) H4) → (∀ H3, f i = false → Ex H H3 → Kn H3) →
      g x (wipe σ vs) H' fun σ2 H2 => wipe σ2 vs = wipe σ vs ∧ tt σ2 H2 fun b H3 => if b = true then te σ2 H3 Ky else Kn H3)
    (hd : ∀ H, Ex H1 H → H D = some (.lst (((List.range n).filter f).map v)) → Qd H) :
    ∃ W : Nat → Nat → Hp → Prop, (∃ m, W 0 m (upd H1 D (.lst []))) ∧ ∀ i m H, W i m H →
      (J.stop i H ∧ Qd H) ∨ (J.go i H ∧ ∃ Nx : Hp → Prop, (∀ H', Nx H' → ∃ m', m' < m ∧ W (i + 1) m' H') ∧ ∀ x H', J.yld i H x H' → g x (wipe σ vs) H' fun σ2 H2 => wipe σ2 vs = wipe σ vs ∧ tt σ2 H2 fun b H3 =>
        if b = true then te σ2 H3 fun y H4 => ∃ acc, H4 D = some (.lst acc) ∧ acc.length < sizeLine ∧ Nx (upd H4 D (.lst (acc ++ [y]))) else Nx H3) := by
  refine lcG w hD hn f (fun i y _ => y = v i) (fun _ _ _ _ _ h => h) hG (fun i x H H' Ky Kn hi e _ hY k1 k2 => hs i x H H' Ky Kn hi e hY (fun H4 hf e4 => k1 _ H4 hf e4 rfl) k2) fun H ys e hy ha => hd H e (by rw [hy, ha.eq_map])
/-- the same without a test -/
theorem lcA {g : TG} {te : TE} {vs : List Nat} {σ : L2.St} {H1 : Hp} {D : Addr} {Qd : Hp → Prop} (w : Walk J n G Y) (hD : H1 D = none) (hn : n ≤ 100000) (v : Nat → V) (hG : ∀ H, Ex H1 H → G H)
    (hs : ∀ i x H H' (Ky : V → Hp → Prop), i < n → Ex H1 H → Y i H x H' → (∀ H4, Ex H H4 → Ky (v i) H4) →
      g x (wipe σ vs) H' fun σ2 H2 => wipe σ2 vs = wipe σ vs ∧ te σ2 H2 Ky)
    (hd : ∀ H, Ex H1 H → H D = some (.lst ((List.range n).map v)) → Qd H) :
    ∃ W : Nat → Nat → Hp → Prop, (∃ m, W 0 m (upd H1 D (.lst []))) ∧ ∀ i m H, W i m H →
      (J.stop i H ∧ Qd H) ∨ (J.go i H ∧ ∃ Nx : Hp → Prop, (∀ H', Nx H' → ∃ m', m' < m ∧ W (i + 1) m' H') ∧ ∀ x H', J.yld i H x H' → g x (wipe σ vs) H' fun σ2 H2 => wipe σ2 vs = wipe σ vs ∧ tYes σ2 H2 fun b H3 =>
        if b = true then te σ2 H3 fun y H4 => ∃ acc, H4 D = some (.lst acc) ∧ acc.length < sizeLine ∧ Nx (upd H4 D (.lst (acc ++ [y]))) else Nx H3) := by
  refine lcV w hD hn (fun _ => true) v hG (fun i x H H' Ky Kn hi e hY k1 k2 => hs i x H H' Ky hi e hY fun H4 e4 => k1 H4 rfl e4) fun H e hy => hd H e ?_
  rw [hy, List.filter_eq_self.mpr fun _ _ => rfl]
/-- new objects, without a test -/
theorem lcN {g : TG} {te : TE} {vs : List Nat} {σ : L2.St} {H1 : Hp} {D : Addr} {Qd : Hp → Prop} (w : Walk J n G Y) (hD : H1 D = none) (hn : n ≤ 100000) (R : Nat → V → Hp → Prop)
    (hR : ∀ i y H H', Ex H H' → R i y H → R i y H') (hG : ∀ H, Ex H1 H → G H)
    (hs : ∀ i x H H' (Ky : V → Hp → Prop), i < n → Ex H1 H → (∃ u, H D = some u) → Y i H x H' → (∀ y H4, Ex H H4 → R i y (hide D H4) → Ky y H4) →
      g x (wipe σ vs) H' fun σ2 H2 => wipe σ2 vs = wipe σ vs ∧ te σ2 H2 Ky)
    (hd : ∀ H ys, Ex H1 H → H D = some (.lst ys) → All2 (fun y i => R i y (hide D H)) ys (List.range n) → Qd H) :
    ∃ W : Nat → Nat → Hp → Prop, (∃ m, W 0 m (upd H1 D (.lst []))) ∧ ∀ i m H, W i m H →
      (J.stop i H ∧ Qd H) ∨ (J.go i H ∧ ∃ Nx : Hp → Prop, (∀ H', Nx H' → ∃ m', m' < m ∧ W (i + 1) m' H') ∧ ∀ x H', J.yld i H x H' → g x (wipe σ vs) H' fun σ2 H2 => wipe σ2 vs = wipe σ vs ∧ tYes σ2 H2 fun b H3 =>
        if b = true then te σ2 H3 fun y H4 => ∃ acc, H4 D = some (.lst acc) ∧ acc.length < sizeLine ∧ Nx (upd H4 D (.lst (acc ++ [y]))) else Nx H3) := by
  refine lcG w hD hn (fun _ => true) R hR hG (fun i x H H' Ky Kn hi e u hY k1 k2 => hs i x H H' Ky hi e u hY fun y H4 e4 r => k1 y H4 rfl e4 r) fun H ys e hy ha => hd H ys e hy ?_
  rwa [List.filter_eq_self.mpr fun _ _ => rfl] at ha
end
/-! ### a list or a tuple walked -/
def ItsK (k : Bool) (K : PySem.W.Frag) (a : Addr) : It := if k = true then Itt K a else Itl K a
def iSeqK (k : Bool) (K : PySem.W.Frag) (tl : TE) : TI := fun σ H R => tl σ H fun x H1 => ∃ a, x = .ref a ∧ (∃ xs, SqK k K H1 a xs) ∧ R (ItsK k K a) H1
theorem pi_seqK {X : Cx} {tg l : Expr} {tl : TE} (k : Bool) (hl : PE X l tl) : PI X tg l (iSeqK k X.K tl) := by
  cases k with
  | true => exact pi_tup hl
  | false => exact pi_list hl
theorem walk_seqK {k : Bool} {K : PySem.W.Frag} {a : Addr} {xs : List V} : Walk (ItsK k K a) xs.length (fun H => SqK k K H a xs) (YAt xs) := by
  cases k with
  | true => exact walk_tup
  | false => exact walk_list
theorem SqK.ex {k : Bool} {K : PySem.W.Frag} {H H' : Hp} {a : Addr} {xs : List V} (e : Ex H H') (h : SqK k K H a xs) : SqK k K H' a xs := by
  cases k with
  | true => exact ex_t (K := K) e h
  | false => exact ex_l (K := K) e h
theorem SqK.or {k : Bool} {K : PySem.W.Frag} {H : Hp} {a : Addr} {xs : List V} (h : SqK k K H a xs) : SqL K H a xs ∨ SqT K H a xs := by
  cases k with
  | true => exact .inr h
  | false => exact .inl h
theorem SqK.l {K : PySem.W.Frag} {H : Hp} {a : Addr} {xs : List V} (h : H a = some (.lst xs)) : SqK false K H a xs := (SqL.of h : SqL K H a xs)
theorem SqK.t {K : PySem.W.Frag} {H : Hp} {a : Addr} {xs : List V} (h : H a = some (.tup xs)) : SqK true K H a xs := (SqT.of h : SqT K H a xs)
end Fp
end part_D0
section part_B7
set_option maxHeartbeats 4000000
namespace Fp
open PySem PySem.Spec PyProof.Rows L2 Evl
/-! ### sorted(set(xs)), xs a list of ints -/
abbrev fresh0 (w : World) : Obj := { cls := .type "set", dict := none, data := .set #[] 0 (.fresh 0 0 (!w.params.followText "set-order")) }
section
variable {P : Program} {w : World} {A : Around} {E : Value → Shared → Prop} {z0 : Shared}
theorem call_set_lstI {l : Addr} {jts : Array Value} (ms : List Int) {Q : Value → Shared → Prop} (gh : A.handled = none) (gl : z0.heap.IsList l jts) (gi : IntsAre jts.toList ms) (gb : ms.length + 1 < scanBound)
    (kk : ∀ (h' : Heap) (tk c : Nat), SetR w h' z0.heap.objs.size (fun j => decide (j ∈ ms)) c → c ≤ ms.length → (∀ b o, z0.heap.get? b = some o → h'.get? b = some o) → Q (.ref z0.heap.objs.size) { z0 with heap := h', toks := tk }) :
    wpAny (model P w) A (call (.type "set") [.ref l]) Q E z0 := by
  have gsz : jts.size = ms.length := by
    have q := IntsAre.length gi
    rw [Array.length_toList] at q
    exact q
  obtain ⟨c, tl2, gmro⟩ := F.called_set.mro
  have gmade := F.called_set.made
  have gsub := F.called_set.sub
  refine wpAny_call (codeAny_of_tree ?_)
  show wpAny _ _ (callAny (.type "set") _) _ _ _
  refine wpAny_pure ⟨Code.quiet_builtin _ (by decide +kernel), codeAny_builtin F.entry_type_call ?_⟩
  rw [Around.under_plain (weight_type_call_type "set" [.ref l] []) rfl]
  have g1 := F.called_set.notType
  have g2x := F.called_set.canCreate
  have gct := F.typeCall_set_1 (.ref l)
  repeat (any_goals (first | assumption | wp_step))

  refine codeAny_mono (code_set_led1 (.ref l) (E := E) (Q₁ := fun ob2 s₁ => ob2 = .ref z0.heap.objs.size ∧ s₁ = { z0 with heap := z0.heap.push (fresh0 w) }) ⟨rfl, rfl⟩) fun r s₁ gr => ?_
  cases r with
  | error e => exact gr
  | ok fl2 =>
    cases fl2 with
    | ret ob2 =>
      obtain ⟨rfl, rfl⟩ := gr
      have gS : (z0.heap.push (fresh0 w)).get? z0.heap.objs.size = some (fresh0 w) := Heap.get?_push_size _ rfl
      have gT : Shared.TypeIs { z0 with heap := z0.heap.push (fresh0 w) } (.ref z0.heap.objs.size) "set" := ⟨_, gS, rfl⟩
      have gli := F.called_set.init.lookup
      have gbi := F.called_set.init.bind (.ref z0.heap.objs.size)
      repeat (any_goals (first | assumption | wp_step))

      refine codeAny_mono (codeAny_call_builtin (R := wants (fun r s₂ => r = .none ∧ ∃ h' tk c, s₂ = { z0 with heap := h', toks := tk } ∧ SetR w h' z0.heap.objs.size (fun j => decide (j ∈ ms)) c ∧ c ≤ ms.length ∧
          (∀ b o, z0.heap.get? b = some o → h'.get? b = some o)) E) F.called_set.init.plain F.entry_set_init (check_set_init_1 gT ?_)) fun r₂ s₂ gr₂ => ?_
      · obtain ⟨ol, gol, gcl, nl, gdl⟩ := gl
        obtain ⟨oc1, od1, ot1, os1⟩ := ol
        simp only at gcl gdl
        subst gcl; subst gdl
        have gol' : (z0.heap.push (fresh0 w)).get? l = some { cls := .type "list", dict := od1, data := .seq jts nl, slots := os1 } := Heap.get?_push_of_some _ gol
        have gsls := F.sub_list_set
        have gslf := F.sub_list_frozenset
        have gne : (Value.type "list" == Value.type "dict") = false := by decide
        have gl1 : (z0.heap.push (fresh0 w)).IsList l jts := ⟨_, gol', rfl, nl, rfl⟩
        unfold Builtin.«set.__init__» noKeywords Builtin.Frozenset.updateFrom
        generalize hPI : pyIter = PI
        wp_walk
        subst hPI

        refine wpAny_pyIter_list gl1 ?_
        refine wpAny_bind (wpAny_runValue ?_)
        have glS : l < z0.heap.objs.size := Heap.lt_size gol
        have gh3 : A.in1.in1.in1.handled = none := by simp [gh]
        have gz1 : (z0.heap.push (fresh0 w)).objs.size = z0.heap.objs.size + 1 := Heap.size_push ..
        have gneI : l ≠ (z0.heap.push (fresh0 w)).objs.size := by
          rw [Heap.size_push]; exact Nat.ne_of_lt (Nat.lt_succ_of_lt glS)
        have gSf : z0.heap.objs.size ∉ [(z0.heap.push (fresh0 w)).objs.size, l] := by
          rw [Heap.size_push]; simp only [List.mem_cons, List.mem_singleton, List.not_mem_nil, or_false, not_or]
          exact ⟨Nat.ne_of_lt (Nat.lt_succ_self _), Nat.ne_of_gt glS⟩
        have gval : ∀ (i : Nat) (v : Value), jts[i]? = some v → ∃ k t, ms[i]? = some k ∧ v = .int k t := fun i v hv => by
          have hi : i < ms.length := by rw [← gsz]; exact (Array.getElem?_eq_some_iff.mp hv).1
          obtain ⟨t, e⟩ := PyProof.Rows.IntsAre.int_at gi i v (by rw [Array.getElem?_toList]; exact hv)
          refine ⟨ms[i], t, List.getElem?_eq_getElem hi, ?_⟩
          rw [e, List.getD_eq_getElem?_getD, List.getElem?_eq_getElem hi] <;> rfl
        refine set_update_ints ((Walks.list gh3 _ l gneI jts).toS) z0.heap.objs.size
          gSf ms gsz gb gval (jts.size - 0) 0 _ (by omega) (Nat.zero_le _)
          ⟨⟨_, Heap.get?_push_size _ rfl, rfl, rfl⟩, (gl1.push _)⟩ ?hS0 ?hR
        case hS0 =>
          have gget : ((z0.heap.push (fresh0 w)).push { cls := .type "list_iterator", data := .fields #[.ref l, .int 0 0] }).get? z0.heap.objs.size
              = some (fresh0 w) := Heap.get?_push_of_some _ gS
          exact ⟨0, Nat.le_refl 0, setR_new_at gget⟩
        case hR =>
          intro s' c' gm hc' hS'
          obtain ⟨h', g2, d', tk', os'⟩ := s'
          have eg : g2 = z0.gens := gm.gens
          have ed : d' = z0.drawn := gm.drawn
          have eo : os' = z0.os := gm.os
          subst eg; subst ed; subst eo
          show wpAny _ _ _ _ _ _
          refine wpAny_pure ?_
          show wpAny _ _ (ret Value.none) _ _ _
          rw [gsz] at hc'
          refine wpAny_pure ⟨rfl, h', tk', c', rfl, hS', hc', fun b o e => ?_⟩
          have gb0 : b < z0.heap.objs.size := Heap.lt_size e
          have gb1 : b ≠ z0.heap.objs.size := Nat.ne_of_lt gb0
          have gb2 : b ≠ (z0.heap.push (fresh0 w)).objs.size := by
            rw [Heap.size_push]; exact Nat.ne_of_lt (Nat.lt_succ_of_lt gb0)
          exact gm.heap b o (by simp only [List.mem_cons, List.mem_singleton, List.not_mem_nil, or_false, not_or]; exact ⟨gb1, gb2⟩) (Heap.get?_push_of_some _ (Heap.get?_push_of_some _ e))

      · cases r₂ with
        | error e => exact gr₂
        | ok fl3 =>
          cases fl3 with
          | ret r =>
            obtain ⟨rfl, h', tk, c', rfl, hS', hc', hk'⟩ := gr₂
            repeat (any_goals (first | assumption | wp_step))
            exact kk _ _ _ hS' hc' hk'
          | _ => exact gr₂.elim
    | _ => exact gr.elim

end
def tSortedSet (K : PySem.W.Frag) (ta : TE) : TE := fun σ H Q => ta σ H fun x H1 => ∃ (l : Addr) (ns : List Int), x = .ref l ∧ SqL K H1 l (ns.map V.int) ∧ ns.length < 64 ∧ ∀ (ms : List Int) (p : Addr), (∀ k : Int, k ∈ ms ↔ k ∈ ns) → ms.length ≤ ns.length → H1 p = none → Q (.ref p) (upd H1 p (.lst (ms.map V.int)))
theorem pe_sortedSet {X : Cx} {a : Expr} {ta : TE} {p p2 q pos : Pos} (hg : Gl X "sorted") (hm : X.mg "sorted" = none) (hg2 : Gl X "set") (hm2 : X.mg "set" = none) (ha : PE X a ta) (hc : X.calm = true := by rfl)
    (na : starEach [a] X.env = (false, eval a X.env) :: starEach [] X.env := by rfl) : PE X (.Call (.Name "sorted" p) [.Call (.Name "set" p2) [a] [] q] [] pos) (tSortedSet X.K ta) := by
  refine ⟨fun pins s σ H Q I h => ?_⟩
  refine Call_ (ld_blt I hg hm (by decide +kernel : bootBuiltins "sorted" = some (.builtin "sorted")) ?_)
  refine PyProof.Rows.callWith_builtin1 (PyProof.Rows.args_cons ?_ rfl) rfl rfl
  refine Call_ (ld_blt I hg2 hm2 boot_set ?_)
  refine PyProof.Rows.callWith_type1 (PyProof.Rows.args_cons (thn (ha.run pins s σ H _ I h) fun v s1 ⟨x, H1, I1, r1, q1⟩ => PyProof.Rows.args_nil ?_) na) na rfl
  obtain ⟨l, ns, rfl, hq, h64, q1⟩ := q1
  cases r1
  obtain ⟨its, r, pl, hz⟩ := I1.list hq
  have hd := I1.ok.hd hc
  refine call_set_lstI ns hd (show s1.heap.IsList l its.toArray from pl.isList) (ints_of_vals r) (by unfold scanBound; omega) fun h' tk c R hcn k => PyProof.Rows.args_nil ?_
  have I2 : Inv X pins σ H1 { s1 with heap := h', toks := tk } := I1.kept k
  refine sorted_set (s := { s1 with heap := h', toks := tk }) R hd (by omega) fun s' p out c2 ms k2 g o hp hgp hi hs hmm hl => ?_
  have hlen : (ms.map V.int).length ≤ sizeLine := by rw [List.length_map, hl, sizeLine_eq]; omega
  have hn : H1 p = none := I2.hok.fresh hp
  have J : Inv X pins σ (upd H1 p (.lst (ms.map V.int))) { ({ s1 with heap := h', toks := tk } : Shared) with heap := s'.heap, gens := s'.gens, drawn := s'.drawn, toks := s'.toks } :=
    I2.call (ch := []) (Un.laid k2 hp hn) (I2.hok.laid k2 hp ⟨hlen, out.toList, c2, vals_of_ints hi, hgp⟩) (by rw [g]; exact I2.bare) (fun _ z => nomatch z)
  have e : s' = { s1 with heap := s'.heap, gens := s'.gens, drawn := s'.drawn, toks := s'.toks } := by
    cases s'
    cases s1
    cases o
    rfl
  rw [e]
  exact ⟨.ref p, _, J, rfl, q1 ms p (fun j => by rw [hmm j, decide_eq_true_eq]) (by omega) hn⟩
end Fp
end part_B7
section part_M0
set_option maxHeartbeats 2000000
namespace Fp
/-! ### the program's and the law's words, plain -/
abbrev Rows := List (List Int)
theorem getD_some {α : Type} {xs : List α} {i : Nat} {d a : α} (h : xs[i]? = some a) : xs.getD i d = a := by
  rw [List.getD_eq_getElem?_getD, h]
  rfl
/-- a setting of such rows -/
def SetOk (rows : Rows) (s : List Nat) : Prop := All2 (fun k r => k < r.length) s rows
/-- a net as the law draws it: at most three points, three exits each; e ends -/
structure NetOk (e : Nat) (rows : Rows) : Prop where
  pts : 1 ≤ rows.length
  pts3 : rows.length ≤ 3
  row : ∀ r ∈ rows, 1 ≤ r.length ∧ r.length ≤ 3 ∧ ∀ t ∈ r, -(e : Int) ≤ t ∧ t < rows.length
/-- one step of a run -/
def stepN (rows : Rows) (st : Int × List Nat) : Int × List Nat :=
  ((rows.getD st.1.toNat []).getD (st.2.getD st.1.toNat 0) 0, st.2.set st.1.toNat ((st.2.getD st.1.toNat 0 + 1) % (rows.getD st.1.toNat []).length))
def traj (rows : Rows) (s : List Nat) (b : Nat) : Nat → Int × List Nat
  | 0 => ((b : Int), s)
  | n + 1 => stepN rows (traj rows s b n)
/-- n steps at points -/
def Goes (rows : Rows) (s : List Nat) (b n : Nat) : Prop := ∀ m, m < n → 0 ≤ (traj rows s b m).1
/-- the run comes to the end x with its n-th step -/
def RunEnds (rows : Rows) (s : List Nat) (b n x : Nat) : Prop := Goes rows s b n ∧ (traj rows s b n).1 = -1 - (x : Int)
def LEnd (rows : Rows) (s : List Nat) (b x : Nat) : Prop := ∃ n, RunEnds rows s b n x
/-- how often the first n states stand at p -/
def visN (rows : Rows) (s : List Nat) (b n p : Nat) : Nat := (List.range n).countP fun m => decide ((traj rows s b m).1 = (p : Int))
def visL (rows : Rows) (s : List Nat) (b n : Nat) : List Nat := (List.range rows.length).map (visN rows s b n)
/-- the track of a state -/
def trackN (rows : Rows) (st : Int × List Nat) : Nat := (firsts 0 rows).getD st.1.toNat 0 + st.2.getD st.1.toNat 0
def dealtM (d s v : Nat) : List Nat := (List.range d).map fun e : Nat => v / d + (if ((e : Int) - (s : Int)) % (d : Int) < ((v % d : Nat) : Int) then 1 else 0)
def goneM : Rows → List Nat → List Nat → List Nat
  | r :: rs, s :: ss, v :: vs => dealtM r.length s v ++ goneM rs ss vs
  | _, _, _ => []
def comeStep (f : List Nat) (tm : Int × Nat) : List Nat := if tm.1 < 0 then f.set (-1 - tm.1).toNat (f.getD (-1 - tm.1).toNat 0 + tm.2) else f
def comeM (e : Nat) (rows : Rows) (s v : List Nat) : List Nat := (rows.flatten.zip (goneM rows s v)).foldl comeStep (List.replicate e 0)
/-- a point from which t can be reached -/
inductive Leads (rows : Rows) (t : Int) : Nat → Prop where
  | one {p : Nat} {r : List Int} : rows[p]? = some r → t ∈ r → Leads rows t p
  | more {p q : Nat} {r : List Int} : rows[p]? = some r → (q : Int) ∈ r → Leads rows t q → Leads rows t p
def LeadsE (e : Nat) (rows : Rows) (p : Nat) : Prop := ∃ x : Nat, x < e ∧ Leads rows (-1 - (x : Int)) p
open Classical in
noncomputable def yardRows (e : Nat) (rows : Rows) : Rows := (List.range rows.length).map fun p => if LeadsE e rows p then rows.getD p [] else [-1 - (e : Int)]
def toldM (rows : Rows) (s : List Nat) : List Nat := (s.zip rows).map fun q => if q.2.length > 1 then q.1 else 0
/-- the yard's run comes to x -/
def YEnd (e : Nat) (rows : Rows) (s : List Nat) (b x : Nat) : Prop := LEnd (yardRows e rows) (toldM (yardRows e rows) s) b x
def allStep (found : List (List Nat)) (r : List Int) : List (List Nat) := found.flatMap fun one => (List.range r.length).map fun k => one ++ [k]
def allM (rows : Rows) : List (List Nat) := rows.foldl allStep [[]]
def apartM (s o : List Nat) : Nat := ((s.zip o).filter fun q => decide (q.1 ≠ q.2)).length
def swapM (rows : Rows) (p i j : Nat) : Rows := rows.set p (((rows.getD p []).set i ((rows.getD p []).getD j 0)).set j ((rows.getD p []).getD i 0))
def swapsM (rows : Rows) : List (Nat × Nat × Nat) := (List.range rows.length).flatMap fun p => (List.range (rows.getD p []).length).flatMap fun i =>
  ((List.range ((rows.getD p []).length - (i + 1))).filter fun k => decide ((rows.getD p []).getD i 0 ≠ (rows.getD p []).getD (i + 1 + k) 0)).map fun k => (p, i, i + 1 + k)
end Fp
end part_M0
section part_E0
set_option maxHeartbeats 2000000
namespace Fp
open PySem PySem.Spec PyProof.Rows L2 Evl
/-! ### data that == compares -/
def Shp (n : Nat) (d : PyData) : Prop := d.canLay0 = true ∧ d.depth ≤ n
theorem shp_int (i : Int) : Shp 0 (.int i) := ⟨by simp [PyData.canLay0], by simp [PyData.depth]⟩
theorem shp_all {n : Nat} : ∀ ds : List PyData, (∀ d ∈ ds, Shp n d) → PyData.canLayAll0 ds = true ∧ PyData.depthAll ds ≤ n
  | [], _ => ⟨by simp [PyData.canLayAll0], by simp [PyData.depthAll]⟩
  | d :: ds, h => by
    obtain ⟨h1, h2⟩ := h d List.mem_cons_self
    obtain ⟨h3, h4⟩ := shp_all ds fun x hx => h x (List.mem_cons_of_mem _ hx)
    refine ⟨by simp [PyData.canLayAll0, h1, h3], ?_⟩
    simp only [PyData.depthAll]
    omega
theorem shp_list {n : Nat} {ds : List PyData} (h : ∀ d ∈ ds, Shp n d) : Shp (n + 1) (.list ds) := by
  obtain ⟨h1, h2⟩ := shp_all ds h
  refine ⟨by simp only [PyData.canLay0]; exact h1, ?_⟩
  simp only [PyData.depth]
  omega
theorem shp_tup {n : Nat} {ds : List PyData} (h : ∀ d ∈ ds, Shp n d) : Shp (n + 1) (.tuple ds) := by
  obtain ⟨h1, h2⟩ := shp_all ds h
  refine ⟨by simp only [PyData.canLay0]; exact h1, ?_⟩
  simp only [PyData.depth]
  omega
theorem Shp.mono {n m : Nat} {d : PyData} (h : Shp n d) (hm : n ≤ m) : Shp m d := ⟨h.1, Nat.le_trans h.2 hm⟩
theorem Shp.shaped {n : Nat} {d : PyData} (h : Shp n d) (hn : n ≤ 64) : SeqAt.shaped d = true := by
  show (d.canLay0 && decide (d.depth ≤ 64)) = true
  rw [h.1, decide_eq_true (Nat.le_trans h.2 hn)]
  rfl
/-- d tells its things apart -/
def Tells {α : Type} [DecidableEq α] (d : α → PyData) : Prop := ∀ a b, PyData.eqv (d a) (d b) = decide (a = b)
theorem tells_int : Tells PyData.int := fun a b => by
  simp only [PyData.eqv]
  by_cases h : a = b
  · subst h; simp
  · simp [h]
theorem tells_all {α : Type} [DecidableEq α] {d : α → PyData} (t : Tells d) : ∀ xs ys : List α, PyData.eqvAll (xs.map d) (ys.map d) = decide (xs = ys)
  | [], [] => by simp [PyData.eqvAll]
  | [], _ :: _ => by simp [PyData.eqvAll]
  | _ :: _, [] => by simp [PyData.eqvAll]
  | x :: xs, y :: ys => by
    simp only [List.map_cons, PyData.eqvAll]
    rw [t x y, tells_all t xs ys]
    by_cases h : x = y
    · subst h; simp
    · simp [h]
theorem tells_list {α : Type} [DecidableEq α] {d : α → PyData} (t : Tells d) : Tells fun xs : List α => .list (xs.map d) := fun xs ys => by
  simp only [PyData.eqv]
  exact tells_all t xs ys
theorem tells_tup {α : Type} [DecidableEq α] {d : α → PyData} (t : Tells d) : Tells fun xs : List α => .tuple (xs.map d) := fun xs ys => by
  simp only [PyData.eqv]
  exact tells_all t xs ys
theorem tells_inj {α β : Type} [DecidableEq α] [DecidableEq β] {d : α → PyData} (t : Tells d) {f : β → α} (hf : ∀ a b, f a = f b → a = b) : Tells fun b => d (f b) := fun a b => by
  rw [t]
  by_cases h : a = b
  · subst h; simp
  · rw [decide_eq_false h, decide_eq_false fun z => h (hf _ _ z)]
theorem tells_pair {α β : Type} [DecidableEq α] [DecidableEq β] {d : α → PyData} {d' : β → PyData} (t : Tells d) (t' : Tells d') : Tells fun p : α × β => .tuple [d p.1, d' p.2] := fun p q => by
  obtain ⟨a, b⟩ := p
  obtain ⟨a', b'⟩ := q
  simp only [PyData.eqv, PyData.eqvAll]
  rw [t a a', t' b b']
  by_cases h : a = a'
  · by_cases h' : b = b'
    · subst h h'; simp
    · simp [h, h']
  · simp [h]
/-- lists, tuples of ints; of such -/
def dL (xs : List Int) : PyData := .list (xs.map PyData.int)
def dU (xs : List Int) : PyData := .tuple (xs.map PyData.int)
def dLL (rows : List (List Int)) : PyData := .list (rows.map dL)
def dUU (rows : List (List Int)) : PyData := .tuple (rows.map dU)
theorem tells_dL : Tells dL := tells_list tells_int
theorem tells_dU : Tells dU := tells_tup tells_int
theorem tells_dLL : Tells dLL := tells_list tells_dL
theorem tells_dUU : Tells dUU := tells_tup tells_dU
theorem shp_map {α : Type} {d : α → PyData} {n : Nat} (h : ∀ a, Shp n (d a)) (xs : List α) : ∀ x ∈ xs.map d, Shp n x := fun x hx => by
  obtain ⟨a, _, rfl⟩ := List.mem_map.mp hx
  exact h a
theorem shp_dL (xs : List Int) : Shp 1 (dL xs) := shp_list (shp_map shp_int xs)
theorem shp_dU (xs : List Int) : Shp 1 (dU xs) := shp_tup (shp_map shp_int xs)
theorem shp_dLL (xs : List (List Int)) : Shp 2 (dLL xs) := shp_list (shp_map shp_dL xs)
theorem shp_dUU (xs : List (List Int)) : Shp 2 (dUU xs) := shp_tup (shp_map shp_dU xs)
mutual
theorem ex_dp {K : PySem.W.Frag} {H H' : Hp} (e : Ex H H') : ∀ (d : PyData) (v : V), Dp K H v d → Dp K H' v d
  | .none, _, h => by
    cases h
    exact .non
  | .bool b, _, h => by
    cases h
    exact .bl b
  | .int i, _, h => by
    cases h
    exact .int i
  | .str x, _, h => by
    cases h
    exact .str x
  | .list ds, _, h => by
    cases h with
    | lst hs ha => exact .lst (ex_l e hs) (ex_dps e ds _ ha)
  | .tuple ds, _, h => by
    cases h with
    | tup hs ha => exact .tup (ex_t e hs) (ex_dps e ds _ ha)
  | .dict _, _, h => by cases h
theorem ex_dps {K : PySem.W.Frag} {H H' : Hp} (e : Ex H H') : ∀ (ds : List PyData) (vs : List V), DpAll K H vs ds → DpAll K H' vs ds
  | [], _, h => by
    cases h
    exact .nil
  | d :: ds, _, h => by
    cases h with
    | cons h1 h2 => exact .cons (ex_dp e d _ h1) (ex_dps e ds _ h2)
end
theorem dp_all {α : Type} {K : PySem.W.Frag} {H : Hp} {d : α → PyData} {vs : List V} {xs : List α} (h : All2 (fun v x => Dp K H v (d x)) vs xs) : DpAll K H vs (xs.map d) := by
  induction h with
  | nil => exact .nil
  | cons r _ ih => exact .cons r ih
theorem dp_ints {K : PySem.W.Frag} {H : Hp} (xs : List Int) : DpAll K H (xs.map V.int) (xs.map PyData.int) := by
  induction xs with
  | nil => exact .nil
  | cons x xs ih => exact .cons (.int x) ih
theorem dp_L {K : PySem.W.Frag} {H : Hp} {a : Addr} {xs : List Int} (h : H a = some (.lst (xs.map V.int))) : Dp K H (.ref a) (dL xs) := .lst (SqL.of h) (dp_ints xs)
theorem dp_U {K : PySem.W.Frag} {H : Hp} {a : Addr} {xs : List Int} (h : H a = some (.tup (xs.map V.int))) : Dp K H (.ref a) (dU xs) := .tup (SqT.of h) (dp_ints xs)
theorem dp_LL {K : PySem.W.Frag} {H : Hp} {a : Addr} {rows : List (List Int)} (h : LL H a rows) : Dp K H (.ref a) (dLL rows) := by
  obtain ⟨vs, h1, h2⟩ := h
  exact .lst (SqL.of h1) (dp_all (h2.imp fun v r ⟨b, e, hb⟩ => by subst e; exact dp_L hb))
theorem dp_UU {K : PySem.W.Frag} {H : Hp} {a : Addr} {rows : List (List Int)} (h : UU H a rows) : Dp K H (.ref a) (dUU rows) := by
  obtain ⟨vs, h1, h2⟩ := h
  exact .tup (SqT.of h1) (dp_all (h2.imp fun v r ⟨b, e, hb⟩ => by subst e; exact dp_U hb))
end Fp
end part_E0
section part_B5
set_option maxHeartbeats 2000000
namespace Fp
open PySem PySem.Spec PyProof.Rows L2 Evl
/-! ### sorted(xs), xs a list of data of one shape: the very same objects, in the order of the data -/
def rSortedD {α : Type} (enc : α → PyData) (K : PySem.W.Frag) : List V → Hp → VK → Prop := fun vs H Q => ∃ (a : Addr) (bs : List (V × α)), vs = [.ref a] ∧ SqL K H a (bs.map Prod.fst) ∧ (∀ b ∈ bs, Dp K H b.1 (enc b.2)) ∧ bs.length ≤ 1000 ∧
  PySem.W.AllAlike (bs.map fun b => enc b.2) ∧ PySem.W.Sortable (bs.map fun b => enc b.2) ∧ (∀ x, (enc x).depth ≤ 60) ∧ ∀ p, H p = none → Q (.ref p) (upd H p (.lst ((bs.mergeSort (PySem.W.dataLe false fun b => enc b.2)).map Prod.fst)))
theorem each_rel {α : Type} : ∀ {bs : List (V × α)} {us : List Value}, Vals (bs.map Prod.fst) us → PySem.W.EachIs (fun v (b : V × α) => RelV b.1 v) us bs
  | [], _, h => by
    cases h
    exact .nil
  | b :: bs, _, h => by
    rw [List.map_cons] at h
    cases h with
    | cons r t => exact .cons r (each_rel t)
theorem vals_each {α : Type} : ∀ {bs : List (V × α)} {us : List Value}, PySem.W.EachIs (fun v (b : V × α) => RelV b.1 v) us bs → Vals (bs.map Prod.fst) us
  | [], _, h => by
    cases h
    exact .nil
  | b :: bs, _, h => by
    cases h with
    | cons r t => exact .cons r (vals_each t)
theorem each_reads {α : Type} {enc : α → PyData} {X : Cx} {pins : List (Addr × Obj)} {σ : L2.St} {H : Hp} {s : Shared} (I : Inv X pins σ H s) : ∀ {bs : List (V × α)} {us : List Value}, (∀ b ∈ bs, Dp X.K H b.1 (enc b.2)) → PySem.W.EachIs (fun v (b : V × α) => RelV b.1 v) us bs →
    PySem.W.EachIs (fun v (b : V × α) => ∃ as, Reads s.heap v (enc b.2) as) us bs
  | [], _, _, h => by
    cases h
    exact .nil
  | b :: bs, _, hd, h => by
    cases h with
    | cons r t => exact .cons (Dp.reads I _ _ _ (hd b List.mem_cons_self) r) (each_reads I (fun c hc => hd c (List.mem_cons_of_mem _ hc)) t)
theorem cr_sortedD {X : Cx} {α : Type} {enc : α → PyData} (hu : X.A.units + 64 < cLine) : CallR X (.builtin "sorted") (rSortedD enc X.K) := by
  intro pins s σ H vs us Q I r h
  obtain ⟨a, bs, rfl, hs, hd, hl, hal, hk, hdp, q⟩ := h
  obtain ⟨its, rv, hL, hz⟩ := I.list hs
  rw [Vals.ref1 r]
  have e := each_rel rv
  refine PySem.W.sorted_data (enc := fun b : V × α => enc b.2) hL.isList e (each_reads I hd e) hal hk (by rw [sizeLine_eq]; omega) (fun b _ => by have := hdp b.2; omega) fun out ho eo => ?_
  obtain ⟨ep, he'⟩ := PyProof.Rows.sortedAll_at s.heap its out.toArray
  have hlen : ((bs.mergeSort (PySem.W.dataLe false fun b => enc b.2)).map Prod.fst).length ≤ sizeLine := by
    rw [List.length_map, List.length_mergeSort, sizeLine_eq]
    omega
  exact ⟨.ref _, upd H (s.heap.objs.size + 1) (.lst ((bs.mergeSort (PySem.W.dataLe false fun b => enc b.2)).map Prod.fst)), I.laid (t' := s.toks) (fun _ _ => PyProof.Rows.sortedAll_old) (Nat.le_succ _) ⟨hlen, out, ep, vals_each eo, he'⟩, rfl, q _ (I.hok.fresh (Nat.le_succ _))⟩
/-! ### the order of (n, s) -/
def dNS (b : Int × List Int) : PyData := .tuple [.int b.1, dL b.2]
theorem alike_dL (xs ys : List Int) : PySem.W.alike (dL xs) (dL ys) = true := by
  have h : ∀ xs ys : List Int, PySem.W.alikeAll (xs.map PyData.int) (ys.map PyData.int) = true := by
    intro xs
    induction xs with
    | nil => intro ys; simp [PySem.W.alikeAll]
    | cons x xs ih =>
      intro ys
      cases ys with
      | nil => simp [PySem.W.alikeAll]
      | cons y ys =>
        simp only [List.map_cons, PySem.W.alikeAll, ih ys, Bool.and_true]
        simp [PySem.W.alike]
  show PySem.W.alike (.list _) (.list _) = true
  simp only [PySem.W.alike]
  exact h xs ys
theorem alike_dNS (a b : Int × List Int) : PySem.W.alike (dNS a) (dNS b) = true := by
  unfold dNS
  simp only [PySem.W.alike, PySem.W.alikeAll, alike_dL, Bool.and_true]
theorem dNS_depth (a : Int × List Int) : (dNS a).depth ≤ 60 := by
  have h := (shp_tup (n := 1) (ds := [.int a.1, dL a.2]) (fun d hd => by
    rcases List.mem_cons.mp hd with rfl | hd
    · exact (shp_int _).mono (by omega)
    · have : d = dL a.2 := by simpa using hd
      subst this
      exact shp_dL _)).2
  exact Nat.le_trans h (by decide)
theorem lt_dNS (a b : Int × List Int) : PySem.W.dataLt (dNS a) (dNS b) = decide (a.1 < b.1 ∨ (a.1 = b.1 ∧ a.2 < b.2)) := by
  unfold dNS
  rw [PySem.W.dataLt_pair (by simp [PySem.W.alike]) (alike_dL _ _), PySem.W.dataLt_int, tells_int, tells_dL]
  have e : PySem.W.dataLt (dL a.2) (dL b.2) = decide (a.2 < b.2) := by
    show PySem.W.dataLt (.list _) (.list _) = _
    rw [PySem.W.dataLt_list]
    exact PySem.W.dataLt_ints _ _
  rw [e]
  by_cases h1 : a.1 = b.1
  · by_cases h2 : a.2 = b.2
    · simp [h1, h2]
    · simp [h1, h2]
  · simp [h1]
theorem le_dNS {β : Type} (f : β → Int × List Int) (a b : β) : PySem.W.dataLe false (fun b => dNS (f b)) a b = !decide ((f b).1 < (f a).1 ∨ ((f b).1 = (f a).1 ∧ (f b).2 < (f a).2)) := by
  show (!PySem.W.dataLt (dNS (f b)) (dNS (f a))) = _
  rw [lt_dNS]
end Fp
end part_B5
section part_B6
set_option maxHeartbeats 2000000
namespace Fp
open PySem PySem.Spec PyProof.Rows L2 Evl
/-! ### a dict whose keys are pairs (int, tuple of ints) -/
def kSt (st : Int × List Nat) : NestedKey := .tup [.num st.1, .tup (st.2.map fun n : Nat => NestedKey.num (n : Int))]
theorem kSt_inj {a b : Int × List Nat} (h : kSt a = kSt b) : a = b := by
  obtain ⟨a1, a2⟩ := a
  obtain ⟨b1, b2⟩ := b
  unfold kSt at h
  injection h with h
  injection h with h1 h2
  injection h1 with h1
  injection h2 with h2 _
  injection h2 with h2
  have h1' : a1 = b1 := h1
  subst h1'
  congr 1
  have : ∀ xs ys : List Nat, (xs.map fun n : Nat => NestedKey.num (n : Int)) = (ys.map fun n : Nat => NestedKey.num (n : Int)) → xs = ys := by
    intro xs
    induction xs with
    | nil =>
      intro ys hy
      cases ys with
      | nil => rfl
      | cons _ _ => cases hy
    | cons x xs ih =>
      intro ys hy
      cases ys with
      | nil => cases hy
      | cons y ys =>
        injection hy with e1 e2
        injection e1 with e1
        rw [ih ys e2, show x = y by omega]
  exact this a2 b2 h2
def seenF (P : Program) (w : World) (d : Addr) (xs : List (NestedKey × Addr × Value)) : Heap → Prop := fun h => (d == sysModules) = false ∧ ∃ o es ep, h.get? d = some o ∧ o.ExactDict ∧ o.data = .dict es ep ∧ es.toList = xs.map (entryOfKey (nestedKind P w))
/-- q is the pair (w, t), t the tuple of the settings -/
def IsSt (H : Hp) (q : Addr) (st : Int × List Nat) : Prop := ∃ t, H q = some (.tup [.int st.1, .ref t]) ∧ H t = some (.tup (nI st.2))
theorem IsSt.ex {H H' : Hp} {q : Addr} {st : Int × List Nat} (e : Ex H H') (h : IsSt H q st) : IsSt H' q st := let ⟨t, h1, h2⟩ := h; ⟨t, e _ _ h1, e _ _ h2⟩
def Seen (P : Program) (w : World) (H : Hp) (d : Addr) (sts : List (Int × List Nat)) : Prop := ∃ xs, H d = some (.ext (seenF P w d xs)) ∧ All2 (fun (x : NestedKey × Addr × Value) st => x.1 = kSt st ∧ IsSt H x.2.1 st) xs sts ∧ sts.Nodup
theorem Seen.ex {P : Program} {w : World} {H H' : Hp} {d : Addr} {sts : List (Int × List Nat)} (e : Ex H H') (h : Seen P w H d sts) : Seen P w H' d sts :=
  let ⟨xs, h1, h2, h3⟩ := h
  ⟨xs, e _ _ h1, h2.imp fun _ _ q => ⟨q.1, q.2.ex e⟩, h3⟩
theorem seenF_ok {P : Program} {w : World} {H : Hp} {h : Heap} {d : Addr} {xs : List (NestedKey × Addr × Value)} (R : seenF P w d xs h) : ObjOk P w H h d (.ext (seenF P w d xs)) := by
  obtain ⟨hs, o, es, ep, ho, r⟩ := R
  exact ⟨⟨hs, o, es, ep, ho, r⟩, ⟨o, ho⟩, fun h1 h2 ⟨q1, o', es', ep', q2, q3⟩ k => ⟨q1, o', es', ep', k _ q2, q3⟩⟩
def tSeen0 (P : Program) (w : World) : TE := fun _ H Q => ∀ d, H d = none → Q (.ref d) (upd H d (.ext (seenF P w d [])))
theorem Seen.new {P : Program} {w : World} {H : Hp} {d : Addr} : Seen P w (upd H d (.ext (seenF P w d []))) d [] := ⟨[], upd_same, .nil, List.nodup_nil⟩
section
variable {X : Cx}
theorem pe_seen0 {pos : Pos} : PE X (.Dict [] [] pos) (tSeen0 X.prog X.w) := ⟨fun pins s σ H Q I h =>
  wpAny_Dict_empty ⟨.ref s.heap.objs.size, _, I.laid (a := s.heap.objs.size) (o := .ext (seenF X.prog X.w s.heap.objs.size [])) (t' := s.toks) (fun _ _ q => Heap.get?_push_of_some _ q) (Nat.le_refl _)
    (seenF_ok ⟨beq_eq_false_iff_ne.mpr (Ne.symm (Nat.ne_of_lt I.big)), _, #[], 0, Heap.get?_push_size _ rfl, ⟨rfl, rfl, rfl⟩, rfl, rfl⟩), rfl, h _ (I.hok.fresh (Nat.le_refl _))⟩⟩
theorem nested_ints {h : Heap} : ∀ {xs : List Nat} {its : List Value}, Vals (nI xs) its → NestedAll h (xs.map fun n : Nat => NestedKey.num (n : Int)) its
  | [], _, r => by
    cases r
    exact .nil
  | x :: xs, _, r => by
    rw [show nI (x :: xs) = V.int (x : Int) :: nI xs from rfl] at r
    cases r with
    | cons r t =>
      obtain ⟨k, rfl⟩ := r
      exact .cons (.int _ _) (nested_ints t)
theorem IsSt.key {pins : List (Addr × Obj)} {σ : L2.St} {H : Hp} {s : Shared} (I : Inv X pins σ H s) {q : Addr} {st : Int × List Nat} (h : IsSt H q st) : (nestedKind X.prog X.w).is s.heap (kSt st) q := by
  obtain ⟨t, hq, ht⟩ := h
  obtain ⟨its, rv, ⟨o, ho, hc, n, hd⟩, _⟩ := I.tuple (SqT.of hq)
  obtain ⟨its2, rv2, ⟨o2, ho2, hc2, n2, hd2⟩, _⟩ := I.tuple (SqT.of ht)
  have hdep : ∀ xs : List Nat, NestedKey.depthAll (xs.map fun n : Nat => NestedKey.num (n : Int)) = 0 := by
    intro xs
    induction xs with
    | nil => simp [NestedKey.depthAll]
    | cons x xs ih => simp only [List.map_cons, NestedKey.depthAll, ih, NestedKey.depth]; omega
  cases rv with
  | cons r1 rr =>
    cases rr with
    | cons r2 r3 =>
      cases r3
      obtain ⟨k, rfl⟩ := r1
      cases r2
      refine ⟨.tup ho hc hd ?_, ?_⟩
      · show NestedAll s.heap _ [_, _]
        exact .cons (.int _ _) (.cons (.tup ho2 hc2 hd2 (by show NestedAll s.heap _ its2.toArray.toList; simpa using nested_ints rv2)) .nil)
      · unfold kSt
        simp only [NestedKey.depth, NestedKey.depthAll, hdep]
        omega
theorem Seen.at {pins : List (Addr × Obj)} {σ : L2.St} {H : Hp} {s : Shared} (I : Inv X pins σ H s) {d : Addr} {xs : List (NestedKey × Addr × Value)} {sts : List (Int × List Nat)} (h1 : H d = some (.ext (seenF X.prog X.w d xs))) (h2 : All2 (fun (x : NestedKey × Addr × Value) st => x.1 = kSt st ∧ IsSt H x.2.1 st) xs sts) (h3 : sts.Nodup) :
    (d == sysModules) = false ∧ s.heap.DictOfH (nestedKind X.prog X.w) d xs := by
  obtain ⟨hs, o, es, ep, ho, hx, hd, he⟩ := (show seenF X.prog X.w d xs s.heap from (I.hok d _ h1).1)
  refine ⟨hs, o, es, ep, ho, hx, hd, he, fun x hx => ?_, ?_⟩
  · obtain ⟨i, hi⟩ := List.mem_iff_getElem?.mp hx
    obtain ⟨st, _, e, hst⟩ := h2.getl hi
    rw [e]
    exact hst.key I
  · have e : xs.map (·.1) = sts.map kSt := by
      clear h1 hx he h3
      induction h2 with
      | nil => rfl
      | cons r _ ih => rw [List.map_cons, List.map_cons, r.1, ih]
    rw [e]
    exact List.pairwise_map.mpr (h3.imp fun hab z => hab (kSt_inj z))
theorem atKey_seen {H : Hp} {xs : List (NestedKey × Addr × Value)} {sts : List (Int × List Nat)} (h2 : All2 (fun (x : NestedKey × Addr × Value) st => x.1 = kSt st ∧ IsSt H x.2.1 st) xs sts) (st : Int × List Nat) : (atKey xs (kSt st)).isSome = decide (st ∈ sts) := by
  have h : (atKey xs (kSt st)).isSome = true ↔ st ∈ sts := by
    unfold atKey
    rw [Option.isSome_map, List.find?_isSome]
    constructor
    · rintro ⟨x, hx, hk⟩
      obtain ⟨i, hi⟩ := List.mem_iff_getElem?.mp hx
      obtain ⟨st', hst', e, _⟩ := h2.getl hi
      have : st' = st := kSt_inj (e.symm.trans (of_decide_eq_true hk))
      subst this
      exact List.mem_of_getElem? hst'
    · intro hst
      obtain ⟨i, hi⟩ := List.mem_iff_getElem?.mp hst
      obtain ⟨x, hx, e, _⟩ := h2.get hi
      exact ⟨x, List.mem_of_getElem? hx, decide_eq_true e⟩
  cases hb : (atKey xs (kSt st)).isSome with
  | true => exact (decide_eq_true (h.mp hb)).symm
  | false => exact (decide_eq_false fun z => by rw [h.mpr z] at hb; cases hb).symm
def rSeen (P : Program) (w : World) : R2 := fun x y H Q => ∃ q d st sts, x = .ref q ∧ y = .ref d ∧ IsSt H q st ∧ Seen P w H d sts ∧ Q (.bl (!decide (st ∈ sts))) H
theorem op_notInSeen (hu : X.A.units + 64 < cLine) : OpR X (compareOp .NotIn) (rSeen X.prog X.w) := by
  intro pins s σ H x y v u Q I rx ry h
  obtain ⟨q, d, st, sts, rfl, rfl, hst, ⟨xs, h1, h2, h3⟩, k⟩ := h
  cases rx
  cases ry
  obtain ⟨hd, hm⟩ := Seen.at I h1 h2 h3
  refine notIn_keyed (kvs := pairsH xs) (knd := nestedKind X.prog X.w) (by show X.A.units + 1 + 8 < cLine; omega) (hst.key I) hd ⟨xs, hm, rfl⟩ ?_
  rw [valueAt_pairsH, Option.isSome_map, atKey_seen h2]
  exact ⟨.bl _, H, I.tok _, rfl, k⟩
def rSetSeen (P : Program) (w : World) : TSet := fun o i _ H Q => ∃ q d st sts, o = .ref d ∧ i = .ref q ∧ IsSt H q st ∧ Seen P w H d sts ∧ st ∉ sts ∧ sts.length ≤ 1000 ∧ ∀ H', (∀ c o, c ≠ d → H c = some o → H' c = some o) → Seen P w H' d (sts ++ [st]) → Q H'
theorem set_seen (hu : X.A.units + 64 < cLine) : PSet X (rSetSeen X.prog X.w) := by
  intro pins s σ H o i v ov iv u Q I ro ri rv h
  obtain ⟨q, d, st, sts, rfl, rfl, hst, ⟨xs, h1, h2, h3⟩, hni, hl, k⟩ := h
  cases ro
  cases ri
  obtain ⟨hd, hm⟩ := Seen.at I h1 h2 h3
  have hat : atKey xs (kSt st) = none := by
    have := atKey_seen h2 st
    rw [decide_eq_false hni] at this
    cases e : atKey xs (kSt st) with
    | none => rfl
    | some _ => rw [e] at this; cases this
  have hlen : xs.length ≤ sizeLine := by rw [h2.len, sizeLine_eq]; omega
  refine wpAny_setItem_heap (knd := nestedKind X.prog X.w) (hsz := hlen) (by show X.A.units + 1 + 8 < cLine; omega) (hst.key I) hm fun h' hm' sb => ?_
  rw [storedH_new hat] at hm'
  obtain ⟨o', es, ep, ho, hx, hdt, he, _, _⟩ := hm'
  have hex : ∃ u, h'.get? d = some u := ⟨o', ho⟩
  have kk : ∀ (c : Addr) (o : HO), c ≠ d → H c = some o → upd H d (.ext (seenF X.prog X.w d (xs ++ [(kSt st, q, u)]))) c = some o := fun c o hc hc' => by
    rw [upd_ne hc]
    exact hc'
  have nst : ∀ {c : Addr} {st' : Int × List Nat}, IsSt H c st' → IsSt (upd H d (.ext (seenF X.prog X.w d (xs ++ [(kSt st, q, u)])))) c st' := fun {c st'} ⟨t, ha, hb⟩ => by
    refine ⟨t, kk _ _ ?_ ha, kk _ _ ?_ hb⟩
    · rintro rfl
      rw [h1] at ha
      cases ha
    · rintro rfl
      rw [h1] at hb
      cases hb
  have hnd : (sts ++ [st]).Nodup := by
    refine List.nodup_append.mpr ⟨h3, by simp, fun a ha b hb e => ?_⟩
    have hb' : b = st := by simpa using hb
    rw [e, hb'] at ha
    exact hni ha
  exact ⟨_, I.write (e := d) (t' := _) (by rw [h1]; trivial) (.inl rfl) (fun b u hb hu => (sb.2 b hb).trans hu) hex (seenF_ok ⟨hd, o', es, ep, ho, hx, hdt, he⟩), k _ kk ⟨_, upd_same, (h2.imp fun x st' ⟨a, b⟩ => ⟨a, nst b⟩).snoc ⟨rfl, nst hst⟩, hnd⟩⟩
end
end Fp
end part_B6
section part_W0
set_option maxHeartbeats 2000000
namespace Fp
open PySem PySem.Spec PyProof.Rows L2 Evl
def topS (i : Nat) : Stmt := PySem.Challenge.pw_flippedpoints_k87_whole_points_turned_an.main.body.getD i (.Pass ⟨0, 0, 0, 0⟩)
/-- a def as the top leaves it -/
def FunG (K : PySem.W.Frag) (mg : Str → Option Value) (x : Str) (st : Stmt) (ps : List Str) : Prop := ∃ f fd, Fun K x x st f fd ∧ mg x = some (.ref f) ∧ Binds K fd ps []
/-- a method -/
def FunM (K : PySem.W.Frag) (C : Addr) (m q : Str) (st : Stmt) (ps : List Str) : Prop := ∃ f fd, Fun K m q st f fd ∧ Meth K C m f ∧ Binds K fd ps []
section
variable {P : Program} {w : World} {K : PySem.W.Frag} {mg : Str → Option Value} {base : Heap}
theorem FunG.cal {x : Str} {st : Stmt} {ps : List Str} {k : Nat} {sp : Sp} (F : FunG K mg x st ps) (h : ∀ f fd, Fun K x x st f fd → FnOk P w K mg base CX0 k f fd ps sp) : Cal P w K mg base x ps k sp :=
  let ⟨f, fd, F, hm, hb⟩ := F
  ⟨f, fd, h f fd F, hm, F.kp, hb⟩
theorem FunM.cal {C : Addr} {m q : Str} {st : Stmt} {ps : List Str} {k : Nat} {sp : Sp} (F : FunM K C m q st ps) (h : ∀ f fd, Fun K m q st f fd → FnOk P w K mg base CX0 k f fd ps sp) : MCal P w K mg base C m ps k sp :=
  let ⟨f, fd, F, hm, hb⟩ := F
  ⟨f, fd, h f fd F, hm, hb⟩
end
/-- g of the i-th -/
def atD {α : Type} (xs : List α) (g : α → V) (i : Nat) : V := match xs[i]? with
  | some a => g a
  | none => .non
theorem atD_some {α : Type} {xs : List α} {g : α → V} {i : Nat} {a : α} (h : xs[i]? = some a) : atD xs g i = g a := by
  unfold atD
  rw [h]
theorem range_atD {α : Type} {xs : List α} {g : α → V} {n : Nat} (hn : n = xs.length) : (List.range n).map (atD xs g) = xs.map g := by
  subst hn
  apply List.ext_getElem?
  intro i
  by_cases hi : i < xs.length
  · rw [List.getElem?_map, List.getElem?_range hi, List.getElem?_map, List.getElem?_eq_getElem hi]
    show some (atD xs g i) = some (g xs[i])
    rw [atD_some (List.getElem?_eq_getElem hi)]
  · rw [List.getElem?_eq_none (by simp; omega), List.getElem?_eq_none (by simp; omega)]
/-- rows told by their places -/
theorem All2.of_range {α : Type} {R : V → α → Prop} {ys : List V} {xs : List α} {n : Nat} (hn : n = xs.length) (h : All2 (fun y i => ∀ a, xs[i]? = some a → R y a) ys (List.range n)) : All2 R ys xs := by
  subst hn
  refine .of_get (by rw [h.len, List.length_range]) fun i y a hy ha => ?_
  obtain ⟨j, hj, q⟩ := h.getl hy
  have hi : i < xs.length := (List.getElem?_eq_some_iff.mp ha).1
  rw [List.getElem?_range hi] at hj
  cases hj
  exact q a ha
/-- tuple(x) of a list or a tuple -/
def rTupO (K : PySem.W.Frag) : List V → Hp → VK → Prop := fun xs H Q => ∃ p ys, xs = [.ref p] ∧ ((SqL K H p ys ∧ ∀ l, H l = none → Q (.ref l) (upd H l (.tup ys))) ∨ (SqT K H p ys ∧ Q (.ref p) H))
/-- what the defs ask of the top -/
structure Txt (K : PySem.W.Frag) (mg : Str → Option Value) (CN CY : Addr) : Prop where
  clN : Cls K CN
  clY : Cls K CY
  mgN : mg "Net" = some (.ref CN)
  mgY : mg "Yard" = some (.ref CY)
  nE : NoAttr K CN "own_ends"
  nX : NoAttr K CN "own_exits"
  nT : NoAttr K CN "own_targets"
  nF : NoAttr K CN "own_firsts"
  nN : NoAttr K CY "own_net"
  nB : NoAttr K CY "own_begin"
  c1 : PySem.W.findIn K (.ref CN) "__class__" = some (some (.builtin "object.__class__"))
  c2 : PySem.W.specialIn K (.builtin "object.__class__") "__get__" = some (some (.builtin "getset_descriptor.__get__"))
  c3 : PySem.W.takesIn K (.builtin "object.__class__") = some true
  c4 : PySem.W.mroIn K CN (.type "object") = some true
  kN : PySem.W.kitOne K (.ref CN) (.ref CN) = some true
  product : mg "product" = some (.type "itertools.product")
  MOST_ENDS : CstG mg "MOST_ENDS" (.int 6)
  MOST_POINTS : CstG mg "MOST_POINTS" (.int 24)
  MOST_EXITS : CstG mg "MOST_EXITS" (.int 6)
  MOST_TRACKS : CstG mg "MOST_TRACKS" (.int 60)
  MOST_SETTINGS : CstG mg "MOST_SETTINGS" (.int 4096)
  MOST_MENDS : CstG mg "MOST_MENDS" (.int 400)
  MOST_STEPS : CstG mg "MOST_STEPS" (.int 400)
  m_len : mg "len" = none
  m_isinstance : mg "isinstance" = none
  m_abs : mg "abs" = none
  m_max : mg "max" = none
  m_min : mg "min" = none
  m_sum : mg "sum" = none
  m_all : mg "all" = none
  m_any : mg "any" = none
  m_divmod : mg "divmod" = none
  m_int : mg "int" = none
  m_bool : mg "bool" = none
  m_list : mg "list" = none
  m_tuple : mg "tuple" = none
  m_set : mg "set" = none
  m_sorted : mg "sorted" = none
  m_range : mg "range" = none
  m_enumerate : mg "enumerate" = none
  m_zip : mg "zip" = none
theorem Txt.isN {K : PySem.W.Frag} {mg : Str → Option Value} {CN CY a dx : Addr} {H : Hp} {fs : List (Str × V)} (T : Txt K mg CN CY) (e : H a = some (.ins CN dx fs)) : TyX K H (.ref a) (.ref CN) := .base (.ins e T.clN T.c1 T.c2 T.c3 T.c4)
end Fp
end part_W0
section part_W1
set_option maxHeartbeats 2000000
namespace Fp
open PySem PySem.Spec PyProof.Rows L2 Evl
theorem itT {b : Bool} {A B : Prop} (hb : b = true) (h : A) : if b = true then A else B := by
  rw [if_pos hb]
  exact h
theorem itF {b : Bool} {A B : Prop} (hb : b = false) (h : B) : if b = true then A else B := by
  rw [if_neg (by rw [hb]; decide)]
  exact h
def spIsInt : Sp := fun vs H Q _ => ∃ i : Int, vs = [.int i] ∧ Q (.bl true) H
def spIsCount : Sp := fun vs H Q _ => ∃ i : Int, vs = [.int i] ∧ Q (.bl (decide (0 ≤ i))) H
def spIsList : Sp := fun vs H Q _ => ∃ a : Addr, vs = [.ref a] ∧ ((∃ xs, H a = some (.lst xs)) ∨ ∃ xs, H a = some (.tup xs)) ∧ ∀ H', Ex H H' → Q (.bl true) H'
def spAtMost : Sp := fun vs H Q _ => ∃ (z : Str) (l n : Int), vs = [.str z, .int l, .int n] ∧ n ≤ l ∧ Q .non H
def spIsTarget : Sp := fun vs H Q _ => ∃ e p v : Int, vs = [.int e, .int p, .int v] ∧ -e ≤ v ∧ v < p ∧ Q (.bl true) H
def SqP (k : Bool) (H : Hp) (a : Addr) (xs : List V) : Prop := if k = true then H a = some (.tup xs) else H a = some (.lst xs)
theorem SqP.ex {k : Bool} {H H' : Hp} {a : Addr} {xs : List V} (e : Ex H H') (h : SqP k H a xs) : SqP k H' a xs := by
  cases k with
  | true => exact e _ _ h
  | false => exact e _ _ h
theorem SqP.q {k : Bool} {K : PySem.W.Frag} {H : Hp} {a : Addr} {xs : List V} (h : SqP k H a xs) : SqK k K H a xs := by
  cases k with
  | true => exact SqT.of (show H a = some (.tup xs) from h)
  | false => exact SqL.of (show H a = some (.lst xs) from h)
theorem SqP.or {k : Bool} {H : Hp} {a : Addr} {xs : List V} (h : SqP k H a xs) : (∃ xs, H a = some (.lst xs)) ∨ ∃ xs, H a = some (.tup xs) := by
  cases k with
  | true => exact .inr ⟨_, h⟩
  | false => exact .inl ⟨_, h⟩
theorem SqP.some {k : Bool} {H : Hp} {a : Addr} {xs : List V} (h : SqP k H a xs) : ∃ o, H a = some o := by
  cases k with
  | true => exact ⟨_, h⟩
  | false => exact ⟨_, h⟩
def spIsRow : Sp := fun vs H Q _ => ∃ (kq : Bool) (e p : Int) (a : Addr) (r : List Int), vs = [.int e, .int p, .ref a] ∧ SqP kq H a (r.map V.int) ∧ 1 ≤ r.length ∧ r.length ≤ 6 ∧ (∀ t ∈ r, -e ≤ t ∧ t < p) ∧ ∀ H', Ex H H' → Q (.bl true) H'
/-- rows of either kind at v -/
def IsK (k : Bool) (H : Hp) (v : V) (xs : List Int) : Prop := ∃ a, v = .ref a ∧ SqP k H a (xs.map V.int)
theorem IsK.ex {k : Bool} {H H' : Hp} {v : V} {xs : List Int} (e : Ex H H') (h : IsK k H v xs) : IsK k H' v xs := let ⟨a, h1, h2⟩ := h; ⟨a, h1, h2.ex e⟩
def KK (k : Bool) (H : Hp) (a : Addr) (rows : List (List Int)) : Prop := ∃ vs, SqP k H a vs ∧ All2 (IsK k H) vs rows
theorem KK.ex {k : Bool} {H H' : Hp} {a : Addr} {rows : List (List Int)} (e : Ex H H') (h : KK k H a rows) : KK k H' a rows := let ⟨vs, h1, h2⟩ := h; ⟨vs, h1.ex e, h2.imp fun _ _ => IsK.ex e⟩
def RowsOk (e : Int) (rows : List (List Int)) : Prop := 1 ≤ rows.length ∧ rows.length ≤ 10 ∧ ∀ r ∈ rows, 1 ≤ r.length ∧ r.length ≤ 6 ∧ ∀ t ∈ r, -e ≤ t ∧ t < rows.length
def spWantExits : Sp := fun vs H Q _ => ∃ (kq : Bool) (e : Int) (a : Addr) (rows : List (List Int)), vs = [.int e, .ref a] ∧ KK kq H a rows ∧ RowsOk e rows ∧ ∀ H' b, Ex H H' → UU H' b rows → Q (.ref b) H'
section
variable {P : Program} {w : World} {K : PySem.W.Frag} {mg : Str → Option Value} {base : Heap} {CN CY : Addr}
abbrev s_is_integer : Stmt := (topS 13)
theorem sc_is_integer : FnScope ["value"] ["value"] (defScope s_is_integer) := ⟨rfl, rfl, rfl, by decide +kernel, rfl, by decide +kernel, by decide +kernel⟩
theorem ok_is_integer (F : FunG K mg "is_integer" s_is_integer ["value"]) (T : Txt K mg CN CY) : Cal P w K mg base "is_integer" ["value"] 1 spIsInt := by
  refine F.cal fun f fd F => F.ok sc_is_integer (fun vs H Q E h => ?_) (fun cdv A outer s H vs Q E hr h => ?_)
  · obtain ⟨i, rfl, _⟩ := h
    rfl
  · obtain ⟨i, rfl, k⟩ := h
    refine ⟨_, (pss_one (ps_ret (pe_and (pe_callB call_isi (by rfl) T.m_isinstance (by decide +kernel) (pa_cons (pv 0) (pa_cons (pe_bltn (v := .ty "int") (by rfl) T.m_int (by decide +kernel) rfl) pa_nil))) (pe_one (pe_not (pe_callB call_isi (by rfl) T.m_isinstance (by decide +kernel) (pa_cons (pv 0) (pa_cons (pe_bltn (v := .ty "bool") (by rfl) T.m_bool (by decide +kernel) rfl) pa_nil)))))))), ?_⟩
    exact ⟨_, rfl, _, _, _, _, true, rfl, .ty "int", .base (.int i), kit_ty (by decide +kernel), true, rfl, iteT ⟨_, rfl, _, _, _, _, false, rfl, .ty "bool", .base (.int i), kit_ty (by decide +kernel), false, rfl, k⟩⟩
abbrev s_is_count : Stmt := (topS 14)
theorem sc_is_count : FnScope ["value"] ["value"] (defScope s_is_count) := ⟨rfl, rfl, rfl, by decide +kernel, rfl, by decide +kernel, by decide +kernel⟩
theorem ok_is_count (F : FunG K mg "is_count" s_is_count ["value"]) (T : Txt K mg CN CY) (c_is_integer : Cal P w K mg base "is_integer" ["value"] 1 spIsInt) : Cal P w K mg base "is_count" ["value"] 2 spIsCount := by
  refine F.cal fun f fd F => F.ok sc_is_count (fun vs H Q E h => ?_) (fun cdv A outer s H vs Q E hr h => ?_)
  · obtain ⟨i, rfl, _⟩ := h
    rfl
  · obtain ⟨i, rfl, k⟩ := h
    refine ⟨_, (pss_one (ps_ret (pe_and (pe_cal c_is_integer (hr.mono (by decide)) (by rfl) (pa_cons (pv 0) pa_nil)) (pe_one (pe_cmpR op_ge (pv 0) pe_int (nomark _)))))), ?_⟩
    exact ⟨_, rfl, i, rfl, true, rfl, iteT ⟨_, rfl, _, _, rfl, rfl, k⟩⟩
abbrev s_is_list : Stmt := (topS 15)
theorem sc_is_list : FnScope ["value"] ["value"] (defScope s_is_list) := ⟨rfl, rfl, rfl, by decide +kernel, rfl, by decide +kernel, by decide +kernel⟩
theorem ok_is_list (F : FunG K mg "is_list" s_is_list ["value"]) (T : Txt K mg CN CY) : Cal P w K mg base "is_list" ["value"] 1 spIsList := by
  refine F.cal fun f fd F => F.ok sc_is_list (fun vs H Q E h => ?_) (fun cdv A outer s H vs Q E hr h => ?_)
  · obtain ⟨i, rfl, _⟩ := h
    rfl
  · obtain ⟨a, rfl, ha, k⟩ := h
    refine ⟨_, (pss_one (ps_ret (pe_callB call_isiT (by rfl) T.m_isinstance (by decide +kernel) (pa_cons (pv 0) (pa_cons (pe_tup (pa_cons (pe_bltn (v := .ty "list") (by rfl) T.m_list (by decide +kernel) rfl) (pa_cons (pe_bltn (v := .ty "tuple") (by rfl) T.m_tuple (by decide +kernel) rfl) pa_nil))) pa_nil))))), ?_⟩
    refine ⟨_, rfl, (by show 2 ≤ sizeLine; decide), fun p hp => ?_⟩
    rcases ha with ⟨xs, ha⟩ | ⟨xs, ha⟩
    · exact ⟨_, _, _, _, [.type "list", .type "tuple"], true, rfl, upd_same, .cons (.ty _) (.cons (.ty _) .nil), .base (.lst (xs := xs) (by rw [upd_ne (ne_of_none ha hp)]; exact ha)), kitAny_cons (b := true) (kit_ty (b := "list") (by decide +kernel)) (fun q => nomatch q) (fun _ => rfl), k _ (Ex.new hp)⟩
    · exact ⟨_, _, _, _, [.type "list", .type "tuple"], true, rfl, upd_same, .cons (.ty _) (.cons (.ty _) .nil), .base (.tup (xs := xs) (by rw [upd_ne (ne_of_none ha hp)]; exact ha)), kitAny_cons (b := false) (kit_ty (b := "list") (by decide +kernel)) (fun _ => kitAny_cons (b := true) (kit_ty (b := "tuple") (by decide +kernel)) (fun q => nomatch q) (fun _ => rfl)) (fun q => nomatch q), k _ (Ex.new hp)⟩
abbrev s_want_at_most : Stmt := (topS 16)
theorem sc_want_at_most : FnScope ["what", "limit", "number"] ["what", "limit", "number"] (defScope s_want_at_most) := ⟨rfl, rfl, rfl, by decide +kernel, rfl, by decide +kernel, by decide +kernel⟩
theorem ok_want_at_most (F : FunG K mg "want_at_most" s_want_at_most ["what", "limit", "number"]) (T : Txt K mg CN CY) : Cal P w K mg base "want_at_most" ["what", "limit", "number"] 1 spAtMost := by
  refine F.cal fun f fd F => F.ok sc_want_at_most (fun vs H Q E h => ?_) (fun cdv A outer s H vs Q E hr h => ?_)
  · obtain ⟨z, l, n, rfl, _⟩ := h
    rfl
  · obtain ⟨z, l, n, rfl, hn, k⟩ := h
    refine ⟨_, (pss_one (ps_if (pt_cmpR op_gt (pv 2) (pv 1) (nomark _)) (pss_one ps_never) pss_nil)), ?_⟩
    exact ⟨_, rfl, _, rfl, _, _, rfl, rfl, _, rfl, itF (decide_eq_false (by omega)) k⟩
abbrev s_is_target_of : Stmt := (topS 22)
theorem sc_is_target_of : FnScope ["ends", "points", "value"] ["ends", "points", "value"] (defScope s_is_target_of) := ⟨rfl, rfl, rfl, by decide +kernel, rfl, by decide +kernel, by decide +kernel⟩
theorem ok_is_target_of (F : FunG K mg "is_target_of" s_is_target_of ["ends", "points", "value"]) (T : Txt K mg CN CY) (c_is_integer : Cal P w K mg base "is_integer" ["value"] 1 spIsInt) : Cal P w K mg base "is_target_of" ["ends", "points", "value"] 2 spIsTarget := by
  refine F.cal fun f fd F => F.ok sc_is_target_of (fun vs H Q E h => ?_) (fun cdv A outer s H vs Q E hr h => ?_)
  · obtain ⟨z, l, n, rfl, _⟩ := h
    rfl
  · obtain ⟨z, l, n, rfl, h1, h2, k⟩ := h
    refine ⟨_, (pss_one (ps_ret (pe_and (pe_cal c_is_integer (hr.mono (by decide)) (by rfl) (pa_cons (pv 2) pa_nil)) (pe_one (pe_chain op_le op_lt (pe_un un_neg (pv 0)) (pv 2) (pv 1)))))), ?_⟩
    refine ⟨_, rfl, n, rfl, true, rfl, iteT ⟨_, rfl, _, rfl, _, rfl, _, _, rfl, rfl, _, rfl, itT (decide_eq_true h1) ⟨_, rfl, _, _, rfl, rfl, ?_⟩⟩⟩
    show Q (.bl (decide (n < l))) H
    rw [decide_eq_true h2]
    exact k
abbrev s_is_exits_row : Stmt := (topS 23)
theorem sc_is_exits_row : FnScope ["ends", "points", "value", "target"] ["ends", "points", "value"] (defScope s_is_exits_row) := ⟨rfl, rfl, rfl, by decide +kernel, rfl, by decide +kernel, by decide +kernel⟩
theorem ok_is_exits_row (F : FunG K mg "is_exits_row" s_is_exits_row ["ends", "points", "value"]) (T : Txt K mg CN CY) (c_is_list : Cal P w K mg base "is_list" ["value"] 1 spIsList) (c_is_target_of : Cal P w K mg base "is_target_of" ["ends", "points", "value"] 2 spIsTarget) : Cal P w K mg base "is_exits_row" ["ends", "points", "value"] 3 spIsRow := by
  refine F.cal fun f fd F => F.ok sc_is_exits_row (fun vs H Q E h => ?_) (fun cdv A outer s H vs Q E hr h => ?_)
  · obtain ⟨kq, z, l, n, r, rfl, _⟩ := h
    rfl
  · obtain ⟨kq, e, p, a, r, rfl, ha, h1, h2, h3, k⟩ := h
    refine ⟨_, (pss_cons (ps_if (PW.pt (pw_or (pt_not (pt_val (pe_cal c_is_list (hr.mono (by decide)) (by rfl) (pa_cons (pv 2) pa_nil)))) (pw_or1 (pt_not (pt_chain op_le op_le pe_int (pe_callB (r := rLenS K) call_len_seq (by rfl) T.m_len PySem.boot_len (pa_cons (pv 2) pa_nil)) (pe_cst (by rfl) T.MOST_EXITS)))))) (pss_one (ps_ret pe_bl)) pss_nil)
      (pss_one (ps_ret (pe_callB (r := rAll K) (cr_all rfl) (by rfl) T.m_all (by decide +kernel) (pa_cons (pe_lc (own := [("target", 3)]) (by rfl) sc_is_exits_row.nd (pi_seqK kq (pv 2)) (blkOk_by (N := ["ends", "points", "value", "target"]) (sc := defScope s_is_exits_row) (own := [("target", 3)]) (by decide +kernel)) (fun _ _ _ _ _ => (pg_name (i := 3) sc_is_exits_row.nd rfl (Or.inl rfl))) (fun _ _ _ _ _ => pts_nil) (fun _ _ _ _ _ => (pe_cal c_is_target_of (hr.mono (by decide)) (by rfl) (pa_cons (pv 0) (pa_cons (pv 1) (pa_cons (pv 3) pa_nil)))))) pa_nil))))), ?_⟩
    refine ⟨_, rfl, a, rfl, ha.or, fun H1 e1 => ⟨true, rfl, iteF ⟨_, rfl, _, _, rfl, ((ha.ex e1).q (K := K)).or, _, _, rfl, rfl, _, rfl, itT (decide_eq_true (by rw [List.length_map]; omega)) ⟨_, _, rfl, rfl, _, rfl, itF (by rw [decide_eq_true (show ((r.map V.int).length : Int) ≤ 6 by rw [List.length_map]; omega)]; rfl) ?_⟩⟩⟩⟩
    refine ⟨_, rfl, _, rfl, ⟨_, (ha.ex e1).q⟩, fun D hD => lcA walk_seqK hD (by rw [List.length_map]; omega) (fun _ => .bl true) (fun H2 e2 => (ha.ex (e1.trans e2)).q) (fun i x H2 H3 Ky hi e2 hY ky => ?_) fun H2 e2 hy => ?_⟩
    · obtain ⟨rfl, hx⟩ := hY
      rw [List.getElem?_map] at hx
      obtain ⟨t, ht, rfl⟩ := Option.map_eq_some_iff.mp hx
      obtain ⟨g1, g2⟩ := h3 t (List.mem_of_getElem? ht)
      exact ⟨rfl, _, rfl, _, rfl, _, rfl, _, _, _, rfl, g1, g2, ky _ (Ex.refl _)⟩
    · refine ⟨_, (List.range (r.map V.int).length).map fun _ => true, rfl, SqL.of (by rw [hy, List.map_map]; rfl), ?_⟩
      rw [show ((List.range (r.map V.int).length).map fun _ => true).all id = true by simp]
      exact k _ (e1.trans e2)
abbrev s_want_exits : Stmt := (topS 24)
theorem sc_want_exits : FnScope ["ends", "value", "exits"] ["ends", "value"] (defScope s_want_exits) := ⟨rfl, rfl, rfl, by decide +kernel, rfl, by decide +kernel, by decide +kernel⟩
theorem ok_want_exits (F : FunG K mg "want_exits" s_want_exits ["ends", "value"]) (T : Txt K mg CN CY) (c_is_list : Cal P w K mg base "is_list" ["value"] 1 spIsList) (c_is_exits_row : Cal P w K mg base "is_exits_row" ["ends", "points", "value"] 3 spIsRow)
    (c_want_at_most : Cal P w K mg base "want_at_most" ["what", "limit", "number"] 1 spAtMost) : Cal P w K mg base "want_exits" ["ends", "value"] 4 spWantExits := by
  refine F.cal fun f fd F => F.ok sc_want_exits (fun vs H Q E h => ?_) (fun cdv A outer s H vs Q E hr h => ?_)
  · obtain ⟨kq, z, l, n, rfl, _⟩ := h
    rfl
  · obtain ⟨kq, e, a, rows, rfl, ⟨us, ha, hus⟩, ⟨h1, h2, h3⟩, k⟩ := h
    have hl : us.length = rows.length := hus.len
    have hl0 := hl
    refine ⟨_, (pss_cons (ps_if (PW.pt (pw_or (pt_not (pt_val (pe_cal c_is_list (hr.mono (by decide)) (by rfl) (pa_cons (pv 1) pa_nil)))) (pw_or1 (pt_not (pt_chain op_le op_le pe_int (pe_callB (r := rLenS K) call_len_seq (by rfl) T.m_len PySem.boot_len (pa_cons (pv 1) pa_nil)) (pe_cst (by rfl) T.MOST_POINTS)))))) (pss_one ps_never) pss_nil)
      (pss_cons (ps_if (pt_not (pt_val (pe_callB (r := rAll K) (cr_all rfl) (by rfl) T.m_all (by decide +kernel) (pa_cons (pe_lc (own := [("exits", 2)]) (by rfl) sc_want_exits.nd (pi_seqK kq (pv 1)) (blkOk_by (N := ["ends", "value", "exits"]) (sc := defScope s_want_exits) (own := [("exits", 2)]) (by decide +kernel)) (fun _ _ _ _ _ => (pg_name (i := 2) sc_want_exits.nd rfl (Or.inl rfl))) (fun _ _ _ _ _ => pts_nil) (fun _ _ _ _ _ => (pe_cal c_is_exits_row (hr.mono (by decide)) (by rfl) (pa_cons (pv 0) (pa_cons (pe_callB (r := rLenS K) call_len_seq (by rfl) T.m_len PySem.boot_len (pa_cons (pv 1) pa_nil)) (pa_cons (pv 2) pa_nil)))))) pa_nil)))) (pss_one ps_never) pss_nil)
      (pss_cons (ps_expr (pe_cal c_want_at_most (hr.mono (by decide)) (by rfl) (pa_cons pe_str (pa_cons (pe_cst (by rfl) T.MOST_TRACKS) (pa_cons (pe_callB (r := rSum K) (cr_sum rfl) (by rfl) T.m_sum (by decide +kernel) (pa_cons (pe_lc (own := [("exits", 2)]) (by rfl) sc_want_exits.nd (pi_seqK kq (pv 1)) (blkOk_by (N := ["ends", "value", "exits"]) (sc := defScope s_want_exits) (own := [("exits", 2)]) (by decide +kernel)) (fun _ _ _ _ _ => (pg_name (i := 2) sc_want_exits.nd rfl (Or.inl rfl))) (fun _ _ _ _ _ => pts_nil) (fun _ _ _ _ _ => (pe_callB (r := rLenS K) call_len_seq (by rfl) T.m_len PySem.boot_len (pa_cons (pv 2) pa_nil)))) pa_nil)) pa_nil)))))
      (pss_one (ps_ret (pe_callTy (T := "tuple") (r := rTupO K) call_tuple_of (by rfl) T.m_tuple (by decide +kernel) (pa_cons (pe_lc (own := [("exits", 2)]) (by rfl) sc_want_exits.nd (pi_seqK kq (pv 1)) (blkOk_by (N := ["ends", "value", "exits"]) (sc := defScope s_want_exits) (own := [("exits", 2)]) (by decide +kernel)) (fun _ _ _ _ _ => (pg_name (i := 2) sc_want_exits.nd rfl (Or.inl rfl))) (fun _ _ _ _ _ => pts_nil) (fun _ _ _ _ _ => (pe_callTy (T := "tuple") (r := rTupO K) call_tuple_of (by rfl) T.m_tuple (by decide +kernel) (pa_cons (pv 2) pa_nil)))) pa_nil))))))), ?_⟩
    refine ⟨_, rfl, a, rfl, ha.or, fun H1 e1 => ⟨true, rfl, iteF ⟨_, rfl, _, _, rfl, ((ha.ex e1).q (K := K)).or, _, _, rfl, rfl, _, rfl, itT (decide_eq_true (by omega)) ⟨_, _, rfl, rfl, _, rfl, itF (by rw [decide_eq_true (show (us.length : Int) ≤ 24 by omega)]; rfl) ?_⟩⟩⟩⟩
    have hrow : ∀ {i : Nat} {x : V}, us[i]? = some x → ∃ b r, x = .ref b ∧ SqP kq H b (r.map V.int) ∧ rows[i]? = some r ∧ r ∈ rows := fun {i x} hx => by
      obtain ⟨r, hr, b, rfl, hb⟩ := hus.getl hx
      exact ⟨b, r, rfl, hb, hr, List.mem_of_getElem? hr⟩
    refine ⟨_, rfl, _, rfl, ⟨_, (ha.ex e1).q⟩, fun D hD => lcA walk_seqK hD (by omega) (fun _ => .bl true) (fun H2 e2 => (ha.ex (e1.trans e2)).q) (fun i x H2 H3 Ky hi e2 hY ky => ?_) fun H2 e2 hy => ?_⟩
    · obtain ⟨rfl, hx⟩ := hY
      obtain ⟨b, r, rfl, hb, _, hr⟩ := hrow hx
      obtain ⟨g1, g2, g3⟩ := h3 r hr
      refine ⟨rfl, _, rfl, _, rfl, _, _, rfl, ((ha.ex (e1.trans e2)).q (K := K)).or, _, rfl, kq, e, _, b, r, rfl, hb.ex (e1.trans e2), g1, g2, fun t ht => ?_, fun H4 e4 => ky _ e4⟩
      rw [hl]
      exact g3 t ht
    · refine ⟨_, (List.range us.length).map fun _ => true, rfl, SqL.of (by rw [hy, List.map_map]; rfl), true, ?_, iteF ?_⟩
      · rw [show ((List.range us.length).map fun _ => true).all id = true by simp]
      have e2' := e1.trans e2
      refine ⟨_, rfl, _, rfl, ⟨_, (ha.ex e2').q⟩, fun D' hD' => lcA walk_seqK hD' (by omega) (atD rows fun r => .int ((r.length : Nat) : Int)) (fun H3 e3 => (ha.ex (e2'.trans e3)).q) (fun i x H3 H4 Ky hi e3 hY ky => ?_) fun H3 e3 hy3 => ?_⟩
      · obtain ⟨rfl, hx⟩ := hY
        obtain ⟨b, r, rfl, hb, hri, hr⟩ := hrow hx
        refine ⟨rfl, _, rfl, _, _, rfl, ((hb.ex (e2'.trans e3)).q (K := K)).or, ?_⟩
        have := ky _ (Ex.refl _)
        rw [atD_some hri] at this
        rw [List.length_map]
        exact this
      · rw [range_atD hl] at hy3
        have hsum : (rows.map fun r : List Int => ((r.length : Nat) : Int)).sum ≤ 6 * (rows.length : Int) := by
          have : ∀ rs : List (List Int), (∀ r ∈ rs, r.length ≤ 6) → (rs.map fun r : List Int => ((r.length : Nat) : Int)).sum ≤ 6 * (rs.length : Int) := by
            intro rs
            induction rs with
            | nil => intro _; simp
            | cons r rs ih =>
              intro h
              have h1 := h r (by simp)
              have h2 := ih fun q hq => h q (by simp [hq])
              rw [List.map_cons, List.sum_cons, List.length_cons]
              omega
          exact this rows fun r hr => (h3 r hr).2.1
        refine ⟨_, rows.map fun r => ((r.length : Nat) : Int), rfl, SqL.of (by rw [hy3, List.map_map]; rfl), _, _, _, rfl, by omega, ?_⟩
        have e3' := e2'.trans e3
        refine ⟨_, rfl, _, rfl, ⟨_, (ha.ex e3').q⟩, fun D2 hD2 => lcN walk_seqK hD2 (by omega) (fun i y H => ∀ r, rows[i]? = some r → IsU H y r) (fun i y H H' e h r hr => (h r hr).ex e) (fun H4 e4 => (ha.ex (e3'.trans e4)).q) (fun i x H4 H5 Ky hi e4 hu hY ky => ?_) fun H4 ys e4 hy4 hall => ?_⟩
        · obtain ⟨rfl, hx⟩ := hY
          obtain ⟨b, r, rfl, hb, hri, hr⟩ := hrow hx
          have hb4 := hb.ex (e3'.trans e4)
          obtain ⟨u, hu⟩ := hu
          refine ⟨rfl, _, rfl, ?_⟩
          cases kq with
          | true =>
            refine ⟨_, _, rfl, .inr ⟨SqT.of hb4, ky _ _ (Ex.refl _) fun r' hr' => ?_⟩⟩
            rw [hri] at hr'
            cases hr'
            refine ⟨b, rfl, ?_⟩
            obtain ⟨o, ho⟩ := hb.some
            exact hide_in (e3'.trans e4) (fresh_back e3' hD2) _ _ hb
          | false =>
            refine ⟨_, _, rfl, .inl ⟨SqL.of hb4, fun l hl => ky _ _ (Ex.new hl) fun r' hr' => ?_⟩⟩
            rw [hri] at hr'
            cases hr'
            exact ⟨l, rfl, hide_new hu hl upd_same⟩
        · refine ⟨_, _, rfl, .inl ⟨SqL.of hy4, fun l hl => k _ _ ((e3'.trans e4).trans (Ex.new hl)) ⟨ys, upd_same, (All2.of_range hl0 (hall.imp fun y i h r hr => ((h r hr).ex hide_out).ex (Ex.new hl)))⟩⟩⟩
end
end Fp
end part_W1
section part_W2
set_option maxHeartbeats 2000000
namespace Fp
open PySem PySem.Spec PyProof.Rows L2 Evl
theorem firsts_get : ∀ (rows : List (List Int)) (n i : Nat), i < rows.length → (firsts n rows)[i]? = some (n + (rows.take i).flatten.length)
  | [], _, _, h => by simp at h
  | r :: rs, n, 0, _ => by simp [firsts]
  | r :: rs, n, i + 1, h => by
    rw [firsts, List.getElem?_cons_succ, firsts_get rs (n + r.length) i (by simpa using h)]
    simp [Nat.add_assoc]
theorem firsts_len : ∀ (rows : List (List Int)) (n : Nat), (firsts n rows).length = rows.length
  | [], _ => rfl
  | r :: rs, n => by rw [firsts, List.length_cons, firsts_len rs, List.length_cons]
theorem flatten_take_succ {rows : List (List Int)} {i : Nat} {r : List Int} (h : rows[i]? = some r) : (rows.take (i + 1)).flatten = (rows.take i).flatten ++ r := by
  rw [List.take_add_one, h]
  simp
theorem flatten_take_le {rows : List (List Int)} (h : ∀ r ∈ rows, r.length ≤ 6) (i : Nat) : (rows.take i).flatten.length ≤ 6 * i := by
  induction i with
  | zero => simp
  | succ i ih =>
    cases e : rows[i]? with
    | none =>
      rw [List.take_add_one, e]
      simp only [Option.toList_none, List.append_nil]
      omega
    | some r =>
      rw [flatten_take_succ e, List.length_append]
      have := h r (List.mem_of_getElem? e)
      omega
def spLay (CN : Addr) : Sp := fun vs H Q _ => ∃ (p dx ex : Addr) (e : Int) (fs : List (Str × V)) (rows : List (List Int)), vs = [.ref p, .int e, .ref ex] ∧ H p = some (.ins CN dx fs) ∧ fs.length ≤ 100 ∧ UU H ex rows ∧ rows.length ≤ 10 ∧ (∀ r ∈ rows, r.length ≤ 6) ∧
  ∀ H' tg fi, (∀ b o, b ≠ p → H b = some o → H' b = some o) → H' p = some (.ins CN dx (layF e ex tg fi fs)) → H' tg = some (.tup (rows.flatten.map V.int)) → H' fi = some (.tup (nI (firsts 0 rows))) → Q .non H'
def spInit (CN : Addr) : Sp := fun vs H Q _ => ∃ (kq : Bool) (p dx a : Addr) (e : Int) (rows : List (List Int)), vs = [.ref p, .int e, .ref a] ∧ H p = some (.ins CN dx []) ∧ 0 ≤ e ∧ e ≤ 6 ∧ KK kq H a rows ∧ RowsOk e rows ∧
  ∀ H' ex tg fi, (∀ b o, b ≠ p → H b = some o → H' b = some o) → H' p = some (.ins CN dx (layF e ex tg fi [])) → UU H' ex rows → H' tg = some (.tup (rows.flatten.map V.int)) → H' fi = some (.tup (nI (firsts 0 rows))) → Q .non H'
def spEnds (CN : Addr) : Sp := fun vs H Q _ => ∃ (p : Addr) (e : Nat) (rows : List (List Int)), vs = [.ref p] ∧ NetAt CN H p e rows ∧ Q (.int (e : Int)) H
def spExits (CN : Addr) : Sp := fun vs H Q _ => ∃ (p : Addr) (e : Nat) (rows : List (List Int)), vs = [.ref p] ∧ NetAt CN H p e rows ∧ rows.length ≤ 10 ∧ ∀ H' a, Ex H H' → H a = none → LL H' a rows → Q (.ref a) H'
def spMade (CN : Addr) : Sp := fun vs H Q _ => ∃ (e : Nat) (a : Addr) (xs : List V) (rows : List (List Int)), vs = [.int (e : Int), .ref a] ∧ H a = some (.lst xs) ∧ All2 (fun v r => ∃ k, IsK k H v r) xs rows ∧ rows.length ≤ 10 ∧ (∀ r ∈ rows, r.length ≤ 6) ∧ ∀ H' p, Ex H H' → NetAt CN H' p e rows → Q (.ref p) H'
def spWantNet (CN : Addr) : Sp := fun vs H Q _ => ∃ (p : Addr) (e : Nat) (rows : List (List Int)), vs = [.ref p] ∧ NetAt CN H p e rows ∧ Q (.ref p) H
section
variable {P : Program} {w : World} {K : PySem.W.Frag} {mg : Str → Option Value} {base : Heap} {CN CY : Addr}
abbrev s_Net_lay : Stmt := (inClass (topS 25) 1)
theorem sc_Net_lay : FnScope ["self", "ends", "rows", "targets", "firsts", "exits"] ["self", "ends", "rows"] (defScope s_Net_lay) := ⟨rfl, rfl, rfl, by decide +kernel, rfl, by decide +kernel, by decide +kernel⟩
theorem ok_lay (F : FunM K CN "lay" "Net.lay" s_Net_lay ["self", "ends", "rows"]) (T : Txt K mg CN CY) : MCal P w K mg base CN "lay" ["self", "ends", "rows"] 1 (spLay CN) := by
  refine F.cal fun f fd F => F.ok sc_Net_lay (fun vs H Q E h => ?_) (fun cdv A outer s H vs Q E hr h => ?_)
  · obtain ⟨kq, z, l, n, r, rows, rfl, _⟩ := h
    rfl
  · obtain ⟨p, dx, ex, e, fs, rows, rfl, hp, hfs, ⟨us, hex, hus⟩, hl, hr6, k⟩ := h
    refine ⟨_, (pss_cons (ps_par (i := 3) (j := 4) (by rfl) sc_Net_lay.nd rfl rfl (by decide) rfl rfl (pa_cons (pe_lst pa_nil) (pa_cons (pe_lst pa_nil) pa_nil)) (by rfl))
      (pss_cons (ps_for PassesOwn.never rfl (pi_seqK true (pv 2)) (pg_name (i := 5) sc_Net_lay.nd rfl (Or.inl rfl)) (pss_cons (ps_expr (pe_bm PySem.F.plainAttrs_list PySem.F.slot_list_append PySem.F.type_list_append mt_append (pv 4) (pa_cons (pe_callB (r := rLenS K) call_len_seq (by rfl) T.m_len PySem.boot_len (pa_cons (pv 3) pa_nil)) pa_nil)))
      (pss_one (ps_expr (pe_bm PySem.F.plainAttrs_list PySem.F.slot_list_extend PySem.F.type_list_extend mt_extendT (pv 3) (pa_cons (pv 5) pa_nil))))))
      (pss_cons (ps_fld (pv 0) (pv 1) rfl)
      (pss_cons (ps_fld (pv 0) (pv 2) rfl)
      (pss_cons (ps_fld (pv 0) (pe_callTy (T := "tuple") (r := rTupO K) call_tuple_of (by rfl) T.m_tuple (by decide +kernel) (pa_cons (pv 3) pa_nil)) rfl)
      (pss_one (ps_fld (pv 0) (pe_callTy (T := "tuple") (r := rTupO K) call_tuple_of (by rfl) T.m_tuple (by decide +kernel) (pa_cons (pv 4) pa_nil)) rfl))))))), ?_⟩
    refine ⟨by show 0 ≤ sizeLine; decide, fun tl htl => ⟨by show 0 ≤ sizeLine; decide, fun fl hfl => ⟨_, _, rfl, ?_⟩⟩⟩
    have e0 : Ex H (upd (upd H tl (.lst [])) fl (.lst [])) := (Ex.new htl).trans (Ex.new hfl)
    have hfl0 : H fl = none := fresh_back (Ex.new htl) hfl
    have hlt : fl ≠ tl := ne_of_none (H := upd H tl (.lst [])) (by exact upd_same) hfl |>.symm
    have hlu : us.length = rows.length := hus.len
    refine ⟨_, rfl, _, rfl, ⟨_, SqT.of (e0 _ _ hex)⟩, for_it walk_seqK (fun i σ H' => ∃ x, σ = [some (.ref p), some (.int e), some (.ref ex), some (.ref tl), some (.ref fl), x] ∧ Ex H H' ∧ H' tl = some (.lst ((rows.take i).flatten.map V.int)) ∧ H' fl = some (.lst (nI ((firsts 0 rows).take i)))) ⟨none, rfl, e0, by rw [upd_ne hlt.symm, upd_same]; rfl, upd_same⟩ (fun i σ H' _ ⟨x, _, e1, _⟩ => (SqT.of (e1 _ _ hex) : SqT K H' ex us)) ?_ ?_⟩
    · rintro i x σ H1 H2 hi ⟨x', rfl, e1, ht, hf⟩ ⟨rfl, hx⟩
      obtain ⟨r, hri, b, rfl, hb⟩ := hus.getl hx
      have hrl := hr6 r (List.mem_of_getElem? hri)
      have h6 := flatten_take_le hr6 i
      have hi' : i < rows.length := by omega
      refine ⟨_, rfl, .inl ⟨rfl, _, SqL.of hf⟩, _, rfl, _, _, rfl, .inl (SqL.of ht), _, _, _, rfl, rfl, hf, sz_lt (by rw [List.length_map, List.length_take]; omega), ?_⟩
      have ne1 : tl ≠ fl := hlt.symm
      refine ⟨_, rfl, .inl ⟨rfl, _, SqL.of (by rw [upd_ne ne1]; exact ht)⟩, _, rfl, _, b, _, r.map V.int, rfl, rfl, (by rw [upd_ne ne1]; exact ht), SqT.of (by rw [upd_ne (ne_of_none hb hfl0)]; exact e1 _ _ hb), sz_of (by simp only [List.length_map]; omega), ?_⟩
      refine ⟨_, rfl, Ex.mut (Ex.mut e1 hfl0) htl, ?_, ?_⟩
      · rw [upd_same, flatten_take_succ hri, List.map_append]
      · rw [upd_ne hlt, upd_same, List.length_map]
        congr 2
        rw [List.take_add_one, firsts_get rows 0 i hi', Nat.zero_add]
        show _ = nI (_ ++ [_])
        rw [show nI (List.take i (firsts 0 rows) ++ [(rows.take i).flatten.length]) = nI (List.take i (firsts 0 rows)) ++ nI [(rows.take i).flatten.length] from List.map_append]
        rfl
    · rintro σ H1 ⟨x, rfl, e1, ht, hf⟩
      rw [hlu, List.take_length] at ht
      rw [hlu, ← firsts_len rows 0, List.take_length] at hf
      have hp1 := e1 _ _ hp
      have lenF : ∀ (f : Str) (v : V) (l : List (Str × V)) (n : Nat), l.length ≤ n → (putF f v l).length ≤ n + 1 := fun f v l n h => Nat.le_trans (length_putF f v l) (by omega)
      refine ⟨_, rfl, _, rfl, p, CN, dx, fs, rfl, hp1, T.clN, T.nE, by omega, _, rfl, _, rfl, p, CN, dx, _, rfl, upd_same, T.clN, T.nX, Nat.lt_of_le_of_lt (lenF _ _ _ 100 hfs) (by decide), ?_⟩
      have ntl : tl ≠ p := (ne_of_none hp htl).symm
      have nfl : fl ≠ p := (ne_of_none hp hfl0).symm
      refine ⟨_, rfl, _, _, rfl, .inl ⟨SqL.of (by rw [upd_ne ntl, upd_ne ntl]; exact ht), fun tg htg => ⟨_, rfl, p, CN, dx, _, rfl, by rw [upd_ne (ne_of_none (by exact upd_same) htg), upd_same], T.clN, T.nT, Nat.lt_of_le_of_lt (lenF _ _ _ 101 (lenF _ _ _ 100 hfs)) (by decide), ?_⟩⟩⟩
      have htg1 : H1 tg = none := by
        rw [upd_ne, upd_ne] at htg
        · exact htg
        · rintro rfl; rw [upd_same] at htg; cases htg
        · rintro rfl; rw [upd_same] at htg; cases htg
      have ntg : tg ≠ p := (ne_of_none hp1 htg1).symm
      have nft : fl ≠ tg := ne_of_none hf htg1
      refine ⟨_, rfl, _, _, rfl, .inl ⟨SqL.of (by rw [upd_ne nfl, upd_ne nft, upd_ne nfl, upd_ne nfl]; exact hf), fun fi hfi => ⟨_, rfl, p, CN, dx, _, rfl, by rw [upd_ne (ne_of_none (by exact upd_same) hfi), upd_same], T.clN, T.nF, Nat.lt_of_le_of_lt (lenF _ _ _ 102 (lenF _ _ _ 101 (lenF _ _ _ 100 hfs))) (by decide), ?_⟩⟩⟩
      have nfi : fi ≠ p := by rintro rfl; rw [upd_same] at hfi; cases hfi
      have nfit : fi ≠ tg := by rintro rfl; rw [upd_ne nfi, upd_same] at hfi; cases hfi
      have hfi1 : H1 fi = none := by
        rw [upd_ne nfi, upd_ne nfit, upd_ne nfi, upd_ne nfi] at hfi
        exact hfi
      refine k _ tg fi (fun b o hb ho => ?_) (by rw [upd_same]; rfl) (by rw [upd_ne ntg, upd_ne nfit.symm, upd_ne ntg, upd_same]) (by rw [upd_ne nfi, upd_same])
      have ho1 := e1 _ _ ho
      rw [upd_ne hb, upd_ne (ne_of_none ho1 hfi1), upd_ne hb, upd_ne (ne_of_none ho1 htg1), upd_ne hb, upd_ne hb]
      exact ho1
abbrev s_Net_init : Stmt := (inClass (topS 25) 0)
theorem sc_Net_init : FnScope ["self", "ends", "exits"] ["self", "ends", "exits"] (defScope s_Net_init) := ⟨rfl, rfl, rfl, by decide +kernel, rfl, by decide +kernel, by decide +kernel⟩
theorem ok_Net_init (F : ∃ f fd, Fun K "__init__" "Net.__init__" s_Net_init f fd ∧ Mk K CN f ∧ Binds K fd ["self", "ends", "exits"] []) (T : Txt K mg CN CY) (c_is_count : Cal P w K mg base "is_count" ["value"] 2 spIsCount)
    (c_want_exits : Cal P w K mg base "want_exits" ["ends", "value"] 4 spWantExits) (c_lay : MCal P w K mg base CN "lay" ["self", "ends", "rows"] 1 (spLay CN)) : MkCal P w K mg base "Net" CN ["self", "ends", "exits"] 5 (spInit CN) := by
  obtain ⟨f, fd, F, M, hb⟩ := F
  refine ⟨f, fd, F.ok sc_Net_init (fun vs H Q E h => ?_) (fun cdv A outer s H vs Q E hr h => ?_), M, T.mgN, hb⟩
  · obtain ⟨kq, z, l, n, r, rows, rfl, _⟩ := h
    rfl
  · obtain ⟨kq, p, dx, a, e, rows, rfl, hp, h0, h6, hK, hR, k⟩ := h
    refine ⟨_, (pss_cons (ps_if (PW.pt (pw_or (pt_not (pt_val (pe_cal c_is_count (hr.mono (by decide)) (by rfl) (pa_cons (pv 1) pa_nil)))) (pw_or1 (pt_cmpR op_gt (pv 1) (pe_cst (by rfl) T.MOST_ENDS) (nomark _))))) (pss_one ps_never) pss_nil)
      (pss_one (ps_expr (pe_mcal T.clN c_lay (hr.mono (by decide)) (pv 0) (pa_cons (pv 1) (pa_cons (pe_cal c_want_exits (hr.mono (by decide)) (by rfl) (pa_cons (pv 1) (pa_cons (pv 2) pa_nil))) pa_nil)))))), ?_⟩
    refine ⟨_, rfl, e, rfl, _, rfl, ?_⟩
    refine itF (by rw [decide_eq_true h0]; rfl) ⟨_, rfl, _, _, rfl, rfl, _, rfl, itF (decide_eq_false (by omega)) ?_⟩
    refine ⟨_, rfl, p, dx, [], rfl, hp, rfl, _, rfl, _, rfl, _, rfl, kq, e, a, rows, rfl, hK, hR, fun H1 ex e1 hU => ?_⟩
    refine ⟨p, dx, ex, e, [], rows, rfl, e1 _ _ hp, by show 0 ≤ 100; decide, hU, hR.2.1, fun r hr => (hR.2.2 r hr).2.1, fun H2 tg fi k2 hp2 ht hf => ?_⟩
    refine k H2 ex tg fi (fun b o hb ho => k2 b o hb (e1 _ _ ho)) hp2 ?_ ht hf
    obtain ⟨vs, hv, hvs⟩ := hU
    have nx : ex ≠ p := by
      rintro rfl
      rw [e1 _ _ hp] at hv
      cases hv
    refine ⟨vs, k2 _ _ nx hv, hvs.imp fun v r ⟨c, e, hc⟩ => ⟨c, e, k2 _ _ ?_ hc⟩⟩
    rintro rfl
    rw [e1 _ _ hp] at hc
    cases hc
abbrev s_Net_ends : Stmt := (inClass (topS 25) 2)
theorem sc_Net_ends : FnScope ["self"] ["self"] (defScope s_Net_ends) := ⟨rfl, rfl, rfl, by decide +kernel, rfl, by decide +kernel, by decide +kernel⟩
theorem ok_ends (F : ∃ p f fd, Fun K "ends" "Net.ends" s_Net_ends f fd ∧ PropOf K CN "ends" p f ∧ Binds K fd ["self"] []) (T : Txt K mg CN CY) : PCal P w K mg base CN "ends" 1 (spEnds CN) := by
  obtain ⟨p, f, fd, F, M, hb⟩ := F
  refine ⟨p, f, fd, F.ok sc_Net_ends (fun vs H Q E h => ?_) (fun cdv A outer s H vs Q E hr h => ?_), M, hb⟩
  · obtain ⟨p, e, rows, rfl, _⟩ := h
    rfl
  · obtain ⟨p, e, rows, rfl, ⟨dx, fs, ex, tg, fi, hp, _, _, hn⟩, k⟩ := h
    refine ⟨_, (pss_one (ps_ret (pe_fld (pv 0) rfl))), ?_⟩
    exact ⟨_, rfl, p, CN, dx, _, _, rfl, hp, T.clN, T.nE, layF_ends _ _ _ _ _, k⟩
abbrev s_Net_exits : Stmt := (inClass (topS 25) 5)
theorem sc_Net_exits : FnScope ["self", "exits"] ["self"] (defScope s_Net_exits) := ⟨rfl, rfl, rfl, by decide +kernel, rfl, by decide +kernel, by decide +kernel⟩
theorem ok_exits (F : FunM K CN "exits" "Net.exits" s_Net_exits ["self"]) (T : Txt K mg CN CY) : MCal P w K mg base CN "exits" ["self"] 1 (spExits CN) := by
  refine F.cal fun f fd F => F.ok sc_Net_exits (fun vs H Q E h => ?_) (fun cdv A outer s H vs Q E hr h => ?_)
  · obtain ⟨p, e, rows, rfl, _⟩ := h
    rfl
  · obtain ⟨p, e, rows, rfl, ⟨dx, fs, ex, tg, fi, hp, _, _, hn⟩, hl, k⟩ := h
    obtain ⟨us, hex, hus⟩ := hn.ex
    have hlu : us.length = rows.length := hus.len
    refine ⟨_, (pss_one (ps_ret (pe_lc (own := [("exits", 1)]) (by rfl) sc_Net_exits.nd (pi_seqK true (pe_fld (pv 0) rfl)) (blkOk_by (N := ["self", "exits"]) (sc := defScope s_Net_exits) (own := [("exits", 1)]) (by decide +kernel)) (fun _ _ _ _ _ => (pg_name (i := 1) sc_Net_exits.nd rfl (Or.inl rfl))) (fun _ _ _ _ _ => pts_nil) (fun _ _ _ _ _ => (pe_callTy (T := "list") (r := rListS K) call_list_of (by rfl) T.m_list (by decide +kernel) (pa_cons (pv 1) pa_nil)))))), ?_⟩
    refine ⟨_, rfl, p, CN, dx, _, _, rfl, hp, T.clN, T.nX, layF_exits _ _ _ _ _, _, rfl, ⟨_, (SqT.of hex : SqT K H ex us)⟩, fun D hD => lcN walk_seqK hD (by omega) (fun i y H => ∀ r, rows[i]? = some r → IsL H y r) (fun i y H H' e h r hr => (h r hr).ex e) (fun H4 e4 => (SqT.of (e4 _ _ hex) : SqT K H4 ex us)) (fun i x H4 H5 Ky hi e4 hu hY ky => ?_) fun H4 ys e4 hy4 hall => ?_⟩
    · obtain ⟨rfl, hx⟩ := hY
      obtain ⟨r, hri, b, rfl, hb⟩ := hus.getl hx
      obtain ⟨u, hu⟩ := hu
      refine ⟨rfl, _, rfl, _, _, rfl, .inr (SqT.of (e4 _ _ hb)), fun l hl => ky _ _ (Ex.new hl) fun r' hr' => ?_⟩
      rw [hri] at hr'
      cases hr'
      exact ⟨l, rfl, hide_new hu hl upd_same⟩
    · exact k _ _ e4 hD ⟨ys, hy4, All2.of_range hlu (hall.imp fun y i h r hr => (h r hr).ex hide_out)⟩
abbrev s_want_net : Stmt := (topS 27)
theorem sc_want_net : FnScope ["value"] ["value"] (defScope s_want_net) := ⟨rfl, rfl, rfl, by decide +kernel, rfl, by decide +kernel, by decide +kernel⟩
theorem ok_want_net (F : FunG K mg "want_net" s_want_net ["value"]) (T : Txt K mg CN CY) : Cal P w K mg base "want_net" ["value"] 1 (spWantNet CN) := by
  refine F.cal fun f fd F => F.ok sc_want_net (fun vs H Q E h => ?_) (fun cdv A outer s H vs Q E hr h => ?_)
  · obtain ⟨p, e, rows, rfl, _⟩ := h
    rfl
  · obtain ⟨p, e, rows, rfl, ⟨dx, fs, ex, tg, fi, hp, _, _, hn⟩, k⟩ := h
    refine ⟨_, (pss_cons (ps_if (pt_not (pt_val (pe_callB call_isi (by rfl) T.m_isinstance (by decide +kernel) (pa_cons (pv 0) (pa_cons (pe_glob (v := .ref CN) (by rfl) T.mgN rfl) pa_nil))))) (pss_one ps_never) pss_nil)
      (pss_one (ps_ret (pv 0)))), ?_⟩
    exact ⟨_, rfl, _, _, _, .ref CN, true, rfl, .own CN, T.isN hp, T.kN, true, rfl, iteF ⟨_, rfl, k⟩⟩
abbrev s_net_made : Stmt := (topS 26)
theorem sc_net_made : FnScope ["ends", "rows", "found", "exits"] ["ends", "rows"] (defScope s_net_made) := ⟨rfl, rfl, rfl, by decide +kernel, rfl, by decide +kernel, by decide +kernel⟩
theorem ok_net_made (F : FunG K mg "net_made" s_net_made ["ends", "rows"]) (T : Txt K mg CN CY) (c_Net : MkCal P w K mg base "Net" CN ["self", "ends", "exits"] 5 (spInit CN)) (c_lay : MCal P w K mg base CN "lay" ["self", "ends", "rows"] 1 (spLay CN)) : Cal P w K mg base "net_made" ["ends", "rows"] 7 (spMade CN) := by
  refine F.cal fun f fd F => F.ok sc_net_made (fun vs H Q E h => ?_) (fun cdv A outer s H vs Q E hr h => ?_)
  · obtain ⟨e, a, xs, rows, rfl, _⟩ := h
    rfl
  · obtain ⟨e, a, xs, rows, rfl, ha, hxs, hl, h6, k⟩ := h
    have hlx : xs.length = rows.length := hxs.len
    refine ⟨_, (pss_cons (ps_set (i := 2) sc_net_made.nd rfl (Or.inl rfl) (pe_mk c_Net (hr.mono (by decide)) (by rfl) (pa_cons pe_int (pa_cons (pe_tup (pa_cons (pe_tup (pa_cons pe_int pa_nil)) pa_nil)) pa_nil))))
      (pss_cons (ps_expr (pe_mcal T.clN c_lay (hr.mono (by decide)) (pv 2) (pa_cons (pv 0) (pa_cons (pe_callTy (T := "tuple") (r := rTupO K) call_tuple_of (by rfl) T.m_tuple (by decide +kernel) (pa_cons (pe_lc (own := [("exits", 3)]) (by rfl) sc_net_made.nd (pi_seqK false (pv 1)) (blkOk_by (N := ["ends", "rows", "found", "exits"]) (sc := defScope s_net_made) (own := [("exits", 3)]) (by decide +kernel)) (fun _ _ _ _ _ => (pg_name (i := 3) sc_net_made.nd rfl (Or.inl rfl))) (fun _ _ _ _ _ => pts_nil) (fun _ _ _ _ _ => (pe_callTy (T := "tuple") (r := rTupO K) call_tuple_of (by rfl) T.m_tuple (by decide +kernel) (pa_cons (pv 3) pa_nil)))) pa_nil)) pa_nil))))
      (pss_one (ps_ret (pv 2))))), ?_⟩
    refine ⟨by show 1 ≤ sizeLine; decide, fun t1 h1 => ⟨by show 1 ≤ sizeLine; decide, fun t2 h2 => fun x dx nx ndx ne => ?_⟩⟩
    have e2 : Ex H (upd (upd H t1 (.tup [.int 0])) t2 (.tup [.ref t1])) := (Ex.new h1).trans (Ex.new h2)
    have n12 : t1 ≠ t2 := ne_of_none (by exact upd_same) h2
    have x1 : t1 ≠ x := ne_of_none (H := upd (upd H t1 (.tup [.int 0])) t2 (.tup [.ref t1])) (by rw [upd_ne n12, upd_same]) nx
    have x2 : t2 ≠ x := ne_of_none (by exact upd_same) nx
    have d1 : t1 ≠ dx := ne_of_none (H := upd (upd H t1 (.tup [.int 0])) t2 (.tup [.ref t1])) (by rw [upd_ne n12, upd_same]) ndx
    have d2 : t2 ≠ dx := ne_of_none (by exact upd_same) ndx
    have nx0 : H x = none := fresh_back e2 nx
    have nd0 : H dx = none := fresh_back e2 ndx
    refine ⟨true, x, dx, t2, 0, [[0]], rfl, upd_same, by decide, by decide, ⟨[.ref t1], ?_, .cons ⟨t1, rfl, ?_⟩ .nil⟩, ⟨by decide, by decide, fun r hr => ?_⟩, fun H1 ex tg fi k1 hx1 hU ht hf => ⟨rfl, ?_⟩⟩
    · show upd (upd _ dx _) x _ t2 = some (.tup [.ref t1])
      rw [upd_ne x2, upd_ne d2, upd_same]
    · show upd (upd _ dx _) x _ t1 = some (.tup [.int 0])
      rw [upd_ne x1, upd_ne d1, upd_ne n12, upd_same]
    · have : r = [0] := by simpa using hr
      subst this
      exact ⟨by decide, by decide, fun t ht => by simp at ht; subst ht; decide⟩
    have e1 : Ex H H1 := fun b o ho => k1 b o (ne_of_none ho nx0) (by rw [upd_ne (ne_of_none ho nx0), upd_ne (ne_of_none ho nd0)]; exact e2 _ _ ho)
    have f1 : ∀ m : Str, ¬ m = "own_ends" → ¬ m = "own_exits" → ¬ m = "own_targets" → ¬ m = "own_firsts" → (layF 0 ex tg fi []).lookup m = none := fun m => layF_no 0 ex tg fi [] rfl
    refine ⟨_, rfl, x, dx, _, rfl, hx1, f1 "lay" (by decide +kernel) (by decide +kernel) (by decide +kernel) (by decide +kernel), _, rfl, ?_⟩
    refine ⟨_, rfl, _, rfl, ⟨_, (SqL.of (e1 _ _ ha) : SqL K H1 a xs)⟩, fun D hD => lcN walk_seqK hD (by omega) (fun i y H => ∀ r, rows[i]? = some r → IsU H y r) (fun i y H H' e h r hr => (h r hr).ex e) (fun H4 e4 => (SqL.of ((e1.trans e4) _ _ ha) : SqL K H4 a xs)) (fun i y H4 H5 Ky hi e4 hu hY ky => ?_) fun H4 ys e4 hy4 hall => ?_⟩
    · obtain ⟨rfl, hx⟩ := hY
      obtain ⟨r, hri, kq, b, rfl, hb⟩ := hxs.getl hx
      obtain ⟨u, hu⟩ := hu
      have hb4 := hb.ex (e1.trans e4)
      refine ⟨rfl, _, rfl, ?_⟩
      cases kq with
      | true =>
        refine ⟨_, _, rfl, .inr ⟨SqT.of hb4, ky _ _ (Ex.refl _) fun r' hr' => ?_⟩⟩
        rw [hri] at hr'
        cases hr'
        exact ⟨b, rfl, hide_in (e1.trans e4) (fresh_back e1 hD) _ _ hb⟩
      | false =>
        refine ⟨_, _, rfl, .inl ⟨SqL.of hb4, fun l hl => ky _ _ (Ex.new hl) fun r' hr' => ?_⟩⟩
        rw [hri] at hr'
        cases hr'
        exact ⟨l, rfl, hide_new hu hl upd_same⟩
    · refine ⟨_, _, rfl, .inl ⟨SqL.of hy4, fun l hl => ?_⟩⟩
      have e5 : Ex H1 (upd H4 l (.tup ys)) := e4.trans (Ex.new hl)
      refine ⟨x, dx, l, (e : Int), _, rows, rfl, e5 _ _ hx1, ?_, ⟨ys, upd_same, All2.of_range hlx (hall.imp fun y i h r hr => ((h r hr).ex hide_out).ex (Ex.new hl))⟩, by omega, h6, fun H6 tg' fi' k6 hx6 ht6 hf6 => ?_⟩
      · have q := length_putF "own_ends" (V.int 0) []
        have q2 := length_putF "own_exits" (V.ref ex) (putF "own_ends" (V.int 0) [])
        have q3 := length_putF "own_targets" (V.ref tg) (putF "own_exits" (V.ref ex) (putF "own_ends" (V.int 0) []))
        have q4 := length_putF "own_firsts" (V.ref fi) (putF "own_targets" (V.ref tg) (putF "own_exits" (V.ref ex) (putF "own_ends" (V.int 0) [])))
        have q5 : ([] : List (Str × V)).length = 0 := rfl
        unfold layF
        omega
      · have nxl : l ≠ x := (ne_of_none (e4 _ _ hx1) hl).symm
        refine ⟨_, rfl, k H6 x (fun b o ho => k6 b o (ne_of_none ho nx0) (e5 _ _ (e1 _ _ ho))) ⟨dx, _, l, tg', fi', hx6, f1 "exits" (by decide +kernel) (by decide +kernel) (by decide +kernel) (by decide +kernel), f1 "lay" (by decide +kernel) (by decide +kernel) (by decide +kernel) (by decide +kernel), ⟨⟨ys, k6 _ _ nxl upd_same, ?_⟩, ht6, hf6⟩⟩⟩
        refine All2.of_range hlx (hall.imp fun y i h r hr => ?_)
        obtain ⟨c, rfl, hc⟩ := h r hr
        have hc5 : upd H4 l (.tup ys) c = some (.tup (r.map V.int)) := Ex.new hl _ _ (hide_out _ _ hc)
        refine ⟨c, rfl, k6 _ _ ?_ hc5⟩
        rintro rfl
        rw [e5 _ _ hx1] at hc5
        cases hc5
end
end Fp
end part_W2
section part_W3
set_option maxHeartbeats 2000000
namespace Fp
open PySem PySem.Spec PyProof.Rows L2 Evl
theorem nI_get {s : List Nat} {i : Nat} {x : V} (h : (nI s)[i]? = some x) : ∃ n, s[i]? = some n ∧ x = .int (n : Int) := by
  rw [List.getElem?_map] at h
  obtain ⟨n, h1, h2⟩ := Option.map_eq_some_iff.mp h
  exact ⟨n, h1, h2.symm⟩
theorem mI_get {s : List Int} {i : Nat} {x : V} (h : (s.map V.int)[i]? = some x) : ∃ n, s[i]? = some n ∧ x = .int n := by
  rw [List.getElem?_map] at h
  obtain ⟨n, h1, h2⟩ := Option.map_eq_some_iff.mp h
  exact ⟨n, h1, h2.symm⟩
theorem nI_at {s : List Nat} {i n : Nat} (h : s[i]? = some n) : atI (nI s) (i : Int) = some (V.int (n : Int)) := atI_nat (by rw [List.getElem?_map, h]; rfl)
theorem mI_at {s : List Int} {i : Nat} {n : Int} (h : s[i]? = some n) : atI (s.map V.int) (i : Int) = some (V.int n) := atI_nat (by rw [List.getElem?_map, h]; rfl)
theorem zip_ne_len : ∀ (st o : List Nat), ((List.range (min st.length o.length)).filter fun i => decide (st[i]? ≠ o[i]?)).length = apartM st o := by
  intro st
  induction st with
  | nil => intro o; simp [apartM]
  | cons a st ih =>
    intro o
    cases o with
    | nil => simp [apartM]
    | cons b o =>
      have h : ((List.range (min (a :: st).length (b :: o).length)).filter fun i => decide ((a :: st)[i]? ≠ (b :: o)[i]?)) = (if a ≠ b then [0] else []) ++ ((List.range (min st.length o.length)).filter fun i => decide (st[i]? ≠ o[i]?)).map Nat.succ := by
        rw [List.length_cons, List.length_cons, Nat.succ_min_succ, Nat.succ_eq_add_one, List.range_succ_eq_map, List.filter_cons, List.filter_map]
        have e : ((fun i => decide ((a :: st)[i]? ≠ (b :: o)[i]?)) ∘ Nat.succ) = (fun i => decide (st[i]? ≠ o[i]?)) := by
          funext i
          simp
        rw [e]
        by_cases hab : a = b
        · subst hab
          simp
        · simp [hab]
      rw [h, List.length_append, List.length_map, ih o]
      unfold apartM
      by_cases hab : a = b
      · subst hab
        simp
      · simp [hab, Nat.add_comm]
def spIsSet (CN : Addr) : Sp := fun vs H Q _ => ∃ (kq : Bool) (p a : Addr) (e : Nat) (rows : Rows) (s : List Nat), vs = [.ref p, .ref a] ∧ NetAt CN H p e rows ∧ SqP kq H a (nI s) ∧ SetOk rows s ∧ rows.length ≤ 10 ∧ ∀ H', Ex H H' → Q (.bl true) H'
def spWantSet (CN : Addr) : Sp := fun vs H Q _ => ∃ (kq : Bool) (p a : Addr) (e : Nat) (rows : Rows) (s : List Nat), vs = [.ref p, .ref a] ∧ NetAt CN H p e rows ∧ SqP kq H a (nI s) ∧ SetOk rows s ∧ rows.length ≤ 10 ∧ ∀ H' l, Ex H H' → H l = none → H' l = some (.lst (nI s)) → Q (.ref l) H'
def spWantPoint (CN : Addr) : Sp := fun vs H Q _ => ∃ (p : Addr) (e : Nat) (rows : Rows) (n : Nat), vs = [.ref p, .int (n : Int)] ∧ NetAt CN H p e rows ∧ n < rows.length ∧ Q (.int (n : Int)) H
def spWantEnd (CN : Addr) : Sp := fun vs H Q _ => ∃ (p : Addr) (e : Nat) (rows : Rows) (n : Nat), vs = [.ref p, .int (n : Int)] ∧ NetAt CN H p e rows ∧ n < e ∧ Q (.int (n : Int)) H
def spWantExit (CN : Addr) : Sp := fun vs H Q _ => ∃ (p : Addr) (e : Nat) (rows : Rows) (n i : Nat) (r : List Int), vs = [.ref p, .int (n : Int), .int (i : Int)] ∧ NetAt CN H p e rows ∧ rows[n]? = some r ∧ i < r.length ∧ Q .non H
def spMany (CN : Addr) : Sp := fun vs H Q _ => ∃ (p : Addr) (e : Nat) (rows : Rows), vs = [.ref p] ∧ NetAt CN H p e rows ∧ NetOk e rows ∧ ∀ n : Int, n ≤ 27 → Q (.int n) H
def spFew (CN : Addr) : Sp := fun vs H Q _ => ∃ (p : Addr) (e : Nat) (rows : Rows), vs = [.ref p] ∧ NetAt CN H p e rows ∧ NetOk e rows ∧ Q .non H
def spApart : Sp := fun vs H Q _ => ∃ (a b : Addr) (s o : List Nat), vs = [.ref a, .ref b] ∧ H a = some (.lst (nI s)) ∧ H b = some (.lst (nI o)) ∧ s.length ≤ 1000 ∧ ∀ H', Ex H H' → Q (.int ((apartM s o : Nat) : Int)) H'
def spDealt : Sp := fun vs H Q _ => ∃ (d s v : Nat), vs = [.int (d : Int), .int (s : Int), .int (v : Int)] ∧ 1 ≤ d ∧ d ≤ 1000 ∧ ∀ H' l, Ex H H' → H l = none → H' l = some (.lst (nI (dealtM d s v))) → Q (.ref l) H'
section
variable {P : Program} {w : World} {K : PySem.W.Frag} {mg : Str → Option Value} {base : Heap} {CN CY : Addr}
abbrev s_is_setting_of : Stmt := (topS 28)
theorem sc_is_setting_of : FnScope ["net", "value", "exit_at", "exits"] ["net", "value"] (defScope s_is_setting_of) := ⟨rfl, rfl, rfl, by decide +kernel, rfl, by decide +kernel, by decide +kernel⟩
theorem ok_is_setting_of (F : FunG K mg "is_setting_of" s_is_setting_of ["net", "value"]) (T : Txt K mg CN CY) (c_is_list : Cal P w K mg base "is_list" ["value"] 1 spIsList) (c_is_count : Cal P w K mg base "is_count" ["value"] 2 spIsCount) : Cal P w K mg base "is_setting_of" ["net", "value"] 3 (spIsSet CN) := by
  refine F.cal fun f fd F => F.ok sc_is_setting_of (fun vs H Q E h => ?_) (fun cdv A outer s H vs Q E hr h => ?_)
  · obtain ⟨kq, p, a, e, rows, s, rfl, _⟩ := h
    rfl
  · obtain ⟨kq, p, a, e, rows, st, rfl, ⟨dx, fs, ex, tg, fi, hp, _, _, hn⟩, ha, hs, hl, k⟩ := h
    obtain ⟨us, hex, hus⟩ := hn.ex
    have hlu : us.length = rows.length := hus.len
    have hls : st.length = rows.length := All2.len hs
    refine ⟨_, (pss_cons (ps_if (PW.pt (pw_or (pt_not (pt_val (pe_cal c_is_list (hr.mono (by decide)) (by rfl) (pa_cons (pv 1) pa_nil)))) (pw_or1 (pt_cmpR op_ne (pe_callB (r := rLenS K) call_len_seq (by rfl) T.m_len PySem.boot_len (pa_cons (pv 1) pa_nil)) (pe_callB (r := rLenS K) call_len_seq (by rfl) T.m_len PySem.boot_len (pa_cons (pe_fld (pv 0) rfl) pa_nil)) (nomark _))))) (pss_one (ps_ret pe_bl)) pss_nil)
      (pss_one (ps_ret (pe_callB (r := rAll K) (cr_all rfl) (by rfl) T.m_all (by decide +kernel) (pa_cons (pe_lc (own := [("exit_at", 2), ("exits", 3)]) (g := gTup K 2 (gCons (gName 2) (gCons (gName 3) gNil))) (by rfl) sc_is_setting_of.nd (pi_zipK kq true (by rfl) T.m_zip (pa_cons (pv 1) (pa_cons (pe_fld (pv 0) rfl) pa_nil))) (blkOk_by (N := ["net", "value", "exit_at", "exits"]) (sc := defScope s_is_setting_of) (own := [("exit_at", 2), ("exits", 3)]) (by decide +kernel)) (fun _ _ _ _ _ => (pg_tup rfl (pgs_cons (pg_name (i := 2) sc_is_setting_of.nd rfl (Or.inl rfl)) (pgs_cons (pg_name (i := 3) sc_is_setting_of.nd rfl (Or.inl rfl)) pgs_nil)))) (fun _ _ _ _ _ => pts_nil) (fun _ _ _ _ _ => (pe_and (pe_cal c_is_count (hr.mono (by decide)) (by rfl) (pa_cons (pv 2) pa_nil)) (pe_one (pe_cmpR op_lt (pv 2) (pe_callB (r := rLenS K) call_len_seq (by rfl) T.m_len PySem.boot_len (pa_cons (pv 3) pa_nil)) (nomark _)))))) pa_nil))))), ?_⟩
    refine ⟨_, rfl, a, rfl, ha.or, fun H1 e1 => ⟨true, rfl, iteF ⟨_, rfl, _, _, rfl, ((ha.ex e1).q (K := K)).or, _, rfl, p, CN, dx, _, _, rfl, e1 _ _ hp, T.clN, T.nX, layF_exits _ _ _ _ _, _, us, rfl, .inr (SqT.of (e1 _ _ hex)), rfl, _, rfl, itF ?_ ?_⟩⟩⟩
    · rw [List.length_map, hls, hlu, decide_eq_true rfl]
      rfl
    refine ⟨_, rfl, _, rfl, p, CN, dx, _, _, rfl, e1 _ _ hp, T.clN, T.nX, layF_exits _ _ _ _ _, _, _, _, _, rfl, (ha.ex e1).q, SqK.t (e1 _ _ hex), fun D hD => lcA (walk_zipK rfl) hD (by rw [List.length_map]; omega) (fun _ => .bl true) (fun H2 e2 => ⟨(ha.ex (e1.trans e2)).q, SqK.t ((e1.trans e2) _ _ hex)⟩) (fun i x H2 H3 Ky hi e2 hY ky => ?_) fun H2 e2 hy => ?_⟩
    · obtain ⟨Tt, x, y, rfl, hT, rfl, hx, hy⟩ := hY
      obtain ⟨n, hx', rfl⟩ := nI_get hx
      obtain ⟨r, hri, b, rfl, hb⟩ := hus.getl hy
      obtain ⟨r', hr', hlt⟩ := All2.getl hs hx'
      rw [hri] at hr'
      cases hr'
      have hb2 := (e1.trans (e2.trans (Ex.new (o := .tup [.int (n : Int), .ref b]) hT))) _ _ hb
      refine ⟨Tt, _, rfl, SqT.of upd_same, rfl, _, _, rfl, _, _, rfl, rfl, rfl, _, rfl, _, rfl, _, rfl, itT (decide_eq_true (by omega)) ⟨_, rfl, _, rfl, _, _, rfl, .inr (SqT.of hb2), _, _, rfl, rfl, ?_⟩⟩
      show Ky (.bl (decide ((n : Int) < ((r.map V.int).length : Int)))) _
      rw [List.length_map, decide_eq_true (by omega)]
      exact ky _ (Ex.new hT)
    · refine ⟨_, (List.range (min (nI st).length us.length)).map fun _ => true, rfl, SqL.of (by rw [hy, List.map_map]; rfl), ?_⟩
      rw [show ((List.range (min (nI st).length us.length)).map fun _ => true).all id = true by simp]
      exact k _ (e1.trans e2)
abbrev s_want_setting : Stmt := (topS 29)
theorem sc_want_setting : FnScope ["net", "value"] ["net", "value"] (defScope s_want_setting) := ⟨rfl, rfl, rfl, by decide +kernel, rfl, by decide +kernel, by decide +kernel⟩
theorem ok_want_setting (F : FunG K mg "want_setting" s_want_setting ["net", "value"]) (T : Txt K mg CN CY) (c_is_setting_of : Cal P w K mg base "is_setting_of" ["net", "value"] 3 (spIsSet CN)) : Cal P w K mg base "want_setting" ["net", "value"] 4 (spWantSet CN) := by
  refine F.cal fun f fd F => F.ok sc_want_setting (fun vs H Q E h => ?_) (fun cdv A outer s H vs Q E hr h => ?_)
  · obtain ⟨kq, p, a, e, rows, s, rfl, _⟩ := h
    rfl
  · obtain ⟨kq, p, a, e, rows, st, rfl, hN, ha, hs, hl, k⟩ := h
    refine ⟨_, (pss_cons (ps_if (pt_not (pt_val (pe_cal c_is_setting_of (hr.mono (by decide)) (by rfl) (pa_cons (pv 0) (pa_cons (pv 1) pa_nil))))) (pss_one ps_never) pss_nil)
      (pss_one (ps_ret (pe_callTy (T := "list") (r := rListS K) call_list_of (by rfl) T.m_list (by decide +kernel) (pa_cons (pv 1) pa_nil))))), ?_⟩
    refine ⟨_, rfl, _, rfl, kq, p, a, e, rows, st, rfl, hN, ha, hs, hl, fun H1 e1 => ⟨true, rfl, iteF ⟨_, rfl, _, _, rfl, ((ha.ex e1).q (K := K)).or, fun l hl => k _ l (e1.trans (Ex.new hl)) (fresh_back e1 hl) upd_same⟩⟩⟩
abbrev s_want_point : Stmt := (topS 30)
theorem sc_want_point : FnScope ["net", "value"] ["net", "value"] (defScope s_want_point) := ⟨rfl, rfl, rfl, by decide +kernel, rfl, by decide +kernel, by decide +kernel⟩
theorem ok_want_point (F : FunG K mg "want_point" s_want_point ["net", "value"]) (T : Txt K mg CN CY) (c_is_count : Cal P w K mg base "is_count" ["value"] 2 spIsCount) : Cal P w K mg base "want_point" ["net", "value"] 3 (spWantPoint CN) := by
  refine F.cal fun f fd F => F.ok sc_want_point (fun vs H Q E h => ?_) (fun cdv A outer s H vs Q E hr h => ?_)
  · obtain ⟨p, e, rows, n, rfl, _⟩ := h
    rfl
  · obtain ⟨p, e, rows, n, rfl, ⟨dx, fs, ex, tg, fi, hp, _, _, hn⟩, hlt, k⟩ := h
    obtain ⟨us, hex, hus⟩ := hn.ex
    have hlu : us.length = rows.length := hus.len
    refine ⟨_, (pss_cons (ps_if (PW.pt (pw_or (pt_not (pt_val (pe_cal c_is_count (hr.mono (by decide)) (by rfl) (pa_cons (pv 1) pa_nil)))) (pw_or1 (pt_cmpR op_ge (pv 1) (pe_callB (r := rLenS K) call_len_seq (by rfl) T.m_len PySem.boot_len (pa_cons (pe_fld (pv 0) rfl) pa_nil)) (nomark _))))) (pss_one ps_never) pss_nil)
      (pss_one (ps_ret (pv 1)))), ?_⟩
    refine ⟨_, rfl, _, rfl, _, rfl, itF (by rw [decide_eq_true (show (0 : Int) ≤ (n : Int) by omega)]; rfl) ⟨_, rfl, _, rfl, p, CN, dx, _, _, rfl, hp, T.clN, T.nX, layF_exits _ _ _ _ _, _, us, rfl, .inr (SqT.of hex), _, _, rfl, rfl, _, rfl, itF (decide_eq_false (by omega)) ⟨_, rfl, k⟩⟩⟩
abbrev s_want_end : Stmt := (topS 31)
theorem sc_want_end : FnScope ["net", "value"] ["net", "value"] (defScope s_want_end) := ⟨rfl, rfl, rfl, by decide +kernel, rfl, by decide +kernel, by decide +kernel⟩
theorem ok_want_end (F : FunG K mg "want_end" s_want_end ["net", "value"]) (T : Txt K mg CN CY) (c_is_count : Cal P w K mg base "is_count" ["value"] 2 spIsCount) : Cal P w K mg base "want_end" ["net", "value"] 3 (spWantEnd CN) := by
  refine F.cal fun f fd F => F.ok sc_want_end (fun vs H Q E h => ?_) (fun cdv A outer s H vs Q E hr h => ?_)
  · obtain ⟨p, e, rows, n, rfl, _⟩ := h
    rfl
  · obtain ⟨p, e, rows, n, rfl, ⟨dx, fs, ex, tg, fi, hp, _, _, hn⟩, hlt, k⟩ := h
    refine ⟨_, (pss_cons (ps_if (PW.pt (pw_or (pt_not (pt_val (pe_cal c_is_count (hr.mono (by decide)) (by rfl) (pa_cons (pv 1) pa_nil)))) (pw_or1 (pt_cmpR op_ge (pv 1) (pe_fld (pv 0) rfl) (nomark _))))) (pss_one ps_never) pss_nil)
      (pss_one (ps_ret (pv 1)))), ?_⟩
    refine ⟨_, rfl, _, rfl, _, rfl, itF (by rw [decide_eq_true (show (0 : Int) ≤ (n : Int) by omega)]; rfl) ⟨_, rfl, _, rfl, p, CN, dx, _, _, rfl, hp, T.clN, T.nE, layF_ends _ _ _ _ _, _, _, rfl, rfl, _, rfl, itF (decide_eq_false (by omega)) ⟨_, rfl, k⟩⟩⟩
abbrev s_want_exit : Stmt := (topS 83)
theorem sc_want_exit : FnScope ["net", "point", "value"] ["net", "point", "value"] (defScope s_want_exit) := ⟨rfl, rfl, rfl, by decide +kernel, rfl, by decide +kernel, by decide +kernel⟩
theorem ok_want_exit (F : FunG K mg "want_exit" s_want_exit ["net", "point", "value"]) (T : Txt K mg CN CY) (c_is_count : Cal P w K mg base "is_count" ["value"] 2 spIsCount) : Cal P w K mg base "want_exit" ["net", "point", "value"] 3 (spWantExit CN) := by
  refine F.cal fun f fd F => F.ok sc_want_exit (fun vs H Q E h => ?_) (fun cdv A outer s H vs Q E hr h => ?_)
  · obtain ⟨p, e, rows, n, i, r, rfl, _⟩ := h
    rfl
  · obtain ⟨p, e, rows, n, i, r, rfl, ⟨dx, fs, ex, tg, fi, hp, _, _, hn⟩, hr0, hlt, k⟩ := h
    obtain ⟨us, hex, hus⟩ := hn.ex
    obtain ⟨_, hun, b, rfl, hb⟩ := hus.get hr0
    refine ⟨_, (pss_one (ps_if (PW.pt (pw_or (pt_not (pt_val (pe_cal c_is_count (hr.mono (by decide)) (by rfl) (pa_cons (pv 2) pa_nil)))) (pw_or1 (pt_cmpR op_ge (pv 2) (pe_callB (r := rLenS K) call_len_seq (by rfl) T.m_len PySem.boot_len (pa_cons (pe_ix ix_tup (pe_fld (pv 0) rfl) (pv 1) (fun _ _ => rfl)) pa_nil)) (nomark _))))) (pss_one ps_never) pss_nil)), ?_⟩
    refine ⟨_, rfl, _, rfl, _, rfl, itF (by rw [decide_eq_true (show (0 : Int) ≤ (i : Int) by omega)]; rfl) ⟨_, rfl, _, rfl, p, CN, dx, _, _, rfl, hp, T.clN, T.nX, layF_exits _ _ _ _ _, _, rfl, _, _, _, _, rfl, rfl, SqT.of hex, atI_nat hun, _, _, rfl, .inr (SqT.of hb), _, _, rfl, rfl, _, rfl, itF (decide_eq_false (by rw [List.length_map]; omega)) k⟩⟩
abbrev s_settings_many : Stmt := (topS 77)
theorem sc_settings_many : FnScope ["net", "many", "exits"] ["net"] (defScope s_settings_many) := ⟨rfl, rfl, rfl, by decide +kernel, rfl, by decide +kernel, by decide +kernel⟩
theorem ok_settings_many (F : FunG K mg "settings_many" s_settings_many ["net"]) (T : Txt K mg CN CY) : Cal P w K mg base "settings_many" ["net"] 1 (spMany CN) := by
  refine F.cal fun f fd F => F.ok sc_settings_many (fun vs H Q E h => ?_) (fun cdv A outer s H vs Q E hr h => ?_)
  · obtain ⟨p, e, rows, rfl, _⟩ := h
    rfl
  · obtain ⟨p, e, rows, rfl, ⟨dx, fs, ex, tg, fi, hp, _, _, hn⟩, ok, k⟩ := h
    obtain ⟨us, hex, hus⟩ := hn.ex
    have hlu : us.length = rows.length := hus.len
    refine ⟨_, (pss_cons (ps_set (i := 1) sc_settings_many.nd rfl (Or.inl rfl) pe_int)
      (pss_cons (ps_for PassesOwn.never rfl (pi_seqK true (pe_fld (pv 0) rfl)) (pg_name (i := 2) sc_settings_many.nd rfl (Or.inl rfl)) (pss_one (ps_set (i := 1) sc_settings_many.nd rfl (Or.inl rfl) (pe_op op_mul (pv 1) (pe_callB (r := rLenS K) call_len_seq (by rfl) T.m_len PySem.boot_len (pa_cons (pv 2) pa_nil))))))
      (pss_one (ps_ret (pv 1))))), ?_⟩
    refine ⟨_, rfl, p, CN, dx, _, _, rfl, hp, T.clN, T.nX, layF_exits _ _ _ _ _, _, rfl, ⟨_, SqT.of hex⟩, for_it walk_seqK (fun i σ H' => H' = H ∧ ∃ (n : Nat) (x : Option V), σ = [some (.ref p), some (.int (n : Int)), x] ∧ n ≤ 3 ^ i) ⟨rfl, 1, none, rfl, by decide⟩ (fun i σ H' _ ⟨e, _⟩ => by subst e; exact (SqT.of hex : SqT K _ ex us)) ?_ ?_⟩
    · rintro i x σ H1 H2 hi ⟨rfl, n, x', rfl, hn3⟩ ⟨rfl, hx⟩
      obtain ⟨r, hri, b, rfl, hb⟩ := hus.getl hx
      have h3 := (ok.row r (List.mem_of_getElem? hri)).2.1
      have hi3 : i ≤ 2 := by have := ok.pts3; omega
      have hb27 : 3 ^ i ≤ 9 := Nat.le_trans (Nat.pow_le_pow_right (by decide) hi3) (by decide)
      refine ⟨_, rfl, _, rfl, _, _, rfl, .inr (SqT.of hb), _, _, rfl, rfl, .inl ⟨by omega, by omega⟩, rfl, n * r.length, some (.ref b), ?_, ?_⟩
      · show [some (V.ref p), some (V.int ((n : Int) * ((r.map V.int).length : Int))), some (V.ref b)] = _
        rw [List.length_map, Int.natCast_mul]
      · rw [Nat.pow_succ]
        exact Nat.mul_le_mul hn3 h3
    · rintro σ H1 ⟨rfl, n, x', rfl, hn3⟩
      have h3 : us.length ≤ 3 := by have := ok.pts3; omega
      have hb27 : 3 ^ us.length ≤ 27 := Nat.le_trans (Nat.pow_le_pow_right (by decide) h3) (by decide)
      exact ⟨_, rfl, k _ (by omega)⟩
abbrev s_want_few_settings : Stmt := (topS 78)
theorem sc_want_few_settings : FnScope ["net"] ["net"] (defScope s_want_few_settings) := ⟨rfl, rfl, rfl, by decide +kernel, rfl, by decide +kernel, by decide +kernel⟩
theorem ok_want_few_settings (F : FunG K mg "want_few_settings" s_want_few_settings ["net"]) (T : Txt K mg CN CY) (c_want_at_most : Cal P w K mg base "want_at_most" ["what", "limit", "number"] 1 spAtMost) (c_settings_many : Cal P w K mg base "settings_many" ["net"] 1 (spMany CN)) : Cal P w K mg base "want_few_settings" ["net"] 2 (spFew CN) := by
  refine F.cal fun f fd F => F.ok sc_want_few_settings (fun vs H Q E h => ?_) (fun cdv A outer s H vs Q E hr h => ?_)
  · obtain ⟨p, e, rows, rfl, _⟩ := h
    rfl
  · obtain ⟨p, e, rows, rfl, hN, ok, k⟩ := h
    refine ⟨_, (pss_one (ps_expr (pe_cal c_want_at_most (hr.mono (by decide)) (by rfl) (pa_cons pe_str (pa_cons (pe_cst (by rfl) T.MOST_SETTINGS) (pa_cons (pe_cal c_settings_many (hr.mono (by decide)) (by rfl) (pa_cons (pv 0) pa_nil)) pa_nil)))))), ?_⟩
    exact ⟨_, rfl, p, e, rows, rfl, hN, ok, fun n hn => ⟨_, _, _, rfl, by omega, k⟩⟩
abbrev s_apart_by : Stmt := (topS 80)
theorem sc_apart_by : FnScope ["setting", "other", "one", "late"] ["setting", "other"] (defScope s_apart_by) := ⟨rfl, rfl, rfl, by decide +kernel, rfl, by decide +kernel, by decide +kernel⟩
theorem ok_apart_by (F : FunG K mg "apart_by" s_apart_by ["setting", "other"]) (T : Txt K mg CN CY) : Cal P w K mg base "apart_by" ["setting", "other"] 1 spApart := by
  refine F.cal fun f fd F => F.ok sc_apart_by (fun vs H Q E h => ?_) (fun cdv A outer s H vs Q E hr h => ?_)
  · obtain ⟨p, e, _, _, rfl, _⟩ := h
    rfl
  · obtain ⟨a, b, st, o, rfl, ha, hb, hl, k⟩ := h
    refine ⟨_, (pss_one (ps_ret (pe_callB (r := rLenS K) call_len_seq (by rfl) T.m_len PySem.boot_len (pa_cons (pe_lc (own := [("one", 2), ("late", 3)]) (g := gTup K 2 (gCons (gName 2) (gCons (gName 3) gNil))) (by rfl) sc_apart_by.nd (pi_zipK false false (by rfl) T.m_zip (pa_cons (pv 0) (pa_cons (pv 1) pa_nil))) (blkOk_by (N := ["setting", "other", "one", "late"]) (sc := defScope s_apart_by) (own := [("one", 2), ("late", 3)]) (by decide +kernel)) (fun _ _ _ _ _ => (pg_tup rfl (pgs_cons (pg_name (i := 2) sc_apart_by.nd rfl (Or.inl rfl)) (pgs_cons (pg_name (i := 3) sc_apart_by.nd rfl (Or.inl rfl)) pgs_nil)))) (fun _ _ _ _ _ => (pts_one (pt_cmpR op_ne (pv 2) (pv 3) (nomark _)))) (fun _ _ _ _ _ => pe_int)) pa_nil)))), ?_⟩
    refine ⟨_, rfl, _, rfl, _, _, _, _, rfl, SqK.l ha, SqK.l hb, fun D hD => lcV (walk_zipK rfl) hD (by rw [List.length_map]; omega) (fun i => decide (st[i]? ≠ o[i]?)) (fun _ => .int 1) (fun H2 e2 => ⟨SqK.l (e2 _ _ ha), SqK.l (e2 _ _ hb)⟩) (fun i x H2 H3 Ky Kn hi e2 hY ky kn => ?_) fun H2 e2 hy => ?_⟩
    · obtain ⟨Tt, x, y, rfl, hT, rfl, hx, hy⟩ := hY
      obtain ⟨n, hx', rfl⟩ := nI_get hx
      obtain ⟨m, hy', rfl⟩ := nI_get hy
      refine ⟨Tt, _, rfl, SqT.of upd_same, rfl, _, _, rfl, _, _, rfl, rfl, rfl, _, rfl, _, rfl, rfl, _, rfl, ?_⟩
      by_cases hnm : n = m
      · subst hnm
        rw [decide_eq_true rfl]
        exact iteF (kn _ (by rw [hx', hy']; simp) (Ex.new hT))
      · rw [decide_eq_false (fun z => hnm (by injection z with z; omega))]
        exact iteT (ky _ (by rw [hx', hy']; simpa using hnm) (Ex.new hT))
    · refine ⟨_, _, rfl, .inl (SqL.of hy), ?_⟩
      have hlen : ((List.range (min (nI st).length (nI o).length)).filter fun i => decide (st[i]? ≠ o[i]?)).length = apartM st o := by
        rw [List.length_map, List.length_map]
        exact zip_ne_len st o
      rw [List.length_map, hlen]
      exact k _ e2
abbrev s_dealt : Stmt := (topS 44)
theorem sc_dealt : FnScope ["exits", "begin", "visits", "turns", "rest", "spot"] ["exits", "begin", "visits"] (defScope s_dealt) := ⟨rfl, rfl, rfl, by decide +kernel, rfl, by decide +kernel, by decide +kernel⟩
theorem ok_dealt (F : FunG K mg "dealt" s_dealt ["exits", "begin", "visits"]) (T : Txt K mg CN CY) : Cal P w K mg base "dealt" ["exits", "begin", "visits"] 1 spDealt := by
  refine F.cal fun f fd F => F.ok sc_dealt (fun vs H Q E h => ?_) (fun cdv A outer s H vs Q E hr h => ?_)
  · obtain ⟨p, e, _, rfl, _⟩ := h
    rfl
  · obtain ⟨d, b, v, rfl, h1, h2, k⟩ := h
    refine ⟨_, (pss_cons (ps_asg (pe_callB call_divmod (by rfl) T.m_divmod (by decide +kernel) (pa_cons (pv 2) (pa_cons (pv 0) pa_nil))) (pg_tup rfl (pgs_cons (pg_name (i := 3) sc_dealt.nd rfl (Or.inr rfl)) (pgs_cons (pg_name (i := 4) sc_dealt.nd rfl (Or.inr rfl)) pgs_nil))))
      (pss_one (ps_ret (pe_lc (own := [("spot", 5)]) (by rfl) sc_dealt.nd (pi_range1 (by rfl) T.m_range (pa_cons (pv 0) pa_nil)) (blkOk_by (N := ["exits", "begin", "visits", "turns", "rest", "spot"]) (sc := defScope s_dealt) (own := [("spot", 5)]) (by decide +kernel)) (fun _ _ _ _ _ => (pg_name (i := 5) sc_dealt.nd rfl (Or.inl rfl))) (fun _ _ _ _ _ => pts_nil) (fun _ _ _ _ _ => (pe_op op_add (pv 3) (pe_ifExp (pt_cmpR op_lt (pe_op op_mod (pe_op op_sub (pv 5) (pv 1)) (pv 0)) (pv 4) (nomark _)) pe_int pe_int))))))), ?_⟩
    refine ⟨_, rfl, _, rfl, _, _, rfl, ⟨by omega, by omega⟩, fun t ht => ⟨t, _, rfl, SqT.of upd_same, rfl, _, _, rfl, _, _, rfl, rfl, ?_⟩⟩
    refine ⟨_, rfl, _, rfl, by omega, by omega, fun D hD => lcA walk_range hD (by omega) (fun i => .int ((v : Int) / (d : Int) + if ((i : Int) - (b : Int)) % (d : Int) < (v : Int) % (d : Int) then 1 else 0)) (fun H2 e2 => trivial) (fun i x H2 H3 Ky hi e2 hY ky => ?_) fun H2 e2 hy => ?_⟩
    · obtain ⟨rfl, rfl⟩ := hY
      refine ⟨rfl, _, rfl, _, rfl, _, rfl, _, _, rfl, rfl, _, rfl, _, _, rfl, rfl, by omega, _, rfl, _, _, rfl, rfl, _, rfl, ?_⟩
      have := ky _ (Ex.refl _)
      rw [show (0 : Int) + (i : Int) = (i : Int) by omega]
      refine ite2 (fun q => ⟨_, _, rfl, rfl, ?_⟩) (fun q => ⟨_, _, rfl, rfl, ?_⟩)
      · rw [if_pos (of_decide_eq_true q)] at this
        exact this
      · rw [if_neg (fun z => q (decide_eq_true z))] at this
        exact this
    · refine k _ D ((Ex.new ht).trans e2) (fresh_back (Ex.new ht) hD) ?_
      rw [hy]
      unfold dealtM nI
      rw [List.map_map, show ((d : Int).toNat) = d from rfl]
      congr 2
      apply List.map_congr_left
      intro i _
      show V.int _ = V.int _
      congr 1
      rw [Int.natCast_add, Int.natCast_ediv, Int.natCast_emod]
      split <;> rfl
end
end Fp
end part_W3
section part_W4
set_option maxHeartbeats 2000000
namespace Fp
open PySem PySem.Spec PyProof.Rows L2 Evl
theorem dealtM_len (d s v : Nat) : (dealtM d s v).length = d := by unfold dealtM; rw [List.length_map, List.length_range]
theorem goneM_snoc : ∀ {rows : Rows} {s v : List Nat} {i : Nat} {r : List Int} {a b : Nat}, rows[i]? = some r → s[i]? = some a → v[i]? = some b → goneM (rows.take (i + 1)) (s.take (i + 1)) (v.take (i + 1)) = goneM (rows.take i) (s.take i) (v.take i) ++ dealtM r.length a b
  | [], _, _, _, _, _, _, h, _, _ => by simp at h
  | _ :: _, [], _, _, _, _, _, _, h, _ => by simp at h
  | _ :: _, _ :: _, [], _, _, _, _, _, _, h => by simp at h
  | x :: rs, y :: ss, z :: vs, 0, r, a, b, h1, h2, h3 => by
    simp at h1 h2 h3
    subst h1 h2 h3
    simp [goneM]
  | x :: rs, y :: ss, z :: vs, i + 1, r, a, b, h1, h2, h3 => by
    have ih := goneM_snoc (rows := rs) (s := ss) (v := vs) (i := i) (by simpa using h1) (by simpa using h2) (by simpa using h3)
    rw [List.take_succ_cons, List.take_succ_cons, List.take_succ_cons, List.take_succ_cons, List.take_succ_cons, List.take_succ_cons, goneM, goneM, ih, List.append_assoc]
theorem goneM_len : ∀ {rows : Rows} {s v : List Nat}, s.length = rows.length → v.length = rows.length → (goneM rows s v).length = rows.flatten.length
  | [], _, _, _, _ => by simp [goneM]
  | _ :: _, [], _, h, _ => by simp at h
  | _ :: _, _ :: _, [], _, h => by simp at h
  | x :: rs, y :: ss, z :: vs, h1, h2 => by
    rw [goneM, List.length_append, dealtM_len, goneM_len (rows := rs) (s := ss) (v := vs) (by simpa using h1) (by simpa using h2), List.flatten_cons, List.length_append]
theorem nI_app (a b : List Nat) : nI (a ++ b) = nI a ++ nI b := List.map_append
theorem nI_set (a : List Nat) (i n : Nat) : (nI a).set i (V.int (n : Int)) = nI (a.set i n) := (List.map_set (f := fun n : Nat => V.int (n : Int))).symm
theorem nI_len (a : List Nat) : (nI a).length = a.length := List.length_map _
theorem take_len_le {rows : Rows} {i : Nat} : (rows.take i).length ≤ rows.length := by rw [List.length_take]; omega
def spGone (CN : Addr) : Sp := fun vs H Q _ => ∃ (p a b : Addr) (e : Nat) (rows : Rows) (s v : List Nat), vs = [.ref p, .ref a, .ref b] ∧ NetAt CN H p e rows ∧ H a = some (.lst (nI s)) ∧ H b = some (.lst (nI v)) ∧ s.length = rows.length ∧ v.length = rows.length ∧ rows.length ≤ 10 ∧ (∀ r ∈ rows, 1 ≤ r.length ∧ r.length ≤ 6) ∧
  ∀ H' l, Ex H H' → H l = none → H' l = some (.lst (nI (goneM rows s v))) → Q (.ref l) H'
def spCome (CN : Addr) : Sp := fun vs H Q _ => ∃ (p a b : Addr) (e : Nat) (rows : Rows) (s v : List Nat), vs = [.ref p, .ref a, .ref b] ∧ NetAt CN H p e rows ∧ H a = some (.lst (nI s)) ∧ H b = some (.lst (nI v)) ∧ s.length = rows.length ∧ v.length = rows.length ∧ rows.length ≤ 10 ∧ e ≤ 100 ∧ (∀ r ∈ rows, 1 ≤ r.length ∧ r.length ≤ 6 ∧ ∀ t ∈ r, -(e : Int) ≤ t) ∧
  ∀ H' l, Ex H H' → H l = none → H' l = some (.lst (nI (comeM e rows s v))) → Q (.ref l) H'
def spPointBy (CN : Addr) : Sp := fun vs H Q _ => ∃ (p : Addr) (e : Nat) (rows : Rows) (t : Nat), vs = [.ref p, .int (t : Int)] ∧ NetAt CN H p e rows ∧ rows.length ≤ 10 ∧ ∀ H', Ex H H' → Q (.int (((((firsts 0 rows).filter fun f => decide (f ≤ t)).length : Nat) : Int) - 1)) H'
def spStep (CN : Addr) : Sp := fun vs H Q _ => ∃ (p a : Addr) (e : Nat) (rows : Rows) (w : Nat) (now : List Nat), vs = [.ref p, .int (w : Int), .ref a] ∧ NetAt CN H p e rows ∧ H a = some (.lst (nI now)) ∧ w < rows.length ∧ SetOk rows now ∧
  ∀ H' t, (∀ b o, b ≠ a → H b = some o → H' b = some o) → H' a = some (.lst (nI (stepN rows ((w : Int), now)).2)) → H t = none → H' t = some (.tup [.int ((trackN rows ((w : Int), now) : Nat) : Int), .int (stepN rows ((w : Int), now)).1]) → Q (.ref t) H'
def spRun (CN : Addr) : Sp := fun vs H Q _ => ∃ (p a : Addr) (e : Nat) (rows : Rows) (s : List Nat) (b n x : Nat), vs = [.ref p, .ref a, .int (b : Int), .int 400] ∧ NetAt CN H p e rows ∧ H a = some (.lst (nI s)) ∧ SetOk rows s ∧ b < rows.length ∧ (∀ r ∈ rows, ∀ t ∈ r, t < rows.length) ∧ RunEnds rows s b n x ∧ n ≤ 400 ∧
  ∀ H' t ns tr, Ex H H' → H' t = some (.tup [.int (-1 - (x : Int)), .ref ns, .ref tr]) → H' tr = some (.lst (nI ((List.range n).map fun m => trackN rows (traj rows s b m)))) → Q (.ref t) H'
theorem SetOk.step {rows : Rows} {st : Int × List Nat} (h : SetOk rows st.2) : SetOk rows (stepN rows st).2 := by
  obtain ⟨wi, now⟩ := st
  show All2 _ (now.set wi.toNat ((now.getD wi.toNat 0 + 1) % (rows.getD wi.toNat []).length)) rows
  by_cases hw : wi.toNat < rows.length
  · have e : rows = rows.set wi.toNat (rows.getD wi.toNat []) := by
      rw [List.getD_eq_getElem?_getD, List.getElem?_eq_getElem hw]
      simp
    conv => rhs; rw [e]
    refine All2.set h ?_
    have hw' : wi.toNat < now.length := by rw [All2.len h]; exact hw
    obtain ⟨r, hr, hlt⟩ := All2.getl h (List.getElem?_eq_getElem hw')
    rw [getD_some hr]
    exact Nat.mod_lt _ (by omega)
  · have hw' : now.length ≤ wi.toNat := by rw [All2.len h]; omega
    rw [List.set_eq_of_length_le hw']
    exact h
theorem SetOk.traj {rows : Rows} {s : List Nat} {b : Nat} (h : SetOk rows s) : ∀ m, SetOk rows (traj rows s b m).2
  | 0 => h
  | m + 1 => SetOk.step (SetOk.traj h m)
theorem traj_lt {rows : Rows} {s : List Nat} {b : Nat} (hs : SetOk rows s) (hb : b < rows.length) (ht : ∀ r ∈ rows, ∀ t ∈ r, t < rows.length) : ∀ n, Goes rows s b n → (traj rows s b n).1 < rows.length
  | 0, _ => by
    show (b : Int) < _
    omega
  | n + 1, g => by
    have h0 := g n (by omega)
    have ih := traj_lt hs hb ht n fun m hm => g m (by omega)
    have hw : (traj rows s b n).1.toNat < rows.length := by omega
    obtain ⟨k, hk, hlt⟩ := All2.get (hs.traj (b := b) n) (List.getElem?_eq_getElem hw)
    show ((rows.getD _ []).getD _ 0) < _
    rw [getD_some (List.getElem?_eq_getElem hw), getD_some hk, getD_some (List.getElem?_eq_getElem hlt)]
    exact ht _ (List.getElem_mem hw) _ (List.getElem_mem hlt)
section
variable {P : Program} {w : World} {K : PySem.W.Frag} {mg : Str → Option Value} {base : Heap} {CN CY : Addr}
abbrev s_gone_by : Stmt := (topS 45)
theorem sc_gone_by : FnScope ["net", "setting", "visits", "found", "row", "begin", "many"] ["net", "setting", "visits"] (defScope s_gone_by) := ⟨rfl, rfl, rfl, by decide +kernel, rfl, by decide +kernel, by decide +kernel⟩
theorem ok_gone_by (F : FunG K mg "gone_by" s_gone_by ["net", "setting", "visits"]) (T : Txt K mg CN CY) (c_dealt : Cal P w K mg base "dealt" ["exits", "begin", "visits"] 1 spDealt) : Cal P w K mg base "gone_by" ["net", "setting", "visits"] 2 (spGone CN) := by
  refine F.cal fun f fd F => F.ok sc_gone_by (fun vs H Q E h => ?_) (fun cdv A outer s H vs Q E hr h => ?_)
  · obtain ⟨p, a, b, e, rows, _, _, rfl, _⟩ := h
    rfl
  · obtain ⟨p, a, b, e, rows, st, v, rfl, ⟨dx, fs, ex, tg, fi, hp, _, _, hn⟩, ha, hb, hls, hlv, hl, h6, k⟩ := h
    obtain ⟨us, hex, hus⟩ := hn.ex
    have hlu : us.length = rows.length := hus.len
    refine ⟨_, (pss_cons (ps_set (i := 3) sc_gone_by.nd rfl (Or.inl rfl) (pe_lst pa_nil))
      (pss_cons (ps_for PassesOwn.never rfl (pi_zipK3 true false false (by rfl) T.m_zip (pa_cons (pe_fld (pv 0) rfl) (pa_cons (pv 1) (pa_cons (pv 2) pa_nil)))) (pg_tup rfl (pgs_cons (pg_name (i := 4) sc_gone_by.nd rfl (Or.inl rfl)) (pgs_cons (pg_name (i := 5) sc_gone_by.nd rfl (Or.inl rfl)) (pgs_cons (pg_name (i := 6) sc_gone_by.nd rfl (Or.inl rfl)) pgs_nil)))) (pss_one (ps_expr (pe_bm PySem.F.plainAttrs_list PySem.F.slot_list_extend PySem.F.type_list_extend mt_extend (pv 3) (pa_cons (pe_cal c_dealt (hr.mono (by decide)) (by rfl) (pa_cons (pe_callB (r := rLenS K) call_len_seq (by rfl) T.m_len PySem.boot_len (pa_cons (pv 4) pa_nil)) (pa_cons (pv 5) (pa_cons (pv 6) pa_nil)))) pa_nil)))))
      (pss_one (ps_ret (pv 3))))), ?_⟩
    refine ⟨by show 0 ≤ sizeLine; decide, fun l hl0 => ?_⟩
    have e0 : Ex H (upd H l (.lst [])) := Ex.new hl0
    refine ⟨_, rfl, p, CN, dx, _, _, rfl, e0 _ _ hp, T.clN, T.nX, layF_exits _ _ _ _ _, _, rfl, _, rfl, ex, a, b, _, _, _, rfl, SqK.t (e0 _ _ hex), SqK.l (e0 _ _ ha), SqK.l (e0 _ _ hb), for_it (walk_zipK3 rfl) (fun i σ H' => ∃ x y z, σ = [some (.ref p), some (.ref a), some (.ref b), some (.ref l), x, y, z] ∧ Ex H H' ∧ H' l = some (.lst (nI (goneM (rows.take i) (st.take i) (v.take i))))) ⟨none, none, none, rfl, e0, by rw [upd_same]; simp [goneM]⟩ (fun i σ H' _ ⟨_, _, _, _, e1, _⟩ => ⟨SqK.t (e1 _ _ hex), SqK.l (e1 _ _ ha), SqK.l (e1 _ _ hb)⟩) ?_ ?_⟩
    · rintro i x σ H1 H2 hi ⟨x1, x2, x3, rfl, e1, hfl⟩ ⟨Tt, y1, y2, y3, rfl, hT, rfl, hy1, hy2, hy3⟩
      obtain ⟨r, hri, rb, rfl, hrb⟩ := hus.getl hy1
      obtain ⟨n2, hn2, rfl⟩ := nI_get hy2
      obtain ⟨n3, hn3, rfl⟩ := nI_get hy3
      obtain ⟨hr1, hr6⟩ := h6 r (List.mem_of_getElem? hri)
      have e2 : Ex H (upd H1 Tt (.tup [.ref rb, .int (n2 : Int), .int (n3 : Int)])) := e1.trans (Ex.new hT)
      refine ⟨Tt, _, rfl, SqT.of upd_same, rfl, _, _, rfl, _, _, rfl, _, _, rfl, rfl, ?_⟩
      have nlT : l ≠ Tt := ne_of_none hfl hT
      refine ⟨_, rfl, .inl ⟨rfl, _, SqL.of (by rw [upd_ne nlT]; exact hfl)⟩, _, rfl, _, _, rfl, .inr (SqT.of (e2 _ _ hrb)), _, rfl, _, rfl, r.length, n2, n3, (by rw [List.length_map]; rfl), hr1, by omega, fun H3 l3 e3 hl3 h3 => ?_⟩
      have hfl3 := e3 _ _ (by rw [upd_ne nlT]; exact hfl)
      have hgl : (goneM (rows.take i) (st.take i) (v.take i)).length ≤ 60 := by
        rw [goneM_len (by rw [List.length_take, List.length_take, hls]) (by rw [List.length_take, List.length_take, hlv])]
        have q := flatten_take_le (fun r hr => (h6 r hr).2) i
        have q2 : i < us.length := by
          have := (List.getElem?_eq_some_iff.mp hy1).1
          exact this
        omega
      refine ⟨l, l3, _, _, rfl, rfl, hfl3, h3, sz_of (by rw [nI_len, nI_len, dealtM_len]; omega), ?_⟩
      refine ⟨_, _, _, rfl, Ex.mut (e2.trans e3) hl0, ?_⟩
      rw [upd_same, goneM_snoc hri hn2 hn3, nI_app]
    · rintro σ H1 ⟨x1, x2, x3, rfl, e1, hfl⟩
      rw [show min (min us.length (nI st).length) (nI v).length = rows.length by rw [nI_len, nI_len]; omega, List.take_length, show st.take rows.length = st by rw [← hls, List.take_length], show v.take rows.length = v by rw [← hlv, List.take_length]] at hfl
      exact ⟨_, rfl, k _ l e1 hl0 hfl⟩
abbrev s_come_by : Stmt := (topS 46)
theorem sc_come_by : FnScope ["net", "setting", "visits", "found", "target", "many"] ["net", "setting", "visits"] (defScope s_come_by) := ⟨rfl, rfl, rfl, by decide +kernel, rfl, by decide +kernel, by decide +kernel⟩
theorem comeStep_len (f : List Nat) (q : Int × Nat) : (comeStep f q).length = f.length := by
  unfold comeStep
  split
  · rw [List.length_set]
  · rfl
theorem comeFold_len : ∀ (l : List (Int × Nat)) (f : List Nat), (l.foldl comeStep f).length = f.length
  | [], _ => rfl
  | q :: l, f => by rw [List.foldl_cons, comeFold_len l, comeStep_len]
theorem ok_come_by (F : FunG K mg "come_by" s_come_by ["net", "setting", "visits"]) (T : Txt K mg CN CY) (c_gone_by : Cal P w K mg base "gone_by" ["net", "setting", "visits"] 2 (spGone CN)) : Cal P w K mg base "come_by" ["net", "setting", "visits"] 3 (spCome CN) := by
  refine F.cal fun f fd F => F.ok sc_come_by (fun vs H Q E h => ?_) (fun cdv A outer s H vs Q E hr h => ?_)
  · obtain ⟨p, a, b, e, rows, _, _, rfl, _⟩ := h
    rfl
  · obtain ⟨p, a, b, e, rows, st, v, rfl, hN, ha, hb, hls, hlv, hl, he, h6, k⟩ := h
    have hN' := hN
    obtain ⟨dx, fs, ex, tg, fi, hp, _, _, hn⟩ := hN
    refine ⟨_, (pss_cons (ps_set (i := 3) sc_come_by.nd rfl (Or.inl rfl) (pe_op op_rep (pe_lst (pa_cons pe_int pa_nil)) (pe_fld (pv 0) rfl)))
      (pss_cons (ps_for PassesOwn.never rfl (pi_zipK true false (by rfl) T.m_zip (pa_cons (pe_fld (pv 0) rfl) (pa_cons (pe_cal c_gone_by (hr.mono (by decide)) (by rfl) (pa_cons (pv 0) (pa_cons (pv 1) (pa_cons (pv 2) pa_nil)))) pa_nil))) (pg_tup rfl (pgs_cons (pg_name (i := 4) sc_come_by.nd rfl (Or.inl rfl)) (pgs_cons (pg_name (i := 5) sc_come_by.nd rfl (Or.inl rfl)) pgs_nil))) (pss_one (ps_if (pt_cmpR op_lt (pv 4) pe_int (nomark _)) (pss_one (ps_asg (pe_op op_add (pe_ix ix_list (pv 3) (pe_op op_sub (pe_un un_neg pe_int) (pv 4)) (fun _ _ => rfl)) (pv 5)) (pg_sub (pv 3) (pe_op op_sub (pe_un un_neg pe_int) (pv 4)) set_list))) pss_nil)))
      (pss_one (ps_ret (pv 3))))), ?_⟩
    refine ⟨by show 1 ≤ sizeLine; decide, fun l0 hl0 => ?_⟩
    have e0 : Ex H (upd H l0 (.lst [.int 0])) := Ex.new hl0
    refine ⟨_, rfl, p, CN, dx, _, _, rfl, e0 _ _ hp, T.clN, T.nE, layF_ends _ _ _ _ _, l0, _, _, rfl, rfl, upd_same, by omega, by omega, sz_of (by show 1 * _ ≤ _; omega), fun l hl1 => ?_⟩
    have hl2 : H l = none := fresh_back e0 hl1
    have e1 := e0.trans (Ex.new (o := .lst (List.replicate (e : Int).toNat [V.int 0]).flatten) hl1)
    refine ⟨_, rfl, p, CN, dx, _, _, rfl, e1 _ _ hp, T.clN, T.nT, layF_targets _ _ _ _ _, _, rfl, _, rfl, _, rfl, p, a, b, e, rows, st, v, rfl, hN'.mono e1, e1 _ _ ha, e1 _ _ hb, hls, hlv, hl, fun r hr => ⟨(h6 r hr).1, (h6 r hr).2.1⟩, fun H2 g e2 hg hgl => ?_⟩
    have e3 := e1.trans e2
    have hrep : (List.replicate (e : Int).toNat [V.int 0]).flatten = nI (List.replicate e 0) := by
      rw [show (e : Int).toNat = e from rfl]
      unfold nI
      rw [List.map_replicate]
      have : ∀ n : Nat, (List.replicate n [V.int 0]).flatten = List.replicate n (V.int 0) := by
        intro n
        induction n with
        | zero => rfl
        | succ n ih => rw [List.replicate_succ, List.flatten_cons, ih]; rfl
      exact this e
    have hz : ((rows.flatten.map V.int).length) = (nI (goneM rows st v)).length := by rw [List.length_map, nI_len, goneM_len hls hlv]
    refine ⟨tg, g, _, _, rfl, SqK.t (e3 _ _ hn.tg), SqK.l hgl, for_it (walk_zipK rfl) (fun i σ H' => ∃ x y, σ = [some (.ref p), some (.ref a), some (.ref b), some (.ref l), x, y] ∧ Ex H H' ∧ H' g = some (.lst (nI (goneM rows st v))) ∧ H' l = some (.lst (nI (((rows.flatten.zip (goneM rows st v)).take i).foldl comeStep (List.replicate e 0))))) ⟨none, none, rfl, e3, hgl, by rw [e2 _ _ upd_same, hrep]; rfl⟩ (fun i σ H' _ ⟨_, _, _, e4, hg4, _⟩ => ⟨SqK.t (e4 _ _ hn.tg), SqK.l hg4⟩) ?_ ?_⟩
    · rintro i x σ H3 H4 hi ⟨x1, x2, rfl, e4, hg4, hf4⟩ ⟨Tt, y1, y2, rfl, hT, rfl, hy1, hy2⟩
      obtain ⟨t, ht, rfl⟩ := mI_get hy1
      obtain ⟨m, hm, rfl⟩ := nI_get hy2
      have hzi : (rows.flatten.zip (goneM rows st v))[i]? = some (t, m) := by
        rw [List.getElem?_zip_eq_some]
        exact ⟨ht, hm⟩
      have hstep : ((rows.flatten.zip (goneM rows st v)).take (i + 1)).foldl comeStep (List.replicate e 0) = comeStep (((rows.flatten.zip (goneM rows st v)).take i).foldl comeStep (List.replicate e 0)) (t, m) := by
        rw [List.take_add_one, hzi, List.foldl_append]
        rfl
      have nlg : l ≠ g := by
        rintro rfl
        rw [upd_same] at hg
        cases hg
      have hge : -(e : Int) ≤ t := by
        obtain ⟨r, hr, htr⟩ := List.mem_flatten.mp (List.mem_of_getElem? ht)
        exact (h6 r hr).2.2 t htr
      refine ⟨Tt, _, rfl, SqT.of upd_same, rfl, _, _, rfl, _, _, rfl, rfl, _, rfl, _, _, rfl, rfl, _, rfl, ?_⟩
      have nlT : l ≠ Tt := ne_of_none hf4 hT
      have e5 : Ex H3 (upd H3 Tt (.tup [.int t, .int (m : Int)])) := Ex.new hT
      generalize hF : ((rows.flatten.zip (goneM rows st v)).take i).foldl comeStep (List.replicate e 0) = F at hf4 hstep
      have hFl : F.length = e := by rw [← hF, comeFold_len, List.length_replicate]
      refine ite2 (fun q => ?_) (fun q => ?_)
      · have q' : t < 0 := of_decide_eq_true q
        obtain ⟨j, hj⟩ : ∃ j : Nat, -1 - t = (j : Int) := ⟨(-1 - t).toNat, by omega⟩
        have hje : j < F.length := by omega
        have hFj : F[j]? = some F[j] := List.getElem?_eq_getElem hje
        have hcs : comeStep F (t, m) = F.set j (F[j] + m) := by
          unfold comeStep
          rw [if_pos q', show (-1 - t).toNat = j by omega, List.getD_eq_getElem?_getD, hFj]
          rfl
        refine ⟨_, rfl, _, rfl, _, rfl, _, _, rfl, rfl, l, _, (j : Int), _, rfl, (congrArg V.int hj), SqL.of (e5 _ _ hf4), nI_at hFj, _, rfl, _, _, rfl, rfl, _, rfl, _, rfl, _, rfl, _, _, rfl, rfl, l, _, (j : Int), j, rfl, (congrArg V.int hj), e5 _ _ hf4, ixN_nat (by rw [nI_len]; exact hje), ?_⟩
        refine ⟨_, _, rfl, Ex.mut (e4.trans e5) hl2, by rw [upd_ne nlg.symm]; exact e5 _ _ hg4, ?_⟩
        rw [upd_same, hstep, hcs, ← nI_set, Int.natCast_add]
      · have q' : ¬ t < 0 := fun z => q (decide_eq_true z)
        refine ⟨_, _, rfl, e4.trans e5, e5 _ _ hg4, ?_⟩
        rw [hstep, show comeStep F (t, m) = F from if_neg q']
        exact e5 _ _ hf4
    · rintro σ H3 ⟨x1, x2, rfl, e4, hg4, hf4⟩
      refine ⟨_, rfl, k _ l e4 hl2 ?_⟩
      rw [hf4, List.take_of_length_le (by rw [List.length_zip, List.length_map, nI_len]; omega)]
      rfl
abbrev s_point_by : Stmt := (topS 32)
theorem sc_point_by : FnScope ["net", "track", "first"] ["net", "track"] (defScope s_point_by) := ⟨rfl, rfl, rfl, by decide +kernel, rfl, by decide +kernel, by decide +kernel⟩
theorem ok_point_by (F : FunG K mg "point_by" s_point_by ["net", "track"]) (T : Txt K mg CN CY) : Cal P w K mg base "point_by" ["net", "track"] 1 (spPointBy CN) := by
  refine F.cal fun f fd F => F.ok sc_point_by (fun vs H Q E h => ?_) (fun cdv A outer s H vs Q E hr h => ?_)
  · obtain ⟨p, e, rows, t, rfl, _⟩ := h
    rfl
  · obtain ⟨p, e, rows, t, rfl, ⟨dx, fs, ex, tg, fi, hp, _, _, hn⟩, hl, k⟩ := h
    have hfl := firsts_len rows 0
    refine ⟨_, (pss_one (ps_ret (pe_op op_sub (pe_callB (r := rLenS K) call_len_seq (by rfl) T.m_len PySem.boot_len (pa_cons (pe_lc (own := [("first", 2)]) (by rfl) sc_point_by.nd (pi_seqK true (pe_fld (pv 0) rfl)) (blkOk_by (N := ["net", "track", "first"]) (sc := defScope s_point_by) (own := [("first", 2)]) (by decide +kernel)) (fun _ _ _ _ _ => (pg_name (i := 2) sc_point_by.nd rfl (Or.inl rfl))) (fun _ _ _ _ _ => (pts_one (pt_cmpR op_le (pv 2) (pv 1) (nomark _)))) (fun _ _ _ _ _ => (pv 2))) pa_nil)) pe_int))), ?_⟩
    refine ⟨_, rfl, p, CN, dx, _, _, rfl, hp, T.clN, T.nF, layF_firsts _ _ _ _ _, _, rfl, ⟨_, SqK.t hn.fi⟩, fun D hD => lcV walk_seqK hD (by rw [nI_len]; omega) (fun i => decide ((firsts 0 rows).getD i 0 ≤ t)) (fun i => .int (((firsts 0 rows).getD i 0 : Nat) : Int)) (fun H2 e2 => SqK.t (e2 _ _ hn.fi)) (fun i x H2 H3 Ky Kn hi e2 hY ky kn => ?_) fun H2 e2 hy => ?_⟩
    · obtain ⟨rfl, hx⟩ := hY
      obtain ⟨n, hn', rfl⟩ := nI_get hx
      have hg : (firsts 0 rows).getD i 0 = n := by rw [List.getD_eq_getElem?_getD, hn']; rfl
      rw [hg] at ky kn
      refine ⟨rfl, _, rfl, _, rfl, _, _, rfl, rfl, _, rfl, ite2 (fun q => ?_) (fun q => ?_)⟩
      · have q' := of_decide_eq_true q
        exact ⟨_, rfl, ky _ (decide_eq_true (by omega)) (Ex.refl _)⟩
      · have q' : ¬ ((n : Int) ≤ (t : Int)) := fun z => q (decide_eq_true z)
        exact kn _ (decide_eq_false (by omega)) (Ex.refl _)
    · refine ⟨_, _, rfl, .inl (SqL.of hy), _, _, rfl, rfl, ?_⟩
      have := k _ e2
      have hlen : (List.map (fun i => V.int (((firsts 0 rows).getD i 0 : Nat) : Int)) (List.filter (fun i => decide ((firsts 0 rows).getD i 0 ≤ t)) (List.range (nI (firsts 0 rows)).length))).length = ((firsts 0 rows).filter fun f => decide (f ≤ t)).length := by
        rw [List.length_map, nI_len]
        have hh : (firsts 0 rows) = (List.range (firsts 0 rows).length).map fun i => (firsts 0 rows).getD i 0 := by
          apply List.ext_getElem?
          intro i
          by_cases hi : i < (firsts 0 rows).length
          · rw [List.getElem?_map, List.getElem?_range hi, List.getElem?_eq_getElem hi]
            show some _ = some ((firsts 0 rows).getD i 0)
            rw [List.getD_eq_getElem?_getD, List.getElem?_eq_getElem hi]
            rfl
          · rw [List.getElem?_eq_none (by omega), List.getElem?_eq_none (by simp; omega)]
        conv => rhs; rw [hh, List.filter_map, List.length_map]
        rfl
      rw [hlen]
      exact this
abbrev s_step_of : Stmt := (topS 67)
theorem sc_step_of : FnScope ["net", "where", "nexts", "exits", "gone"] ["net", "where", "nexts"] (defScope s_step_of) := ⟨rfl, rfl, rfl, by decide +kernel, rfl, by decide +kernel, by decide +kernel⟩
theorem ok_step_of (F : FunG K mg "step_of" s_step_of ["net", "where", "nexts"]) (T : Txt K mg CN CY) : Cal P w K mg base "step_of" ["net", "where", "nexts"] 1 (spStep CN) := by
  refine F.cal fun f fd F => F.ok sc_step_of (fun vs H Q E h => ?_) (fun cdv A outer s H vs Q E hr h => ?_)
  · obtain ⟨p, a, e, rows, wi, now, rfl, _⟩ := h
    rfl
  · obtain ⟨p, a, e, rows, wi, now, rfl, ⟨dx, fs, ex, tg, fi, hp, _, _, hn⟩, ha, hw, hs, k⟩ := h
    obtain ⟨us, hex, hus⟩ := hn.ex
    obtain ⟨_, hun, rb, rfl, hrb⟩ := hus.get (List.getElem?_eq_getElem hw)
    obtain ⟨g, hg, hgr⟩ := All2.get hs (List.getElem?_eq_getElem hw)
    have hwf : wi < (firsts 0 rows).length := by rw [firsts_len]; exact hw
    refine ⟨_, (pss_cons (ps_set (i := 3) sc_step_of.nd rfl (Or.inl rfl) (pe_ix ix_tup (pe_fld (pv 0) rfl) (pv 1) (fun _ _ => rfl)))
      (pss_cons (ps_set (i := 4) sc_step_of.nd rfl (Or.inl rfl) (pe_ix ix_list (pv 2) (pv 1) (fun _ _ => rfl)))
      (pss_cons (ps_asg (pe_op op_mod (pe_op op_add (pv 4) pe_int) (pe_callB (r := rLenS K) call_len_seq (by rfl) T.m_len PySem.boot_len (pa_cons (pv 3) pa_nil))) (pg_sub (pv 2) (pv 1) set_list))
      (pss_one (ps_ret (pe_tup (pa_cons (pe_op op_add (pe_ix ix_tup (pe_fld (pv 0) rfl) (pv 1) (fun _ _ => rfl)) (pv 4)) (pa_cons (pe_ix ix_tup (pv 3) (pv 4) (fun _ _ => rfl)) pa_nil)))))))), ?_⟩
    refine ⟨_, rfl, p, CN, dx, _, _, rfl, hp, T.clN, T.nX, layF_exits _ _ _ _ _, _, rfl, _, _, _, _, rfl, rfl, SqT.of hex, atI_nat hun, ?_⟩
    refine ⟨_, rfl, _, rfl, _, _, _, _, rfl, rfl, SqL.of ha, nI_at hg, ?_⟩
    refine ⟨_, rfl, _, _, rfl, rfl, _, rfl, _, _, rfl, .inr (SqT.of hrb), _, _, rfl, rfl, (by rw [List.length_map]; omega), ?_⟩
    refine ⟨_, rfl, _, rfl, a, _, (wi : Int), wi, rfl, rfl, ha, ixN_nat (by rw [nI_len]; exact (List.getElem?_eq_some_iff.mp hg).1), ?_⟩
    have nea : ∀ {b : Addr} {xs : List V}, H b = some (.tup xs) → b ≠ a := fun hb => by
      rintro rfl
      rw [ha] at hb
      cases hb
    have npa : p ≠ a := by
      rintro rfl
      rw [ha] at hp
      cases hp
    refine ⟨_, rfl, p, CN, dx, _, _, rfl, by rw [upd_ne npa]; exact hp, T.clN, T.nF, layF_firsts _ _ _ _ _, _, rfl, _, _, _, _, rfl, rfl, SqT.of (by rw [upd_ne (nea hn.fi)]; exact hn.fi), nI_at (List.getElem?_eq_getElem hwf), _, rfl, _, _, rfl, rfl, _, rfl, _, rfl, _, _, _, _, rfl, rfl, SqT.of (by rw [upd_ne (nea hrb)]; exact hrb), mI_at (List.getElem?_eq_getElem hgr), by show 2 ≤ sizeLine; decide, fun t ht => ?_⟩
    have hta : t ≠ a := by
      rintro rfl
      rw [upd_same] at ht
      cases ht
    have eD : (rows.getD wi []) = rows[wi] := by rw [List.getD_eq_getElem?_getD, List.getElem?_eq_getElem hw]; rfl
    have eN : now.getD wi 0 = g := by rw [List.getD_eq_getElem?_getD, hg]; rfl
    refine k _ t (fun b o hb ho => ?_) ?_ ?_ ?_
    · rw [upd_ne (ne_of_none (by rw [upd_ne hb]; exact ho) ht), upd_ne hb]
      exact ho
    · rw [upd_ne hta.symm, upd_same]
      show some (HO.lst ((nI now).set wi (V.int (((g : Int) + 1) % ((rows[wi].map V.int).length : Int))))) = some (.lst (nI (now.set wi ((now.getD wi 0 + 1) % (rows.getD wi []).length))))
      rw [eD, eN, List.length_map, ← nI_set, Int.natCast_emod]
      rfl
    · rw [upd_ne hta] at ht
      exact ht
    · rw [upd_same]
      show some (HO.tup [V.int (((firsts 0 rows)[wi] : Int) + (g : Int)), V.int rows[wi][g]]) = some (.tup [.int (((firsts 0 rows).getD wi 0 + now.getD wi 0 : Nat) : Int), .int ((rows.getD wi []).getD (now.getD wi 0) 0)])
      rw [eD, eN, List.getD_eq_getElem?_getD, List.getElem?_eq_getElem hwf, List.getD_eq_getElem?_getD, List.getElem?_eq_getElem hgr, Int.natCast_add]
      rfl
abbrev s_run_by : Stmt := (topS 68)
theorem sc_run_by : FnScope ["net", "setting", "begin", "most", "where", "nexts", "tracks", "track"] ["net", "setting", "begin", "most"] (defScope s_run_by) := ⟨rfl, rfl, rfl, by decide +kernel, rfl, by decide +kernel, by decide +kernel⟩
theorem ok_run_by (F : FunG K mg "run_by" s_run_by ["net", "setting", "begin", "most"]) (T : Txt K mg CN CY) (c_step_of : Cal P w K mg base "step_of" ["net", "where", "nexts"] 1 (spStep CN)) : Cal P w K mg base "run_by" ["net", "setting", "begin", "most"] 2 (spRun CN) := by
  refine F.cal fun f fd F => F.ok sc_run_by (fun vs H Q E h => ?_) (fun cdv A outer s H vs Q E hr h => ?_)
  · obtain ⟨p, a, e, rows, st, b, n, x, rfl, _⟩ := h
    rfl
  · obtain ⟨p, a, e, rows, st, b, n, x, rfl, hN, ha, hs, hb, htl, ⟨hgo, hend⟩, hn, k⟩ := h
    refine ⟨_, (pss_cons (ps_par3 (i := 4) (j := 5) (l := 6) (by rfl) sc_run_by.nd rfl rfl rfl (by decide) (by decide) (by decide) rfl rfl rfl (pa_cons (pv 2) (pa_cons (pe_callTy (T := "list") (r := rListS K) call_list_of (by rfl) T.m_list (by decide +kernel) (pa_cons (pv 1) pa_nil)) (pa_cons (pe_lst pa_nil) pa_nil))) (by rfl))
      (pss_cons (ps_while PassesOwn.never (PW.pt (pw_and (pt_cmpR op_ge (pv 4) pe_int (nomark _)) (pw_and1 (pt_cmpR op_lt (pe_callB (r := rLenS K) call_len_seq (by rfl) T.m_len PySem.boot_len (pa_cons (pv 6) pa_nil)) (pv 3) (nomark _))))) (pss_cons (ps_asg (pe_cal c_step_of (hr.mono (by decide)) (by rfl) (pa_cons (pv 0) (pa_cons (pv 4) (pa_cons (pv 5) pa_nil)))) (pg_tup rfl (pgs_cons (pg_name (i := 7) sc_run_by.nd rfl (Or.inl rfl)) (pgs_cons (pg_name (i := 4) sc_run_by.nd rfl (Or.inl rfl)) pgs_nil))))
      (pss_one (ps_expr (pe_bm PySem.F.plainAttrs_list PySem.F.slot_list_append PySem.F.type_list_append mt_append (pv 6) (pa_cons (pv 7) pa_nil))))))
      (pss_one (ps_ret (pe_tup (pa_cons (pv 4) (pa_cons (pv 5) (pa_cons (pv 6) pa_nil)))))))), ?_⟩
    refine ⟨_, rfl, _, rfl, _, _, rfl, .inl (SqL.of ha), fun ns hns => ⟨by show 0 ≤ sizeLine; decide, fun tr htr => ⟨_, _, _, rfl, ?_⟩⟩⟩
    have e0 : Ex H (upd H ns (.lst (nI st))) := Ex.new hns
    have htr0 : H tr = none := fresh_back e0 htr
    have nst : ns ≠ tr := ne_of_none (by exact upd_same) htr
    refine s_while (fun m σ H' => ∃ i y, m = n - i ∧ i ≤ n ∧ σ = [some (.ref p), some (.ref a), some (.int (b : Int)), some (.int 400), some (.int (traj rows st b i).1), some (.ref ns), some (.ref tr), y] ∧ Ex H H' ∧ H' ns = some (.lst (nI (traj rows st b i).2)) ∧ H' tr = some (.lst (nI ((List.range i).map fun m => trackN rows (traj rows st b m))))) n ⟨0, none, rfl, Nat.zero_le _, rfl, e0.trans (Ex.new htr), by rw [upd_ne nst, upd_same]; rfl, upd_same⟩ ?_
    rintro m σ H1 ⟨i, y, rfl, hi, rfl, e1, hns1, htr1⟩
    by_cases hin : i < n
    · have h0 : 0 ≤ (traj rows st b i).1 := hgo i hin
      refine ⟨true, fun H2 e2 Q2 hQ => ⟨_, rfl, _, _, rfl, rfl, _, rfl, itT (decide_eq_true h0) ⟨_, rfl, _, _, rfl, .inl (SqL.of (e2 _ _ htr1)), _, rfl, _, _, rfl, rfl, _, rfl, ?_⟩⟩, fun _ H2 e2 => ?_, fun q => absurd q (by decide)⟩
      · rw [decide_eq_true (show (((nI ((List.range i).map fun m => trackN rows (traj rows st b m))).length : Nat) : Int) < 400 by rw [nI_len, List.length_map, List.length_range]; omega)]
        exact hQ _ (Ex.refl _)
      · obtain ⟨wn, hwn⟩ : ∃ wn : Nat, (traj rows st b i).1 = (wn : Int) := ⟨(traj rows st b i).1.toNat, by omega⟩
        have hwl : wn < rows.length := by
          have := traj_lt hs hb htl i fun m hm => hgo m (by omega)
          omega
        have hstep : traj rows st b (i + 1) = stepN rows ((wn : Int), (traj rows st b i).2) := by
          show stepN rows (traj rows st b i) = _
          rw [← hwn]
        refine ⟨_, fun σ2 H3 q => q, ⟨_, rfl, _, rfl, _, rfl, p, ns, e, rows, wn, (traj rows st b i).2, by rw [hwn]; rfl, hN.mono (e1.trans e2), e2 _ _ hns1, hwl, hs.traj i, fun H3 t k3 hns3 ht ht3 => ⟨t, _, rfl, SqT.of ht3, rfl, _, _, rfl, _, _, rfl, rfl, ?_⟩⟩⟩
        have ntr : tr ≠ ns := nst.symm
        have htr3 := k3 tr _ ntr (e2 _ _ htr1)
        refine ⟨_, rfl, .inl ⟨rfl, _, SqL.of htr3⟩, _, rfl, tr, _, _, rfl, rfl, htr3, sz_lt (by rw [nI_len, List.length_map, List.length_range]; omega), ?_⟩
        refine ⟨n - (i + 1), by omega, i + 1, _, rfl, hin, (by rw [hstep]; rfl), fun c o ho => ?_, ?_, ?_⟩
        · rw [upd_ne (ne_of_none ho htr0)]
          exact k3 c o (ne_of_none ho hns) (e2 _ _ (e1 _ _ ho))
        · rw [upd_ne nst, hstep]
          exact hns3
        · rw [upd_same, List.range_succ, List.map_append, nI_app]
          rw [show trackN rows ((wn : Int), (traj rows st b i).2) = trackN rows (traj rows st b i) by rw [← hwn]]
          rfl
    · have hie : i = n := by omega
      subst hie
      refine ⟨false, fun H2 e2 Q2 hQ => ⟨_, rfl, _, _, rfl, rfl, _, rfl, itF (decide_eq_false (by rw [hend]; omega)) (hQ _ (Ex.refl _))⟩, fun q => absurd q (by decide), fun _ H2 e2 => ?_⟩
      refine ⟨_, rfl, _, rfl, _, rfl, by show 3 ≤ sizeLine; decide, fun t ht => ?_⟩
      have e3 := (e2.trans (Ex.new (o := .tup [.int (traj rows st b i).1, .ref ns, .ref tr]) ht))
      exact k _ t ns tr (e1.trans e3) (by rw [upd_same, hend]) (e3 _ _ htr1)
end
end Fp
end part_W4
section part_W5
set_option maxHeartbeats 2000000
namespace Fp
open PySem PySem.Spec PyProof.Rows L2 Evl
theorem inV_int (n : Int) : ∀ xs : List Int, inV (.int n) (xs.map V.int) = decide (n ∈ xs)
  | [] => by simp [inV]
  | x :: xs => by
    have ih := inV_int n xs
    unfold inV at ih ⊢
    rw [List.map_cons, List.any_cons, ih]
    show ((x == n) || decide (n ∈ xs)) = decide (n ∈ x :: xs)
    by_cases h : x = n
    · subst h; simp
    · rw [beq_eq_false_iff_ne.mpr h]
      simp [Ne.symm h]
theorem inV_nat (n : Nat) (xs : List Nat) : inV (.int (n : Int)) (nI xs) = decide (n ∈ xs) := by
  rw [nI_map, inV_int]
  congr 1
  rw [List.mem_map]
  exact propext ⟨fun ⟨a, h1, h2⟩ => by rw [show n = a by omega]; exact h1, fun h => ⟨n, h, rfl⟩⟩
theorem flat_int : ∀ xs : List Int, (xs.map V.int).all flatV = true := fun xs => by simp [flatV]
theorem flat_nat (xs : List Nat) : (nI xs).all flatV = true := by rw [nI_map]; exact flat_int _
def spTo (CN : Addr) : Sp := fun vs H Q _ => ∃ (p : Addr) (e : Nat) (rows : Rows) (t : Int), vs = [.ref p, .int t] ∧ NetAt CN H p e rows ∧ rows.length ≤ 10 ∧ (∀ r ∈ rows, r.length ≤ 6) ∧
  ∀ H' l (ns : List Nat), Ex H H' → H l = none → H' l = some (.lst (nI ns)) → (∀ q, q ∈ ns ↔ Leads rows t q) → ns.length ≤ rows.length → Q (.ref l) H'
/-- which points are met now -/
def moreB (rows : Rows) (fs : List Nat) (gs : List Int) (i : Nat) : Bool := !decide (i ∈ fs) && gs.any fun x => decide (x ∈ rows.getD i [])
structure Found (rows : Rows) (t : Int) (fs : List Nat) (gs : List Int) : Prop where
  nd : fs.Nodup
  leads : ∀ q ∈ fs, Leads rows t q
  lt : ∀ q ∈ fs, q < rows.length
  goal : ∀ x ∈ gs, x = t ∨ ∃ q ∈ fs, x = (q : Int)
  done : ∀ x : Int, (x = t ∨ ∃ q ∈ fs, x = (q : Int)) → x ∈ gs ∨ ∀ p r, rows[p]? = some r → x ∈ r → p ∈ fs
theorem Found.next {rows : Rows} {t : Int} {fs : List Nat} {gs : List Int} (F : Found rows t fs gs) : Found rows t (fs ++ (List.range rows.length).filter (moreB rows fs gs)) (((List.range rows.length).filter (moreB rows fs gs)).map fun n : Nat => (n : Int)) := by
  have hm : ∀ q, q ∈ (List.range rows.length).filter (moreB rows fs gs) ↔ q < rows.length ∧ q ∉ fs ∧ ∃ x ∈ gs, x ∈ rows.getD q [] := fun q => by
    rw [List.mem_filter, List.mem_range]
    unfold moreB
    simp
  refine ⟨?_, ?_, ?_, ?_, ?_⟩
  · refine List.nodup_append.mpr ⟨F.nd, List.Pairwise.filter _ List.nodup_range, fun a ha b hb hab => ?_⟩
    subst hab
    exact ((hm a).mp hb).2.1 ha
  · intro q hq
    rcases List.mem_append.mp hq with h | h
    · exact F.leads q h
    · obtain ⟨h1, h2, x, hx, hxr⟩ := (hm q).mp h
      have hr : rows[q]? = some (rows.getD q []) := by rw [List.getElem?_eq_getElem h1, getD_some (List.getElem?_eq_getElem h1)]
      rcases F.goal x hx with rfl | ⟨q2, hq2, rfl⟩
      · exact .one hr hxr
      · exact .more hr hxr (F.leads q2 hq2)
  · intro q hq
    rcases List.mem_append.mp hq with h | h
    · exact F.lt q h
    · exact ((hm q).mp h).1
  · intro x hx
    obtain ⟨q, hq, rfl⟩ := List.mem_map.mp hx
    exact .inr ⟨q, List.mem_append.mpr (.inr hq), rfl⟩
  · intro x hx
    by_cases hx2 : x ∈ ((List.range rows.length).filter (moreB rows fs gs)).map fun n : Nat => (n : Int)
    · exact .inl hx2
    · refine .inr fun p r hp hxr => ?_
      have hx3 : x = t ∨ ∃ q ∈ fs, x = (q : Int) := by
        rcases hx with rfl | ⟨q, hq, rfl⟩
        · exact .inl rfl
        · rcases List.mem_append.mp hq with h | h
          · exact .inr ⟨q, h, rfl⟩
          · exact absurd (List.mem_map.mpr ⟨q, h, rfl⟩) hx2
      rcases F.done x hx3 with h | h
      · by_cases hpf : p ∈ fs
        · exact List.mem_append.mpr (.inl hpf)
        · refine List.mem_append.mpr (.inr ((hm p).mpr ⟨(List.getElem?_eq_some_iff.mp hp).1, hpf, x, h, ?_⟩))
          rw [getD_some hp]
          exact hxr
      · exact List.mem_append.mpr (.inl (h p r hp hxr))
theorem Found.ends {rows : Rows} {t : Int} {fs : List Nat} (F : Found rows t fs []) (q : Nat) : q ∈ fs ↔ Leads rows t q := by
  refine ⟨F.leads q, fun h => ?_⟩
  have key : ∀ x : Int, (x = t ∨ ∃ q ∈ fs, x = (q : Int)) → ∀ p r, rows[p]? = some r → x ∈ r → p ∈ fs := fun x hx => (F.done x hx).resolve_left (by simp)
  induction h with
  | one h1 h2 => exact key t (.inl rfl) _ _ h1 h2
  | more h1 h2 _ ih => exact key _ (.inr ⟨_, ih, rfl⟩) _ _ h1 h2
theorem nodup_sub {α : Type} [BEq α] [LawfulBEq α] : ∀ (xs ys : List α), xs.Nodup → (∀ x ∈ xs, x ∈ ys) → xs.length ≤ ys.length
  | [], _, _, _ => Nat.zero_le _
  | x :: xs, ys, h, hs => by
    obtain ⟨h1, h2⟩ := List.nodup_cons.mp h
    have hx := hs x List.mem_cons_self
    have ih := nodup_sub xs (ys.erase x) h2 fun z hz => by
      have hne : z ≠ x := fun e => h1 (e ▸ hz)
      exact (List.mem_erase_of_ne hne).mpr (hs z (List.mem_cons_of_mem _ hz))
    rw [List.length_erase_of_mem hx] at ih
    have : 0 < ys.length := List.length_pos_of_mem hx
    rw [List.length_cons]
    omega
theorem nodup_len {fs : List Nat} {n : Nat} (h : fs.Nodup) (hl : ∀ q ∈ fs, q < n) : fs.length ≤ n := by
  have := nodup_sub fs (List.range n) h fun q hq => List.mem_range.mpr (hl q hq)
  rwa [List.length_range] at this
section
variable {P : Program} {w : World} {K : PySem.W.Frag} {mg : Str → Option Value} {base : Heap} {CN CY : Addr}
abbrev s_points_to : Stmt := (topS 33)
theorem sc_points_to : FnScope ["net", "target", "found", "goals", "grown", "more", "point", "exits", "goal"] ["net", "target"] (defScope s_points_to) := ⟨rfl, rfl, rfl, by decide +kernel, rfl, by decide +kernel, by decide +kernel⟩
theorem ok_points_to (F : FunG K mg "points_to" s_points_to ["net", "target"]) (T : Txt K mg CN CY) : Cal P w K mg base "points_to" ["net", "target"] 1 (spTo CN) := by
  refine F.cal fun f fd F => F.ok sc_points_to (fun vs H Q E h => ?_) (fun cdv A outer s H vs Q E hr h => ?_)
  · obtain ⟨p, e, rows, t, rfl, _⟩ := h
    rfl
  · obtain ⟨p, e, rows, t, rfl, ⟨dx, fl, ex, tg, fi, hp, _, _, hn⟩, hl, h6, k⟩ := h
    obtain ⟨us, hex, hus⟩ := hn.ex
    have hlu : us.length = rows.length := hus.len
    refine ⟨_, (pss_cons (ps_asg (pe_tup (pa_cons (pe_lst pa_nil) (pa_cons (pe_lst (pa_cons (pv 1) pa_nil)) pa_nil))) (pg_tup rfl (pgs_cons (pg_name (i := 2) sc_points_to.nd rfl (Or.inr rfl)) (pgs_cons (pg_name (i := 3) sc_points_to.nd rfl (Or.inr rfl)) pgs_nil))))
      (pss_cons (ps_set (i := 4) sc_points_to.nd rfl (Or.inl rfl) pe_bl)
      (pss_cons (ps_while PassesOwn.never (pt_val (pv 4)) (pss_cons (ps_setLc (i := 5) (own := [("point", 6), ("exits", 7)]) (g := gTup K 2 (gCons (gName 6) (gCons (gName 7) gNil))) (by rfl) sc_points_to.nd rfl rfl (sw_true rfl rfl rfl (by decide +kernel)) (pi_enumK true (by rfl) T.m_enumerate (pa_cons (pe_fld (pv 0) rfl) pa_nil)) (blkOk_by (N := ["net", "target", "found", "goals", "grown", "more", "point", "exits", "goal"]) (sc := defScope s_points_to) (own := [("point", 6), ("exits", 7)]) (by decide +kernel)) (fun _ _ _ _ _ => (pg_tup rfl (pgs_cons (pg_name (i := 6) sc_points_to.nd rfl (Or.inl rfl)) (pgs_cons (pg_name (i := 7) sc_points_to.nd rfl (Or.inr rfl)) pgs_nil)))) (fun _ _ _ _ _ => (pts_one (PW.pt (pw_and (pt_cmpR (r := rIn K true) op_notIn_seq (pv 6) (pv 2) (by rfl)) (pw_and1 (pt_val (pe_callB (r := rAny K) (cr_any rfl) (by rfl) T.m_any (by decide +kernel) (pa_cons (pe_lc (own := [("goal", 8)]) (wi := iSeqK false K (tVar 3)) (by rfl) sc_points_to.nd (pi_seqK false (pv 3)) (blkOk_by (N := ["net", "target", "found", "goals", "grown", "more", "point", "exits", "goal"]) (own := [("goal", 8)]) (by rfl)) (fun _ _ _ _ _ => (pg_name (i := 8) sc_points_to.nd rfl (Or.inl rfl))) (fun _ _ _ _ _ => pts_nil) (fun _ _ _ _ _ => (pe_cmpR (r := rIn K false) op_in_seq (pv 8) (pv 7) (by rfl)))) pa_nil)))))))) (fun _ _ _ _ _ => (pv 6)))
      (pss_cons (ps_set (i := 4) sc_points_to.nd rfl (Or.inl rfl) (pe_cmpR (r := rNeD K) (op_neD hr.units) (pv 5) (pe_lst pa_nil) (nomark _)))
      (pss_cons (ps_expr (pe_bm PySem.F.plainAttrs_list PySem.F.slot_list_extend PySem.F.type_list_extend mt_extend (pv 2) (pa_cons (pv 5) pa_nil)))
      (pss_one (ps_set (i := 3) sc_points_to.nd rfl (Or.inr rfl) (pv 5)))))))
      (pss_one (ps_ret (pe_callB cr_sorted (by rfl) T.m_sorted (by decide +kernel) (pa_cons (pv 2) pa_nil))))))), ?_⟩
    refine ⟨by show 0 ≤ sizeLine; decide, fun f hf => ⟨_, rfl, by show 1 ≤ sizeLine; decide, fun g hg => ⟨by show 2 ≤ sizeLine; decide, fun tt htt => ⟨tt, _, rfl, SqT.of upd_same, rfl, _, _, rfl, _, _, rfl, rfl, ?_⟩⟩⟩⟩
    have e1 : Ex H (upd H f (.lst [])) := Ex.new hf
    have hfg : f ≠ g := ne_of_none (by exact upd_same) hg
    have hft : f ≠ tt := ne_of_none (H := upd (upd H f (.lst [])) g (.lst [.int t])) (by rw [upd_ne hfg, upd_same]) htt
    have hgt : g ≠ tt := ne_of_none (by exact upd_same) htt
    have e0 : Ex H (upd (upd (upd H f (.lst [])) g (.lst [.int t])) tt (.tup [.ref f, .ref g])) := (e1.trans (Ex.new hg)).trans (Ex.new htt)
    refine s_while (fun m σ H' => ∃ (fs : List Nat) (gs : List Int) (ga : Addr) (grown : Bool) (x5 x6 x7 x8 : Option V), m = (rows.length - fs.length) + (if grown = true then 1 else 0) ∧ σ = [some (.ref p), some (.int t), some (.ref f), some (.ref ga), some (.bl grown), x5, x6, x7, x8] ∧ Ex H H' ∧
      H' f = some (.lst (nI fs)) ∧ H' ga = some (.lst (gs.map V.int)) ∧ Found rows t fs gs ∧ (grown = false → gs = []) ∧ gs.length ≤ 10) (rows.length + 1)
      ⟨[], [t], g, true, none, none, none, none, rfl, rfl, e0, by rw [upd_ne hft, upd_ne hfg, upd_same]; rfl, by rw [upd_ne hgt, upd_same]; rfl, ⟨List.nodup_nil, fun q hq => by simp at hq, fun q hq => by simp at hq, fun x hx => .inl (by simpa using hx), fun x hx => .inl (by rcases hx with rfl | ⟨q, hq, _⟩; exact List.mem_singleton.mpr rfl; simp at hq)⟩, (fun q => Bool.noConfusion q), (by show 1 ≤ 10; decide)⟩ ?_
    rintro m σ H1 ⟨fs, gs, ga, grown, x5, x6, x7, x8, rfl, rfl, e2, hfs, hgs, Fd, hgr, hgl⟩
    refine ⟨grown, fun H2 e3 Q2 hQ => ⟨_, rfl, _, rfl, hQ _ (Ex.refl _)⟩, fun hg1 H2 e3 => ?_, fun hg1 H2 e3 => ?_⟩
    · subst hg1
      have e4 := e2.trans e3
      refine ⟨_, fun σ2 H3 q => q, ⟨_, rfl, p, CN, dx, _, _, rfl, e4 _ _ hp, T.clN, T.nX, layF_exits _ _ _ _ _, _, _, rfl, SqK.t (e4 _ _ hex), fun D hD => lcV walk_enumK hD (by omega) (moreB rows fs gs) (fun i => .int (i : Int)) (fun H3 e5 => SqK.t ((e4.trans e5) _ _ hex)) (fun i x H3 H4 Ky Kn hi e5 hY ky kn => ?_) fun H3 e5 hy => ?_⟩⟩
      · obtain ⟨Tt, x, y, rfl, hT, rfl, hx, hy⟩ := hY
        cases hx
        obtain ⟨r, hri, rb, rfl, hrb⟩ := hus.getl hy
        have e6 : Ex H3 (upd H3 Tt (.tup [.int (i : Int), .ref rb])) := Ex.new hT
        have hgd : rows.getD i [] = r := getD_some hri
        refine ⟨Tt, _, rfl, SqT.of upd_same, rfl, _, _, rfl, _, _, rfl, rfl, rfl, ?_⟩
        refine ⟨_, rfl, _, rfl, f, _, rfl, .inl (SqL.of ((e3.trans (e5.trans e6)) _ _ hfs)), rfl, flat_nat fs, _, rfl, ?_⟩
        by_cases hif : i ∈ fs
        · refine itF (by rw [if_pos rfl, inV_nat, decide_eq_true hif]; rfl) (iteF (kn _ ?_ e6))
          unfold moreB
          rw [decide_eq_true hif]
          rfl
        · refine itT (by rw [if_pos rfl, inV_nat, decide_eq_false hif]; rfl) ?_
          refine ⟨_, rfl, ga, rfl, ⟨_, SqK.l ((e3.trans (e5.trans e6)) _ _ hgs)⟩, fun D2 hD2 => lcA walk_seqK hD2 ?_ (atD gs fun x => .bl (decide (x ∈ r))) (fun H5 e7 => SqK.l ((e3.trans ((e5.trans e6).trans e7)) _ _ hgs)) (fun j x H5 H6 Ky2 hj e7 hY2 ky2 => ?_) fun H5 e7 hy5 => ?_⟩
          · rw [List.length_map]
            omega
          · obtain ⟨rfl, hx2⟩ := hY2
            obtain ⟨z, hz, rfl⟩ := mI_get hx2
            refine ⟨rfl, _, rfl, _, rfl, rb, _, rfl, .inr (SqT.of ((((e4.trans e5).trans e6).trans e7) _ _ hrb)), rfl, flat_int r, ?_⟩
            have := ky2 _ (Ex.refl _)
            rw [atD_some hz] at this
            rw [if_neg (by decide), inV_int]
            exact this
          · refine ⟨D2, gs.map fun x => decide (x ∈ r), rfl, SqL.of (by rw [hy5, range_atD (by rw [List.length_map]), List.map_map]; rfl), _, rfl, ?_⟩
            have hmb : moreB rows fs gs i = ((gs.map fun x => decide (x ∈ r)).any id) := by
              unfold moreB
              rw [decide_eq_false hif, hgd, List.any_map]
              rfl
            rw [← hmb]
            cases hb : moreB rows fs gs i with
            | true => exact iteT ⟨_, rfl, ky _ hb (e6.trans e7)⟩
            | false => exact iteF (kn _ hb (e6.trans e7))
      · rw [hlu] at hy
        generalize hmr : (List.range rows.length).filter (moreB rows fs gs) = mr at hy
        have hy' : H3 D = some (.lst ((mr.map fun n : Nat => (n : Int)).map V.int)) := by rw [hy, List.map_map]; rfl
        have Fn := Fd.next
        rw [hmr] at Fn
        refine ⟨_, rfl, by show 0 ≤ sizeLine; decide, fun z hz => ⟨_, _, ex_dp (Ex.new (o := .lst []) hz) _ _ (dp_L hy'), .lst (SqL.of upd_same) .nil, (shp_dL _).shaped (by decide), (shp_dL []).shaped (by decide), ?_⟩⟩
        have e6 : Ex H3 (upd H3 z (.lst [])) := Ex.new hz
        have e7 := (e3.trans e5).trans e6
        have hfl := e7 _ _ hfs
        have hfD : D ≠ f := by
          rintro rfl
          rw [e3 _ _ hfs] at hD
          cases hD
        have hmrl : (fs ++ mr).length ≤ rows.length := nodup_len Fn.nd Fn.lt
        refine ⟨_, rfl, .inl ⟨rfl, _, SqL.of hfl⟩, _, rfl, f, D, _, _, rfl, rfl, hfl, e6 _ _ hy', sz_of (by rw [List.length_map, List.length_map, List.length_map, ← List.length_append]; omega), _, rfl, ?_⟩
        refine ⟨(rows.length - (fs ++ mr).length) + (if decide (mr ≠ []) = true then 1 else 0), ?_, fs ++ mr, mr.map fun n : Nat => (n : Int), D, decide (mr ≠ []), some (.ref D), x6, x7, x8, rfl, ?_, Ex.mut (e2.trans e7) hf, ?_, ?_, Fn, fun q => ?_, by rw [List.length_map]; rw [List.length_append] at hmrl; omega⟩
        · by_cases hm0 : mr = []
          · subst hm0
            simp
          · have : 0 < mr.length := List.length_pos_iff.mpr hm0
            rw [List.length_append] at hmrl ⊢
            simp [hm0]
            omega
        · have hb : (!PyData.eqv (dL (mr.map fun n : Nat => (n : Int))) (dL [])) = decide (mr ≠ []) := by
            rw [tells_dL]
            by_cases hm0 : mr = [] <;> simp [hm0]
          rw [← hb]
          rfl
        · rw [upd_same, nI_app, nI_map mr]
        · rw [upd_ne hfD]
          exact e6 _ _ hy'
        · have : mr = [] := by simpa using q
          rw [this]
          rfl
    · have hg0 := hgr hg1
      subst hg0
      have hlt := nodup_len Fd.nd Fd.lt
      refine ⟨_, rfl, f, fs.map fun n : Nat => (n : Int), rfl, SqL.of (by rw [← nI_map]; exact e3 _ _ hfs), by rw [List.length_map]; omega, fun ns' l hperm _ hl0 => ?_⟩
      obtain ⟨ns, rfl⟩ : ∃ ns : List Nat, ns' = ns.map fun n : Nat => (n : Int) := by
        refine ⟨ns'.map Int.toNat, ?_⟩
        rw [List.map_map]
        conv => lhs; rw [← List.map_id ns']
        refine List.map_congr_left fun a ha => ?_
        obtain ⟨n, _, rfl⟩ := List.mem_map.mp (hperm.mem_iff.mp ha)
        rfl
      have hmem : ∀ q, q ∈ ns ↔ q ∈ fs := fun q => by
        have := hperm.mem_iff (a := (q : Int))
        rw [List.mem_map, List.mem_map] at this
        constructor
        · intro h
          obtain ⟨a, h1, h2⟩ := this.mp ⟨q, h, rfl⟩
          rwa [show q = a by omega]
        · intro h
          obtain ⟨a, h1, h2⟩ := this.mpr ⟨q, h, rfl⟩
          rwa [show q = a by omega]
      have hlen : ns.length = fs.length := by
        have := hperm.length_eq
        rwa [List.length_map, List.length_map] at this
      exact k _ l ns ((e2.trans e3).trans (Ex.new hl0)) (fresh_back (e2.trans e3) hl0) (by rw [upd_same, nI_map]) (fun q => (hmem q).trans (Fd.ends q)) (by omega)
end
end Fp
end part_W5
section part_N1
set_option maxHeartbeats 2000000
namespace Fp
theorem flatMap_len_le {α β : Type} (f : α → List β) (c : Nat) : ∀ xs : List α, (∀ x ∈ xs, (f x).length ≤ c) → (xs.flatMap f).length ≤ xs.length * c
  | [], _ => by simp
  | x :: xs, h => by
    have h1 := h x List.mem_cons_self
    have h2 := flatMap_len_le f c xs fun y hy => h y (List.mem_cons_of_mem _ hy)
    rw [List.flatMap_cons, List.length_append, List.length_cons, Nat.succ_mul]
    omega
theorem allStep_len (r : List Int) : ∀ acc : List (List Nat), (allStep acc r).length = acc.length * r.length
  | [] => by simp [allStep]
  | s :: acc => by
    have ih := allStep_len r acc
    unfold allStep at ih ⊢
    rw [List.flatMap_cons, List.length_append, ih, List.length_map, List.length_range, List.length_cons, Nat.succ_mul, Nat.add_comm]
theorem allM_len {e : Nat} {rows : Rows} (ok : NetOk e rows) (i : Nat) (hi : i ≤ 3) : (allM (rows.take i)).length ≤ 3 ^ i := by
  have h : ∀ (rs : Rows) (acc : List (List Nat)), (∀ r ∈ rs, r.length ≤ 3) → (rs.foldl allStep acc).length ≤ acc.length * 3 ^ rs.length := by
    intro rs
    induction rs with
    | nil => intro acc _; simp
    | cons r rs ih =>
      intro acc hr
      have h1 := ih (allStep acc r) fun q hq => hr q (by simp [hq])
      rw [allStep_len] at h1
      rw [List.foldl_cons, List.length_cons, Nat.pow_succ, Nat.mul_comm (3 ^ rs.length) 3, ← Nat.mul_assoc]
      exact Nat.le_trans h1 (Nat.mul_le_mul_right _ (Nat.mul_le_mul_left _ (hr r (by simp))))
  have := h (rows.take i) [[]] fun r hr => (ok.row r (List.mem_of_mem_take hr)).2.1
  rw [List.length_singleton, Nat.one_mul] at this
  exact Nat.le_trans this (Nat.pow_le_pow_right (by decide) (by rw [List.length_take]; omega))
theorem allM_mem_len : ∀ (rs : Rows) (acc : List (List Nat)) (m : Nat), (∀ s ∈ acc, s.length = m) → ∀ s ∈ rs.foldl allStep acc, s.length = m + rs.length
  | [], _, _, h, s, hs => h s hs
  | r :: rs, acc, m, h, s, hs => by
    have := allM_mem_len rs (allStep acc r) (m + 1) (fun t ht => by
      obtain ⟨u, hu, ht⟩ := List.mem_flatMap.mp ht
      obtain ⟨k, _, rfl⟩ := List.mem_map.mp ht
      rw [List.length_append, h u hu]
      rfl) s hs
    rw [this, List.length_cons]
    omega
theorem allM_mem_ok {rows : Rows} {one : List Nat} (h : one ∈ allM rows) : SetOk rows one := by
  have key : ∀ (rs pre : Rows) (acc : List (List Nat)), (∀ s ∈ acc, SetOk pre s) → ∀ s ∈ rs.foldl allStep acc, SetOk (pre ++ rs) s := by
    intro rs
    induction rs with
    | nil => intro pre acc h s hs; rw [List.append_nil]; exact h s hs
    | cons r rs ih =>
      intro pre acc h s hs
      have := ih (pre ++ [r]) (allStep acc r) (fun t ht => by
        obtain ⟨u, hu, ht⟩ := List.mem_flatMap.mp ht
        obtain ⟨k, hk, rfl⟩ := List.mem_map.mp ht
        exact All2.snoc (h u hu) (List.mem_range.mp hk)) s hs
      rwa [List.append_assoc] at this
  have := key rows [] [[]] (fun s hs => by
    have : s = [] := by simpa using hs
    subst this
    exact .nil) one h
  simpa using this
theorem mem_allM {rows : Rows} {s : List Nat} (h : SetOk rows s) : s ∈ allM rows := by
  have key : ∀ (rs : Rows) (acc : List (List Nat)) (s1 s2 : List Nat), s1 ∈ acc → SetOk rs s2 → s1 ++ s2 ∈ rs.foldl allStep acc := by
    intro rs
    induction rs with
    | nil =>
      intro acc s1 s2 h1 h2
      cases h2
      rw [List.append_nil]
      exact h1
    | cons r rs ih =>
      intro acc s1 s2 h1 h2
      cases h2 with
      | @cons k _ s2' _ hk h2' =>
        have := ih (allStep acc r) (s1 ++ [k]) s2' (List.mem_flatMap.mpr ⟨s1, h1, List.mem_map.mpr ⟨k, List.mem_range.mpr hk, rfl⟩⟩) h2'
        rwa [List.append_assoc] at this
  exact key rows [[]] [] s (by simp) h
theorem allM_27 {e : Nat} {rows : Rows} (ok : NetOk e rows) : (allM rows).length ≤ 27 := by
  have h3 := ok.pts3
  have := allM_len ok rows.length h3
  rw [List.take_length] at this
  exact Nat.le_trans this (Nat.le_trans (Nat.pow_le_pow_right (by decide) h3) (by decide))
theorem states_le {e : Nat} {rows : Rows} {s : List Nat} {b n : Nat} (ok : NetOk e rows) (hs : SetOk rows s) (hb : b < rows.length) (hg : Goes rows s b n) (hnd : ((List.range n).map (traj rows s b)).Nodup) : n ≤ 81 := by
  have h := nodup_sub ((List.range n).map (traj rows s b)) ((List.range rows.length).flatMap fun w : Nat => (allM rows).map fun t => ((w : Int), t)) hnd fun st hst => by
    obtain ⟨m, hm, rfl⟩ := List.mem_map.mp hst
    have hmn := List.mem_range.mp hm
    have h0 := hg m hmn
    have h1 := traj_lt hs hb (fun r hr t ht => ((ok.row r hr).2.2 t ht).2) m fun q hq => hg q (by omega)
    refine List.mem_flatMap.mpr ⟨(traj rows s b m).1.toNat, List.mem_range.mpr (by omega), List.mem_map.mpr ⟨(traj rows s b m).2, mem_allM (hs.traj m), ?_⟩⟩
    rw [Int.toNat_of_nonneg h0]
  rw [List.length_map, List.length_range] at h
  have h2 := flatMap_len_le (fun w : Nat => (allM rows).map fun t => ((w : Int), t)) 27 (List.range rows.length) (fun w _ => by rw [List.length_map]; exact allM_27 ok)
  rw [List.length_range] at h2
  have := ok.pts3
  omega
theorem cyc_never {rows : Rows} {s : List Nat} {b n m : Nat} (hg : Goes rows s b (n + 1)) (hm : m < n) (he : traj rows s b m = traj rows s b n) : ∀ k, 0 ≤ (traj rows s b k).1 := by
  have hq : ∀ q, traj rows s b (m + q) = traj rows s b (n + q) := by
    intro q
    induction q with
    | zero => exact he
    | succ q ih =>
      show stepN rows (traj rows s b (m + q)) = stepN rows (traj rows s b (n + q))
      rw [ih]
  intro k
  induction k using Nat.strongRecOn with
  | ind k ih =>
    by_cases hk : k ≤ n
    · exact hg k (by omega)
    · have := hq (k - n)
      rw [show n + (k - n) = k by omega] at this
      rw [← this]
      exact ih _ (by omega)
theorem not_nodup_map {α : Type} {f : Nat → α} : ∀ {n : Nat}, ¬ ((List.range n).map f).Nodup → ∃ i j, i < j ∧ j < n ∧ f i = f j := by
  intro n
  induction n with
  | zero => intro h; exact absurd List.nodup_nil h
  | succ n ih =>
    intro h
    by_cases hn : ((List.range n).map f).Nodup
    · rw [List.range_succ, List.map_append, List.nodup_append] at h
      have : ∃ i, i < n ∧ f i = f n := Classical.byContradiction fun hno => h ⟨hn, by simp, fun a ha c hc hac => by
        obtain ⟨i, hi, rfl⟩ := List.mem_map.mp ha
        have : c = f n := by simpa using hc
        exact hno ⟨i, List.mem_range.mp hi, by rw [hac, this]⟩⟩
      obtain ⟨i, hi, he⟩ := this
      exact ⟨i, n, hi, by omega, he⟩
    · obtain ⟨i, j, h1, h2, h3⟩ := ih hn
      exact ⟨i, j, h1, by omega, h3⟩
/-! ### visits -/
theorem visL_len (rows : Rows) (s : List Nat) (b n : Nat) : (visL rows s b n).length = rows.length := by
  unfold visL
  rw [List.length_map, List.length_range]
theorem visN_succ (rows : Rows) (s : List Nat) (b n p : Nat) : visN rows s b (n + 1) p = visN rows s b n p + if (traj rows s b n).1 = (p : Int) then 1 else 0 := by
  unfold visN
  rw [List.range_succ, List.countP_append, List.countP_cons, List.countP_nil]
  simp
theorem visL_get {rows : Rows} {s : List Nat} {b n p : Nat} (hp : p < rows.length) : (visL rows s b n)[p]? = some (visN rows s b n p) := by
  unfold visL
  rw [List.getElem?_map, List.getElem?_range hp]
  rfl
theorem visL_succ {rows : Rows} {s : List Nat} {b n w : Nat} (hw : w < rows.length) (h : (traj rows s b n).1 = (w : Int)) : visL rows s b (n + 1) = (visL rows s b n).set w (visN rows s b n w + 1) := by
  apply List.ext_getElem?
  intro p
  by_cases hp : p < rows.length
  · rw [visL_get hp, visN_succ, h, List.getElem?_set]
    by_cases hpw : w = p
    · subst hpw
      rw [if_pos rfl, if_pos rfl, if_pos (by rw [visL_len]; exact hw)]
    · rw [if_neg (by omega), if_neg hpw, visL_get hp]
      rfl
  · rw [List.getElem?_eq_none (by rw [visL_len]; omega), List.getElem?_eq_none (by rw [List.length_set, visL_len]; omega)]
theorem visN_mono (rows : Rows) (s : List Nat) (b p : Nat) {n m : Nat} (h : n ≤ m) : visN rows s b n p ≤ visN rows s b m p := by
  induction m with
  | zero => rw [show n = 0 by omega]; exact Nat.le_refl _
  | succ m ih =>
    by_cases hn : n = m + 1
    · subst hn; exact Nat.le_refl _
    · rw [visN_succ]
      have := ih (by omega)
      omega
/-- the time of a visit -/
theorem visit_at {rows : Rows} {s : List Nat} {b p v : Nat} : ∀ {k : Nat}, v < visN rows s b k p → ∃ q, q < k ∧ (traj rows s b q).1 = (p : Int) ∧ visN rows s b q p = v := by
  intro k
  induction k with
  | zero => intro h; simp [visN] at h
  | succ k ih =>
    intro h
    by_cases hv : v < visN rows s b k p
    · obtain ⟨q, h1, h2⟩ := ih hv
      exact ⟨q, by omega, h2⟩
    · rw [visN_succ] at h
      by_cases hp : (traj rows s b k).1 = (p : Int)
      · rw [if_pos hp] at h
        exact ⟨k, by omega, hp, by omega⟩
      · rw [if_neg hp] at h
        omega
/-- the exit on which a point stands, by its visits -/
theorem now_eq {rows : Rows} {s : List Nat} {b : Nat} (hs : SetOk rows s) {p : Nat} {r : List Int} (hr : rows[p]? = some r) {a : Nat} (ha : s[p]? = some a) : ∀ n, Goes rows s b n → (traj rows s b n).2[p]? = some ((a + visN rows s b n p) % r.length) := by
  intro n
  induction n with
  | zero =>
    intro _
    obtain ⟨r', hr', hlt⟩ := All2.getl hs ha
    rw [hr] at hr'
    cases hr'
    show s[p]? = some ((a + 0) % r.length)
    rw [ha, Nat.add_zero, Nat.mod_eq_of_lt hlt]
  | succ n ih =>
    intro hg
    have hn := hg n (by omega)
    have ih' := ih fun m hm => hg m (by omega)
    show ((traj rows s b n).2.set (traj rows s b n).1.toNat (((traj rows s b n).2.getD (traj rows s b n).1.toNat 0 + 1) % (rows.getD (traj rows s b n).1.toNat []).length))[p]? = _
    rw [List.getElem?_set, visN_succ]
    by_cases hp : (traj rows s b n).1 = (p : Int)
    · have e : (traj rows s b n).1.toNat = p := by omega
      rw [if_pos e, if_pos hp, e, getD_some ih', getD_some hr]
      have hlt : p < (traj rows s b n).2.length := (List.getElem?_eq_some_iff.mp ih').1
      rw [if_pos hlt]
      congr 1
      rw [Nat.add_mod, Nat.mod_mod, ← Nat.add_mod]
      rfl
    · rw [if_neg (by omega), if_neg hp]
      exact ih'
end Fp
end part_N1
section part_N2
set_option maxHeartbeats 2000000
namespace Fp
/-! ### the yard's net -/
theorem yardRows_len (e : Nat) (rows : Rows) : (yardRows e rows).length = rows.length := by
  unfold yardRows
  rw [List.length_map, List.length_range]
open Classical in
theorem yardRows_get {e : Nat} {rows : Rows} {i : Nat} {r : List Int} (h : rows[i]? = some r) : (LeadsE e rows i ∧ (yardRows e rows)[i]? = some r) ∨ (¬ LeadsE e rows i ∧ (yardRows e rows)[i]? = some [-1 - (e : Int)]) := by
  have hi : i < rows.length := (List.getElem?_eq_some_iff.mp h).1
  have e1 : (yardRows e rows)[i]? = some (if LeadsE e rows i then rows.getD i [] else [-1 - (e : Int)]) := by
    unfold yardRows
    rw [List.getElem?_map, List.getElem?_range hi]
    rfl
  by_cases hl : LeadsE e rows i
  · refine .inl ⟨hl, ?_⟩
    rw [e1, if_pos hl, getD_some h]
  · refine .inr ⟨hl, ?_⟩
    rw [e1, if_neg hl]
theorem yardRows_ok {e : Nat} {rows : Rows} (ok : NetOk e rows) : NetOk (e + 1) (yardRows e rows) := by
  refine ⟨by rw [yardRows_len]; exact ok.pts, by rw [yardRows_len]; exact ok.pts3, fun r hr => ?_⟩
  obtain ⟨i, hi⟩ := List.mem_iff_getElem?.mp hr
  have hl : i < rows.length := by
    have := (List.getElem?_eq_some_iff.mp hi).1
    rwa [yardRows_len] at this
  have hp := ok.pts
  rcases yardRows_get (e := e) (List.getElem?_eq_getElem hl) with ⟨_, h⟩ | ⟨_, h⟩
  · rw [hi] at h
    cases h
    obtain ⟨h1, h2, h3⟩ := ok.row _ (List.getElem_mem hl)
    refine ⟨h1, h2, fun t ht => ?_⟩
    obtain ⟨h4, h5⟩ := h3 t ht
    rw [yardRows_len]
    exact ⟨by omega, h5⟩
  · rw [hi] at h
    cases h
    refine ⟨by simp, by simp, fun t ht => ?_⟩
    have : t = -1 - (e : Int) := by simpa using ht
    subst this
    rw [yardRows_len]
    exact ⟨by omega, by omega⟩
theorem told_len {e : Nat} {rows : Rows} {s : List Nat} (hs : SetOk rows s) : (toldM (yardRows e rows) s).length = rows.length := by
  unfold toldM
  rw [List.length_map, List.length_zip, yardRows_len, All2.len hs, Nat.min_self]
theorem told_get {rows' : Rows} {s : List Nat} {i a : Nat} {r : List Int} (ha : s[i]? = some a) (hr : rows'[i]? = some r) : (toldM rows' s)[i]? = some (if r.length > 1 then a else 0) := by
  unfold toldM
  rw [List.getElem?_map, List.getElem?_zip_eq_some.mpr (⟨ha, hr⟩ : s[i]? = some (a, r).1 ∧ rows'[i]? = some (a, r).2)]
  rfl
theorem told_ok {e : Nat} {rows : Rows} {s : List Nat} (ok : NetOk e rows) (hs : SetOk rows s) : SetOk (yardRows e rows) (toldM (yardRows e rows) s) := by
  refine All2.of_get (by rw [told_len hs, yardRows_len]) fun i k r hk hr => ?_
  have hi : i < rows.length := by
    have := (List.getElem?_eq_some_iff.mp hr).1
    rwa [yardRows_len] at this
  have hsl : s.length = rows.length := All2.len hs
  have ha : s[i]? = some s[i] := List.getElem?_eq_getElem (by omega)
  rw [told_get ha hr] at hk
  cases hk
  have hpos : 1 ≤ r.length := ((yardRows_ok ok).row _ (List.mem_of_getElem? hr)).1
  split
  · rename_i hg
    obtain ⟨r0, hr0, hlt⟩ := All2.getl hs ha
    rcases yardRows_get (e := e) hr0 with ⟨_, h⟩ | ⟨_, h⟩
    · rw [hr] at h
      cases h
      exact hlt
    · rw [hr] at h
      injection h with h
      rw [h] at hg
      simp at hg
  · omega
theorem leads_yard {e : Nat} {rows : Rows} {x p : Nat} (hx : x < e) (h : Leads rows (-1 - (x : Int)) p) : Leads (yardRows e rows) (-1 - (x : Int)) p := by
  induction h with
  | @one p r hr ht =>
    rcases yardRows_get (e := e) hr with ⟨_, h⟩ | ⟨hn, _⟩
    · exact .one h ht
    · exact absurd ⟨x, hx, .one hr ht⟩ hn
  | @more p q r hr hq hl ih =>
    rcases yardRows_get (e := e) hr with ⟨_, h⟩ | ⟨hn, _⟩
    · exact .more h hq ih
    · exact absurd ⟨x, hx, .more hr hq hl⟩ hn
theorem yard_leads {e : Nat} {rows : Rows} {p : Nat} (hp : p < rows.length) : ∃ x : Nat, Leads (yardRows e rows) (-1 - (x : Int)) p := by
  rcases yardRows_get (e := e) (List.getElem?_eq_getElem hp) with ⟨⟨x, hx, hl⟩, _⟩ | ⟨_, h⟩
  · exact ⟨x, leads_yard hx hl⟩
  · exact ⟨e, .one h (by simp)⟩
/-- a run that comes round in a net that leads everywhere is impossible -/
theorem never_contra {rows : Rows} {s : List Nat} {b m d : Nat} (hs : SetOk rows s) (hd : 0 < d) (hnev : ∀ k, 0 ≤ (traj rows s b k).1) (hper : ∀ q, traj rows s b (m + q) = traj rows s b (m + d + q)) (hpos : ∀ r ∈ rows, 1 ≤ r.length)
    {p : Nat} {t : Int} (ht : t < 0) (hl : Leads rows t p) : ∀ k0, m ≤ k0 → (traj rows s b k0).1 ≠ (p : Int) := by
  -- all exits of a point that is visited late are gone
  have hall : ∀ (p : Nat) (r : List Int), rows[p]? = some r → ∀ k0, m ≤ k0 → (traj rows s b k0).1 = (p : Int) → ∀ u ∈ r, ∃ k, m ≤ k ∧ (traj rows s b k).1 = u := by
    intro p r hr k0 hk0 hp u hu
    obtain ⟨g, hg⟩ := List.mem_iff_getElem?.mp hu
    have hgl : g < r.length := (List.getElem?_eq_some_iff.mp hg).1
    have hpl : p < rows.length := (List.getElem?_eq_some_iff.mp hr).1
    have hsl : s.length = rows.length := All2.len hs
    have ha : s[p]? = some s[p] := List.getElem?_eq_getElem (by omega)
    -- visits grow
    have hback : ∀ j, (traj rows s b (k0 + j * d)).1 = (p : Int) := by
      intro j
      induction j with
      | zero => simpa using hp
      | succ j ih =>
        have := hper (k0 + j * d - m)
        rw [show m + (k0 + j * d - m) = k0 + j * d by omega] at this
        rw [show k0 + (j + 1) * d = m + d + (k0 + j * d - m) by rw [Nat.succ_mul]; omega, ← this]
        exact ih
    have hgrow : ∀ j, j < visN rows s b (k0 + j * d + 1) p := by
      intro j
      induction j with
      | zero =>
        rw [visN_succ, if_pos (hback 0)]
        omega
      | succ j ih =>
        rw [visN_succ, if_pos (hback (j + 1))]
        have h1 : visN rows s b (k0 + j * d + 1) p ≤ visN rows s b (k0 + (j + 1) * d) p := visN_mono rows s b p (by rw [Nat.succ_mul]; omega)
        omega
    -- the visit that goes by g
    obtain ⟨v, hv1, hv2⟩ : ∃ v, visN rows s b m p ≤ v ∧ (s[p] + v) % r.length = g := by
      obtain ⟨r', hr', hlt⟩ := All2.getl hs ha
      rw [hr] at hr'
      cases hr'
      refine ⟨(visN rows s b m p) * r.length + (r.length - s[p] + g), ?_, ?_⟩
      · have := Nat.le_mul_of_pos_right (visN rows s b m p) (show 0 < r.length by omega)
        omega
      · rw [show s[p] + (visN rows s b m p * r.length + (r.length - s[p] + g)) = g + (visN rows s b m p + 1) * r.length by rw [Nat.succ_mul]; omega, Nat.add_mul_mod_self_right, Nat.mod_eq_of_lt hgl]
    obtain ⟨k, _, hk1, hk2⟩ := visit_at (hgrow v)
    have hmk : m ≤ k := by
      refine Classical.byContradiction fun hlt => ?_
      have h1 := visN_mono rows s b p (show k + 1 ≤ m by omega)
      rw [visN_succ, if_pos hk1, hk2] at h1
      omega
    refine ⟨k + 1, by omega, ?_⟩
    have hnow := now_eq hs hr ha k (fun q _ => hnev q)
    show ((rows.getD (traj rows s b k).1.toNat []).getD ((traj rows s b k).2.getD (traj rows s b k).1.toNat 0) 0) = u
    rw [show (traj rows s b k).1.toNat = p by omega, getD_some hr, getD_some hnow, hk2, hv2, getD_some hg]
  induction hl with
  | one hr hu =>
    intro k0 hk0 hp
    obtain ⟨k, _, hk⟩ := hall _ _ hr k0 hk0 hp _ hu
    have := hnev k
    omega
  | more hr hq _ ih =>
    intro k0 hk0 hp
    obtain ⟨k, hk, hk1⟩ := hall _ _ hr k0 hk0 hp _ hq
    exact ih k hk hk1
theorem yard_ends {e : Nat} {rows : Rows} {s : List Nat} {b : Nat} (ok : NetOk e rows) (hs : SetOk rows s) (hb : b < rows.length) : ∃ n x, n ≤ 400 ∧ x < e + 1 ∧ RunEnds (yardRows e rows) (toldM (yardRows e rows) s) b n x := by
  have oky := yardRows_ok ok
  have hto := told_ok ok hs
  have hby : b < (yardRows e rows).length := by rw [yardRows_len]; exact hb
  have hno : ¬ Goes (yardRows e rows) (toldM (yardRows e rows) s) b 82 := by
    intro hg
    have hdup : ¬ ((List.range 82).map (traj (yardRows e rows) (toldM (yardRows e rows) s) b)).Nodup := fun hnd => by
      have := states_le oky hto hby hg hnd
      omega
    obtain ⟨m, n, hmn, hn, he⟩ := not_nodup_map hdup
    have hnev := cyc_never (fun q hq => hg q (by omega)) hmn he
    have hq : ∀ q, traj (yardRows e rows) (toldM (yardRows e rows) s) b (m + q) = traj (yardRows e rows) (toldM (yardRows e rows) s) b (m + (n - m) + q) := by
      intro q
      rw [show m + (n - m) + q = n + q by omega]
      induction q with
      | zero => exact he
      | succ q ih =>
        show stepN _ (traj (yardRows e rows) (toldM (yardRows e rows) s) b (m + q)) = stepN _ (traj (yardRows e rows) (toldM (yardRows e rows) s) b (n + q))
        rw [ih]
    have hlt := traj_lt hto hby (fun r hr t ht => ((oky.row r hr).2.2 t ht).2) m fun q _ => hnev q
    have h0 := hnev m
    obtain ⟨p, hp⟩ : ∃ p : Nat, (traj (yardRows e rows) (toldM (yardRows e rows) s) b m).1 = (p : Int) := ⟨_, (Int.toNat_of_nonneg h0).symm⟩
    have hpl : p < rows.length := by rw [yardRows_len] at hlt; omega
    obtain ⟨x, hx⟩ := yard_leads (e := e) hpl
    exact never_contra hto (show 0 < n - m by omega) hnev hq (fun r hr => (oky.row r hr).1) (by omega) hx m (Nat.le_refl _) hp
  -- the first step to an end
  have hfirst : ∀ k, ¬ Goes (yardRows e rows) (toldM (yardRows e rows) s) b k → ∃ n, n < k ∧ Goes (yardRows e rows) (toldM (yardRows e rows) s) b n ∧ (traj (yardRows e rows) (toldM (yardRows e rows) s) b n).1 < 0 := by
    intro k
    induction k with
    | zero => intro h; exact absurd (fun m hm => by omega) h
    | succ k ih =>
      intro h
      by_cases hk : Goes (yardRows e rows) (toldM (yardRows e rows) s) b k
      · by_cases h0 : (traj (yardRows e rows) (toldM (yardRows e rows) s) b k).1 < 0
        · exact ⟨k, by omega, hk, h0⟩
        · refine absurd (fun m hm => ?_) h
          by_cases hmk : m < k
          · exact hk m hmk
          · rw [show m = k by omega]
            omega
      · obtain ⟨n, h1, h2⟩ := ih hk
        exact ⟨n, by omega, h2⟩
  obtain ⟨n, hn, hg, h0⟩ := hfirst 82 hno
  have hge : -((e : Int) + 1) ≤ (traj (yardRows e rows) (toldM (yardRows e rows) s) b n).1 := by
    cases n with
    | zero => show -((e : Int) + 1) ≤ (b : Int); omega
    | succ n =>
      have hn0 := hg n (by omega)
      have hlt := traj_lt hto hby (fun r hr t ht => ((oky.row r hr).2.2 t ht).2) n fun q hq => hg q (by omega)
      have hw : (traj (yardRows e rows) (toldM (yardRows e rows) s) b n).1.toNat < (yardRows e rows).length := by omega
      obtain ⟨k, hk, hklt⟩ := All2.get (hto.traj (b := b) n) (List.getElem?_eq_getElem hw)
      show -((e : Int) + 1) ≤ ((yardRows e rows).getD _ []).getD _ 0
      rw [getD_some (List.getElem?_eq_getElem hw), getD_some hk, getD_some (List.getElem?_eq_getElem hklt)]
      have := ((oky.row _ (List.getElem_mem hw)).2.2 _ (List.getElem_mem hklt)).1
      omega
  exact ⟨n, (-1 - (traj (yardRows e rows) (toldM (yardRows e rows) s) b n).1).toNat, by omega, by omega, hg, by omega⟩
theorem RunEnds.unique {rows : Rows} {s : List Nat} {b n x n' x' : Nat} (h : RunEnds rows s b n x) (h' : RunEnds rows s b n' x') : n = n' ∧ x = x' := by
  obtain ⟨h1, h2⟩ := h
  obtain ⟨h3, h4⟩ := h'
  have e : n = n' := by
    rcases Nat.lt_trichotomy n n' with q | q | q
    · have := h3 n q
      omega
    · exact q
    · have := h1 n' q
      omega
  subst e
  exact ⟨rfl, by omega⟩
theorem take_flat_mono {rows : Rows} {i j : Nat} (h : i ≤ j) : (rows.take i).flatten.length ≤ (rows.take j).flatten.length := by
  induction j with
  | zero => rw [show i = 0 by omega]; exact Nat.le_refl _
  | succ j ih =>
    by_cases hij : i = j + 1
    · subst hij; exact Nat.le_refl _
    · refine Nat.le_trans (ih (by omega)) ?_
      rw [List.take_add_one, List.flatten_append, List.length_append]
      omega
theorem range_le_filter {n w : Nat} (hw : w < n) : (List.range n).filter (fun i => decide (i ≤ w)) = List.range (w + 1) := by
  induction n with
  | zero => omega
  | succ n ih =>
    rw [List.range_succ, List.filter_append]
    by_cases h : w = n
    · subst h
      have : (List.range w).filter (fun i => decide (i ≤ w)) = List.range w := by
        rw [List.filter_eq_self]
        intro a ha
        have := List.mem_range.mp ha
        simp
        omega
      rw [this, List.range_succ]
      simp
    · rw [ih (by omega)]
      simp
      omega
theorem firsts_lookup {rows : Rows} (h1 : ∀ r ∈ rows, 1 ≤ r.length) {w g : Nat} {r : List Int} (hw : rows[w]? = some r) (hg : g < r.length) : ((firsts 0 rows).filter fun f => decide (f ≤ (firsts 0 rows).getD w 0 + g)).length = w + 1 := by
  have hwl : w < rows.length := (List.getElem?_eq_some_iff.mp hw).1
  have hfl := firsts_len rows 0
  have hfw : (firsts 0 rows).getD w 0 = (rows.take w).flatten.length := by rw [getD_some (firsts_get rows 0 w hwl), Nat.zero_add]
  have hh : (firsts 0 rows) = (List.range rows.length).map fun i => (rows.take i).flatten.length := by
    apply List.ext_getElem?
    intro i
    by_cases hi : i < rows.length
    · rw [List.getElem?_map, List.getElem?_range hi, firsts_get rows 0 i hi, Nat.zero_add]
      rfl
    · rw [List.getElem?_eq_none (by omega), List.getElem?_eq_none (by simp; omega)]
  rw [hfw, hh, List.filter_map, List.length_map]
  have : ((fun f => decide (f ≤ (rows.take w).flatten.length + g)) ∘ fun i => (rows.take i).flatten.length) = fun i => decide ((rows.take i).flatten.length ≤ (rows.take w).flatten.length + g) := rfl
  rw [this]
  have h2 : (List.range rows.length).filter (fun i => decide ((rows.take i).flatten.length ≤ (rows.take w).flatten.length + g)) = (List.range rows.length).filter (fun i => decide (i ≤ w)) := by
    apply List.filter_congr
    intro i hi
    have hil := List.mem_range.mp hi
    refine decide_eq_decide.mpr ⟨fun h => ?_, fun h => ?_⟩
    · refine Classical.byContradiction fun hlt => ?_
      have h3 := take_flat_mono (rows := rows) (show w + 1 ≤ i by omega)
      rw [flatten_take_succ hw, List.length_append] at h3
      omega
    · have := take_flat_mono (rows := rows) h
      omega
  rw [h2, range_le_filter hwl, List.length_range]
end Fp
end part_N2
section part_N3
set_option maxHeartbeats 2000000
namespace Fp
/-- what goes into the end j -/
def inflow (j : Nat) (l : List (Int × Nat)) : Nat := (l.map fun q => if q.1 = -1 - (j : Int) then q.2 else 0).sum
theorem inflow_app (j : Nat) (a b : List (Int × Nat)) : inflow j (a ++ b) = inflow j a + inflow j b := by
  unfold inflow
  rw [List.map_append, List.sum_append]
theorem getD_none {α : Type} {xs : List α} {i : Nat} {d : α} (h : xs.length ≤ i) : xs.getD i d = d := by
  rw [List.getD_eq_getElem?_getD, List.getElem?_eq_none h]
  rfl
theorem step_get (f : List Nat) (q : Int × Nat) {j : Nat} (hj : j < f.length) : (comeStep f q).getD j 0 = f.getD j 0 + if q.1 = -1 - (j : Int) then q.2 else 0 := by
  unfold comeStep
  by_cases h : q.1 < 0
  · rw [if_pos h]
    by_cases hk : (-1 - q.1).toNat = j
    · rw [if_pos (by omega), hk, List.getD_eq_getElem?_getD, List.getElem?_set, if_pos rfl, if_pos hj]
      rfl
    · rw [if_neg (by omega), List.getD_eq_getElem?_getD, List.getElem?_set, if_neg hk, ← List.getD_eq_getElem?_getD]
      rfl
  · rw [if_neg h, if_neg (by omega)]
    rfl
theorem fold_get : ∀ (l : List (Int × Nat)) (f : List Nat) (j : Nat), j < f.length → (l.foldl comeStep f).getD j 0 = f.getD j 0 + inflow j l
  | [], f, j, _ => by simp [inflow]
  | q :: l, f, j, hj => by
    rw [List.foldl_cons, fold_get l _ j (by rw [comeStep_len]; exact hj), step_get f q hj]
    unfold inflow
    rw [List.map_cons, List.sum_cons]
    omega
theorem zip_inc (j : Nat) : ∀ (r : List Int) (m : List Nat) (g : Nat), m.length = r.length → g < r.length → inflow j (r.zip (m.set g (m.getD g 0 + 1))) = inflow j (r.zip m) + if r.getD g 0 = -1 - (j : Int) then 1 else 0
  | [], _, _, _, h => by simp at h
  | _ :: _, [], _, h, _ => by simp at h
  | t :: r, x :: m, 0, _, _ => by
    show inflow j ((t, x + 1) :: r.zip m) = inflow j ((t, x) :: r.zip m) + if t = -1 - (j : Int) then 1 else 0
    unfold inflow
    rw [List.map_cons, List.sum_cons, List.map_cons, List.sum_cons]
    split <;> simp_all <;> omega
  | t :: r, x :: m, g + 1, h, hg => by
    have ih := zip_inc j r m g (by simpa using h) (by simpa using hg)
    show inflow j ((t, x) :: r.zip (m.set g (m.getD g 0 + 1))) = inflow j ((t, x) :: r.zip m) + if r.getD g 0 = -1 - (j : Int) then 1 else 0
    unfold inflow at ih ⊢
    rw [List.map_cons, List.sum_cons, List.map_cons, List.sum_cons, ih]
    omega
theorem dealt_get {d a v e : Nat} (he : e < d) : (dealtM d a v)[e]? = some (v / d + if ((e : Int) - (a : Int)) % (d : Int) < ((v % d : Nat) : Int) then 1 else 0) := by
  unfold dealtM
  rw [List.getElem?_map, List.getElem?_range he]
  rfl
theorem dealt_inc {d a v : Nat} (hd : 0 < d) : dealtM d a (v + 1) = (dealtM d a v).set ((a + v) % d) ((dealtM d a v).getD ((a + v) % d) 0 + 1) := by
  apply List.ext_getElem?
  intro e
  by_cases he : e < d
  · have hgl : (a + v) % d < d := Nat.mod_lt _ hd
    rw [dealt_get he, List.getElem?_set, getD_some (dealt_get hgl)]
    have c0 := Int.emod_nonneg ((e : Int) - (a : Int)) (show (d : Int) ≠ 0 by omega)
    have c1 := Int.emod_lt_of_pos ((e : Int) - (a : Int)) (show (0 : Int) < (d : Int) by omega)
    have hr : v % d < d := Nat.mod_lt _ hd
    have key : ∀ e : Nat, e < d → (((e : Int) - (a : Int)) % (d : Int) = ((v % d : Nat) : Int) ↔ (a + v) % d = e) := by
      intro e he
      rw [Int.natCast_emod, Int.emod_eq_emod_iff_emod_sub_eq_zero, show (e : Int) - (a : Int) - (v : Int) = (e : Int) - ((a + v : Nat) : Int) by omega, ← Int.emod_eq_emod_iff_emod_sub_eq_zero, ← Int.natCast_emod, ← Int.natCast_emod, Nat.mod_eq_of_lt he]
      constructor
      · intro h; omega
      · intro h; omega
    have hx : v = d * (v / d) + v % d := (Nat.div_add_mod v d).symm
    have h1 : (v + 1) / d = v / d + (v % d + 1) / d := by
      conv => lhs; rw [hx, Nat.add_assoc, Nat.mul_add_div hd]
    have h2 : (v + 1) % d = (v % d + 1) % d := by
      conv => lhs; rw [hx, Nat.add_assoc, Nat.mul_add_mod]
    rw [h1, h2]
    have hk := key e he
    by_cases hge : (a + v) % d = e
    · have hlen : e < (dealtM d a v).length := by rw [dealtM_len]; exact he
      rw [if_pos hge, hge, if_pos hlen]
      have hcv := hk.mpr hge
      rw [hcv]
      congr 1
      by_cases hlt : v % d + 1 < d
      · rw [Nat.div_eq_of_lt hlt, Nat.mod_eq_of_lt hlt, if_pos (by omega), if_neg (by omega)]
      · have hd1 : v % d + 1 = d := by omega
        rw [hd1, Nat.div_self hd, Nat.mod_self, if_neg (by omega), if_neg (by omega)]
    · rw [if_neg hge, dealt_get he]
      have hcv : ((e : Int) - (a : Int)) % (d : Int) ≠ ((v % d : Nat) : Int) := fun z => hge (hk.mp z)
      congr 1
      by_cases hlt : v % d + 1 < d
      · rw [Nat.div_eq_of_lt hlt, Nat.mod_eq_of_lt hlt]
        by_cases hc : ((e : Int) - (a : Int)) % (d : Int) < ((v % d : Nat) : Int)
        · rw [if_pos (by omega), if_pos hc]
        · rw [if_neg (by omega), if_neg hc]
      · have hd1 : v % d + 1 = d := by omega
        rw [hd1, Nat.div_self hd, Nat.mod_self, if_neg (by omega), if_pos (by omega)]
  · rw [List.getElem?_eq_none (by rw [dealtM_len]; omega), List.getElem?_eq_none (by rw [List.length_set, dealtM_len]; omega)]
theorem row_inc (j : Nat) (r : List Int) (a v : Nat) (hr : 0 < r.length) : inflow j (r.zip (dealtM r.length a (v + 1))) = inflow j (r.zip (dealtM r.length a v)) + if r.getD ((a + v) % r.length) 0 = -1 - (j : Int) then 1 else 0 := by
  rw [dealt_inc hr]
  exact zip_inc j r _ _ (dealtM_len _ _ _) (Nat.mod_lt _ hr)
theorem flow_cons (j : Nat) (r : List Int) (rs : Rows) (a : Nat) (ss : List Nat) (x : Nat) (vs : List Nat) : inflow j ((r :: rs).flatten.zip (goneM (r :: rs) (a :: ss) (x :: vs))) = inflow j (r.zip (dealtM r.length a x)) + inflow j (rs.flatten.zip (goneM rs ss vs)) := by
  rw [List.flatten_cons, goneM, List.zip_append (by rw [dealtM_len]), inflow_app]
theorem flow_inc (j : Nat) : ∀ (rows : Rows) (s v : List Nat) (w : Nat) (r : List Int) (a x : Nat), rows[w]? = some r → s[w]? = some a → v[w]? = some x → 0 < r.length →
    inflow j (rows.flatten.zip (goneM rows s (v.set w (x + 1)))) = inflow j (rows.flatten.zip (goneM rows s v)) + if r.getD ((a + x) % r.length) 0 = -1 - (j : Int) then 1 else 0
  | [], _, _, _, _, _, _, h, _, _, _ => by simp at h
  | _ :: _, [], _, _, _, _, _, _, h, _, _ => by simp at h
  | _ :: _, _ :: _, [], _, _, _, _, _, _, h, _ => by simp at h
  | r0 :: rs, a0 :: ss, x0 :: vs, 0, r, a, x, h1, h2, h3, hr => by
    simp at h1 h2 h3
    subst h1 h2 h3
    rw [List.set_cons_zero, flow_cons, flow_cons, row_inc j r0 a0 x0 hr]
    omega
  | r0 :: rs, a0 :: ss, x0 :: vs, w + 1, r, a, x, h1, h2, h3, hr => by
    have ih := flow_inc j rs ss vs w r a x (by simpa using h1) (by simpa using h2) (by simpa using h3) hr
    rw [List.set_cons_succ, flow_cons, flow_cons, ih]
    omega
theorem gone_zero : ∀ (rows : Rows) (s v : List Nat), (∀ x ∈ v, x = 0) → ∀ m ∈ goneM rows s v, m = 0
  | [], _, _, _, m, hm => by simp [goneM] at hm
  | _ :: _, [], _, _, m, hm => by simp [goneM] at hm
  | _ :: _, _ :: _, [], _, m, hm => by simp [goneM] at hm
  | r :: rs, a :: ss, x :: vs, h, m, hm => by
    rw [goneM, List.mem_append] at hm
    rcases hm with hm | hm
    · have hx := h x List.mem_cons_self
      subst hx
      unfold dealtM at hm
      obtain ⟨e, he, rfl⟩ := List.mem_map.mp hm
      have hel := List.mem_range.mp he
      have c0 := Int.emod_nonneg ((e : Int) - (a : Int)) (show (r.length : Int) ≠ 0 by omega)
      rw [Nat.zero_div, Nat.zero_mod, if_neg (by omega)]
    · exact gone_zero rs ss vs (fun y hy => h y (List.mem_cons_of_mem _ hy)) m hm
theorem inflow_zero (j : Nat) : ∀ (l : List Int) (m : List Nat), (∀ x ∈ m, x = 0) → inflow j (l.zip m) = 0
  | [], _, _ => by simp [inflow]
  | _ :: _, [], _ => by simp [inflow]
  | t :: l, x :: m, h => by
    have hx := h x List.mem_cons_self
    have ih := inflow_zero j l m fun y hy => h y (List.mem_cons_of_mem _ hy)
    subst hx
    unfold inflow at ih ⊢
    rw [List.zip_cons_cons, List.map_cons, List.sum_cons, ih]
    simp
theorem inflow_vis {e : Nat} {rows : Rows} {s : List Nat} {b : Nat} (j : Nat) (ok : NetOk e rows) (hs : SetOk rows s) (hb : b < rows.length) : ∀ n, Goes rows s b n → inflow j (rows.flatten.zip (goneM rows s (visL rows s b n))) = (List.range n).countP fun k => decide ((traj rows s b (k + 1)).1 = -1 - (j : Int)) := by
  intro n
  induction n with
  | zero =>
    intro _
    rw [List.range_zero, List.countP_nil]
    refine inflow_zero j _ _ (gone_zero rows s _ fun x hx => ?_)
    unfold visL visN at hx
    obtain ⟨p, _, rfl⟩ := List.mem_map.mp hx
    rfl
  | succ n ih =>
    intro hg
    have hgn : Goes rows s b n := fun m hm => hg m (by omega)
    have h0 := hg n (by omega)
    have hlt := traj_lt hs hb (fun r hr t ht => ((ok.row r hr).2.2 t ht).2) n hgn
    obtain ⟨w, hw⟩ : ∃ w : Nat, (traj rows s b n).1 = (w : Int) := ⟨_, (Int.toNat_of_nonneg h0).symm⟩
    have hwl : w < rows.length := by omega
    have hr : rows[w]? = some rows[w] := List.getElem?_eq_getElem hwl
    have hsl : s.length = rows.length := All2.len hs
    have ha : s[w]? = some s[w] := List.getElem?_eq_getElem (by omega)
    have hpos := (ok.row _ (List.getElem_mem hwl)).1
    rw [visL_succ hwl hw, flow_inc j rows s _ w rows[w] s[w] (visN rows s b n w) hr ha (visL_get hwl) (by omega), ih hgn, List.range_succ, List.countP_append, List.countP_cons, List.countP_nil]
    have hnow := now_eq hs hr ha n hgn
    have hstep : (traj rows s b (n + 1)).1 = rows[w].getD ((s[w] + visN rows s b n w) % rows[w].length) 0 := by
      show ((rows.getD (traj rows s b n).1.toNat []).getD ((traj rows s b n).2.getD (traj rows s b n).1.toNat 0) 0) = _
      rw [show (traj rows s b n).1.toNat = w by omega, getD_some hr, getD_some hnow]
    rw [hstep]
    simp
theorem comeM_len (e : Nat) (rows : Rows) (s v : List Nat) : (comeM e rows s v).length = e := by
  unfold comeM
  rw [comeFold_len, List.length_replicate]
theorem come_end {e : Nat} {rows : Rows} {s : List Nat} {b n x : Nat} (ok : NetOk e rows) (hs : SetOk rows s) (hb : b < rows.length) (h : RunEnds rows s b n x) (hx : x < e) : comeM e rows s (visL rows s b n) = (List.range e).map fun i => if i = x then 1 else 0 := by
  obtain ⟨hg, hend⟩ := h
  apply List.ext_getElem?
  intro j
  by_cases hj : j < e
  · rw [List.getElem?_map, List.getElem?_range hj, List.getElem?_eq_getElem (by rw [comeM_len]; exact hj)]
    show some _ = some (if j = x then 1 else 0)
    congr 1
    have h1 : (comeM e rows s (visL rows s b n)).getD j 0 = inflow j (rows.flatten.zip (goneM rows s (visL rows s b n))) := by
      unfold comeM
      rw [fold_get _ _ j (by rw [List.length_replicate]; exact hj)]
      have : (List.replicate e 0).getD j 0 = 0 := by
        rw [List.getD_eq_getElem?_getD, List.getElem?_replicate, if_pos hj]
        rfl
      rw [this, Nat.zero_add]
    rw [inflow_vis j ok hs hb n hg] at h1
    have h2 : (comeM e rows s (visL rows s b n)).getD j 0 = (comeM e rows s (visL rows s b n))[j]'(by rw [comeM_len]; exact hj) := getD_some (List.getElem?_eq_getElem (by rw [comeM_len]; exact hj))
    rw [← h2, h1]
    cases n with
    | zero =>
      have : (traj rows s b 0).1 = (b : Int) := rfl
      omega
    | succ n =>
      rw [List.range_succ, List.countP_append, List.countP_cons, List.countP_nil, hend]
      have h3 : (List.range n).countP (fun k => decide ((traj rows s b (k + 1)).1 = -1 - (j : Int))) = 0 := by
        rw [List.countP_eq_zero]
        intro k hk
        have := hg (k + 1) (by have := List.mem_range.mp hk; omega)
        simp
        omega
      rw [h3]
      by_cases hjx : j = x
      · subst hjx
        simp
      · rw [if_neg hjx, if_neg (by simp; omega)]
  · rw [List.getElem?_eq_none (by rw [comeM_len]; omega), List.getElem?_eq_none (by simp; omega)]
end Fp
end part_N3
section part_W6
set_option maxHeartbeats 2000000
namespace Fp
open PySem PySem.Spec PyProof.Rows L2 Evl
theorem nat_list (ms : List Int) (h : ∀ k ∈ ms, ∃ n : Nat, k = (n : Int)) : ∃ ns : List Nat, ms = ns.map fun n : Nat => (n : Int) := by
  refine ⟨ms.map Int.toNat, ?_⟩
  rw [List.map_map]
  conv => lhs; rw [← List.map_id ms]
  refine List.map_congr_left fun a ha => ?_
  obtain ⟨n, rfl⟩ := h a ha
  rfl
theorem mem_cast {ns : List Nat} {q : Nat} : (q : Int) ∈ ns.map (fun n : Nat => (n : Int)) ↔ q ∈ ns := by
  rw [List.mem_map]
  exact ⟨fun ⟨a, h1, h2⟩ => by rwa [show q = a by omega], fun h => ⟨q, h, rfl⟩⟩
theorem IsU.updL {H : Hp} {v : V} {xs : List Int} {l : Addr} {ys : List V} {o : HO} (h : IsU H v xs) (hl : H l = some (.lst ys)) : IsU (upd H l o) v xs := by
  obtain ⟨a, rfl, ha⟩ := h
  refine ⟨a, rfl, ?_⟩
  rw [upd_ne]
  · exact ha
  · rintro rfl
    rw [hl] at ha
    cases ha
theorem range_one {n x : Nat} (hx : x < n) : (List.range n).filter (fun i => decide (i = x)) = [x] := by
  induction n with
  | zero => omega
  | succ n ih =>
    rw [List.range_succ, List.filter_append]
    by_cases h : x = n
    · subst h
      have : (List.range x).filter (fun i => decide (i = x)) = [] := by
        rw [List.filter_eq_nil_iff]
        intro a ha
        have := List.mem_range.mp ha
        simp
        omega
      rw [this]
      simp
    · rw [ih (by omega)]
      simp
      omega
theorem walk_range0 {n : Nat} : Walk (Itr 0 n) n (fun _ => True) (YFn fun i => .int (i : Int)) :=
  ⟨fun _ _ hi _ => hi, fun _ _ => Nat.le_refl _, fun i H x H' _ _ y => ⟨y.1, y.2.trans (show V.int (0 + (i : Int)) = V.int (i : Int) by rw [Int.zero_add])⟩⟩
def spToEnds (CN : Addr) : Sp := fun vs H Q _ => ∃ (p : Addr) (e : Nat) (rows : Rows), vs = [.ref p] ∧ NetAt CN H p e rows ∧ rows.length ≤ 10 ∧ (∀ r ∈ rows, r.length ≤ 6) ∧ e ≤ 6 ∧
  ∀ H' l (ns : List Nat), Ex H H' → H l = none → H' l = some (.lst (nI ns)) → (∀ q, q ∈ ns ↔ LeadsE e rows q) → ns.length ≤ 60 → Q (.ref l) H'
def spLost (CN : Addr) : Sp := fun vs H Q _ => ∃ (p : Addr) (e : Nat) (rows : Rows), vs = [.ref p] ∧ NetAt CN H p e rows ∧ rows.length ≤ 10 ∧ (∀ r ∈ rows, r.length ≤ 6) ∧ e ≤ 6 ∧
  ∀ H' l (ns : List Nat), Ex H H' → H l = none → H' l = some (.lst (nI ns)) → (∀ q, q < rows.length → (q ∈ ns ↔ ¬ LeadsE e rows q)) → Q (.ref l) H'
def yardF (n : Addr) (b : Nat) : List (Str × V) := putF "own_begin" (.int (b : Int)) (putF "own_net" (.ref n) [])
theorem kBN : ¬ (("own_begin" : Str) = "own_net") := by decide +kernel
theorem yardF_net (n : Addr) (b : Nat) : (yardF n b).lookup ("own_net" : Str) = some (.ref n) := by
  unfold yardF
  rw [lookup_putF, if_neg (Ne.symm kBN), lookup_putF, if_pos rfl]
theorem yardF_begin (n : Addr) (b : Nat) : (yardF n b).lookup ("own_begin" : Str) = some (.int (b : Int)) := by
  unfold yardF
  rw [lookup_putF, if_pos rfl]
def YardAt (CN CY : Addr) (H : Hp) (p : Addr) (e : Nat) (rows : Rows) (b : Nat) : Prop := ∃ dx n, H p = some (.ins CY dx (yardF n b)) ∧ NetAt CN H n (e + 1) (yardRows e rows)
theorem YardAt.mono {CN CY : Addr} {H H' : Hp} {p : Addr} {e b : Nat} {rows : Rows} (k : Ex H H') (h : YardAt CN CY H p e rows b) : YardAt CN CY H' p e rows b :=
  let ⟨dx, n, h1, h2⟩ := h
  ⟨dx, n, k _ _ h1, h2.mono k⟩
def spYardI (CN CY : Addr) : Sp := fun vs H Q _ => ∃ (p dx q : Addr) (e b : Nat) (rows : Rows), vs = [.ref p, .ref q, .int (b : Int)] ∧ H p = some (.ins CY dx []) ∧ NetAt CN H q e rows ∧ NetOk e rows ∧ e ≤ 5 ∧
  ∀ H', (∀ c o, c ≠ p → H c = some o → H' c = some o) → YardAt CN CY H' p e rows b → Q .non H'
def spYSet (CN CY : Addr) : Sp := fun vs H Q _ => ∃ (y a : Addr) (e b : Nat) (rows : Rows) (s : List Nat), vs = [.ref y, .ref a] ∧ YardAt CN CY H y e rows b ∧ H a = some (.lst (nI s)) ∧ rows.length ≤ 10 ∧ s.length = rows.length ∧
  ∀ H' l, Ex H H' → H l = none → H' l = some (.lst (nI (toldM (yardRows e rows) s))) → Q (.ref l) H'
def spYVis (CN CY : Addr) : Sp := fun vs H Q _ => ∃ (y a : Addr) (e b : Nat) (rows : Rows) (s : List Nat), vs = [.ref y, .ref a] ∧ YardAt CN CY H y e rows b ∧ H a = some (.lst (nI s)) ∧ NetOk e rows ∧ SetOk rows s ∧ b < rows.length ∧ e ≤ 5 ∧
  ∀ H' l n x, Ex H H' → H l = none → x < e + 1 → RunEnds (yardRows e rows) (toldM (yardRows e rows) s) b n x → H' l = some (.lst (nI (visL (yardRows e rows) (toldM (yardRows e rows) s) b n))) → Q (.ref l) H'
def spYEnd (CN CY : Addr) : Sp := fun vs H Q _ => ∃ (y a : Addr) (e b : Nat) (rows : Rows) (s : List Nat), vs = [.ref y, .ref a] ∧ YardAt CN CY H y e rows b ∧ H a = some (.lst (nI s)) ∧ NetOk e rows ∧ SetOk rows s ∧ b < rows.length ∧ e ≤ 5 ∧
  ∀ H' (x : Nat), Ex H H' → YEnd e rows s b x → Q (.int (x : Int)) H'
section
variable {P : Program} {w : World} {K : PySem.W.Frag} {mg : Str → Option Value} {base : Heap} {CN CY : Addr}
abbrev s_points_to_ends : Stmt := (topS 34)
theorem sc_points_to_ends : FnScope ["net", "found", "end"] ["net"] (defScope s_points_to_ends) := ⟨rfl, rfl, rfl, by decide +kernel, rfl, by decide +kernel, by decide +kernel⟩
theorem ok_points_to_ends (F : FunG K mg "points_to_ends" s_points_to_ends ["net"]) (T : Txt K mg CN CY) (c_points_to : Cal P w K mg base "points_to" ["net", "target"] 1 (spTo CN)) : Cal P w K mg base "points_to_ends" ["net"] 2 (spToEnds CN) := by
  refine F.cal fun f fd F => F.ok sc_points_to_ends (fun vs H Q E h => ?_) (fun cdv A outer s H vs Q E hr h => ?_)
  · obtain ⟨p, e, rows, rfl, _⟩ := h
    rfl
  · obtain ⟨p, e, rows, rfl, hN, hl, h6, he, k⟩ := h
    have hN' := hN
    obtain ⟨dx, fl, ex, tg, fi, hp, _, _, hn⟩ := hN
    refine ⟨_, (pss_cons (ps_set (i := 1) sc_points_to_ends.nd rfl (Or.inl rfl) (pe_lst pa_nil))
      (pss_cons (ps_for PassesOwn.never rfl (pi_range1 (by rfl) T.m_range (pa_cons (pe_fld (pv 0) rfl) pa_nil)) (pg_name (i := 2) sc_points_to_ends.nd rfl (Or.inl rfl)) (pss_one (ps_expr (pe_bm PySem.F.plainAttrs_list PySem.F.slot_list_extend PySem.F.type_list_extend mt_extend (pv 1) (pa_cons (pe_cal c_points_to (hr.mono (by decide)) (by rfl) (pa_cons (pv 0) (pa_cons (pe_op op_sub (pe_un un_neg pe_int) (pv 2)) pa_nil))) pa_nil)))))
      (pss_one (ps_ret (pe_sortedSet (by rfl) T.m_sorted (by rfl) T.m_set (pv 1)))))), ?_⟩
    refine ⟨by show 0 ≤ sizeLine; decide, fun f hf => ?_⟩
    have e0 : Ex H (upd H f (.lst [])) := Ex.new hf
    refine ⟨_, rfl, p, CN, dx, _, _, rfl, e0 _ _ hp, T.clN, T.nE, layF_ends _ _ _ _ _, _, rfl, by omega, by omega, for_it walk_range (fun i σ H' => ∃ (fs : List Nat) (x : Option V), σ = [some (.ref p), some (.ref f), x] ∧ Ex H H' ∧ H' f = some (.lst (nI fs)) ∧ fs.length ≤ 10 * i ∧ ∀ q, q ∈ fs ↔ ∃ x : Nat, x < i ∧ Leads rows (-1 - (x : Int)) q) ⟨[], none, rfl, e0, upd_same, Nat.le_refl _, fun q => ⟨fun h => by simp at h, fun ⟨x, h, _⟩ => by omega⟩⟩ (fun i σ H' _ _ => trivial) ?_ ?_⟩
    · rintro i x σ H1 H2 hi ⟨fs, x1, rfl, e1, hfs, hlen, hmem⟩ ⟨rfl, rfl⟩
      refine ⟨_, rfl, .inl ⟨rfl, _, SqL.of hfs⟩, _, rfl, _, rfl, _, rfl, _, _, rfl, rfl, p, e, rows, _, rfl, hN'.mono e1, hl, h6, fun H3 l ns e2 hl0 hns hm hnl => ?_⟩
      refine ⟨f, l, _, _, rfl, rfl, e2 _ _ hfs, hns, sz_of (by rw [nI_len, nI_len]; omega), ?_⟩
      refine ⟨fs ++ ns, _, rfl, Ex.mut (e1.trans e2) hf, by rw [upd_same, nI_app], by rw [List.length_append]; omega, fun q => ?_⟩
      rw [List.mem_append, hmem, hm]
      rw [show (-(1 : Int) - (0 + (i : Int))) = -1 - (i : Int) by omega]
      constructor
      · rintro (⟨x, h1, h2⟩ | h)
        · exact ⟨x, by omega, h2⟩
        · exact ⟨i, by omega, h⟩
      · rintro ⟨x, h1, h2⟩
        by_cases hxi : x = i
        · subst hxi
          exact .inr h2
        · exact .inl ⟨x, by omega, h2⟩
    · rintro σ H1 ⟨fs, x1, rfl, e1, hfs, hlen, hmem⟩
      rw [show (e : Int).toNat = e from rfl] at hlen hmem
      refine ⟨_, rfl, f, fs.map fun n : Nat => (n : Int), rfl, SqL.of (by rw [← nI_map]; exact hfs), by rw [List.length_map]; omega, fun ms l hm hml hl0 => ?_⟩
      obtain ⟨ns, rfl⟩ := nat_list ms fun k hk => by
        obtain ⟨n, _, rfl⟩ := List.mem_map.mp ((hm k).mp hk)
        exact ⟨n, rfl⟩
      rw [List.length_map, List.length_map] at hml
      refine k _ l ns (e1.trans (Ex.new hl0)) (fresh_back e1 hl0) (by rw [upd_same, nI_map]) (fun q => ?_) (by omega)
      have := hm (q : Int)
      rw [mem_cast, mem_cast] at this
      rw [this, hmem]
      rfl
abbrev s_lost_by_net : Stmt := (topS 65)
theorem sc_lost_by_net : FnScope ["net", "leading", "point"] ["net"] (defScope s_lost_by_net) := ⟨rfl, rfl, rfl, by decide +kernel, rfl, by decide +kernel, by decide +kernel⟩
theorem ok_lost_by_net (F : FunG K mg "lost_by_net" s_lost_by_net ["net"]) (T : Txt K mg CN CY) (c_points_to_ends : Cal P w K mg base "points_to_ends" ["net"] 2 (spToEnds CN)) : Cal P w K mg base "lost_by_net" ["net"] 3 (spLost CN) := by
  refine F.cal fun f fd F => F.ok sc_lost_by_net (fun vs H Q E h => ?_) (fun cdv A outer s H vs Q E hr h => ?_)
  · obtain ⟨p, e, rows, rfl, _⟩ := h
    rfl
  · obtain ⟨p, e, rows, rfl, hN, hl, h6, he, k⟩ := h
    have hN' := hN
    obtain ⟨dx, fl, ex, tg, fi, hp, _, _, hn⟩ := hN
    obtain ⟨us, hex, hus⟩ := hn.ex
    have hlu : us.length = rows.length := hus.len
    refine ⟨_, (pss_cons (ps_set (i := 1) sc_lost_by_net.nd rfl (Or.inr rfl) (pe_cal c_points_to_ends (hr.mono (by decide)) (by rfl) (pa_cons (pv 0) pa_nil)))
      (pss_one (ps_ret (pe_lc (own := [("point", 2)]) (by rfl) sc_lost_by_net.nd (pi_range1 (by rfl) T.m_range (pa_cons (pe_callB (r := rLenS K) call_len_seq (by rfl) T.m_len PySem.boot_len (pa_cons (pe_fld (pv 0) rfl) pa_nil)) pa_nil)) (blkOk_by (N := ["net", "leading", "point"]) (sc := defScope s_lost_by_net) (own := [("point", 2)]) (by decide +kernel)) (fun _ _ _ _ _ => (pg_name (i := 2) sc_lost_by_net.nd rfl (Or.inl rfl))) (fun _ _ _ _ _ => (pts_one (pt_cmpR (r := rIn K true) op_notIn_seq (pv 2) (pv 1) (by rfl)))) (fun _ _ _ _ _ => (pv 2)))))), ?_⟩
    refine ⟨_, rfl, p, e, rows, rfl, hN', hl, h6, he, fun H1 l ls e1 hl0 hls hm hll => ?_⟩
    refine ⟨_, rfl, p, CN, dx, _, _, rfl, e1 _ _ hp, T.clN, T.nX, layF_exits _ _ _ _ _, _, _, rfl, .inr (SqT.of (e1 _ _ hex)), _, rfl, by omega, by omega, fun D hD => lcV walk_range0 hD (by omega) (fun i => !decide (i ∈ ls)) (fun i => .int (i : Int)) (fun H2 _ => trivial) (fun i x H2 H3 Ky Kn hi e2 hY ky kn => ?_) fun H2 e2 hy => ?_⟩
    · obtain ⟨rfl, rfl⟩ := hY
      refine ⟨rfl, _, rfl, _, rfl, l, _, rfl, .inl (SqL.of (e2 _ _ hls)), rfl, flat_nat ls, _, rfl, ?_⟩
      rw [if_pos rfl, inV_nat]
      cases hb : !decide (i ∈ ls) with
      | true => exact iteT ⟨_, rfl, ky _ hb (Ex.refl _)⟩
      | false => exact iteF (kn _ hb (Ex.refl _))
    · rw [hlu, show ((rows.length : Nat) : Int).toNat = rows.length from rfl] at hy
      refine k _ D ((List.range rows.length).filter fun i => !decide (i ∈ ls)) (e1.trans e2) (fresh_back e1 hD) hy fun q hq => ?_
      rw [List.mem_filter, List.mem_range, ← hm q]
      simp [hq]
abbrev s_Yard_init : Stmt := (inClass (topS 73) 0)
theorem sc_Yard_init : FnScope ["self", "net", "begin", "lost", "rows", "point", "exits"] ["self", "net", "begin"] (defScope s_Yard_init) := ⟨rfl, rfl, rfl, by decide +kernel, rfl, by decide +kernel, by decide +kernel⟩
theorem ok_Yard_init (F : ∃ f fd, Fun K "__init__" "Yard.__init__" s_Yard_init f fd ∧ Mk K CY f ∧ Binds K fd ["self", "net", "begin"] []) (T : Txt K mg CN CY) (c_lost_by_net : Cal P w K mg base "lost_by_net" ["net"] 3 (spLost CN))
    (c_ends : PCal P w K mg base CN "ends" 1 (spEnds CN)) (c_net_made : Cal P w K mg base "net_made" ["ends", "rows"] 7 (spMade CN)) : MkCal P w K mg base "Yard" CY ["self", "net", "begin"] 8 (spYardI CN CY) := by
  obtain ⟨f, fd, F, M, hb⟩ := F
  refine ⟨f, fd, F.ok sc_Yard_init (fun vs H Q E h => ?_) (fun cdv A outer s H vs Q E hr h => ?_), M, T.mgY, hb⟩
  · obtain ⟨p, dx, q, e, b, rows, rfl, _⟩ := h
    rfl
  · obtain ⟨p, dy, q, e, b, rows, rfl, hp, hN, ok, he, k⟩ := h
    have hN' := hN
    obtain ⟨dx, fl, ex, tg, fi, hq, _, _, hn⟩ := hN
    obtain ⟨us, hex, hus⟩ := hn.ex
    have hlu : us.length = rows.length := hus.len
    have h3 := ok.pts3
    refine ⟨_, (pss_cons (ps_set (i := 3) sc_Yard_init.nd rfl (Or.inl rfl) (pe_cal c_lost_by_net (hr.mono (by decide)) (by rfl) (pa_cons (pv 1) pa_nil)))
      (pss_cons (ps_set (i := 4) sc_Yard_init.nd rfl (Or.inl rfl) (pe_lst pa_nil))
      (pss_cons (ps_for PassesOwn.never rfl (pi_enumK true (by rfl) T.m_enumerate (pa_cons (pe_fld (pv 1) rfl) pa_nil)) (pg_tup rfl (pgs_cons (pg_name (i := 5) sc_Yard_init.nd rfl (Or.inl rfl)) (pgs_cons (pg_name (i := 6) sc_Yard_init.nd rfl (Or.inl rfl)) pgs_nil))) (pss_one (ps_expr (pe_bm PySem.F.plainAttrs_list PySem.F.slot_list_append PySem.F.type_list_append mt_append (pv 4) (pa_cons (pe_ifExp (pt_cmpR (r := rIn K false) op_in_seq (pv 5) (pv 3) (by rfl)) (pe_tup (pa_cons (pe_op op_sub (pe_un un_neg pe_int) (pe_pcal T.clN c_ends (hr.mono (by decide)) (pv 1))) pa_nil)) (pv 6)) pa_nil)))))
      (pss_cons (ps_fld (pv 0) (pe_cal c_net_made (hr.mono (by decide)) (by rfl) (pa_cons (pe_op op_add (pe_pcal T.clN c_ends (hr.mono (by decide)) (pv 1)) pe_int) (pa_cons (pv 4) pa_nil))) rfl)
      (pss_one (ps_fld (pv 0) (pv 2) rfl)))))), ?_⟩
    refine ⟨_, rfl, q, e, rows, rfl, hN', by omega, fun r hr => by have := (ok.row r hr).2.1; omega, by omega, fun H1 l ls e1 hl0 hls hm => ?_⟩
    refine ⟨by show 0 ≤ sizeLine; decide, fun rl hrl => ?_⟩
    have hrl0 : H rl = none := fresh_back e1 hrl
    have e2 : Ex H (upd H1 rl (.lst [])) := e1.trans (Ex.new hrl)
    have hlr : l ≠ rl := ne_of_none hls hrl
    refine ⟨_, rfl, q, CN, dx, _, _, rfl, e2 _ _ hq, T.clN, T.nX, layF_exits _ _ _ _ _, _, _, rfl, SqK.t (e2 _ _ hex), for_it walk_enumK (fun i σ H' => ∃ (xs : List V) (x1 x2 : Option V), σ = [some (.ref p), some (.ref q), some (.int (b : Int)), some (.ref l), some (.ref rl), x1, x2] ∧ Ex H H' ∧ H' l = some (.lst (nI ls)) ∧ H' rl = some (.lst xs) ∧ All2 (IsU H') xs ((yardRows e rows).take i)) ⟨[], none, none, rfl, e2, by rw [upd_ne hlr]; exact hls, upd_same, .nil⟩ (fun i σ H' _ ⟨_, _, _, _, e3, _⟩ => SqK.t (e3 _ _ hex)) ?_ ?_⟩
    · rintro i x σ H2 H3 hi ⟨xs, x1, x2, rfl, e3, hl3, hr3, hxs⟩ ⟨Tt, y1, y2, rfl, hT, rfl, hy1, hy2⟩
      cases hy1
      obtain ⟨r, hri, rb, rfl, hrb⟩ := hus.getl hy2
      have hir : i < rows.length := (List.getElem?_eq_some_iff.mp hri).1
      have e4 : Ex H2 (upd H2 Tt (.tup [.int (i : Int), .ref rb])) := Ex.new hT
      have hxl : xs.length ≤ 10 := by
        rw [hxs.len, List.length_take]
        omega
      refine ⟨Tt, _, rfl, SqT.of upd_same, rfl, _, _, rfl, _, _, rfl, rfl, ?_⟩
      refine ⟨_, rfl, .inl ⟨rfl, _, SqL.of (e4 _ _ hr3)⟩, _, rfl, _, rfl, l, _, rfl, .inl (SqL.of (e4 _ _ hl3)), rfl, flat_nat ls, _, rfl, ?_⟩
      rw [if_neg (by decide), inV_nat]
      have fin : ∀ (v : V) (H4 : Hp) (yr : List Int), Ex H2 H4 → IsU H4 v yr → (yardRows e rows)[i]? = some yr → ∃ (xs' : List V) (x1 x2 : Option V), [some (V.ref p), some (.ref q), some (.int (b : Int)), some (.ref l), some (.ref rl), some (.int (i : Int)), some (.ref rb)] = [some (.ref p), some (.ref q), some (.int (b : Int)), some (.ref l), some (.ref rl), x1, x2] ∧ Ex H (upd H4 rl (.lst (xs ++ [v]))) ∧ (upd H4 rl (.lst (xs ++ [v]))) l = some (.lst (nI ls)) ∧ (upd H4 rl (.lst (xs ++ [v]))) rl = some (.lst xs') ∧ All2 (IsU (upd H4 rl (.lst (xs ++ [v])))) xs' ((yardRows e rows).take (i + 1)) := by
        intro v H4 yr e5 hv hyr
        have hr4 := e5 _ _ hr3
        refine ⟨xs ++ [v], _, _, rfl, Ex.mut (e3.trans e5) hrl0, by rw [upd_ne hlr]; exact e5 _ _ hl3, upd_same, ?_⟩
        rw [List.take_add_one, hyr]
        exact (hxs.imp fun x r h => (h.ex e5).updL hr4).snoc (hv.updL hr4)
      rcases yardRows_get (e := e) hri with ⟨hld, hyr⟩ | ⟨hld, hyr⟩
      · have hni : i ∉ ls := fun z => (hm i hir).mp z hld
        refine itF (decide_eq_false hni) ⟨_, rfl, rl, _, _, rfl, rfl, e4 _ _ hr3, sz_lt (by omega), ?_⟩
        exact fin _ _ r e4 ⟨rb, rfl, (e3.trans e4) _ _ hrb⟩ hyr
      · have hni : i ∈ ls := (hm i hir).mpr hld
        refine itT (decide_eq_true hni) ⟨_, rfl, _, rfl, q, dx, _, rfl, (e3.trans e4) _ _ hq, q, e, rows, rfl, hN'.mono (e3.trans e4), _, _, rfl, rfl, by show 1 ≤ sizeLine; decide, fun t1 ht1 => ⟨rl, _, _, rfl, rfl, Ex.new ht1 _ _ (e4 _ _ hr3), sz_lt (by omega), ?_⟩⟩
        exact fin _ _ [-1 - (e : Int)] (e4.trans (Ex.new ht1)) ⟨t1, rfl, upd_same⟩ hyr
    · rintro σ H2 ⟨xs, x1, x2, rfl, e3, hl3, hr3, hxs⟩
      rw [hlu, ← yardRows_len e rows, List.take_length] at hxs
      have oky := yardRows_ok ok
      refine ⟨_, rfl, q, dx, _, rfl, e3 _ _ hq, q, e, rows, rfl, hN'.mono e3, _, _, rfl, rfl, _, rfl, e + 1, rl, xs, yardRows e rows, rfl, hr3, hxs.imp fun v r h => ⟨true, h⟩, by have := oky.pts3; omega, fun r hr => by have := (oky.row r hr).2.1; omega, fun H3 n e4 hn3 => ?_⟩
      refine ⟨_, rfl, p, CY, dy, _, rfl, (e3.trans e4) _ _ hp, T.clY, T.nN, by show 0 < 1000; decide, ?_⟩
      refine ⟨_, rfl, _, rfl, p, CY, dy, _, rfl, upd_same, T.clY, T.nB, Nat.lt_of_le_of_lt (length_putF _ _ _) (by show 0 + 1 < 1000; decide), ?_⟩
      refine k _ (fun c o hc ho => by rw [upd_ne hc, upd_ne hc]; exact (e3.trans e4) _ _ ho) ⟨dy, n, upd_same, ?_⟩
      obtain ⟨dx3, fs3, ex3, tg3, fi3, hp3, hx3, hl3', hn3'⟩ := hn3
      have kp : ∀ {c : Addr} {o : HO}, H3 c = some o → (∀ C d f, o ≠ .ins C d f) → upd (upd H3 p (.ins CY dy (putF "own_net" (.ref n) []))) p (.ins CY dy (putF "own_begin" (.int (b : Int)) (putF "own_net" (.ref n) []))) c = some o := fun {c o} hc ho => by
        have hcp : c ≠ p := by
          rintro rfl
          rw [(e3.trans e4) _ _ hp] at hc
          cases hc
          exact ho _ _ _ rfl
        rw [upd_ne hcp, upd_ne hcp]
        exact hc
      have hnp : n ≠ p := by
        rintro rfl
        rw [(e3.trans e4) _ _ hp] at hp3
        injection hp3 with hp3
        injection hp3 with _ _ h
        have := layF_ends ((e + 1 : Nat) : Int) ex3 tg3 fi3 fs3
        rw [← h] at this
        cases this
      obtain ⟨vs3, hv3, hvs3⟩ := hn3'.ex
      refine ⟨dx3, fs3, ex3, tg3, fi3, by rw [upd_ne hnp, upd_ne hnp]; exact hp3, hx3, hl3', ⟨vs3, kp hv3 (by intros; simp), hvs3.imp fun v r ⟨c, ec, hc⟩ => ⟨c, ec, kp hc (by intros; simp)⟩⟩, kp hn3'.tg (by intros; simp), kp hn3'.fi (by intros; simp)⟩
abbrev s_yard_setting : Stmt := (topS 74)
theorem sc_yard_setting : FnScope ["yard", "setting", "one", "exits"] ["yard", "setting"] (defScope s_yard_setting) := ⟨rfl, rfl, rfl, by decide +kernel, rfl, by decide +kernel, by decide +kernel⟩
theorem ok_yard_setting (F : FunG K mg "yard_setting" s_yard_setting ["yard", "setting"]) (T : Txt K mg CN CY) : Cal P w K mg base "yard_setting" ["yard", "setting"] 1 (spYSet CN CY) := by
  refine F.cal fun f fd F => F.ok sc_yard_setting (fun vs H Q E h => ?_) (fun cdv A outer s H vs Q E hr h => ?_)
  · obtain ⟨y, a, e, b, rows, st, rfl, _⟩ := h
    rfl
  · obtain ⟨y, a, e, b, rows, st, rfl, ⟨dy, n, hy, dx, fl, ex, tg, fi, hp, _, _, hn⟩, ha, hl, hls, k⟩ := h
    obtain ⟨us, hex, hus⟩ := hn.ex
    have hlu : us.length = rows.length := by rw [hus.len, yardRows_len]
    refine ⟨_, (pss_one (ps_ret (pe_lc (own := [("one", 2), ("exits", 3)]) (g := gTup K 2 (gCons (gName 2) (gCons (gName 3) gNil))) (by rfl) sc_yard_setting.nd (pi_zipK false true (by rfl) T.m_zip (pa_cons (pv 1) (pa_cons (pe_fld (pe_fld (pv 0) rfl) rfl) pa_nil))) (blkOk_by (N := ["yard", "setting", "one", "exits"]) (sc := defScope s_yard_setting) (own := [("one", 2), ("exits", 3)]) (by decide +kernel)) (fun _ _ _ _ _ => (pg_tup rfl (pgs_cons (pg_name (i := 2) sc_yard_setting.nd rfl (Or.inl rfl)) (pgs_cons (pg_name (i := 3) sc_yard_setting.nd rfl (Or.inl rfl)) pgs_nil)))) (fun _ _ _ _ _ => pts_nil) (fun _ _ _ _ _ => (pe_ifExp (pt_cmpR op_gt (pe_callB (r := rLenS K) call_len_seq (by rfl) T.m_len PySem.boot_len (pa_cons (pv 3) pa_nil)) pe_int (nomark _)) (pv 2) pe_int))))), ?_⟩
    refine ⟨_, rfl, _, rfl, y, CY, dy, _, _, rfl, hy, T.clY, T.nN, yardF_net _ _, n, CN, dx, _, _, rfl, hp, T.clN, T.nX, layF_exits _ _ _ _ _, a, ex, _, _, rfl, SqK.l ha, SqK.t hex, fun D hD => lcA (walk_zipK rfl) hD (by rw [nI_len]; omega) (atD (st.zip (yardRows e rows)) fun q => .int (((if q.2.length > 1 then q.1 else 0) : Nat) : Int)) (fun H2 e2 => ⟨SqK.l (e2 _ _ ha), SqK.t (e2 _ _ hex)⟩) (fun i x H2 H3 Ky hi e2 hY ky => ?_) fun H2 e2 hy2 => ?_⟩
    · obtain ⟨Tt, x, y, rfl, hT, rfl, hx, hy⟩ := hY
      obtain ⟨m, hm, rfl⟩ := nI_get hx
      obtain ⟨r, hri, rb, rfl, hrb⟩ := hus.getl hy
      have e3 : Ex H2 (upd H2 Tt (.tup [.int (m : Int), .ref rb])) := Ex.new hT
      rw [atD_some (a := (m, r)) (List.getElem?_zip_eq_some.mpr ⟨hm, hri⟩)] at ky
      refine ⟨Tt, _, rfl, SqT.of upd_same, rfl, _, _, rfl, _, _, rfl, rfl, rfl, _, rfl, _, _, rfl, .inr (SqT.of ((e2.trans e3) _ _ hrb)), _, _, rfl, rfl, _, rfl, ?_⟩
      refine ite2 (fun q => ⟨_, rfl, ?_⟩) (fun q => ?_)
      · have q' : r.length > 1 := by
          have := of_decide_eq_true q
          rw [List.length_map] at this
          omega
        rw [if_pos (show (m, r).2.length > 1 from q')] at ky
        exact ky _ e3
      · have q' : ¬ r.length > 1 := fun z => q (decide_eq_true (by rw [List.length_map]; omega))
        rw [if_neg (show ¬ (m, r).2.length > 1 from q')] at ky
        exact ky _ e3
    · rw [range_atD (by rw [nI_len, List.length_zip, yardRows_len, hlu])] at hy2
      refine k _ D e2 hD ?_
      rw [hy2]
      unfold toldM nI
      rw [List.map_map]
      rfl
abbrev s_yard_visits : Stmt := (topS 75)
theorem sc_yard_visits : FnScope ["yard", "setting", "net", "told", "where", "nexts", "tracks", "visits", "track", "point"] ["yard", "setting"] (defScope s_yard_visits) := ⟨rfl, rfl, rfl, by decide +kernel, rfl, by decide +kernel, by decide +kernel⟩
theorem ok_yard_visits (F : FunG K mg "yard_visits" s_yard_visits ["yard", "setting"]) (T : Txt K mg CN CY) (c_yard_setting : Cal P w K mg base "yard_setting" ["yard", "setting"] 1 (spYSet CN CY)) (c_run_by : Cal P w K mg base "run_by" ["net", "setting", "begin", "most"] 2 (spRun CN))
    (c_point_by : Cal P w K mg base "point_by" ["net", "track"] 1 (spPointBy CN)) : Cal P w K mg base "yard_visits" ["yard", "setting"] 3 (spYVis CN CY) := by
  refine F.cal fun f fd F => F.ok sc_yard_visits (fun vs H Q E h => ?_) (fun cdv A outer s H vs Q E hr h => ?_)
  · obtain ⟨y, a, e, b, rows, st, rfl, _⟩ := h
    rfl
  · obtain ⟨y, a, e, b, rows, st, rfl, hY, ha, ok, hs, hb, he, k⟩ := h
    have hY' := hY
    obtain ⟨dy, n, hy, hN⟩ := hY
    have hN' := hN
    obtain ⟨dx, fl, ex, tg, fi, hp, _, _, hn⟩ := hN
    obtain ⟨us, hex, hus⟩ := hn.ex
    have hlu : us.length = rows.length := by rw [hus.len, yardRows_len]
    have hp3 := ok.pts3
    have oky := yardRows_ok ok
    have hto := told_ok ok hs
    obtain ⟨nn, x, h400, hx, hrun⟩ := yard_ends ok hs hb
    generalize htl : toldM (yardRows e rows) st = told at hto hrun k
    refine ⟨_, (pss_cons (ps_par (i := 2) (j := 3) (by rfl) sc_yard_visits.nd rfl rfl (by decide) rfl rfl (pa_cons (pe_fld (pv 0) rfl) (pa_cons (pe_cal c_yard_setting (hr.mono (by decide)) (by rfl) (pa_cons (pv 0) (pa_cons (pv 1) pa_nil))) pa_nil)) (by rfl))
      (pss_cons (ps_asg (pe_cal c_run_by (hr.mono (by decide)) (by rfl) (pa_cons (pv 2) (pa_cons (pv 3) (pa_cons (pe_fld (pv 0) rfl) (pa_cons (pe_cst (by rfl) T.MOST_STEPS) pa_nil))))) (pg_tup rfl (pgs_cons (pg_name (i := 4) sc_yard_visits.nd rfl (Or.inl rfl)) (pgs_cons (pg_name (i := 5) sc_yard_visits.nd rfl (Or.inl rfl)) (pgs_cons (pg_name (i := 6) sc_yard_visits.nd rfl (Or.inl rfl)) pgs_nil)))))
      (pss_cons (ps_if (pt_cmpR op_ge (pv 4) pe_int (nomark _)) pss_never pss_nil)
      (pss_cons (ps_set (i := 7) sc_yard_visits.nd rfl (Or.inl rfl) (pe_op op_rep (pe_lst (pa_cons pe_int pa_nil)) (pe_callB (r := rLenS K) call_len_seq (by rfl) T.m_len PySem.boot_len (pa_cons (pe_fld (pv 2) rfl) pa_nil))))
      (pss_cons (ps_for PassesOwn.never rfl (pi_seqK false (pv 6)) (pg_name (i := 8) sc_yard_visits.nd rfl (Or.inl rfl)) (pss_cons (ps_set (i := 9) sc_yard_visits.nd rfl (Or.inl rfl) (pe_cal c_point_by (hr.mono (by decide)) (by rfl) (pa_cons (pv 2) (pa_cons (pv 8) pa_nil))))
      (pss_one (ps_asg (pe_op op_add (pe_ix (r := rIxL K) ix_list (pv 7) (pv 9) (fun _ _ => rfl)) pe_int) (pg_sub (pv 7) (pv 9) set_list)))))
      (pss_one (ps_ret (pv 7)))))))), ?_⟩
    refine ⟨_, rfl, y, CY, dy, _, _, rfl, hy, T.clY, T.nN, yardF_net _ _, _, rfl, _, rfl, y, a, e, b, rows, st, rfl, hY', ha, by omega, All2.len hs, fun H1 l e1 hl0 hl => ⟨_, _, rfl, ?_⟩⟩
    rw [htl] at hl
    refine ⟨_, rfl, _, rfl, _, rfl, y, CY, dy, _, _, rfl, e1 _ _ hy, T.clY, T.nB, yardF_begin _ _, n, l, e + 1, yardRows e rows, told, b, nn, x, rfl, hN'.mono e1, hl, hto, by rw [yardRows_len]; exact hb, fun r hr t ht => ((oky.row r hr).2.2 t ht).2, hrun, h400, fun H2 t ns tr e2 ht htr => ?_⟩
    refine ⟨t, _, rfl, SqT.of ht, rfl, _, _, rfl, _, _, rfl, _, _, rfl, rfl, ?_⟩
    refine ⟨_, rfl, _, _, rfl, rfl, _, rfl, itF (decide_eq_false (by omega)) ?_⟩
    have e3 := e1.trans e2
    refine ⟨by show 1 ≤ sizeLine; decide, fun z hz => ?_⟩
    have e4 : Ex H2 (upd H2 z (.lst [.int 0])) := Ex.new hz
    refine ⟨_, rfl, n, CN, dx, _, _, rfl, (e3.trans e4) _ _ hp, T.clN, T.nX, layF_exits _ _ _ _ _, _, _, rfl, .inr (SqT.of ((e3.trans e4) _ _ hex)), z, _, _, rfl, rfl, upd_same, by omega, by omega, sz_of (by show 1 * _ ≤ _; omega), fun v hv => ?_⟩
    have e5 : Ex H2 (upd (upd H2 z (.lst [.int 0])) v (.lst (List.replicate ((us.length : Nat) : Int).toNat [V.int 0]).flatten)) := e4.trans (Ex.new hv)
    have hv0 : H v = none := fresh_back (e3.trans e4) hv
    have hrep : (List.replicate ((us.length : Nat) : Int).toNat [V.int 0]).flatten = nI (visL (yardRows e rows) told b 0) := by
      rw [show ((us.length : Nat) : Int).toNat = us.length from rfl, hlu]
      have h1 : visL (yardRows e rows) told b 0 = List.replicate rows.length 0 := by
        unfold visL visN
        rw [yardRows_len]
        show (List.range rows.length).map (fun _ => 0) = _
        rw [List.map_const', List.length_range]
      rw [h1]
      unfold nI
      rw [List.map_replicate]
      have : ∀ n : Nat, (List.replicate n [V.int 0]).flatten = List.replicate n (V.int 0) := by
        intro n
        induction n with
        | zero => rfl
        | succ n ih => rw [List.replicate_succ, List.flatten_cons, ih]; rfl
      exact this rows.length
    have nvt : tr ≠ v := ne_of_none (e4 _ _ htr) hv
    refine ⟨_, rfl, tr, rfl, ⟨_, SqK.l (e5 _ _ htr)⟩, for_it walk_seqK (fun i σ H' => ∃ x8 x9, σ = [some (.ref y), some (.ref a), some (.ref n), some (.ref l), some (.int (-1 - (x : Int))), some (.ref ns), some (.ref tr), some (.ref v), x8, x9] ∧ Ex H H' ∧ H' tr = some (.lst (nI ((List.range nn).map fun m => trackN (yardRows e rows) (traj (yardRows e rows) told b m)))) ∧ H' v = some (.lst (nI (visL (yardRows e rows) told b i)))) ⟨none, none, rfl, e3.trans e5, e5 _ _ htr, by rw [upd_same, hrep]⟩ (fun i σ H' _ ⟨_, _, _, _, h, _⟩ => SqK.l h) ?_ ?_⟩
    · rintro i xx σ H3 H4 hi ⟨x8, x9, rfl, e6, htr6, hv6⟩ ⟨rfl, hxx⟩
      obtain ⟨tk, htk, rfl⟩ := nI_get hxx
      rw [List.getElem?_map] at htk
      obtain ⟨m, hm, rfl⟩ := Option.map_eq_some_iff.mp htk
      have him : i < nn := by rw [nI_len, List.length_map, List.length_range] at hi; exact hi
      rw [List.getElem?_range him] at hm
      cases hm
      have hge := hrun.1 i him
      have hlt := traj_lt hto (by rw [yardRows_len]; exact hb) (fun r hr t ht => ((oky.row r hr).2.2 t ht).2) i fun m hm => hrun.1 m (by omega)
      obtain ⟨wn, hwn⟩ : ∃ wn : Nat, (traj (yardRows e rows) told b i).1 = (wn : Int) := ⟨_, (Int.toNat_of_nonneg hge).symm⟩
      have hwl : wn < (yardRows e rows).length := by omega
      have hwl' : wn < rows.length := by rw [yardRows_len] at hwl; exact hwl
      obtain ⟨g, hg, hgr⟩ := All2.get (hto.traj (b := b) i) (List.getElem?_eq_getElem hwl)
      have htrk : trackN (yardRows e rows) (traj (yardRows e rows) told b i) = (firsts 0 (yardRows e rows)).getD wn 0 + g := by
        unfold trackN
        rw [hwn, Int.toNat_natCast, getD_some hg]
      refine ⟨_, rfl, _, rfl, n, e + 1, yardRows e rows, _, rfl, hN'.mono e6, by rw [yardRows_len]; omega, fun H5 e7 => ?_⟩
      rw [htrk, firsts_lookup (fun r hr => (oky.row r hr).1) (List.getElem?_eq_getElem hwl) hgr, show (((wn + 1 : Nat) : Int) - 1) = (wn : Int) by omega]
      have hv7 := e7 _ _ hv6
      have hvg : (visL (yardRows e rows) told b i)[wn]? = some (visN (yardRows e rows) told b i wn) := visL_get hwl
      refine ⟨_, rfl, _, rfl, v, _, _, _, rfl, rfl, SqL.of hv7, nI_at hvg, _, _, rfl, rfl, _, rfl, _, rfl, v, _, (wn : Int), wn, rfl, rfl, hv7, ixN_nat (by rw [nI_len, visL_len]; exact hwl), ?_⟩
      refine ⟨_, _, rfl, Ex.mut (e6.trans e7) hv0, by rw [upd_ne nvt]; exact e7 _ _ htr6, ?_⟩
      rw [upd_same, visL_succ hwl hwn, ← nI_set]
      rfl
    · rintro σ H3 ⟨x8, x9, rfl, e6, htr6, hv6⟩
      rw [nI_len, List.length_map, List.length_range] at hv6
      exact ⟨_, rfl, k _ v nn x e6 hv0 hx hrun hv6⟩
abbrev s_yard_end : Stmt := (topS 76)
theorem sc_yard_end : FnScope ["yard", "setting", "come", "end"] ["yard", "setting"] (defScope s_yard_end) := ⟨rfl, rfl, rfl, by decide +kernel, rfl, by decide +kernel, by decide +kernel⟩
theorem ok_yard_end (F : FunG K mg "yard_end" s_yard_end ["yard", "setting"]) (T : Txt K mg CN CY) (c_yard_setting : Cal P w K mg base "yard_setting" ["yard", "setting"] 1 (spYSet CN CY)) (c_yard_visits : Cal P w K mg base "yard_visits" ["yard", "setting"] 3 (spYVis CN CY))
    (c_come_by : Cal P w K mg base "come_by" ["net", "setting", "visits"] 3 (spCome CN)) (c_ends : PCal P w K mg base CN "ends" 1 (spEnds CN)) : Cal P w K mg base "yard_end" ["yard", "setting"] 4 (spYEnd CN CY) := by
  refine F.cal fun f fd F => F.ok sc_yard_end (fun vs H Q E h => ?_) (fun cdv A outer s H vs Q E hr h => ?_)
  · obtain ⟨y, a, e, b, rows, st, rfl, _⟩ := h
    rfl
  · obtain ⟨y, a, e, b, rows, st, rfl, hY, ha, ok, hs, hb, he, k⟩ := h
    have hY' := hY
    obtain ⟨dy, n, hy, hN⟩ := hY
    have hN' := hN
    obtain ⟨dx, fl, ex, tg, fi, hp, _, _, hn⟩ := hN
    have hp3 := ok.pts3
    have oky := yardRows_ok ok
    have hto := told_ok ok hs
    refine ⟨_, (pss_cons (ps_set (i := 2) sc_yard_end.nd rfl (Or.inr rfl) (pe_cal c_come_by (hr.mono (by decide)) (by rfl) (pa_cons (pe_fld (pv 0) rfl) (pa_cons (pe_cal c_yard_setting (hr.mono (by decide)) (by rfl) (pa_cons (pv 0) (pa_cons (pv 1) pa_nil))) (pa_cons (pe_cal c_yard_visits (hr.mono (by decide)) (by rfl) (pa_cons (pv 0) (pa_cons (pv 1) pa_nil))) pa_nil)))))
      (pss_one (ps_ret (pe_ix (r := rIxL K) ix_list (pe_lc (own := [("end", 3)]) (by rfl) sc_yard_end.nd (pi_range1 (by rfl) T.m_range (pa_cons (pe_pcal T.clN c_ends (hr.mono (by decide)) (pe_fld (pv 0) rfl)) pa_nil)) (blkOk_by (N := ["yard", "setting", "come", "end"]) (sc := defScope s_yard_end) (own := [("end", 3)]) (by decide +kernel)) (fun _ _ _ _ _ => (pg_name (i := 3) sc_yard_end.nd rfl (Or.inl rfl))) (fun _ _ _ _ _ => (pts_one (pt_cmpR op_eq (pe_ix (r := rIxL K) ix_list (pv 2) (pv 3) (fun _ _ => rfl)) pe_int (nomark _)))) (fun _ _ _ _ _ => (pv 3))) pe_int (fun _ _ => rfl))))), ?_⟩
    refine ⟨_, rfl, y, CY, dy, _, _, rfl, hy, T.clY, T.nN, yardF_net _ _, _, rfl, _, rfl, y, a, e, b, rows, st, rfl, hY', ha, by omega, All2.len hs, fun H1 l e1 hl0 hl => ?_⟩
    refine ⟨_, rfl, _, rfl, y, a, e, b, rows, st, rfl, hY'.mono e1, e1 _ _ ha, ok, hs, hb, he, fun H2 v nn x e2 hv0 hx hrun hv => ?_⟩
    refine ⟨n, l, v, e + 1, yardRows e rows, _, _, rfl, hN'.mono (e1.trans e2), e2 _ _ hl, hv, All2.len hto, visL_len _ _ _ _, by have := oky.pts3; omega, by omega, fun r hr => ⟨(oky.row r hr).1, by have := (oky.row r hr).2.1; omega, fun t ht => ((oky.row r hr).2.2 t ht).1⟩, fun H3 c e3 hc0 hc => ?_⟩
    rw [come_end oky hto (by rw [yardRows_len]; exact hb) hrun hx] at hc
    have e4 := (e1.trans e2).trans e3
    refine ⟨_, rfl, y, CY, dy, _, _, rfl, e4 _ _ hy, T.clY, T.nN, yardF_net _ _, n, dx, _, rfl, e4 _ _ hp, n, e + 1, yardRows e rows, rfl, hN'.mono e4, _, rfl, by omega, by omega, fun D hD => lcV walk_range0 hD (by omega) (fun i => decide (i = x)) (fun i => .int (i : Int)) (fun H4 _ => trivial) (fun i z H4 H5 Ky Kn hi e5 hYY ky kn => ?_) fun H4 e5 hy4 => ?_⟩
    · obtain ⟨rfl, rfl⟩ := hYY
      have hie : i < e + 1 := hi
      have hci : ((List.range (e + 1)).map fun i => if i = x then 1 else 0)[i]? = some (if i = x then 1 else 0) := by
        rw [List.getElem?_map, List.getElem?_range hie]
        rfl
      refine ⟨rfl, _, rfl, _, rfl, c, _, _, _, rfl, rfl, SqL.of (e5 _ _ hc), nI_at hci, rfl, _, rfl, ?_⟩
      by_cases hix : i = x
      · rw [if_pos hix]
        exact itT (decide_eq_true rfl) ⟨_, rfl, ky _ (decide_eq_true hix) (Ex.refl _)⟩
      · rw [if_neg hix]
        exact itF (decide_eq_false (by intro z; cases z)) (kn _ (decide_eq_false hix) (Ex.refl _))
    · rw [show (((e + 1 : Nat) : Int)).toNat = e + 1 from rfl, range_one hx] at hy4
      exact ⟨D, _, 0, _, rfl, rfl, SqL.of hy4, atI_nat (j := 0) rfl, k _ x (e4.trans e5) ⟨nn, hrun⟩⟩
end
end Fp
end part_W6
section part_W7
set_option maxHeartbeats 2000000
namespace Fp
open PySem PySem.Spec PyProof.Rows L2 Evl
/-- new objects, all different -/
theorem lcF {J : It} {n : Nat} {G : Hp → Prop} {Y : Nat → Hp → V → Hp → Prop} {g : TG} {te : TE} {vs : List Nat} {σ : L2.St} {H1 : Hp} {D : Addr} {Qd : Hp → Prop} (w : Walk J n G Y) (hD : H1 D = none) (hn : n ≤ 100000) (R : Nat → V → Hp → Prop)
    (hR : ∀ i y H H', Ex H H' → R i y H → R i y H') (hG : ∀ H, Ex H1 H → G H)
    (hs : ∀ i x H H' (Ky : V → Hp → Prop), i < n → Ex H1 H → (∃ u, H D = some u) → Y i H x H' → (∀ a H4 o, Ex H H4 → H a = none → H4 a = some o → R i (.ref a) (hide D H4) → Ky (.ref a) H4) →
      g x (wipe σ vs) H' fun σ2 H2 => wipe σ2 vs = wipe σ vs ∧ te σ2 H2 Ky)
    (hd : ∀ H ys, Ex H1 H → H D = some (.lst ys) → All2 (fun y i => R i y (hide D H)) ys (List.range n) → ys.Nodup → Qd H) :
    ∃ W : Nat → Nat → Hp → Prop, (∃ m, W 0 m (upd H1 D (.lst []))) ∧ ∀ i m H, W i m H →
      (J.stop i H ∧ Qd H) ∨ (J.go i H ∧ ∃ Nx : Hp → Prop, (∀ H', Nx H' → ∃ m', m' < m ∧ W (i + 1) m' H') ∧ ∀ x H', J.yld i H x H' → g x (wipe σ vs) H' fun σ2 H2 => wipe σ2 vs = wipe σ vs ∧ tYes σ2 H2 fun b H3 =>
        if b = true then te σ2 H3 fun y H4 => ∃ acc, H4 D = some (.lst acc) ∧ acc.length < sizeLine ∧ Nx (upd H4 D (.lst (acc ++ [y]))) else Nx H3) := by
  refine lc_it w (fun i H => Ex H1 H ∧ ∃ ys, H D = some (.lst ys) ∧ ys.length ≤ i ∧ All2 (fun y i => R i y (hide D H)) ys (List.range i) ∧ ys.Nodup ∧ ∀ y ∈ ys, ∃ a o, y = .ref a ∧ a ≠ D ∧ H a = some o) ⟨Ex.new hD, [], upd_same, Nat.le_refl _, .nil, List.nodup_nil, fun y h => by simp at h⟩ (fun i H _ p => hG H p.1) ?_ fun H p => ?_
  · rintro i x H H' hi ⟨e, ys, hy, hl, ha, hnd, hall⟩ hY
    refine hs i x H H' _ hi e ⟨_, hy⟩ hY fun a H4 o e4 ha0 ha4 hr => ⟨ys, e4 _ _ hy, sz_lt (by omega), Ex.mut (e.trans e4) hD, ys ++ [.ref a], upd_same, by rw [List.length_append]; show ys.length + 1 ≤ i + 1; omega, ?_, ?_, ?_⟩
    · rw [List.range_succ, hide_upd]
      exact (ha.imp fun y i => hR i y _ _ (hide_mono e4)).snoc hr
    · refine List.nodup_append.mpr ⟨hnd, by simp, fun y hy1 z hz he => ?_⟩
      have hz' : z = .ref a := by simpa using hz
      subst hz' he
      obtain ⟨b, o', hb, _, hb2⟩ := hall _ hy1
      cases hb
      rw [ha0] at hb2
      cases hb2
    · intro y hy1
      have haD : a ≠ D := (ne_of_none hy ha0).symm
      rcases List.mem_append.mp hy1 with h | h
      · obtain ⟨b, o', hb, hbD, hb2⟩ := hall y h
        exact ⟨b, o', hb, hbD, by rw [upd_ne hbD]; exact e4 _ _ hb2⟩
      · have : y = .ref a := by simpa using h
        exact ⟨a, o, this, haD, by rw [upd_ne haD]; exact ha4⟩
  · obtain ⟨e, ys, hy, _, ha, hnd, _⟩ := p
    exact hd H ys e hy ha hnd
theorem allStep_get (r : List Int) : ∀ (acc : List (List Nat)) (i : Nat) (s : List Nat) (k : Nat), acc[i / r.length]? = some s → (List.range r.length)[i % r.length]? = some k → (allStep acc r)[i]? = some (s ++ [k])
  | [], i, s, k, h, _ => by simp at h
  | s0 :: acc, i, s, k, h, hk => by
    have hk0 : i % r.length < r.length := by
      have := (List.getElem?_eq_some_iff.mp hk).1
      rwa [List.length_range] at this
    have hr : 0 < r.length := by omega
    rw [List.getElem?_range hk0] at hk
    cases hk
    show (List.flatMap _ (s0 :: acc))[i]? = _
    rw [List.flatMap_cons]
    by_cases hi : i < r.length
    · rw [List.getElem?_append_left (by rw [List.length_map, List.length_range]; exact hi), List.getElem?_map, List.getElem?_range hi]
      rw [Nat.div_eq_of_lt hi] at h
      cases h
      rw [Nat.mod_eq_of_lt hi]
      rfl
    · rw [List.getElem?_append_right (by rw [List.length_map, List.length_range]; omega), List.length_map, List.length_range]
      have e1 : (i - r.length) / r.length = i / r.length - 1 := Nat.sub_mul_div_of_le (n := r.length) (x := i) (p := 1) (by omega) |> fun z => by simpa using z
      have e2 : (i - r.length) % r.length = i % r.length := (Nat.mod_eq_sub_mod (by omega)).symm
      have hpos : 0 < i / r.length := Nat.div_pos (by omega) hr
      have := allStep_get r acc (i - r.length) s (i % r.length) (by
        rw [e1]
        rw [show i / r.length = (i / r.length - 1) + 1 by omega, List.getElem?_cons_succ] at h
        exact h) (by rw [e2, List.getElem?_range hk0])
      exact this
theorem rgV_nI (n : Nat) : rgV 0 (n : Int) = nI (List.range n) := by
  unfold rgV nI
  rw [show ((n : Int) - 0).toNat = n by omega]
  refine List.map_congr_left fun i _ => ?_
  show V.int (0 + (i : Int)) = V.int (i : Int)
  rw [Int.zero_add]
def IsTrip (H : Hp) (v : V) (q : Nat × Nat × Nat) : Prop := ∃ a, v = .ref a ∧ H a = some (.tup [.int (q.1 : Int), .int (q.2.1 : Int), .int (q.2.2 : Int)])
theorem IsTrip.ex {H H' : Hp} {v : V} {q : Nat × Nat × Nat} (e : Ex H H') (h : IsTrip H v q) : IsTrip H' v q := let ⟨a, h1, h2⟩ := h; ⟨a, h1, e _ _ h2⟩
theorem IsTrip.updL {H : Hp} {v : V} {q : Nat × Nat × Nat} {l : Addr} {ys : List V} {o : HO} (h : IsTrip H v q) (hl : H l = some (.lst ys)) : IsTrip (upd H l o) v q := by
  obtain ⟨a, rfl, ha⟩ := h
  refine ⟨a, rfl, ?_⟩
  rw [upd_ne]
  · exact ha
  · rintro rfl
    rw [hl] at ha
    cases ha
theorem swap_rows {H4 G : Hp} {ys : List V} {rows : Rows} {n : Nat} {r' : List Int} {rp : Addr} (hal : All2 (IsL H4) ys rows) (hnd : ys.Nodup) (hy : ys[n]? = some (.ref rp)) (hrp : G rp = some (.lst (r'.map V.int))) (hG : ∀ c o, c ≠ rp → H4 c = some o → G c = some o) : All2 (IsL G) ys (rows.set n r') := by
  refine .of_get (by rw [List.length_set, hal.len]) fun i a b ha hb => ?_
  rw [List.getElem?_set] at hb
  by_cases hin : n = i
  · subst hin
    rw [if_pos rfl] at hb
    rw [hy] at ha
    cases ha
    split at hb
    · cases hb
      exact ⟨rp, rfl, hrp⟩
    · cases hb
  · rw [if_neg hin] at hb
    obtain ⟨b', hb', c, rfl, hc⟩ := hal.getl ha
    rw [hb] at hb'
    cases hb'
    refine ⟨c, rfl, hG _ _ ?_ hc⟩
    rintro rfl
    obtain ⟨h1, h2⟩ := List.getElem?_eq_some_iff.mp ha
    obtain ⟨h3, h4⟩ := List.getElem?_eq_some_iff.mp hy
    have := (List.nodup_iff_pairwise_ne.mp hnd)
    rw [List.pairwise_iff_getElem] at this
    rcases Nat.lt_or_gt_of_ne hin with q | q
    · exact this n i h3 h1 q (by rw [h4, h2])
    · exact this i n h1 h3 q (by rw [h2, h4])
theorem swapM_eq {rows : Rows} {n i j : Nat} {r : List Int} (hr : rows[n]? = some r) (hi : i < r.length) (hj : j < r.length) : swapM rows n i j = rows.set n ((r.set i r[j]).set j r[i]) := by
  unfold swapM
  rw [getD_some hr, getD_some (List.getElem?_eq_getElem hi), getD_some (List.getElem?_eq_getElem hj)]
def spAll (CN : Addr) : Sp := fun vs H Q _ => ∃ (p : Addr) (e : Nat) (rows : Rows), vs = [.ref p] ∧ NetAt CN H p e rows ∧ NetOk e rows ∧ ∀ H' a, Ex H H' → H a = none → LLN H' a (allM rows) → Q (.ref a) H'
def spSwap (CN : Addr) : Sp := fun vs H Q _ => ∃ (p : Addr) (e n i j : Nat) (rows : Rows) (r : List Int), vs = [.ref p, .int (n : Int), .int (i : Int), .int (j : Int)] ∧ NetAt CN H p e rows ∧ NetOk e rows ∧ rows[n]? = some r ∧ i < r.length ∧ j < r.length ∧
  ∀ H' q, Ex H H' → NetAt CN H' q e (swapM rows n i j) → Q (.ref q) H'
def spSwaps (CN : Addr) : Sp := fun vs H Q _ => ∃ (p : Addr) (e : Nat) (rows : Rows), vs = [.ref p] ∧ NetAt CN H p e rows ∧ NetOk e rows ∧ ∀ H' a xs, Ex H H' → H a = none → H' a = some (.lst xs) → All2 (IsTrip H') xs (swapsM rows) → Q (.ref a) H'
section
variable {P : Program} {w : World} {K : PySem.W.Frag} {mg : Str → Option Value} {base : Heap} {CN CY : Addr}
abbrev s_all_settings : Stmt := (topS 79)
theorem sc_all_settings : FnScope ["net", "found", "exits", "one", "spot"] ["net"] (defScope s_all_settings) := ⟨rfl, rfl, rfl, by decide +kernel, rfl, by decide +kernel, by decide +kernel⟩
theorem ok_all_settings (F : FunG K mg "all_settings" s_all_settings ["net"]) (T : Txt K mg CN CY) : Cal P w K mg base "all_settings" ["net"] 1 (spAll CN) := by
  refine F.cal fun f fd F => F.ok sc_all_settings (fun vs H Q E h => ?_) (fun cdv A outer s H vs Q E hr h => ?_)
  · obtain ⟨p, e, rows, rfl, _⟩ := h
    rfl
  · obtain ⟨p, e, rows, rfl, hN, ok, k⟩ := h
    obtain ⟨dx, fl, ex, tg, fi, hp, _, _, hn⟩ := hN
    obtain ⟨us, hex, hus⟩ := hn.ex
    have hlu : us.length = rows.length := hus.len
    have h3 := ok.pts3
    refine ⟨_, (pss_cons (ps_set (i := 1) sc_all_settings.nd rfl (Or.inl rfl) (pe_lst (pa_cons (pe_lst pa_nil) pa_nil)))
      (pss_cons (ps_for PassesOwn.never rfl (pi_seqK true (pe_fld (pv 0) rfl)) (pg_name (i := 2) sc_all_settings.nd rfl (Or.inl rfl)) (pss_one (ps_setLc (i := 1) (own := [("one", 3), ("spot", 4)]) (g := gTup K 2 (gCons (gName 3) (gCons (gName 4) gNil))) (by rfl) sc_all_settings.nd rfl rfl (sw_true rfl rfl rfl (by decide +kernel)) (pi_product (by rfl) T.product (pa_cons (pv 1) (pa_cons (pe_listRg rfl (by rfl) T.m_list (prg_1 (by rfl) T.m_range (pe_callB (r := rLenS K) call_len_seq (by rfl) T.m_len PySem.boot_len (pa_cons (pv 2) pa_nil)))) pa_nil))) (blkOk_by (N := ["net", "found", "exits", "one", "spot"]) (sc := defScope s_all_settings) (own := [("one", 3), ("spot", 4)]) (by decide +kernel)) (fun _ _ _ _ _ => (pg_tup rfl (pgs_cons (pg_name (i := 3) sc_all_settings.nd rfl (Or.inl rfl)) (pgs_cons (pg_name (i := 4) sc_all_settings.nd rfl (Or.inl rfl)) pgs_nil)))) (fun _ _ _ _ _ => pts_nil) (fun _ _ _ _ _ => (pe_op op_cat (pe_callTy (T := "list") (r := rListS K) call_list_of (by rfl) T.m_list (by decide +kernel) (pa_cons (pv 3) pa_nil)) (pe_lst (pa_cons (pv 4) pa_nil)))))))
      (pss_one (ps_ret (pv 1))))), ?_⟩
    refine ⟨by show 0 ≤ sizeLine; decide, fun l1 hl1 => ⟨by show 1 ≤ sizeLine; decide, fun l2 hl2 => ?_⟩⟩
    have e1 : Ex H (upd H l1 (.lst [])) := Ex.new hl1
    have e0 : Ex H (upd (upd H l1 (.lst [])) l2 (.lst [.ref l1])) := e1.trans (Ex.new hl2)
    have h12 : l1 ≠ l2 := ne_of_none (by exact upd_same) hl2
    refine ⟨_, rfl, p, CN, dx, _, _, rfl, e0 _ _ hp, T.clN, T.nX, layF_exits _ _ _ _ _, _, rfl, ⟨_, SqK.t (e0 _ _ hex)⟩, for_it walk_seqK (fun i σ H' => ∃ (fa : Addr) (x2 x3 x4 : Option V), σ = [some (.ref p), some (.ref fa), x2, x3, x4] ∧ Ex H H' ∧ H fa = none ∧ LLN H' fa (allM (rows.take i))) ⟨l2, none, none, none, rfl, e0, fresh_back e1 hl2, ⟨_, upd_same, .cons ⟨l1, rfl, by rw [upd_ne h12, upd_same]; rfl⟩ .nil⟩⟩ (fun i σ H' _ ⟨_, _, _, _, _, e3, _⟩ => SqK.t (e3 _ _ hex)) ?_ ?_⟩
    · rintro i x σ H2 H3 hi ⟨fa, x2, x3, x4, rfl, e2, hfa0, fs, hfs, hall⟩ ⟨rfl, hx⟩
      obtain ⟨r, hri, rb, rfl, hrb⟩ := hus.getl hx
      have hi3 : i ≤ 2 := by omega
      have hfl := hall.len
      have h9 : (allM (rows.take i)).length ≤ 9 := Nat.le_trans (allM_len ok i (by omega)) (Nat.le_trans (Nat.pow_le_pow_right (by decide) hi3) (by decide))
      have hr3 := (ok.row r (List.mem_of_getElem? hri)).2.1
      have hsucc : allM (rows.take (i + 1)) = allStep (allM (rows.take i)) r := by
        unfold allM
        rw [List.take_add_one, hri, List.foldl_append]
        rfl
      refine ⟨_, rfl, _, rfl, _, _, rfl, .inr (SqT.of (e2 _ _ hrb)), _, rfl, RgOk.of_le (by decide) (by rw [List.length_map]; omega) (by decide) (by omega), fun q hq => ?_⟩
      rw [List.length_map, rgV_nI]
      have e3 : Ex H3 (upd H3 q (.lst (nI (List.range r.length)))) := Ex.new hq
      refine ⟨fa, q, _, _, rfl, SqL.of (e3 _ _ hfs), SqL.of upd_same, fun D hD => lcN (walk_prod rfl) hD (by rw [nI_len, List.length_range]; exact Nat.le_trans (Nat.mul_le_mul (hfl ▸ h9) hr3) (by decide)) (fun i' y H => ∀ s, (allStep (allM (rows.take i)) r)[i']? = some s → IsLN H y s) (fun i y H H' e h r hr => (h r hr).ex e) (fun H4 _ => trivial) (fun i' x H4 H5 Ky hi' e4 hu hY ky => ?_) fun H4 ys e4 hy4 hal => ?_⟩
      · obtain ⟨Tt, y1, y2, rfl, hT, rfl, hy1, hy2⟩ := hY
        obtain ⟨s1, hs1, b1, rfl, hb1⟩ := hall.getl (by simpa only [nI_len, List.length_range] using hy1)
        obtain ⟨k1, hk1, rfl⟩ := nI_get hy2
        rw [nI_len, List.length_range] at hk1
        obtain ⟨u, hu⟩ := hu
        have hsl : s1.length ≤ 10 := by
          have := allM_mem_len (rows.take i) [[]] 0 (by simp) s1 (List.mem_of_getElem? hs1)
          rw [List.length_take] at this
          omega
        have e5 : Ex H4 (upd H4 Tt (.tup [.ref b1, .int (k1 : Int)])) := Ex.new hT
        refine ⟨Tt, _, rfl, SqT.of upd_same, rfl, _, _, rfl, _, _, rfl, rfl, rfl, _, rfl, _, _, rfl, .inl (SqL.of ((e3.trans (e4.trans e5)) _ _ hb1)), fun m1 hm1 => ⟨_, rfl, by show 1 ≤ sizeLine; decide, fun m2 hm2 => ?_⟩⟩
        have h12' : m1 ≠ m2 := ne_of_none (by exact upd_same) hm2
        refine ⟨m1, m2, _, _, rfl, rfl, by rw [upd_ne h12', upd_same], upd_same, sz_of (by rw [nI_len]; show s1.length + 1 ≤ _; omega), fun m3 hm3 => ?_⟩
        have e6 := (e5.trans (Ex.new (o := .lst (nI s1)) hm1)).trans (Ex.new (o := .lst [.int (k1 : Int)]) hm2)
        refine ky _ _ (e6.trans (Ex.new hm3)) fun s' hs' => ?_
        rw [allStep_get r _ _ s1 k1 hs1 hk1] at hs'
        cases hs'
        refine ⟨m3, rfl, hide_new hu (fresh_back e6 hm3) ?_⟩
        rw [upd_same, nI_app]
        rfl
      · rw [nI_len, List.length_range] at hal
        refine ⟨D, _, x3, x4, rfl, e2.trans (e3.trans e4), fresh_back (e2.trans e3) hD, ys, hy4, ?_⟩
        rw [hsucc]
        exact All2.of_range (by rw [allStep_len, hfl]) (hal.imp fun y i h r hr => (h r hr).ex hide_out)
    · rintro σ H2 ⟨fa, x2, x3, x4, rfl, e2, hfa0, hall⟩
      rw [hlu, List.take_length] at hall
      exact ⟨_, rfl, k _ fa e2 hfa0 hall⟩
abbrev s_swapped_net : Stmt := (topS 81)
theorem sc_swapped_net : FnScope ["net", "point", "spot", "other", "rows", "exits"] ["net", "point", "spot", "other"] (defScope s_swapped_net) := ⟨rfl, rfl, rfl, by decide +kernel, rfl, by decide +kernel, by decide +kernel⟩
theorem ok_swapped_net (F : FunG K mg "swapped_net" s_swapped_net ["net", "point", "spot", "other"]) (T : Txt K mg CN CY) (c_net_made : Cal P w K mg base "net_made" ["ends", "rows"] 7 (spMade CN)) (c_ends : PCal P w K mg base CN "ends" 1 (spEnds CN)) : Cal P w K mg base "swapped_net" ["net", "point", "spot", "other"] 8 (spSwap CN) := by
  refine F.cal fun f fd F => F.ok sc_swapped_net (fun vs H Q E h => ?_) (fun cdv A outer s H vs Q E hr h => ?_)
  · obtain ⟨p, e, n, i, j, rows, r, rfl, _⟩ := h
    rfl
  · obtain ⟨p, e, n, i, j, rows, r, rfl, hN, ok, hri, hil, hjl, k⟩ := h
    have hN' := hN
    obtain ⟨dx, fl, ex, tg, fi, hp, _, _, hn⟩ := hN
    obtain ⟨us, hex, hus⟩ := hn.ex
    have hlu : us.length = rows.length := hus.len
    have h3 := ok.pts3
    refine ⟨_, (pss_cons (ps_setLc (i := 4) (own := [("exits", 5)]) (by rfl) sc_swapped_net.nd rfl rfl (sw_true rfl rfl rfl (by decide +kernel)) (pi_seqK true (pe_fld (pv 0) rfl)) (blkOk_by (N := ["net", "point", "spot", "other", "rows", "exits"]) (sc := defScope s_swapped_net) (own := [("exits", 5)]) (by decide +kernel)) (fun _ _ _ _ _ => (pg_name (i := 5) sc_swapped_net.nd rfl (Or.inl rfl))) (fun _ _ _ _ _ => pts_nil) (fun _ _ _ _ _ => (pe_callTy (T := "list") (r := rListS K) call_list_of (by rfl) T.m_list (by decide +kernel) (pa_cons (pv 5) pa_nil))))
      (pss_cons (ps_asg (pe_tup (pa_cons (pe_ix (r := rIxL K) ix_list (pe_ix (r := rIxL K) ix_list (pv 4) (pv 1) (fun _ _ => rfl)) (pv 3) (fun _ _ => rfl)) (pa_cons (pe_ix (r := rIxL K) ix_list (pe_ix (r := rIxL K) ix_list (pv 4) (pv 1) (fun _ _ => rfl)) (pv 2) (fun _ _ => rfl)) pa_nil))) (pg_tup rfl (pgs_cons (pg_sub (pe_ix (r := rIxL K) ix_list (pv 4) (pv 1) (fun _ _ => rfl)) (pv 2) set_list) (pgs_cons (pg_sub (pe_ix (r := rIxL K) ix_list (pv 4) (pv 1) (fun _ _ => rfl)) (pv 3) set_list) pgs_nil))))
      (pss_one (ps_ret (pe_cal c_net_made (hr.mono (by decide)) (by rfl) (pa_cons (pe_pcal T.clN c_ends (hr.mono (by decide)) (pv 0)) (pa_cons (pv 4) pa_nil))))))), ?_⟩
    refine ⟨_, rfl, p, CN, dx, _, _, rfl, hp, T.clN, T.nX, layF_exits _ _ _ _ _, _, rfl, ⟨_, SqK.t hex⟩, fun D hD => lcF walk_seqK hD (by omega) (fun i y H' => ∀ r, rows[i]? = some r → IsL H' y r ∧ ∀ a, y = .ref a → H a = none) (fun i y H H' e h r hr => ⟨(h r hr).1.ex e, (h r hr).2⟩) (fun H4 e4 => SqK.t (e4 _ _ hex)) (fun i x H4 H5 Ky hi e4 hu hY ky => ?_) fun H4 ys e4 hy4 hall hnd => ?_⟩
    · obtain ⟨rfl, hx⟩ := hY
      obtain ⟨r, hri, b, rfl, hb⟩ := hus.getl hx
      obtain ⟨u, hu⟩ := hu
      refine ⟨rfl, _, rfl, _, _, rfl, .inr (SqT.of (e4 _ _ hb)), fun l hl => ky _ _ _ (Ex.new hl) hl upd_same fun r' hr' => ?_⟩
      rw [hri] at hr'
      cases hr'
      exact ⟨⟨l, rfl, hide_new hu hl upd_same⟩, fun a ea => by cases ea; exact fresh_back e4 hl⟩
    · have hal0 := All2.of_range hlu hall
      have hal : All2 (IsL (hide D H4)) ys rows := hal0.imp fun _ _ h => h.1
      obtain ⟨_, hyn, ⟨rp, rfl, hrp⟩, hfr⟩ := hal0.get hri
      have hrp0 : H rp = none := hfr rp rfl
      have hrp4 := hide_out _ _ hrp
      have hDp : rp ≠ D := by
        rintro rfl
        unfold hide at hrp
        rw [if_pos rfl] at hrp
        cases hrp
      refine ⟨_, rfl, _, rfl, D, _, _, _, rfl, rfl, SqL.of hy4, atI_nat hyn, _, rfl, rp, _, _, _, rfl, rfl, SqL.of hrp4, mI_at (List.getElem?_eq_getElem hjl), ?_⟩
      refine ⟨_, rfl, _, rfl, D, _, _, _, rfl, rfl, SqL.of hy4, atI_nat hyn, _, rfl, rp, _, _, _, rfl, rfl, SqL.of hrp4, mI_at (List.getElem?_eq_getElem hil), by show 2 ≤ sizeLine; decide, fun tt htt => ?_⟩
      have e5 : Ex H4 (upd H4 tt (.tup [.int r[j], .int r[i]])) := Ex.new htt
      refine ⟨tt, _, rfl, SqT.of upd_same, rfl, _, _, rfl, ?_⟩
      refine ⟨_, rfl, _, rfl, D, _, _, _, rfl, rfl, SqL.of (e5 _ _ hy4), atI_nat hyn, _, rfl, rp, _, (i : Int), i, rfl, rfl, e5 _ _ hrp4, ixN_nat (by rw [List.length_map]; exact hil), _, _, rfl, ?_⟩
      refine ⟨_, rfl, _, rfl, D, _, _, _, rfl, rfl, SqL.of (by rw [upd_ne hDp.symm]; exact e5 _ _ hy4), atI_nat hyn, _, rfl, rp, _, (j : Int), j, rfl, rfl, upd_same, ixN_nat (by rw [List.length_set, List.length_map]; exact hjl), rfl, ?_⟩
      have hG : ∀ (c : Addr) (o : HO), c ≠ rp → H4 c = some o → upd (upd (upd H4 tt (.tup [.int r[j], .int r[i]])) rp (.lst ((r.map V.int).set i (.int r[j])))) rp (.lst (((r.map V.int).set i (.int r[j])).set j (.int r[i]))) c = some o := fun c o hc ho => by
        rw [upd_ne hc, upd_ne hc]
        exact e5 _ _ ho
      have eG : Ex H (upd (upd (upd H4 tt (.tup [.int r[j], .int r[i]])) rp (.lst ((r.map V.int).set i (.int r[j])))) rp (.lst (((r.map V.int).set i (.int r[j])).set j (.int r[i])))) := fun c o ho => hG c o (ne_of_none ho hrp0) (e4 _ _ ho)
      refine ⟨_, rfl, p, dx, _, rfl, eG _ _ hp, p, e, rows, rfl, hN'.mono eG, _, rfl, e, D, ys, swapM rows n i j, rfl, hG _ _ hDp.symm hy4, ?_, by rw [show (swapM rows n i j).length = rows.length from List.length_set ..]; omega, fun q hq => ?_, fun H6 q e6 hq => k _ q (eG.trans e6) hq⟩
      · rw [swapM_eq hri hil hjl]
        exact (swap_rows (hal.imp fun _ _ h => h.ex hide_out) hnd hyn (by rw [upd_same, List.map_set, List.map_set]) hG).imp fun v r h => ⟨false, h⟩
      · rw [swapM_eq hri hil hjl] at hq
        rcases List.mem_or_eq_of_mem_set hq with h | rfl
        · have := (ok.row q h).2.1
          omega
        · rw [List.length_set, List.length_set]
          have := (ok.row r (List.mem_of_getElem? hri)).2.1
          omega
abbrev s_swaps_of : Stmt := (topS 82)
theorem sc_swaps_of : FnScope ["net", "found", "point", "exits", "spot", "other"] ["net"] (defScope s_swaps_of) := ⟨rfl, rfl, rfl, by decide +kernel, rfl, by decide +kernel, by decide +kernel⟩
theorem ok_swaps_of (F : FunG K mg "swaps_of" s_swaps_of ["net"]) (T : Txt K mg CN CY) : Cal P w K mg base "swaps_of" ["net"] 1 (spSwaps CN) := by
  refine F.cal fun f fd F => F.ok sc_swaps_of (fun vs H Q E h => ?_) (fun cdv A outer s H vs Q E hr h => ?_)
  · obtain ⟨p, e, rows, rfl, _⟩ := h
    rfl
  · obtain ⟨p, e, rows, rfl, hN, ok, k⟩ := h
    obtain ⟨dx, fl, ex, tg, fi, hp, _, _, hn⟩ := hN
    obtain ⟨us, hex, hus⟩ := hn.ex
    have hlu : us.length = rows.length := hus.len
    have h3 := ok.pts3
    refine ⟨_, (pss_cons (ps_set (i := 1) sc_swaps_of.nd rfl (Or.inl rfl) (pe_lst pa_nil))
      (pss_cons (ps_for PassesOwn.never rfl (pi_enumK true (by rfl) T.m_enumerate (pa_cons (pe_fld (pv 0) rfl) pa_nil)) (pg_tup rfl (pgs_cons (pg_name (i := 2) sc_swaps_of.nd rfl (Or.inr rfl)) (pgs_cons (pg_name (i := 3) sc_swaps_of.nd rfl (Or.inr rfl)) pgs_nil))) (pss_one (ps_for PassesOwn.never rfl (pi_range1 (by rfl) T.m_range (pa_cons (pe_callB (r := rLenS K) call_len_seq (by rfl) T.m_len PySem.boot_len (pa_cons (pv 3) pa_nil)) pa_nil)) (pg_name (i := 4) sc_swaps_of.nd rfl (Or.inr rfl)) (pss_one (ps_expr (pe_bm PySem.F.plainAttrs_list PySem.F.slot_list_extend PySem.F.type_list_extend mt_extend (pv 1) (pa_cons (pe_lc (own := [("other", 5)]) (by rfl) sc_swaps_of.nd (pi_range2 (by rfl) T.m_range (pa_cons (pe_op op_add (pv 4) pe_int) (pa_cons (pe_callB (r := rLenS K) call_len_seq (by rfl) T.m_len PySem.boot_len (pa_cons (pv 3) pa_nil)) pa_nil))) (blkOk_by (N := ["net", "found", "point", "exits", "spot", "other"]) (sc := defScope s_swaps_of) (own := [("other", 5)]) (by decide +kernel)) (fun _ _ _ _ _ => (pg_name (i := 5) sc_swaps_of.nd rfl (Or.inl rfl))) (fun _ _ _ _ _ => (pts_one (pt_cmpR op_ne (pe_ix (r := rIxT K) ix_tup (pv 3) (pv 4) (fun _ _ => rfl)) (pe_ix (r := rIxT K) ix_tup (pv 3) (pv 5) (fun _ _ => rfl)) (nomark _)))) (fun _ _ _ _ _ => (pe_tup (pa_cons (pv 2) (pa_cons (pv 4) (pa_cons (pv 5) pa_nil)))))) pa_nil)))))))
      (pss_one (ps_ret (pv 1))))), ?_⟩
    refine ⟨by show 0 ≤ sizeLine; decide, fun fa hfa => ?_⟩
    have e0 : Ex H (upd H fa (.lst [])) := Ex.new hfa
    let gi : List Int → Nat → Nat → List (Nat × Nat × Nat) := fun r pt i => ((List.range (r.length - (i + 1))).filter fun k => decide (r.getD i 0 ≠ r.getD (i + 1 + k) 0)).map fun k => (pt, i, i + 1 + k)
    let fp : Nat → List (Nat × Nat × Nat) := fun pt => (List.range (rows.getD pt []).length).flatMap (gi (rows.getD pt []) pt)
    refine ⟨_, rfl, p, CN, dx, _, _, rfl, e0 _ _ hp, T.clN, T.nX, layF_exits _ _ _ _ _, _, _, rfl, SqK.t (e0 _ _ hex), for_it walk_enumK (fun i σ H' => ∃ (xs : List V) (x2 x3 x4 x5 : Option V), σ = [some (.ref p), some (.ref fa), x2, x3, x4, x5] ∧ Ex H H' ∧ H' fa = some (.lst xs) ∧ xs.length ≤ 9 * i ∧ All2 (IsTrip H') xs ((List.range i).flatMap fp)) ⟨[], none, none, none, none, rfl, e0, upd_same, Nat.le_refl _, .nil⟩ (fun i σ H' _ ⟨_, _, _, _, _, _, e3, _⟩ => SqK.t (e3 _ _ hex)) ?_ ?_⟩
    · rintro i x σ H2 H3 hi ⟨xs, x2, x3, x4, x5, rfl, e2, hfs, hxl, hxs⟩ ⟨Tt, y1, y2, rfl, hT, rfl, hy1, hy2⟩
      cases hy1
      obtain ⟨r, hri, rb, rfl, hrb⟩ := hus.getl hy2
      have hr3 := (ok.row r (List.mem_of_getElem? hri)).2.1
      have e3 : Ex H2 (upd H2 Tt (.tup [.int (i : Int), .ref rb])) := Ex.new hT
      have hgd : rows.getD i [] = r := getD_some hri
      refine ⟨Tt, _, rfl, SqT.of upd_same, rfl, _, _, rfl, _, _, rfl, rfl, ?_⟩
      refine ⟨_, rfl, _, _, rfl, .inr (SqT.of ((e2.trans e3) _ _ hrb)), _, rfl, by omega, by rw [List.length_map]; omega, for_it walk_range0 (fun j σ H' => ∃ (xs' : List V) (x4 x5 : Option V), σ = [some (.ref p), some (.ref fa), some (.int (i : Int)), some (.ref rb), x4, x5] ∧ Ex H H' ∧ H' fa = some (.lst xs') ∧ xs'.length ≤ 9 * i + 3 * j ∧ All2 (IsTrip H') xs' ((List.range i).flatMap fp ++ (List.range j).flatMap (gi r i))) ⟨xs, x4, x5, rfl, e2.trans e3, e3 _ _ hfs, by omega, by rw [List.range_zero, List.flatMap_nil, List.append_nil]; exact hxs.imp fun _ _ h => h.ex e3⟩ (fun i σ H' _ _ => trivial) ?_ ?_⟩
      · rintro j x σ H4 H5 hj ⟨xs', x4', x5', rfl, e4, hf4, hl4, hx4⟩ ⟨rfl, rfl⟩
        have hjr : j < r.length := by
          rw [List.length_map] at hj
          exact hj
        refine ⟨_, rfl, .inl ⟨rfl, _, SqL.of hf4⟩, ?_⟩
        refine ⟨_, rfl, _, _, rfl, rfl, _, rfl, _, _, rfl, .inr (SqT.of (e4 _ _ hrb)), _, _, rfl, by rw [List.length_map]; omega, fun D hD => lcG walk_range hD (by rw [List.length_map]; omega) (fun k => decide (r.getD j 0 ≠ r.getD (j + 1 + k) 0)) (fun k y H => IsTrip H y (i, j, j + 1 + k)) (fun _ _ _ _ e h => h.ex e) (fun _ _ => trivial) (fun k' x H6 H7 Ky Kn hk' e6 hu hY ky kn => ?_) fun H6 ys e6 hy6 hal => ?_⟩
        · obtain ⟨rfl, rfl⟩ := hY
          obtain ⟨u, hu⟩ := hu
          have hkr : j + 1 + k' < r.length := by
            rw [List.length_map] at hk'
            omega
          have hj1 : r[j]? = some r[j] := List.getElem?_eq_getElem hjr
          have hk1 : r[j + 1 + k']? = some r[j + 1 + k'] := List.getElem?_eq_getElem hkr
          rw [getD_some hj1, getD_some hk1] at ky kn
          have hci : (j : Int) + 1 + (k' : Int) = ((j + 1 + k' : Nat) : Int) := by omega
          refine ⟨rfl, _, rfl, _, rfl, rb, _, (j : Int), _, rfl, rfl, SqT.of ((e4.trans e6) _ _ hrb), mI_at hj1, _, rfl, _, rfl, rb, _, _, _, rfl, (congrArg V.int hci), SqT.of ((e4.trans e6) _ _ hrb), mI_at hk1, rfl, _, rfl, ?_⟩
          by_cases hne : r[j] = r[j + 1 + k']
          · exact itF (by rw [decide_eq_true (congrArg V.int hne)]; rfl) (kn _ (decide_eq_false fun z => z hne) (Ex.refl _))
          · refine itT (by rw [decide_eq_false (fun z => hne (V.int.inj z))]; rfl) ⟨_, rfl, _, rfl, _, rfl, by show 3 ≤ sizeLine; decide, fun t ht => ky _ _ (decide_eq_true hne) (Ex.new ht) ⟨t, rfl, hide_new hu ht ?_⟩⟩
            rw [upd_same, ← hci]
        · have hD0 : D ≠ fa := (ne_of_none hf4 hD).symm
          have hn' : (((r.map V.int).length : Int) - ((j : Int) + 1)).toNat = r.length - (j + 1) := by
            rw [List.length_map]
            omega
          rw [hn'] at hal
          have hal' : All2 (IsTrip H6) ys (gi r i j) := All2.mapR.mpr (hal.imp fun _ _ h => h.ex hide_out)
          have hyl : ys.length ≤ 3 := by
            have := hal'.len
            have h2 : (gi r i j).length ≤ r.length - (j + 1) := by
              show (List.map _ (List.filter _ _)).length ≤ _
              rw [List.length_map]
              exact Nat.le_trans (List.length_filter_le _ _) (by rw [List.length_range]; exact Nat.le_refl _)
            omega
          refine ⟨fa, D, _, _, rfl, rfl, e6 _ _ hf4, hy6, sz_of (by omega), ?_⟩
          refine ⟨xs' ++ ys, _, _, rfl, Ex.mut (e4.trans e6) hfa, upd_same, by rw [List.length_append]; omega, ?_⟩
          rw [List.range_succ, List.flatMap_append, ← List.append_assoc, List.flatMap_singleton]
          exact (hx4.imp fun _ _ h => (h.ex e6).updL (e6 _ _ hf4)).app (hal'.imp fun _ _ h => h.updL (e6 _ _ hf4))
      · rintro σ H4 ⟨xs', x4', x5', rfl, e4, hf4, hl4, hx4⟩
        rw [show (((r.map V.int).length : Nat) : Int).toNat = r.length by rw [List.length_map]; rfl] at hl4 hx4
        refine ⟨xs', _, _, _, _, rfl, e4, hf4, by omega, ?_⟩
        rw [List.range_succ, List.flatMap_append, List.flatMap_singleton]
        show All2 _ _ (_ ++ (List.range (rows.getD i []).length).flatMap (gi (rows.getD i []) i))
        rw [hgd]
        exact hx4
    · rintro σ H2 ⟨xs, x2, x3, x4, x5, rfl, e2, hfs, hxl, hxs⟩
      rw [hlu] at hxs
      exact ⟨_, rfl, k _ fa xs e2 hfa hfs hxs⟩
end
end Fp
end part_W7
section part_W8
set_option maxHeartbeats 2000000
namespace Fp
open PySem PySem.Spec PyProof.Rows L2 Evl
/-! ### what the chooser gives, plain -/
open Classical in
noncomputable def betterM (e : Nat) (rows : Rows) (s : List Nat) (b x : Nat) : List (Nat × Nat × Nat) := (swapsM rows).filter fun q => decide (YEnd e (swapM rows q.1 q.2.1 q.2.2) s b x)
open Classical in
noncomputable def leastM (e : Nat) (rows : Rows) (s : List Nat) (b x m : Nat) : List (List Nat) := (allM rows).filter fun one => decide (YEnd e rows one b x ∧ apartM s one = m)
def MinAp (e : Nat) (rows : Rows) (s : List Nat) (b x m : Nat) : Prop := (∃ one ∈ allM rows, YEnd e rows one b x ∧ apartM s one = m) ∧ ∀ one ∈ allM rows, YEnd e rows one b x → m ≤ apartM s one
def castL (s : List Nat) : List Int := s.map fun n : Nat => (n : Int)
def encNS (q : Nat × List Nat) : PyData := dNS ((q.1 : Int), castL q.2)
abbrev leNS : V × (Nat × List Nat) → V × (Nat × List Nat) → Bool := PySem.W.dataLe false fun b => encNS b.2
theorem YEnd.unique {e : Nat} {rows : Rows} {s : List Nat} {b x y : Nat} (h : YEnd e rows s b x) (h' : YEnd e rows s b y) : x = y := by
  obtain ⟨n, h⟩ := h
  obtain ⟨m, h'⟩ := h'
  exact (h.unique h').2
theorem swapM_len (rows : Rows) (n i j : Nat) : (swapM rows n i j).length = rows.length := List.length_set ..
theorem mem_swap {r : List Int} {i j : Nat} (hi : i < r.length) (hj : j < r.length) {t : Int} (ht : t ∈ (r.set i r[j]).set j r[i]) : t ∈ r := by
  rcases List.mem_or_eq_of_mem_set ht with h | rfl
  · rcases List.mem_or_eq_of_mem_set h with h | rfl
    · exact h
    · exact List.getElem_mem hj
  · exact List.getElem_mem hi
theorem swapM_ok {e : Nat} {rows : Rows} {n i j : Nat} {r : List Int} (ok : NetOk e rows) (hr : rows[n]? = some r) (hi : i < r.length) (hj : j < r.length) : NetOk e (swapM rows n i j) := by
  refine ⟨by rw [swapM_len]; exact ok.pts, by rw [swapM_len]; exact ok.pts3, fun q hq => ?_⟩
  rw [swapM_len]
  rw [swapM_eq hr hi hj] at hq
  rcases List.mem_or_eq_of_mem_set hq with h | rfl
  · exact ok.row q h
  · obtain ⟨h1, h2, h3⟩ := ok.row r (List.mem_of_getElem? hr)
    rw [List.length_set, List.length_set]
    exact ⟨h1, h2, fun t ht => h3 t (mem_swap hi hj ht)⟩
theorem swapM_set {rows : Rows} {s : List Nat} {n i j : Nat} {r : List Int} (hs : SetOk rows s) (hr : rows[n]? = some r) (hi : i < r.length) (hj : j < r.length) : SetOk (swapM rows n i j) s := by
  rw [swapM_eq hr hi hj]
  refine All2.of_get (by rw [List.length_set, All2.len hs]) fun m k q hk hq => ?_
  obtain ⟨r0, hr0, hlt⟩ := All2.getl hs hk
  rw [List.getElem?_set] at hq
  by_cases hmn : n = m
  · subst hmn
    rw [if_pos rfl] at hq
    rw [hr] at hr0
    cases hr0
    split at hq
    · cases hq
      rw [List.length_set, List.length_set]
      exact hlt
    · cases hq
  · rw [if_neg hmn, hr0] at hq
    cases hq
    exact hlt
theorem swapsM_mem {rows : Rows} {q : Nat × Nat × Nat} (h : q ∈ swapsM rows) : ∃ r, rows[q.1]? = some r ∧ q.2.1 < q.2.2 ∧ q.2.2 < r.length ∧ r.getD q.2.1 0 ≠ r.getD q.2.2 0 := by
  unfold swapsM at h
  obtain ⟨p, hp, h⟩ := List.mem_flatMap.mp h
  obtain ⟨i, hi, h⟩ := List.mem_flatMap.mp h
  obtain ⟨k, hk, rfl⟩ := List.mem_map.mp h
  rw [List.mem_range] at hp hi
  have hr : rows[p]? = some rows[p] := List.getElem?_eq_getElem hp
  rw [getD_some hr] at hi hk
  obtain ⟨hk, hne⟩ := List.mem_filter.mp hk
  rw [List.mem_range] at hk
  exact ⟨rows[p], hr, by show i < i + 1 + k; omega, by show i + 1 + k < _; omega, of_decide_eq_true hne⟩
theorem swapsM_len {e : Nat} {rows : Rows} (ok : NetOk e rows) : (swapsM rows).length ≤ 27 := by
  have h : (swapsM rows).length ≤ (List.range rows.length).length * 9 := by
    refine flatMap_len_le _ 9 _ fun p hp => ?_
    have hp' : p < rows.length := List.mem_range.mp hp
    have hr3 := (ok.row _ (List.getElem_mem hp')).2.1
    rw [getD_some (List.getElem?_eq_getElem hp')]
    refine Nat.le_trans (flatMap_len_le _ 3 _ fun i hi => ?_) (by rw [List.length_range]; omega)
    rw [List.length_map]
    refine Nat.le_trans (List.length_filter_le _ _) ?_
    rw [List.length_range]
    omega
  rw [List.length_range] at h
  have := ok.pts3
  omega
theorem range_filter_map {α β : Type} (p : α → Bool) (g : α → β) (d : α) : ∀ (L : List α), ((List.range L.length).filter fun i => p (L.getD i d)).map (fun i => g (L.getD i d)) = (L.filter p).map g := by
  intro L
  have hh : L = (List.range L.length).map fun i => L.getD i d := by
    apply List.ext_getElem?
    intro i
    by_cases hi : i < L.length
    · rw [List.getElem?_map, List.getElem?_range hi, List.getElem?_eq_getElem hi]
      show some _ = some (L.getD i d)
      rw [getD_some (List.getElem?_eq_getElem hi)]
    · rw [List.getElem?_eq_none (by omega), List.getElem?_eq_none (by simp; omega)]
  conv => rhs; rw [hh, List.filter_map, List.map_map]
  rfl
/-! ### all settings stand in order -/
theorem castL_lt : ∀ {a b : List Nat} (k l : Nat), a.length = b.length → castL a < castL b → castL (a ++ [k]) < castL (b ++ [l])
  | [], [], _, _, _, h => absurd h (List.not_lt_nil _)
  | [], _ :: _, _, _, h, _ => by cases h
  | _ :: _, [], _, _, h, _ => by cases h
  | x :: a, y :: b, k, l, hl, h => by
    have h : ((x : Int) :: castL a) < ((y : Int) :: castL b) := h
    show ((x : Int) :: castL (a ++ [k])) < ((y : Int) :: castL (b ++ [l]))
    rw [List.cons_lt_cons_iff] at h ⊢
    rcases h with h | ⟨h1, h2⟩
    · exact .inl h
    · exact .inr ⟨h1, castL_lt k l (by simpa using hl) h2⟩
theorem castL_lt_last : ∀ (a : List Nat) {k l : Nat}, k < l → castL (a ++ [k]) < castL (a ++ [l])
  | [], k, l, h => by
    show ([(k : Int)] : List Int) < [(l : Int)]
    rw [List.cons_lt_cons_iff]
    exact .inl (by omega)
  | x :: a, k, l, h => by
    show ((x : Int) :: castL (a ++ [k])) < ((x : Int) :: castL (a ++ [l]))
    rw [List.cons_lt_cons_iff]
    exact .inr ⟨rfl, castL_lt_last a h⟩
theorem castL_inj {a b : List Nat} (h : castL a = castL b) : a = b := List.map_inj_right (f := fun n : Nat => (n : Int)) (fun _ _ z => by omega) |>.mp h
theorem allStep_sorted (r : List Int) (m : Nat) : ∀ acc : List (List Nat), (∀ s ∈ acc, s.length = m) → acc.Pairwise (fun a b => castL a < castL b) → (allStep acc r).Pairwise fun a b => castL a < castL b
  | [], _, _ => .nil
  | s :: acc, hl, hp => by
    obtain ⟨h1, h2⟩ := List.pairwise_cons.mp hp
    show ((List.range r.length).map (fun k => s ++ [k]) ++ allStep acc r).Pairwise _
    refine List.pairwise_append.mpr ⟨List.pairwise_map.mpr (List.pairwise_lt_range.imp fun h => castL_lt_last s h), allStep_sorted r m acc (fun t ht => hl t (List.mem_cons_of_mem _ ht)) h2, ?_⟩
    intro a ha b hb
    obtain ⟨k, _, rfl⟩ := List.mem_map.mp ha
    obtain ⟨t, ht, hb⟩ := List.mem_flatMap.mp hb
    obtain ⟨l, _, rfl⟩ := List.mem_map.mp hb
    exact castL_lt k l (by rw [hl s List.mem_cons_self, hl t (List.mem_cons_of_mem _ ht)]) (h1 t ht)
theorem allStep_mem_len (r : List Int) (m : Nat) {acc : List (List Nat)} (hl : ∀ s ∈ acc, s.length = m) : ∀ s ∈ allStep acc r, s.length = m + 1 := by
  intro s hs
  obtain ⟨t, ht, hs⟩ := List.mem_flatMap.mp hs
  obtain ⟨l, _, rfl⟩ := List.mem_map.mp hs
  rw [List.length_append, hl t ht]
  rfl
theorem foldl_sorted : ∀ (rs : Rows) (m : Nat) (acc : List (List Nat)), (∀ s ∈ acc, s.length = m) → acc.Pairwise (fun a b => castL a < castL b) → (rs.foldl allStep acc).Pairwise fun a b => castL a < castL b
  | [], _, _, _, h => h
  | r :: rs, m, acc, hl, h => foldl_sorted rs (m + 1) _ (allStep_mem_len r m hl) (allStep_sorted r m acc hl h)
theorem allM_sorted (rows : Rows) : (allM rows).Pairwise fun a b => castL a < castL b := foldl_sorted rows 0 [[]] (by simp) (List.pairwise_singleton _ _)
theorem leNS_eq (a b : V × (Nat × List Nat)) : leNS a b = !decide (((b.2.1 : Nat) : Int) < ((a.2.1 : Nat) : Int) ∨ (((b.2.1 : Nat) : Int) = ((a.2.1 : Nat) : Int) ∧ castL b.2.2 < castL a.2.2)) := le_dNS (fun b : V × (Nat × List Nat) => (((b.2.1 : Nat) : Int), castL b.2.2)) a b
theorem leNS_sorted (bs : List (V × (Nat × List Nat))) : (bs.mergeSort leNS).Pairwise fun a b => leNS a b = true := PySem.W.sort_pairwise (PySem.W.sortLe_total _ _ _) bs
theorem least_of {e : Nat} {rows : Rows} {s : List Nat} {b x : Nat} {bs : List (V × (Nat × List Nat))} (hbs : bs.map Prod.snd = (allM rows).map fun one => (apartM s one, one)) {p : V × (Nat × List Nat) → Bool} (hp : ∀ q, p q = true ↔ YEnd e rows q.2.2 b x) :
    (((bs.mergeSort leNS).filter p) = [] ∧ ∀ one ∈ allM rows, ¬ YEnd e rows one b x) ∨
      ∃ q0 F, (bs.mergeSort leNS).filter p = q0 :: F ∧ MinAp e rows s b x q0.2.1 ∧ ((q0 :: F).filter fun q => decide (q.2.1 = q0.2.1)).map (fun q => q.2.2) = leastM e rows s b x q0.2.1 := by
  have hperm : (bs.mergeSort leNS).Perm bs := List.mergeSort_perm bs leNS
  have hof : ∀ q ∈ bs, q.2.2 ∈ allM rows ∧ q.2.1 = apartM s q.2.2 := by
    intro q hq
    have h : q.2 ∈ bs.map Prod.snd := List.mem_map.mpr ⟨q, hq, rfl⟩
    rw [hbs] at h
    obtain ⟨one, h1, h2⟩ := List.mem_map.mp h
    rw [← h2]
    exact ⟨h1, rfl⟩
  have hto : ∀ one ∈ allM rows, ∃ q ∈ bs, q.2 = (apartM s one, one) := by
    intro one h1
    have h : (apartM s one, one) ∈ bs.map Prod.snd := by
      rw [hbs]
      exact List.mem_map.mpr ⟨one, h1, rfl⟩
    exact List.mem_map.mp h
  have hin : ∀ q, q ∈ (bs.mergeSort leNS).filter p ↔ q ∈ bs ∧ YEnd e rows q.2.2 b x := by
    intro q
    rw [List.mem_filter, hp, hperm.mem_iff]
  have hsort := (leNS_sorted bs).filter p
  cases hF : (bs.mergeSort leNS).filter p with
  | nil =>
    refine .inl ⟨rfl, fun one h1 hy => ?_⟩
    obtain ⟨q, hq, he⟩ := hto one h1
    have : q ∈ (bs.mergeSort leNS).filter p := (hin q).mpr ⟨hq, by rw [he]; exact hy⟩
    rw [hF] at this
    cases this
  | cons q0 F =>
    refine .inr ⟨q0, F, rfl, ?_, ?_⟩
    · have h0 := (hin q0).mp (by rw [hF]; exact List.mem_cons_self)
      refine ⟨⟨q0.2.2, (hof q0 h0.1).1, h0.2, (hof q0 h0.1).2.symm⟩, fun one h1 hy => ?_⟩
      obtain ⟨q, hq, he⟩ := hto one h1
      have hq' : q ∈ (bs.mergeSort leNS).filter p := (hin q).mpr ⟨hq, by rw [he]; exact hy⟩
      rw [hF] at hq' hsort
      have hn : q.2.1 = apartM s one := by rw [he]
      rw [← hn]
      rcases List.mem_cons.mp hq' with rfl | hq'
      · exact Nat.le_refl _
      · have := (List.pairwise_cons.mp hsort).1 q hq'
        rw [leNS_eq, Bool.not_eq_true', decide_eq_false_iff_not] at this
        omega
    · rw [hF] at hsort
      refine List.Perm.eq_of_pairwise (le := fun a b => ¬ castL b < castL a) (fun a b _ _ h1 h2 => castL_inj (List.le_antisymm h1 h2)) ?_ (((allM_sorted rows).filter _).imp fun h => List.lt_asymm h) ?_
      · refine List.pairwise_map.mpr ?_
        refine List.Pairwise.imp_of_mem ?_ (hsort.filter _)
        intro a c ha hc h hlt
        have ha := of_decide_eq_true (List.mem_filter.mp ha).2
        have hc := of_decide_eq_true (List.mem_filter.mp hc).2
        rw [leNS_eq, Bool.not_eq_true', decide_eq_false_iff_not] at h
        exact h (.inr ⟨by rw [ha, hc], hlt⟩)
      · rw [← hF]
        have h1 : ((bs.mergeSort leNS).filter p).Perm (bs.filter p) := hperm.filter p
        refine ((h1.filter _).map _).trans ?_
        have h2 : ∀ (D : ∀ one, Decidable (YEnd e rows one b x ∧ apartM s one = q0.2.1)) (as : List (V × (Nat × List Nat))) (os : List (List Nat)), as.map Prod.snd = os.map (fun one => (apartM s one, one)) → ((as.filter p).filter fun q => decide (q.2.1 = q0.2.1)).map (fun q => q.2.2) = os.filter fun one => @decide (YEnd e rows one b x ∧ apartM s one = q0.2.1) (D one) := by
          intro D as
          induction as with
          | nil =>
            intro os h
            cases os with
            | nil => rfl
            | cons _ _ => cases h
          | cons a as ih =>
            intro os h
            cases os with
            | nil => cases h
            | cons o os =>
              rw [List.map_cons, List.map_cons, List.cons.injEq] at h
              obtain ⟨h, ht⟩ := h
              have e1 : a.2.1 = apartM s o := by rw [h]
              have e2 : a.2.2 = o := by rw [h]
              by_cases hy : YEnd e rows o b x
              · rw [List.filter_cons, if_pos ((hp a).mpr (by rw [e2]; exact hy))]
                by_cases hm : apartM s o = q0.2.1
                · rw [List.filter_cons, if_pos (decide_eq_true (by rw [e1, hm])), List.filter_cons, if_pos (decide_eq_true ⟨hy, hm⟩), List.map_cons, ih os ht, e2]
                · rw [List.filter_cons, if_neg (by rw [decide_eq_true_eq, e1]; exact hm), List.filter_cons, if_neg (by rw [decide_eq_true_eq]; exact fun z => hm z.2), ih os ht]
              · rw [List.filter_cons, if_neg (by rw [hp, e2]; exact hy), List.filter_cons, if_neg (by rw [decide_eq_true_eq]; exact fun z => hy z.1), ih os ht]
        exact List.Perm.of_eq (h2 _ bs _ hbs)
/-- the tuple (apart, setting) -/
def IsNS (H : Hp) (v : V) (q : Nat × List Nat) : Prop := ∃ t o, v = .ref t ∧ H t = some (.tup [.int (q.1 : Int), .ref o]) ∧ H o = some (.lst (nI q.2))
theorem IsNS.ex {H H' : Hp} {v : V} {q : Nat × List Nat} (e : Ex H H') (h : IsNS H v q) : IsNS H' v q := let ⟨t, o, h1, h2, h3⟩ := h; ⟨t, o, h1, e _ _ h2, e _ _ h3⟩
theorem IsNS.dp {K : PySem.W.Frag} {H : Hp} {v : V} {q : Nat × List Nat} (h : IsNS H v q) : Dp K H v (encNS q) := by
  obtain ⟨t, o, rfl, h1, h2⟩ := h
  exact .tup (SqT.of h1) (.cons (.int _) (.cons (dp_L (by rw [h2, nI_map]; rfl)) .nil))
theorem shp_encNS (q : Nat × List Nat) : Shp 2 (encNS q) := shp_tup fun d hd => by
  rcases List.mem_cons.mp hd with rfl | hd
  · exact (shp_int _).mono (by omega)
  · have : d = dL (castL q.2) := by simpa using hd
    subst this
    exact shp_dL _
def spSwapE (CN : Addr) : Sp := fun vs H Q _ => ∃ (p : Addr) (e n i j : Nat) (rows : Rows) (r : List Int), vs = [.ref p, .int (n : Int), .int (i : Int), .int (j : Int)] ∧ NetAt CN H p e rows ∧ NetOk e rows ∧ rows[n]? = some r ∧ i < r.length ∧ j < r.length ∧
  ∀ H' q, Ex H H' → NetAt CN H' q e (swapM rows n i j) → Q (.ref q) H'
def spBetter (CN : Addr) : Sp := fun vs H Q _ => ∃ (kq : Bool) (p a : Addr) (e b x : Nat) (rows : Rows) (s : List Nat), vs = [.ref p, .ref a, .int (b : Int), .int (x : Int)] ∧ NetAt CN H p e rows ∧ NetOk e rows ∧ SqP kq H a (nI s) ∧ SetOk rows s ∧ b < rows.length ∧ x < e ∧ e ≤ 5 ∧
  ∀ H' l xs, Ex H H' → H l = none → H' l = some (.lst xs) → All2 (IsTrip H') xs (betterM e rows s b x) → Q (.ref l) H'
def spFewest (CN : Addr) : Sp := fun vs H Q _ => ∃ (kq : Bool) (p a : Addr) (e b x : Nat) (rows : Rows) (s : List Nat), vs = [.ref p, .ref a, .int (b : Int), .int (x : Int)] ∧ NetAt CN H p e rows ∧ NetOk e rows ∧ SqP kq H a (nI s) ∧ SetOk rows s ∧ b < rows.length ∧ x < e ∧ e ≤ 5 ∧
  (∀ H', Ex H H' → (∀ one ∈ allM rows, ¬ YEnd e rows one b x) → Q .non H') ∧
  ∀ H' t l m, Ex H H' → H l = none → MinAp e rows s b x m → H' t = some (.tup [.int ((m : Nat) : Int), .ref l]) → LLN H' l (leastM e rows s b x m) → Q (.ref t) H'
def EqNets (CN : Addr) (a b : Addr) (H : Hp) : Prop := ∃ e rows, NetAt CN H a e rows ∧ NetAt CN H b e rows
theorem op_eqNet {X : Cx} {CN : Addr} (c : MCal X.prog X.w X.K X.mg X.base CN "__eq__" ["self", "other"] 1 (spEq (EqNets CN))) (hr : Room 1 X.A) : OpR X (compareOp .Eq) (rEqG (DIns CN (EqNets CN))) := by
  obtain ⟨f, fd, F, hm, hb⟩ := c
  exact op_eqG (rcG_ins F hm.at_ hm.fn hb pass0) hr
section
variable {P : Program} {w : World} {K : PySem.W.Frag} {mg : Str → Option Value} {base : Heap} {CN CY : Addr}
abbrev s_Net_eq : Stmt := (inClass (topS 25) 7)
theorem sc_Net_eq : FnScope ["self", "other"] ["self", "other"] (defScope s_Net_eq) := ⟨rfl, rfl, rfl, by decide +kernel, rfl, by decide +kernel, by decide +kernel⟩
theorem ok_Net_eq (F : FunM K CN "__eq__" "Net.__eq__" s_Net_eq ["self", "other"]) (T : Txt K mg CN CY) : MCal P w K mg base CN "__eq__" ["self", "other"] 1 (spEq (EqNets CN)) := by
  refine F.cal fun f fd F => F.ok sc_Net_eq (fun vs H Q E h => ?_) (fun cdv A outer s H vs Q E hr h => ?_)
  · obtain ⟨a, b, rfl, _⟩ := h
    rfl
  · obtain ⟨a, b, rfl, ⟨e, rows, ⟨dx, fs, ex, tg, fi, hp, _, _, hn⟩, ⟨dx', fs', ex', tg', fi', hp', _, _, hn'⟩⟩, k⟩ := h
    refine ⟨_, (pss_cons (ps_if (pt_not (pt_val (pe_callB call_isi (by rfl) T.m_isinstance (by decide +kernel) (pa_cons (pv 1) (pa_cons (pe_glob (v := .ref CN) (by rfl) T.mgN rfl) pa_nil))))) (pss_one (ps_ret pe_bl)) pss_nil)
      (pss_one (ps_ret (pe_and (pe_cmpR op_eq (pe_fld (pv 0) rfl) (pe_fld (pv 1) rfl) (nomark _)) (pe_one (pe_cmpR (r := rEqD K) (op_eqD hr.units) (pe_fld (pv 0) rfl) (pe_fld (pv 1) rfl) (nomark _))))))), ?_⟩
    refine ⟨_, rfl, _, _, _, .ref CN, true, rfl, .own CN, T.isN hp', T.kN, true, rfl, iteF ?_⟩
    refine ⟨_, rfl, a, CN, dx, _, _, rfl, hp, T.clN, T.nE, layF_ends _ _ _ _ _, _, rfl, b, CN, dx', _, _, rfl, hp', T.clN, T.nE, layF_ends _ _ _ _ _, rfl, _, rfl, itT (decide_eq_true rfl) ?_⟩
    refine ⟨_, rfl, a, CN, dx, _, _, rfl, hp, T.clN, T.nX, layF_exits _ _ _ _ _, _, rfl, b, CN, dx', _, _, rfl, hp', T.clN, T.nX, layF_exits _ _ _ _ _, _, _, dp_UU hn.ex, dp_UU hn'.ex, (shp_dUU _).shaped (by decide), (shp_dUU _).shaped (by decide), ?_⟩
    rw [tells_dUU, decide_eq_true rfl]
    exact k _ fun _ _ z => z
abbrev s_swapped_exits : Stmt := (topS 85)
theorem sc_swapped_exits : FnScope ["net", "point", "spot", "other"] ["net", "point", "spot", "other"] (defScope s_swapped_exits) := ⟨rfl, rfl, rfl, by decide +kernel, rfl, by decide +kernel, by decide +kernel⟩
theorem ok_swapped_exits (F : FunG K mg "swapped_exits" s_swapped_exits ["net", "point", "spot", "other"]) (T : Txt K mg CN CY) (c_want_net : Cal P w K mg base "want_net" ["value"] 1 (spWantNet CN)) (c_want_point : Cal P w K mg base "want_point" ["net", "value"] 3 (spWantPoint CN))
    (c_want_exit : Cal P w K mg base "want_exit" ["net", "point", "value"] 3 (spWantExit CN)) (c_swapped_net : Cal P w K mg base "swapped_net" ["net", "point", "spot", "other"] 8 (spSwap CN)) : Cal P w K mg base "swapped_exits" ["net", "point", "spot", "other"] 9 (spSwapE CN) := by
  refine F.cal fun f fd F => F.ok sc_swapped_exits (fun vs H Q E h => ?_) (fun cdv A outer s H vs Q E hr h => ?_)
  · obtain ⟨p, e, n, i, j, rows, r, rfl, _⟩ := h
    rfl
  · obtain ⟨p, e, n, i, j, rows, r, rfl, hN, ok, hri, hil, hjl, k⟩ := h
    refine ⟨_, (pss_cons (ps_expr (pe_cal c_want_net (hr.mono (by decide)) (by rfl) (pa_cons (pv 0) pa_nil)))
      (pss_cons (ps_expr (pe_cal c_want_point (hr.mono (by decide)) (by rfl) (pa_cons (pv 0) (pa_cons (pv 1) pa_nil))))
      (pss_cons (ps_expr (pe_cal c_want_exit (hr.mono (by decide)) (by rfl) (pa_cons (pv 0) (pa_cons (pv 1) (pa_cons (pv 2) pa_nil)))))
      (pss_cons (ps_expr (pe_cal c_want_exit (hr.mono (by decide)) (by rfl) (pa_cons (pv 0) (pa_cons (pv 1) (pa_cons (pv 3) pa_nil)))))
      (pss_one (ps_ret (pe_cal c_swapped_net (hr.mono (by decide)) (by rfl) (pa_cons (pv 0) (pa_cons (pv 1) (pa_cons (pv 2) (pa_cons (pv 3) pa_nil))))))))))), ?_⟩
    refine ⟨_, rfl, p, e, rows, rfl, hN, ?_⟩
    refine ⟨_, rfl, _, rfl, p, e, rows, n, rfl, hN, (List.getElem?_eq_some_iff.mp hri).1, ?_⟩
    refine ⟨_, rfl, _, rfl, _, rfl, p, e, rows, n, i, r, rfl, hN, hri, hil, ?_⟩
    refine ⟨_, rfl, _, rfl, _, rfl, p, e, rows, n, j, r, rfl, hN, hri, hjl, ?_⟩
    exact ⟨_, rfl, _, rfl, _, rfl, _, rfl, p, e, n, i, j, rows, r, rfl, hN, ok, hri, hil, hjl, k⟩
abbrev s_better_swaps : Stmt := (topS 86)
theorem sc_better_swaps : FnScope ["net", "setting", "begin", "end", "told", "found", "point", "spot", "other", "yard"] ["net", "setting", "begin", "end"] (defScope s_better_swaps) := ⟨rfl, rfl, rfl, by decide +kernel, rfl, by decide +kernel, by decide +kernel⟩
open Classical in
theorem ok_better_swaps (F : FunG K mg "better_swaps" s_better_swaps ["net", "setting", "begin", "end"]) (T : Txt K mg CN CY) (c_want_net : Cal P w K mg base "want_net" ["value"] 1 (spWantNet CN)) (c_want_setting : Cal P w K mg base "want_setting" ["net", "value"] 4 (spWantSet CN))
    (c_want_point : Cal P w K mg base "want_point" ["net", "value"] 3 (spWantPoint CN)) (c_want_end : Cal P w K mg base "want_end" ["net", "value"] 3 (spWantEnd CN)) (c_swaps_of : Cal P w K mg base "swaps_of" ["net"] 1 (spSwaps CN))
    (c_swapped_net : Cal P w K mg base "swapped_net" ["net", "point", "spot", "other"] 8 (spSwap CN)) (c_Yard : MkCal P w K mg base "Yard" CY ["self", "net", "begin"] 8 (spYardI CN CY)) (c_yard_end : Cal P w K mg base "yard_end" ["yard", "setting"] 4 (spYEnd CN CY)) :
    Cal P w K mg base "better_swaps" ["net", "setting", "begin", "end"] 10 (spBetter CN) := by
  refine F.cal fun f fd F => F.ok sc_better_swaps (fun vs H Q E h => ?_) (fun cdv A outer s H vs Q E hr h => ?_)
  · obtain ⟨kq, p, a, e, b, x, rows, st, rfl, _⟩ := h
    rfl
  · obtain ⟨kq, p, a, e, b, x, rows, st, rfl, hN, ok, ha, hs, hb, hx, he, k⟩ := h
    have h3 := ok.pts3
    refine ⟨_, (pss_cons (ps_expr (pe_cal c_want_net (hr.mono (by decide)) (by rfl) (pa_cons (pv 0) pa_nil)))
      (pss_cons (ps_set (i := 4) sc_better_swaps.nd rfl (Or.inl rfl) (pe_cal c_want_setting (hr.mono (by decide)) (by rfl) (pa_cons (pv 0) (pa_cons (pv 1) pa_nil))))
      (pss_cons (ps_expr (pe_cal c_want_point (hr.mono (by decide)) (by rfl) (pa_cons (pv 0) (pa_cons (pv 2) pa_nil))))
      (pss_cons (ps_expr (pe_cal c_want_end (hr.mono (by decide)) (by rfl) (pa_cons (pv 0) (pa_cons (pv 3) pa_nil))))
      (pss_cons (ps_set (i := 5) sc_better_swaps.nd rfl (Or.inl rfl) (pe_lst pa_nil))
      (pss_cons (ps_for PassesOwn.never rfl (pi_seqK false (pe_cal c_swaps_of (hr.mono (by decide)) (by rfl) (pa_cons (pv 0) pa_nil))) (pg_tup rfl (pgs_cons (pg_name (i := 6) sc_better_swaps.nd rfl (Or.inl rfl)) (pgs_cons (pg_name (i := 7) sc_better_swaps.nd rfl (Or.inl rfl)) (pgs_cons (pg_name (i := 8) sc_better_swaps.nd rfl (Or.inl rfl)) pgs_nil)))) (pss_cons (ps_set (i := 9) sc_better_swaps.nd rfl (Or.inl rfl) (pe_mk c_Yard (hr.mono (by decide)) (by rfl) (pa_cons (pe_cal c_swapped_net (hr.mono (by decide)) (by rfl) (pa_cons (pv 0) (pa_cons (pv 6) (pa_cons (pv 7) (pa_cons (pv 8) pa_nil))))) (pa_cons (pv 2) pa_nil))))
      (pss_one (ps_if (pt_cmpR op_eq (pe_cal c_yard_end (hr.mono (by decide)) (by rfl) (pa_cons (pv 9) (pa_cons (pv 4) pa_nil))) (pv 3) (nomark _)) (pss_one (ps_expr (pe_bm PySem.F.plainAttrs_list PySem.F.slot_list_append PySem.F.type_list_append mt_append (pv 5) (pa_cons (pe_tup (pa_cons (pv 6) (pa_cons (pv 7) (pa_cons (pv 8) pa_nil)))) pa_nil)))) pss_nil))))
      (pss_one (ps_ret (pv 5))))))))), ?_⟩
    refine ⟨_, rfl, p, e, rows, rfl, hN, ?_⟩
    refine ⟨_, rfl, _, rfl, kq, p, a, e, rows, st, rfl, hN, ha, hs, by omega, fun H1 l e1 hl0 hl => ?_⟩
    have hN1 := hN.mono e1
    refine ⟨_, rfl, _, rfl, p, e, rows, b, rfl, hN1, hb, ?_⟩
    refine ⟨_, rfl, _, rfl, p, e, rows, x, rfl, hN1, hx, ?_⟩
    refine ⟨by show 0 ≤ sizeLine; decide, fun fa hfa => ?_⟩
    have e2 : Ex H1 (upd H1 fa (.lst [])) := Ex.new hfa
    have hfa0 : H fa = none := fresh_back e1 hfa
    refine ⟨_, rfl, p, e, rows, rfl, hN1.mono e2, ok, fun H2 sa xs e3 hsa0 hsa hxs => ?_⟩
    have hxl := hxs.len
    have e4 := (e1.trans e2).trans e3
    refine ⟨sa, rfl, ⟨_, SqK.l hsa⟩, for_it walk_seqK (fun i σ H' => ∃ (zs : List V) (x6 x7 x8 x9 : Option V), σ = [some (.ref p), some (.ref a), some (.int (b : Int)), some (.int (x : Int)), some (.ref l), some (.ref fa), x6, x7, x8, x9] ∧ Ex H H' ∧ H' l = some (.lst (nI st)) ∧ H' sa = some (.lst xs) ∧ All2 (IsTrip H') xs (swapsM rows) ∧ H' fa = some (.lst zs) ∧ zs.length ≤ i ∧ All2 (IsTrip H') zs (((swapsM rows).take i).filter fun q => decide (YEnd e (swapM rows q.1 q.2.1 q.2.2) st b x))) ⟨[], none, none, none, none, rfl, e4, (e2.trans e3) _ _ hl, hsa, hxs, e3 _ _ upd_same, Nat.le_refl _, .nil⟩ (fun i σ H' _ ⟨_, _, _, _, _, _, _, _, h, _⟩ => SqK.l h) ?_ ?_⟩
    · rintro i xx σ H3 H4 hi ⟨zs, x6, x7, x8, x9, rfl, e5, hl5, hsa5, hxs5, hz5, hzl, hzs⟩ ⟨rfl, hxx⟩
      obtain ⟨q, hq, ta, rfl, hta⟩ := hxs5.getl hxx
      obtain ⟨r, hr, hij, hj, hne⟩ := swapsM_mem (List.mem_of_getElem? hq)
      obtain ⟨n, i1, j1⟩ := q
      have hx50 : xs.length ≤ 1000 := by
        rw [hxl]
        exact Nat.le_trans (swapsM_len ok) (by decide)
      refine ⟨ta, _, rfl, SqT.of hta, rfl, _, _, rfl, _, _, rfl, _, _, rfl, rfl, ?_⟩
      refine ⟨_, rfl, _, rfl, _, rfl, _, rfl, p, e, n, i1, j1, rows, r, rfl, hN.mono e5, ok, hr, Nat.lt_trans hij hj, hj, fun H5 sp e6 hsp => ⟨_, rfl, ?_⟩⟩
      have ok2 := swapM_ok ok hr (Nat.lt_trans hij hj) hj
      have hs2 := swapM_set hs hr (Nat.lt_trans hij hj) hj
      refine fun yx dx nyx ndx ne => ⟨yx, dx, sp, e, b, swapM rows n i1 j1, rfl, upd_same, ?_, ok2, he, fun H6 k6 hY => ⟨rfl, ?_⟩⟩
      · exact hsp.mono (fun c o ho => by rw [upd_ne (ne_of_none ho nyx), upd_ne (ne_of_none ho ndx)]; exact ho)
      have e7 : Ex H5 H6 := fun c o ho => k6 c o (ne_of_none ho nyx) (by rw [upd_ne (ne_of_none ho nyx), upd_ne (ne_of_none ho ndx)]; exact ho)
      have e8 := e6.trans e7
      refine ⟨_, rfl, _, rfl, yx, l, e, b, swapM rows n i1 j1, st, rfl, hY, e8 _ _ hl5, ok2, hs2, by rw [swapM_len]; exact hb, he, fun H7 x' e9 hYE => ⟨_, rfl, rfl, _, rfl, ?_⟩⟩
      have e10 := e8.trans e9
      have hz7 := e10 _ _ hz5
      have htake : (swapsM rows).take (i + 1) = (swapsM rows).take i ++ [(n, i1, j1)] := by rw [List.take_add_one, hq]; rfl
      by_cases hxx' : x' = x
      · subst hxx'
        refine itT (decide_eq_true rfl) ?_
        refine ⟨_, rfl, .inl ⟨rfl, _, SqL.of hz7⟩, _, rfl, _, rfl, _, rfl, by show 3 ≤ sizeLine; decide, fun t ht => ?_⟩
        have e11 : Ex H7 (upd H7 t (.tup [.int (n : Int), .int (i1 : Int), .int (j1 : Int)])) := Ex.new ht
        have hz8 := e11 _ _ hz7
        have hik : i < xs.length := hi
        refine ⟨fa, _, _, rfl, rfl, hz8, sz_lt (by omega), zs ++ [.ref t], _, _, _, _, rfl, Ex.mut ((e5.trans e10).trans e11) hfa0, ?_, ?_, hxs5.imp fun _ _ h => (h.ex (e10.trans e11)).updL hz8, upd_same, by rw [List.length_append]; show zs.length + 1 ≤ i + 1; omega, ?_⟩
        · have : l ≠ fa := ne_of_none hl hfa
          rw [upd_ne this]
          exact (e10.trans e11) _ _ hl5
        · have : sa ≠ fa := by
            rintro rfl
            rw [upd_same] at hsa0
            cases hsa0
          rw [upd_ne this]
          exact (e10.trans e11) _ _ hsa5
        · rw [htake, List.filter_append, List.filter_cons, if_pos (decide_eq_true hYE)]
          exact (hzs.imp fun _ _ h => (h.ex (e10.trans e11)).updL hz8).snoc ⟨t, rfl, by rw [upd_ne (ne_of_none hz7 ht).symm, upd_same]⟩
      · refine itF (decide_eq_false fun z => hxx' (by injection z with z; omega)) ?_
        refine ⟨zs, _, _, _, _, rfl, e5.trans e10, e10 _ _ hl5, e10 _ _ hsa5, hxs5.imp fun _ _ h => h.ex e10, hz7, by omega, ?_⟩
        rw [htake, List.filter_append, List.filter_cons, if_neg (by rw [decide_eq_false fun z => hxx' (hYE.unique z)]; decide)]
        show All2 _ _ (_ ++ [])
        rw [List.append_nil]
        exact hzs.imp fun _ _ h => h.ex e10
    · rintro σ H3 ⟨zs, x6, x7, x8, x9, rfl, e5, hl5, hsa5, hxs5, hz5, hzl, hzs⟩
      rw [hxl, List.take_length] at hzs
      exact ⟨_, rfl, k _ fa zs e5 hfa0 hz5 hzs⟩
abbrev s_fewest_turned : Stmt := (topS 84)
theorem sc_fewest_turned : FnScope ["net", "setting", "begin", "end", "told", "yard", "rows", "found", "least", "one", "row", "many"] ["net", "setting", "begin", "end"] (defScope s_fewest_turned) := ⟨rfl, rfl, rfl, by decide +kernel, rfl, by decide +kernel, by decide +kernel⟩
open Classical in
theorem fn_fewest_turned {f : Addr} {fd : FuncData} (F : Fun K "fewest_turned" "fewest_turned" s_fewest_turned f fd) (T : Txt K mg CN CY) (c_want_net : Cal P w K mg base "want_net" ["value"] 1 (spWantNet CN)) (c_want_setting : Cal P w K mg base "want_setting" ["net", "value"] 4 (spWantSet CN))
    (c_want_point : Cal P w K mg base "want_point" ["net", "value"] 3 (spWantPoint CN)) (c_want_end : Cal P w K mg base "want_end" ["net", "value"] 3 (spWantEnd CN)) (c_want_few_settings : Cal P w K mg base "want_few_settings" ["net"] 2 (spFew CN))
    (c_Yard : MkCal P w K mg base "Yard" CY ["self", "net", "begin"] 8 (spYardI CN CY)) (c_all_settings : Cal P w K mg base "all_settings" ["net"] 1 (spAll CN)) (c_apart_by : Cal P w K mg base "apart_by" ["setting", "other"] 1 spApart)
    (c_yard_end : Cal P w K mg base "yard_end" ["yard", "setting"] 4 (spYEnd CN CY)) (c_want_at_most : Cal P w K mg base "want_at_most" ["what", "limit", "number"] 1 spAtMost) :
    FnOk P w K mg base CX0 10 f fd ["net", "setting", "begin", "end"] (spFewest CN) := by
  refine F.ok sc_fewest_turned (fun vs H Q E h => ?_) (fun cdv A outer s H vs Q E hr h => ?_)
  · obtain ⟨kq, p, a, e, b, x, rows, st, rfl, _⟩ := h
    rfl
  · obtain ⟨kq, p, a, e, b, x, rows, st, rfl, hN, ok, ha, hs, hb, hx, he, k0, k⟩ := h
    have h3 := ok.pts3
    have hal27 : (allM rows).length ≤ 27 := by
      have := allM_len ok rows.length h3
      rw [List.take_length] at this
      exact Nat.le_trans this (Nat.le_trans (Nat.pow_le_pow_right (by decide) h3) (by decide))
    refine ⟨_, (pss_cons (ps_expr (pe_cal c_want_net (hr.mono (by decide)) (by rfl) (pa_cons (pv 0) pa_nil)))
      (pss_cons (ps_set (i := 4) sc_fewest_turned.nd rfl (Or.inr rfl) (pe_cal c_want_setting (hr.mono (by decide)) (by rfl) (pa_cons (pv 0) (pa_cons (pv 1) pa_nil))))
      (pss_cons (ps_expr (pe_cal c_want_point (hr.mono (by decide)) (by rfl) (pa_cons (pv 0) (pa_cons (pv 2) pa_nil))))
      (pss_cons (ps_expr (pe_cal c_want_end (hr.mono (by decide)) (by rfl) (pa_cons (pv 0) (pa_cons (pv 3) pa_nil))))
      (pss_cons (ps_expr (pe_cal c_want_few_settings (hr.mono (by decide)) (by rfl) (pa_cons (pv 0) pa_nil)))
      (pss_cons (ps_set (i := 5) sc_fewest_turned.nd rfl (Or.inr rfl) (pe_mk c_Yard (hr.mono (by decide)) (by rfl) (pa_cons (pv 0) (pa_cons (pv 2) pa_nil))))
      (pss_cons (ps_set (i := 6) sc_fewest_turned.nd rfl (Or.inl rfl) (pe_callB (r := rSortedD encNS K) (cr_sortedD hr.units) (by rfl) T.m_sorted (by decide +kernel) (pa_cons (pe_lc (own := [("one", 9)]) (by rfl) sc_fewest_turned.nd (pi_seqK false (pe_cal c_all_settings (hr.mono (by decide)) (by rfl) (pa_cons (pv 0) pa_nil))) (blkOk_by (N := ["net", "setting", "begin", "end", "told", "yard", "rows", "found", "least", "one", "row", "many"]) (sc := defScope s_fewest_turned) (own := [("one", 9)]) (by decide +kernel)) (fun _ _ _ _ _ => (pg_name (i := 9) sc_fewest_turned.nd rfl (Or.inl rfl))) (fun _ _ _ _ _ => pts_nil) (fun _ _ _ _ _ => (pe_tup (pa_cons (pe_cal c_apart_by (hr.mono (by decide)) (by rfl) (pa_cons (pv 4) (pa_cons (pv 9) pa_nil))) (pa_cons (pv 9) pa_nil))))) pa_nil)))
      (pss_cons (ps_set (i := 7) sc_fewest_turned.nd rfl (Or.inr rfl) (pe_lc (own := [("row", 10)]) (by rfl) sc_fewest_turned.nd (pi_seqK false (pv 6)) (blkOk_by (N := ["net", "setting", "begin", "end", "told", "yard", "rows", "found", "least", "one", "row", "many"]) (sc := defScope s_fewest_turned) (own := [("row", 10)]) (by decide +kernel)) (fun _ _ _ _ _ => (pg_name (i := 10) sc_fewest_turned.nd rfl (Or.inl rfl))) (fun _ _ _ _ _ => (pts_one (pt_cmpR op_eq (pe_cal c_yard_end (hr.mono (by decide)) (by rfl) (pa_cons (pv 5) (pa_cons (pe_ix (r := rIxT K) ix_tup (pv 10) pe_int (fun _ _ => rfl)) pa_nil))) (pv 3) (nomark _)))) (fun _ _ _ _ _ => (pv 10))))
      (pss_cons (ps_if (pt_cmpR (r := rEqD K) (op_eqD hr.units) (pv 7) (pe_lst pa_nil) (nomark _)) (pss_one (ps_ret pe_non)) pss_nil)
      (pss_cons (ps_setLc (i := 8) (own := [("many", 11), ("one", 9)]) (g := gTup K 2 (gCons (gName 11) (gCons (gName 9) gNil))) (by rfl) sc_fewest_turned.nd rfl rfl (sw_true rfl rfl rfl (by decide +kernel)) (pi_seqK false (pv 7)) (blkOk_by (N := ["net", "setting", "begin", "end", "told", "yard", "rows", "found", "least", "one", "row", "many"]) (sc := defScope s_fewest_turned) (own := [("many", 11), ("one", 9)]) (by decide +kernel)) (fun _ _ _ _ _ => (pg_tup rfl (pgs_cons (pg_name (i := 11) sc_fewest_turned.nd rfl (Or.inl rfl)) (pgs_cons (pg_name (i := 9) sc_fewest_turned.nd rfl (Or.inl rfl)) pgs_nil)))) (fun _ _ _ _ _ => (pts_one (pt_cmpR op_eq (pv 11) (pe_ix (r := rIxT K) ix_tup (pe_ix (r := rIxL K) ix_list (pv 7) pe_int (fun _ _ => rfl)) pe_int (fun _ _ => rfl)) (nomark _)))) (fun _ _ _ _ _ => (pv 9)))
      (pss_cons (ps_expr (pe_cal c_want_at_most (hr.mono (by decide)) (by rfl) (pa_cons pe_str (pa_cons (pe_cst (by rfl) T.MOST_MENDS) (pa_cons (pe_callB (r := rLenS K) call_len_seq (by rfl) T.m_len PySem.boot_len (pa_cons (pv 8) pa_nil)) pa_nil)))))
      (pss_one (ps_ret (pe_tup (pa_cons (pe_ix (r := rIxT K) ix_tup (pe_ix (r := rIxL K) ix_list (pv 7) pe_int (fun _ _ => rfl)) pe_int (fun _ _ => rfl)) (pa_cons (pv 8) pa_nil)))))))))))))))), ?_⟩
    refine ⟨_, rfl, p, e, rows, rfl, hN, ?_⟩
    refine ⟨_, rfl, _, rfl, kq, p, a, e, rows, st, rfl, hN, ha, hs, by omega, fun H1 l e1 hl0 hl => ?_⟩
    have hN1 := hN.mono e1
    refine ⟨_, rfl, _, rfl, p, e, rows, b, rfl, hN1, hb, ?_⟩
    refine ⟨_, rfl, _, rfl, p, e, rows, x, rfl, hN1, hx, ?_⟩
    refine ⟨_, rfl, p, e, rows, rfl, hN1, ok, ?_⟩
    refine ⟨_, rfl, _, rfl, fun yx dx nyx ndx ne => ?_⟩
    have eN : Ex H1 (upd (upd H1 dx (.own yx)) yx (.ins CY dx [])) := fun c o ho => by rw [upd_ne (ne_of_none ho nyx), upd_ne (ne_of_none ho ndx)]; exact ho
    refine ⟨yx, dx, p, e, b, rows, rfl, upd_same, hN1.mono eN, ok, he, fun H2 k2 hY => ⟨rfl, ?_⟩⟩
    have e2 : Ex H1 H2 := fun c o ho => k2 c o (ne_of_none ho nyx) (eN _ _ ho)
    have e12 := e1.trans e2
    refine ⟨_, rfl, p, e, rows, rfl, hN.mono e12, ok, fun H3 sa e3 hsa0 ⟨ss, hss, hall⟩ => ?_⟩
    have hsl := hall.len
    refine ⟨sa, rfl, ⟨_, SqK.l hss⟩, fun D hD => lcN walk_seqK hD (by omega) (fun i y H => ∀ one, (allM rows)[i]? = some one → IsNS H y (apartM st one, one)) (fun i y H H' e h r hr => (h r hr).ex e) (fun H4 e4 => SqK.l (e4 _ _ hss)) (fun i xx H4 H5 Ky hi e4 hu hYY ky => ?_) fun H4 ys e4 hy4 hal => ?_⟩
    · obtain ⟨rfl, hxx⟩ := hYY
      obtain ⟨one, ho, oa, rfl, hoa⟩ := hall.getl hxx
      obtain ⟨u, hu⟩ := hu
      refine ⟨rfl, _, rfl, _, rfl, l, oa, st, one, rfl, (e2.trans (e3.trans e4)) _ _ hl, e4 _ _ hoa, by rw [All2.len hs]; omega, fun H6 e6 => ⟨_, rfl, by show 2 ≤ sizeLine; decide, fun t ht => ky _ _ (e6.trans (Ex.new ht)) fun one' ho' => ?_⟩⟩
      rw [ho] at ho'
      cases ho'
      have hoD : oa ≠ D := ne_of_none hoa hD
      refine ⟨t, oa, rfl, hide_new hu (fresh_back e6 ht) upd_same, ?_⟩
      rw [hide_ne hoD]
      exact (Ex.new ht) _ _ (e6 _ _ (e4 _ _ hoa))
    have e34 := e3.trans e4
    have halN : All2 (fun y one => IsNS H4 y (apartM st one, one)) ys (allM rows) := All2.of_range hsl (hal.imp fun y i h one ho => (h one ho).ex hide_out)
    have hyl : ys.length = (allM rows).length := halN.len
    let bs : List (V × (Nat × List Nat)) := ys.zip ((allM rows).map fun one => (apartM st one, one))
    have hb1 : bs.map Prod.fst = ys := List.map_fst_zip (by rw [List.length_map]; omega)
    have hb2 : bs.map Prod.snd = (allM rows).map fun one => (apartM st one, one) := List.map_snd_zip (by rw [List.length_map]; omega)
    have hbl : bs.length ≤ 27 := by
      have : bs.length = ys.length := by rw [← hb1, List.length_map]
      omega
    have hbq : ∀ q ∈ bs, IsNS H4 q.1 q.2 ∧ q.2.2 ∈ allM rows := fun q hq => by
      obtain ⟨i, hi⟩ := List.mem_iff_getElem?.mp hq
      obtain ⟨h1, h2⟩ := List.getElem?_zip_eq_some.mp hi
      rw [List.getElem?_map] at h2
      obtain ⟨one, h2, h5⟩ := Option.map_eq_some_iff.mp h2
      obtain ⟨one', h6, h7⟩ := halN.getl h1
      rw [h2] at h6
      cases h6
      rw [← h5]
      exact ⟨h7, List.mem_of_getElem? h2⟩
    have hmap : ∀ bs : List (V × (Nat × List Nat)), (bs.map fun b => encNS b.2) = (bs.map fun b => (((b.2.1 : Int), castL b.2.2) : Int × List Int)).map dNS := fun bs => by rw [List.map_map]; rfl
    refine ⟨D, bs, rfl, SqL.of (by rw [hb1]; exact hy4), fun q hq => (hbq q hq).1.dp, by omega, ?_, ?_, fun q => dNS_depth _, fun pr hpr => ?_⟩
    · rw [hmap]
      exact PySem.W.AllAlike.of alike_dNS
    · rw [hmap]
      exact PySem.W.Sortable.tuples fun b => ⟨_, _, rfl⟩
    obtain hlo := least_of (p := fun q => decide (YEnd e rows q.2.2 b x)) hb2 (fun q => decide_eq_true_iff)
    have hperm := List.mergeSort_perm bs leNS
    generalize hL : bs.mergeSort leNS = L at hlo hperm hpr
    have hLq : ∀ q ∈ L, IsNS H4 q.1 q.2 ∧ q.2.2 ∈ allM rows := fun q hq => hbq q (hperm.mem_iff.mp hq)
    have hLl : L.length ≤ 27 := by rw [hperm.length_eq]; exact hbl
    have e5 : Ex H4 (upd H4 pr (.lst (L.map Prod.fst))) := Ex.new hpr
    have e05 : Ex H (upd H4 pr (.lst (L.map Prod.fst))) := (e12.trans e34).trans e5
    -- found
    refine ⟨_, rfl, pr, rfl, ⟨_, SqK.l upd_same⟩, fun D2 hD2 => lcV walk_seqK hD2 (by rw [List.length_map]; omega) (fun i => decide (YEnd e rows (L.getD i (.non, 0, [])).2.2 b x)) (fun i => (L.getD i (.non, 0, [])).1) (fun H6 e6 => SqK.l (e6 _ _ upd_same)) (fun i xx H6 H7 Ky Kn hi e6 hYY ky kn => ?_) fun H6 e6 hy6 => ?_⟩
    · obtain ⟨rfl, hxx⟩ := hYY
      rw [List.getElem?_map] at hxx
      obtain ⟨q, hq, rfl⟩ := Option.map_eq_some_iff.mp hxx
      rw [getD_some hq] at ky kn
      obtain ⟨⟨t, o, eq1, ht, ho⟩, hmem⟩ := hLq q (List.mem_of_getElem? hq)
      have e46 := e5.trans e6
      rw [eq1] at ky ⊢
      refine ⟨rfl, _, rfl, _, rfl, t, _, 1, _, rfl, rfl, SqT.of (e46 _ _ ht), atI_nat (j := 1) rfl, yx, o, e, b, rows, q.2.2, rfl, hY.mono (e34.trans e46), e46 _ _ ho, ok, allM_mem_ok hmem, hb, he, fun H7 x' e7 hYE => ⟨_, rfl, rfl, _, rfl, ?_⟩⟩
      by_cases hxx' : x' = x
      · subst hxx'
        exact itT (decide_eq_true rfl) ⟨_, rfl, ky _ (decide_eq_true hYE) e7⟩
      · exact itF (decide_eq_false fun z => hxx' (by injection z with z; omega)) (kn _ (decide_eq_false fun z => hxx' (hYE.unique z)) e7)
    rw [List.length_map, range_filter_map (fun q : V × (Nat × List Nat) => decide (YEnd e rows q.2.2 b x)) Prod.fst] at hy6
    generalize hF : L.filter (fun q => decide (YEnd e rows q.2.2 b x)) = F0 at hlo hy6
    have hFq : ∀ q ∈ F0, IsNS H6 q.1 q.2 ∧ q.2.2 ∈ allM rows := fun q hq => by
      rw [← hF] at hq
      have := hLq q (List.mem_filter.mp hq).1
      exact ⟨this.1.ex (e5.trans e6), this.2⟩
    have hFl : F0.length ≤ 27 := by
      rw [← hF]
      exact Nat.le_trans (List.length_filter_le _ _) hLl
    have e06 : Ex H H6 := e05.trans e6
    have hdpF : ∀ F : List (V × (Nat × List Nat)), (∀ q ∈ F, IsNS H6 q.1 q.2 ∧ q.2.2 ∈ allM rows) → DpAll K H6 (F.map Prod.fst) (F.map fun q => encNS q.2) := by
      intro F
      induction F with
      | nil => intro _; exact .nil
      | cons q F ih => intro h; exact .cons (h q (by simp)).1.dp (ih fun q' hq' => h q' (by simp [hq']))
    refine ⟨_, rfl, by show 0 ≤ sizeLine; decide, fun z hz => ?_⟩
    have e7 : Ex H6 (upd H6 z (.lst [])) := Ex.new hz
    refine ⟨_, _, ex_dp e7 _ _ (.lst (SqL.of hy6) (hdpF F0 hFq)), .lst (SqL.of upd_same) .nil, (shp_list (n := 2) fun d hd => by obtain ⟨q, _, rfl⟩ := List.mem_map.mp hd; exact shp_encNS _).shaped (by decide), (shp_dL []).shaped (by decide), _, rfl, ?_⟩
    rcases hlo with ⟨rfl, hno⟩ | ⟨q0, F, rfl, hmin, hleast⟩
    · exact itT (by simp [PyData.eqv, PyData.eqvAll]) (k0 _ (e06.trans e7) hno)
    refine itF (by simp [PyData.eqv, PyData.eqvAll]) ?_
    obtain ⟨⟨t0, o0, eq0, ht0, ho0⟩, _⟩ := hFq q0 (by simp)
    have hy7 := e7 _ _ hy6
    have hix : ∀ {H' : Hp}, Ex (upd H6 z (.lst [])) H' → SqL K H' D2 (((q0 :: F)).map Prod.fst) := fun e => SqL.of (e _ _ hy7)
    -- least
    refine ⟨_, rfl, D2, rfl, ⟨_, SqK.l hy7⟩, fun D3 hD3 => lcG walk_seqK hD3 (by rw [List.length_map]; omega) (fun i => decide (((q0 :: F).getD i (.non, 0, [])).2.1 = q0.2.1)) (fun i y H => IsLN H y ((q0 :: F).getD i (.non, 0, [])).2.2) (fun _ _ _ _ e h => h.ex e) (fun H8 e8 => SqK.l (e8 _ _ hy7)) (fun i xx H8 H9 Ky Kn hi e8 hu hYY ky kn => ?_) fun H8 ys8 e8 hy8 hal8 => ?_⟩
    · obtain ⟨rfl, hxx⟩ := hYY
      rw [List.getElem?_map] at hxx
      obtain ⟨q, hq, rfl⟩ := Option.map_eq_some_iff.mp hxx
      rw [getD_some hq] at ky kn
      obtain ⟨⟨t, o, eq1, ht, ho⟩, hmem⟩ := hFq q (List.mem_of_getElem? hq)
      have e68 := e7.trans e8
      rw [eq1]
      refine ⟨t, _, rfl, SqT.of (e68 _ _ ht), rfl, _, _, rfl, _, _, rfl, rfl, rfl, ?_⟩
      refine ⟨_, rfl, _, rfl, D2, _, 0, _, rfl, rfl, hix e8, atI_nat (j := 0) rfl, t0, _, 0, _, eq0, rfl, SqT.of (e68 _ _ ht0), atI_nat (j := 0) rfl, rfl, _, rfl, ?_⟩
      by_cases hn0 : q.2.1 = q0.2.1
      · refine itT (decide_eq_true (by rw [hn0])) ⟨_, rfl, ky _ _ (decide_eq_true hn0) (Ex.refl _) ⟨o, rfl, ?_⟩⟩
        exact hide_in (e68) (fresh_back e7 hD3) _ _ ho
      · exact itF (decide_eq_false fun z => hn0 (by injection z with z; omega)) (kn _ (decide_eq_false hn0) (Ex.refl _))
    rw [List.length_map] at hal8
    have hleN : All2 (IsLN H8) ys8 (leastM e rows st b x q0.2.1) := by
      rw [← hleast, ← range_filter_map (fun q : V × (Nat × List Nat) => decide (q.2.1 = q0.2.1)) (fun q => q.2.2) (.non, 0, [])]
      exact All2.mapR.mpr (hal8.imp fun _ _ h => h.ex hide_out)
    have hll : ys8.length ≤ 27 := by
      rw [hleN.len]
      exact Nat.le_trans (List.length_filter_le _ _) hal27
    refine ⟨_, rfl, D3, _, rfl, .inl (SqL.of hy8), _, _, _, rfl, by omega, ?_⟩
    refine ⟨_, rfl, D2, _, 0, _, rfl, rfl, hix e8, atI_nat (j := 0) rfl, t0, _, 0, _, eq0, rfl, SqT.of ((e7.trans e8) _ _ ht0), atI_nat (j := 0) rfl, _, rfl, by show 2 ≤ sizeLine; decide, fun t ht => ?_⟩
    have e9 : Ex H8 (upd H8 t (.tup [.int ((q0.2.1 : Nat) : Int), .ref D3])) := Ex.new ht
    exact k _ t D3 q0.2.1 ((e06.trans (e7.trans e8)).trans e9) (fresh_back (e06.trans e7) hD3) hmin upd_same ⟨ys8, e9 _ _ hy8, hleN.imp fun _ _ h => h.ex e9⟩
theorem ok_fewest_turned (F : FunG K mg "fewest_turned" s_fewest_turned ["net", "setting", "begin", "end"]) (T : Txt K mg CN CY) (c_want_net : Cal P w K mg base "want_net" ["value"] 1 (spWantNet CN)) (c_want_setting : Cal P w K mg base "want_setting" ["net", "value"] 4 (spWantSet CN))
    (c_want_point : Cal P w K mg base "want_point" ["net", "value"] 3 (spWantPoint CN)) (c_want_end : Cal P w K mg base "want_end" ["net", "value"] 3 (spWantEnd CN)) (c_want_few_settings : Cal P w K mg base "want_few_settings" ["net"] 2 (spFew CN))
    (c_Yard : MkCal P w K mg base "Yard" CY ["self", "net", "begin"] 8 (spYardI CN CY)) (c_all_settings : Cal P w K mg base "all_settings" ["net"] 1 (spAll CN)) (c_apart_by : Cal P w K mg base "apart_by" ["setting", "other"] 1 spApart)
    (c_yard_end : Cal P w K mg base "yard_end" ["yard", "setting"] 4 (spYEnd CN CY)) (c_want_at_most : Cal P w K mg base "want_at_most" ["what", "limit", "number"] 1 spAtMost) : Cal P w K mg base "fewest_turned" ["net", "setting", "begin", "end"] 10 (spFewest CN) := F.cal fun f fd F => fn_fewest_turned F T c_want_net c_want_setting c_want_point c_want_end c_want_few_settings c_Yard c_all_settings c_apart_by c_yard_end c_want_at_most
end
end Fp
end part_W8
section part_W9
set_option maxHeartbeats 2000000
namespace Fp
open PySem PySem.Spec PyProof.Rows L2 Evl
/-- all but l stays -/
def ExB (l : Addr) (H H' : Hp) : Prop := ∀ c o, c ≠ l → H c = some o → H' c = some o
theorem ExB.refl {l : Addr} {H : Hp} : ExB l H H := fun _ _ _ h => h
theorem ExB.trans {l : Addr} {H H1 H2 : Hp} (a : ExB l H H1) (b : ExB l H1 H2) : ExB l H H2 := fun c o hc h => b c o hc (a c o hc h)
theorem ExB.of {l : Addr} {H H' : Hp} (e : Ex H H') : ExB l H H' := fun c o _ h => e c o h
theorem ExB.back {l p : Addr} {H H' : Hp} {u : HO} (e : ExB l H H') (hl : H' l = some u) (h : H' p = none) : H p = none := by
  cases q : H p with
  | none => rfl
  | some o =>
    have hp : p ≠ l := by
      rintro rfl
      rw [hl] at h
      cases h
    rw [e p o hp q] at h
    cases h
/-- a list that is neither l nor f -/
def IsLB (l f : Addr) (H : Hp) (v : V) (r : List Int) : Prop := ∃ a, v = .ref a ∧ a ≠ l ∧ a ≠ f ∧ H a = some (.lst (r.map V.int))
def PotAt (H : Hp) (l : Addr) : Prop := ∃ a b : Int, H l = some (.lst [.int a, .int b]) ∧ 0 ≤ a ∧ 0 ≤ b ∧ b < 2147483588
def spPot (K : PySem.W.Frag) : Sp := fun vs H Q _ => ∃ (a : Addr) (ns : List Int), vs = [.ref a, .int 0] ∧ SqL K H a (ns.map V.int) ∧ ∀ H' l, Ex H H' → H l = none → PotAt H' l → Q (.ref l) H'
def spDraw : Sp := fun vs H Q _ => ∃ (l : Addr) (n : Nat), vs = [.ref l, .int (n : Int)] ∧ PotAt H l ∧ 1 ≤ n ∧ n ≤ 1000 ∧ ∀ H' (d : Nat), ExB l H H' → PotAt H' l → d < n → Q (.int (d : Int)) H'
/-- a list of lists, none of them l -/
def LLB (l : Addr) (H : Hp) (a : Addr) (rows : Rows) : Prop := a ≠ l ∧ ∃ vs, H a = some (.lst vs) ∧ All2 (fun v r => ∃ c, v = .ref c ∧ c ≠ l ∧ H c = some (.lst (r.map V.int))) vs rows
theorem LLB.monoB {l a : Addr} {H H' : Hp} {rows : Rows} (e : ExB l H H') (h : LLB l H a rows) : LLB l H' a rows := let ⟨h1, vs, h2, h3⟩ := h; ⟨h1, vs, e _ _ h1 h2, h3.imp fun v r ⟨c, a1, a2, a3⟩ => ⟨c, a1, a2, e _ _ a2 a3⟩⟩
theorem LLB.ll {l a : Addr} {H : Hp} {rows : Rows} (h : LLB l H a rows) : LL H a rows := let ⟨_, vs, h2, h3⟩ := h; ⟨vs, h2, h3.imp fun v r ⟨c, a1, _, a3⟩ => ⟨c, a1, a3⟩⟩
def spLExits : Sp := fun vs H Q _ => ∃ (l : Addr) (e : Nat), vs = [.ref l, .int (e : Int)] ∧ PotAt H l ∧ 1 ≤ e ∧ e ≤ 2 ∧ ∀ H' a rows, ExB l H H' → PotAt H' l → H a = none → LLB l H' a rows → NetOk e rows → Q (.ref a) H'
def spLSet : Sp := fun vs H Q _ => ∃ (l a : Addr) (e : Nat) (rows : Rows), vs = [.ref l, .ref a] ∧ PotAt H l ∧ LL H a rows ∧ NetOk e rows ∧ ∀ H' s st, ExB l H H' → PotAt H' l → H s = none → H' s = some (.lst (nI st)) → SetOk rows st → Q (.ref s) H'
section
variable {P : Program} {w : World} {K : PySem.W.Frag} {mg : Str → Option Value} {base : Heap} {CN CY : Addr}
abbrev s__law_pot : Stmt := (topS 88)
theorem sc__law_pot : FnScope ["_law_script", "_law_k", "_law_cell"] ["_law_script", "_law_k"] (defScope s__law_pot) := ⟨rfl, rfl, rfl, by decide +kernel, rfl, by decide +kernel, by decide +kernel⟩
theorem ok__law_pot (F : FunG K mg "_law_pot" s__law_pot ["_law_script", "_law_k"]) (T : Txt K mg CN CY) : Cal P w K mg base "_law_pot" ["_law_script", "_law_k"] 1 (spPot K) := by
  refine F.cal fun f fd F => F.ok sc__law_pot (fun vs H Q E h => ?_) (fun cdv A outer s H vs Q E hr h => ?_)
  · obtain ⟨a, ns, rfl, _⟩ := h
    rfl
  · obtain ⟨a, ns, rfl, hs, k⟩ := h
    refine ⟨_, (pss_cons (ps_set (i := 2) sc__law_pot.nd rfl (Or.inl rfl) (pe_op op_add (pe_op op_mul pe_int (pv 1)) pe_int))
      (pss_cons (ps_if (pt_cmpR op_lt (pv 1) (pe_callB (r := rLenS K) call_len_seq (by rfl) T.m_len PySem.boot_len (pa_cons (pv 0) pa_nil)) (nomark _)) (pss_one (ps_set (i := 2) sc__law_pot.nd rfl (Or.inl rfl) (pe_callB call_abs (by rfl) T.m_abs (by decide +kernel) (pa_cons (pe_ix (r := rIxL K) ix_list (pv 0) (pv 1) (fun _ _ => rfl)) pa_nil)))) pss_nil)
      (pss_one (ps_ret (pe_lst (pa_cons (pe_callB (call_max2 rfl) (by rfl) T.m_max (by decide +kernel) (pa_cons pe_int (pa_cons (pe_op op_sub (pv 2) (pe_op op_pow pe_int pe_int)) pa_nil))) (pa_cons (pe_op op_add (pe_op op_mod (pe_callTy (T := "int") call_int1 (by rfl) T.m_int (by decide +kernel) (pa_cons (pe_op op_add (pe_op op_mul (pe_op op_mod (pe_callTy (T := "int") call_int1 (by rfl) T.m_int (by decide +kernel) (pa_cons (pv 2) pa_nil)) pe_int) (pe_op op_add (pe_op op_mul pe_int (pv 1)) pe_int)) pe_int) pa_nil)) pe_int) pe_int) pa_nil))))))), ?_⟩
    have fin : ∀ (c : Int) (σ : L2.St), σ = [some (.ref a), some (.int 0), some (.int c)] → ∀ D : Ends, D.rt = Q →
        tRet (tLst (tCons (tCB (fun xs H Q => ∃ i j, xs = [.int i, .int j] ∧ Q (.int (if j > i then j else i)) H) (tCons (tC (.int 0)) (tCons (tOp (rSub) (tVar 2) (tOp (rI CPow fun i j => .int (i ^ j.toNat)) (tC (.int 10)) (tC (.int 18)))) tNil)))
          (tCons (tOp rAdd (tOp (rI (fun _ j => 0 < j) fun i j => .int (i % j)) (tCB (fun xs H Q => (∃ i, xs = [.int i] ∧ Q (.int i) H) ∨ ∃ k, xs = [.bl k] ∧ Q (.int (if k then 1 else 0)) H) (tCons (tOp rAdd (tOp (rI CMul fun i j => .int (i * j)) (tOp (rI (fun _ j => 0 < j) fun i j => .int (i % j)) (tCB (fun xs H Q => (∃ i, xs = [.int i] ∧ Q (.int i) H) ∨ ∃ k, xs = [.bl k] ∧ Q (.int (if k then 1 else 0)) H) (tCons (tVar 2) tNil)) (tC (.int 2147483549)))
            (tOp rAdd (tOp (rI CMul fun i j => .int (i * j)) (tC (.int 2)) (tVar 1)) (tC (.int 809)))) (tC (.int 1597))) tNil)) (tC (.int 2147483543))) (tC (.int 1))) tNil))) D σ H := by
      rintro c σ rfl D hD
      have h1 : (0 : Int) ≤ (c % 2147483549) := Int.emod_nonneg _ (by decide)
      have h2 : (c % 2147483549) < 2147483549 := Int.emod_lt_of_pos _ (by decide)
      refine ⟨_, rfl, _, _, rfl, rfl, ⟨by decide, by decide, by decide⟩, _, _, rfl, rfl, _, _, rfl, ?_⟩
      refine ⟨_, rfl, .inl ⟨_, rfl, _, _, rfl, rfl, (by show (0 : Int) < _; decide), _, rfl, _, _, rfl, rfl, .inl ⟨by decide, by decide⟩, _, _, rfl, rfl, _, _, rfl, rfl, .inl ⟨by omega, by omega⟩, _, _, rfl, rfl, .inl ⟨_, rfl, _, _, rfl, rfl, (by show (0 : Int) < _; decide), _, _, rfl, rfl, by show 2 ≤ sizeLine; decide, fun l hl => ?_⟩⟩⟩
      show D.rt _ _
      rw [hD]
      refine k _ l (Ex.new hl) hl ⟨_, _, upd_same, ?_, ?_, ?_⟩
      · split <;> omega
      · have := Int.emod_nonneg ((c % 2147483549) * (2 * 0 + 809) + 1597) (show (2147483543 : Int) ≠ 0 by decide)
        omega
      · have := Int.emod_lt_of_pos ((c % 2147483549) * (2 * 0 + 809) + 1597) (show (0 : Int) < 2147483543 by decide)
        omega
    refine ⟨_, rfl, _, _, rfl, rfl, .inl ⟨by decide, by decide⟩, _, _, rfl, rfl, ?_⟩
    refine ⟨_, rfl, _, rfl, _, _, rfl, .inl hs, _, _, rfl, rfl, _, rfl, ?_⟩
    refine ite2 (fun q => ?_) (fun q => ?_)
    · have hn : 0 < ns.length := by
        have := of_decide_eq_true q
        rw [List.length_map] at this
        omega
      refine ⟨_, rfl, _, rfl, a, _, 0, _, rfl, rfl, hs, mI_at (i := 0) (List.getElem?_eq_getElem hn), _, rfl, ?_⟩
      exact fin _ _ rfl _ rfl
    · exact fin _ _ rfl _ rfl
abbrev s__law_draw : Stmt := (topS 89)
theorem sc__law_draw : FnScope ["_law_pot_here", "_law_size", "_law_digit"] ["_law_pot_here", "_law_size"] (defScope s__law_draw) := ⟨rfl, rfl, rfl, by decide +kernel, rfl, by decide +kernel, by decide +kernel⟩
theorem ok__law_draw (F : FunG K mg "_law_draw" s__law_draw ["_law_pot_here", "_law_size"]) (T : Txt K mg CN CY) : Cal P w K mg base "_law_draw" ["_law_pot_here", "_law_size"] 1 spDraw := by
  refine F.cal fun f fd F => F.ok sc__law_draw (fun vs H Q E h => ?_) (fun cdv A outer s H vs Q E hr h => ?_)
  · obtain ⟨a, ns, rfl, _⟩ := h
    rfl
  · obtain ⟨l, n, rfl, ⟨a, b, hl, ha, hb, hb2⟩, h1, h2, k⟩ := h
    refine ⟨_, (pss_cons (ps_if (pt_cmpR op_gt (pe_ix (r := rIxL K) ix_list (pv 0) pe_int (fun _ _ => rfl)) pe_int (nomark _)) (pss_cons (ps_asg (pe_callB call_divmod (by rfl) T.m_divmod (by decide +kernel) (pa_cons (pe_ix (r := rIxL K) ix_list (pv 0) pe_int (fun _ _ => rfl)) (pa_cons (pv 1) pa_nil))) (pg_tup rfl (pgs_cons (pg_sub (pv 0) pe_int set_list) (pgs_cons (pg_name (i := 2) sc__law_draw.nd rfl (Or.inl rfl)) pgs_nil))))
      (pss_one (ps_ret (pv 2)))) pss_nil)
      (pss_cons (ps_asg (pe_op op_mod (pe_callTy (T := "int") call_int1 (by rfl) T.m_int (by decide +kernel) (pa_cons (pe_op op_add (pe_op op_mul (pe_ix (r := rIxL K) ix_list (pv 0) pe_int (fun _ _ => rfl)) pe_int) pe_int) pa_nil)) pe_int) (pg_sub (pv 0) pe_int set_list))
      (pss_one (ps_ret (pe_op op_mod (pe_callTy (T := "int") call_int1 (by rfl) T.m_int (by decide +kernel) (pa_cons (pe_op op_fdiv (pe_op op_mod (pe_callTy (T := "int") call_int1 (by rfl) T.m_int (by decide +kernel) (pa_cons (pe_op op_mul (pe_ix (r := rIxL K) ix_list (pv 0) pe_int (fun _ _ => rfl)) (pe_ix (r := rIxL K) ix_list (pv 0) pe_int (fun _ _ => rfl))) pa_nil)) pe_int) pe_int) pa_nil)) (pv 1)))))), ?_⟩
    refine ⟨_, rfl, l, _, 0, _, rfl, rfl, SqL.of hl, atI_nat (j := 0) rfl, _, _, rfl, rfl, _, rfl, ?_⟩
    refine ite2 (fun q => ?_) (fun q => ?_)
    · refine ⟨_, rfl, l, _, 0, _, rfl, rfl, SqL.of hl, atI_nat (j := 0) rfl, _, rfl, _, _, rfl, ⟨by omega, by omega⟩, fun t ht => ⟨t, _, rfl, SqT.of upd_same, rfl, _, _, rfl, ?_⟩⟩
      have nlt : l ≠ t := ne_of_none hl ht
      refine ⟨_, rfl, l, _, 0, 0, rfl, rfl, by rw [upd_ne nlt]; exact hl, rfl, _, _, rfl, rfl, _, rfl, ?_⟩
      obtain ⟨d, hd⟩ : ∃ d : Nat, a % (n : Int) = (d : Int) := ⟨_, (Int.toNat_of_nonneg (Int.emod_nonneg a (by omega))).symm⟩
      have hdn : d < n := by
        have := Int.emod_lt_of_pos a (show (0 : Int) < (n : Int) by omega)
        omega
      show Q (.int (a % (n : Int))) _
      rw [hd]
      refine k _ d (fun c o hc ho => ?_) ⟨a / (n : Int), b, upd_same, Int.ediv_nonneg ha (by omega), hb, hb2⟩ hdn
      rw [upd_ne hc, upd_ne (ne_of_none ho ht)]
      exact ho
    · have m1 : (-(2 ^ 64) : Int) < b ∧ b < 2 ^ 64 := ⟨by omega, by omega⟩
      have r0 := Int.emod_nonneg (b * 48271 + 19069) (show (2147483587 : Int) ≠ 0 by decide)
      have r1 := Int.emod_lt_of_pos (b * 48271 + 19069) (show (0 : Int) < 2147483587 by decide)
      refine ⟨_, rfl, l, _, 1, _, rfl, rfl, SqL.of hl, atI_nat (j := 1) rfl, _, _, rfl, rfl, .inl m1, _, _, rfl, rfl, .inl ⟨_, rfl, _, _, rfl, rfl, (by show (0 : Int) < _; decide), _, rfl, l, _, 1, 1, rfl, rfl, hl, rfl, ?_⟩⟩
      refine ⟨_, rfl, l, _, 1, _, rfl, rfl, SqL.of upd_same, atI_nat (j := 1) rfl, _, rfl, l, _, 1, _, rfl, rfl, SqL.of upd_same, atI_nat (j := 1) rfl, _, _, rfl, rfl, .inl ⟨by omega, by omega⟩, .inl ⟨_, rfl, _, _, rfl, rfl, (by show (0 : Int) < _; decide), _, _, rfl, rfl, ⟨by decide, by decide⟩, .inl ⟨_, rfl, _, rfl, _, _, rfl, rfl, by omega, ?_⟩⟩⟩
      generalize hz : (b * 48271 + 19069) % 2147483587 = z at r0 r1
      obtain ⟨d, hd⟩ : ∃ d : Nat, (z * z % 2147483549 / 13) % (n : Int) = (d : Int) := ⟨_, (Int.toNat_of_nonneg (Int.emod_nonneg _ (by omega))).symm⟩
      have hdn : d < n := by
        have := Int.emod_lt_of_pos (z * z % 2147483549 / 13) (show (0 : Int) < (n : Int) by omega)
        omega
      show Q (.int ((z * z % 2147483549 / 13) % (n : Int))) _
      rw [hd]
      exact k _ d (fun c o hc ho => by rw [upd_ne hc]; exact ho) ⟨a, z, by rw [upd_same, ← hz]; rfl, ha, r0, by omega⟩ hdn
abbrev s__law_exits : Stmt := (topS 90)
theorem sc__law_exits : FnScope ["_law_pot_here", "_law_ends", "_law_wide", "_law_points", "_law_found", "_law_point", "_law_row", "_law_turn"] ["_law_pot_here", "_law_ends"] (defScope s__law_exits) := ⟨rfl, rfl, rfl, by decide +kernel, rfl, by decide +kernel, by decide +kernel⟩
theorem ok__law_exits (F : FunG K mg "_law_exits" s__law_exits ["_law_pot_here", "_law_ends"]) (T : Txt K mg CN CY) (c__law_draw : Cal P w K mg base "_law_draw" ["_law_pot_here", "_law_size"] 1 spDraw) : Cal P w K mg base "_law_exits" ["_law_pot_here", "_law_ends"] 2 spLExits := by
  refine F.cal fun f fd F => F.ok sc__law_exits (fun vs H Q E h => ?_) (fun cdv A outer s H vs Q E hr h => ?_)
  · obtain ⟨l, e, rfl, _⟩ := h
    rfl
  · obtain ⟨l, e, rfl, hp, he1, he2, k⟩ := h
    obtain ⟨pa, pb, hpl, _⟩ := id hp
    refine ⟨_, (pss_cons (ps_set (i := 2) sc__law_exits.nd rfl (Or.inl rfl) (pe_op op_add pe_int (pe_cal c__law_draw (hr.mono (by decide)) (by rfl) (pa_cons (pv 0) (pa_cons pe_int pa_nil)))))
      (pss_cons (ps_par (i := 3) (j := 4) (by rfl) sc__law_exits.nd rfl rfl (by decide) rfl rfl (pa_cons (pe_op op_add pe_int (pe_cal c__law_draw (hr.mono (by decide)) (by rfl) (pa_cons (pv 0) (pa_cons (pe_op op_sub pe_int (pv 2)) pa_nil)))) (pa_cons (pe_lst pa_nil) pa_nil)) (by rfl))
      (pss_cons (ps_for PassesOwn.never rfl (pi_range1 (by rfl) T.m_range (pa_cons (pv 3) pa_nil)) (pg_name (i := 5) sc__law_exits.nd rfl (Or.inl rfl)) (pss_cons (ps_set (i := 6) sc__law_exits.nd rfl (Or.inl rfl) (pe_lst pa_nil))
      (pss_cons (ps_for PassesOwn.never rfl (pi_range1 (by rfl) T.m_range (pa_cons (pe_op op_add pe_int (pe_cal c__law_draw (hr.mono (by decide)) (by rfl) (pa_cons (pv 0) (pa_cons (pv 2) pa_nil)))) pa_nil)) (pg_name (i := 7) sc__law_exits.nd rfl (Or.inl rfl)) (pss_one (ps_expr (pe_bm PySem.F.plainAttrs_list PySem.F.slot_list_append PySem.F.type_list_append mt_append (pv 6) (pa_cons (pe_op op_sub (pe_cal c__law_draw (hr.mono (by decide)) (by rfl) (pa_cons (pv 0) (pa_cons (pe_op op_add (pv 3) (pv 1)) pa_nil))) (pv 1)) pa_nil)))))
      (pss_one (ps_expr (pe_bm PySem.F.plainAttrs_list PySem.F.slot_list_append PySem.F.type_list_append mt_append (pv 4) (pa_cons (pv 6) pa_nil)))))))
      (pss_one (ps_ret (pv 4)))))), ?_⟩
    refine ⟨_, rfl, l, 2, rfl, hp, by decide, by decide, fun H1 d1 e1 hp1 hd1 => ⟨_, _, rfl, rfl, ?_⟩⟩
    refine ⟨_, rfl, _, rfl, _, _, rfl, rfl, l, 3 - d1, by show [V.ref l, V.int ((5 : Int) - (2 + (d1 : Int)))] = _; rw [show (5 : Int) - (2 + (d1 : Int)) = ((3 - d1 : Nat) : Int) by omega], hp1, by omega, by omega, fun H2 d2 e2 hp2 hd2 => ⟨_, _, rfl, rfl, by show 0 ≤ sizeLine; decide, fun fl hfl => ⟨_, _, rfl, ?_⟩⟩⟩
    have e12 := e1.trans e2
    obtain ⟨pa2, pb2, hpl2, hpos2⟩ := id hp2
    have hfl0 : H fl = none := e12.back hpl2 hfl
    have hlf : l ≠ fl := ne_of_none hpl2 hfl
    have pts : ((1 : Int) + (d2 : Int)).toNat = d2 + 1 := by omega
    refine ⟨_, rfl, _, rfl, by omega, by omega, for_it walk_range0 (fun i σ H' => ∃ (rows : Rows) (x5 x6 x7 : Option V), σ = [some (.ref l), some (.int (e : Int)), some (.int (2 + (d1 : Int))), some (.int (1 + (d2 : Int))), some (.ref fl), x5, x6, x7] ∧ ExB l H H' ∧ PotAt H' l ∧ (∃ vs, H' fl = some (.lst vs) ∧ All2 (IsLB l fl H') vs rows) ∧ rows.length = i ∧ ∀ r ∈ rows, 1 ≤ r.length ∧ r.length ≤ 3 ∧ ∀ t ∈ r, -(e : Int) ≤ t ∧ t < (d2 : Int) + 1) ⟨[], none, none, none, rfl, e12.trans (.of (Ex.new hfl)), ⟨pa2, pb2, by rw [upd_ne hlf]; exact hpl2, hpos2⟩, ⟨[], upd_same, .nil⟩, rfl, fun r hr => by simp at hr⟩ (fun i σ H' _ _ => trivial) ?_ ?_⟩
    · rintro i x σ _ H3 hi ⟨rows, x5, x6, x7, rfl, e3, hp3, ⟨vs, hvs, hall⟩, hlen, hrows⟩ ⟨rfl, rfl⟩
      obtain ⟨pa3, pb3, hpl3, hpos3⟩ := id hp3
      refine ⟨by show 0 ≤ sizeLine; decide, fun rl hrl => ?_⟩
      have hlr : l ≠ rl := ne_of_none hpl3 hrl
      have hfr : fl ≠ rl := ne_of_none hvs hrl
      have e4 : Ex H3 (upd H3 rl (.lst [])) := Ex.new hrl
      refine ⟨_, rfl, _, rfl, l, d1 + 2, by rw [show (2 : Int) + (d1 : Int) = ((d1 + 2 : Nat) : Int) by omega]; rfl, ⟨pa3, pb3, by rw [upd_ne hlr]; exact hpl3, hpos3⟩, by omega, by omega, fun H5 d3 e5 hp5 hd3 => ⟨_, _, rfl, rfl, _, rfl, by omega, by omega, ?_⟩⟩
      have hn3 : ((1 : Int) + (d3 : Int)).toNat = d3 + 1 := by omega
      rw [hn3]
      refine for_it walk_range0 (fun j σ H' => ∃ (r : List Int) (x7 : Option V), σ = [some (.ref l), some (.int (e : Int)), some (.int (2 + (d1 : Int))), some (.int (1 + (d2 : Int))), some (.ref fl), some (.int (i : Int)), some (.ref rl), x7] ∧ ExB l H3 H' ∧ PotAt H' l ∧ H' rl = some (.lst (r.map V.int)) ∧ r.length = j ∧ ∀ t ∈ r, -(e : Int) ≤ t ∧ t < (d2 : Int) + 1) ⟨[], x7, rfl, (ExB.of e4).trans e5, hp5, e5 _ _ hlr.symm upd_same, rfl, fun t ht => by simp at ht⟩ (fun i σ H' _ _ => trivial) ?_ ?_
      · rintro j x σ _ H6 hj ⟨r, x7', rfl, e6, hp6, hrl6, hrlen, hrt⟩ ⟨rfl, rfl⟩
        refine ⟨_, rfl, .inl ⟨rfl, _, SqL.of hrl6⟩, _, rfl, _, rfl, _, rfl, _, _, rfl, rfl, l, d2 + 1 + e, by show [V.ref l, V.int ((1 : Int) + (d2 : Int) + (e : Int))] = _; rw [show (1 : Int) + (d2 : Int) + (e : Int) = ((d2 + 1 + e : Nat) : Int) by omega], hp6, by omega, by omega, fun H7 d4 e7 hp7 hd4 => ⟨_, rfl, _, _, rfl, rfl, ?_⟩⟩
        have hrl7 := e7 _ _ hlr.symm hrl6
        refine ⟨rl, _, _, rfl, rfl, hrl7, sz_lt (by rw [List.length_map]; omega), r ++ [(d4 : Int) - (e : Int)], _, rfl, fun c o hc ho => ?_, ?_, ?_, by rw [List.length_append, hrlen]; rfl, fun t ht => ?_⟩
        · rw [upd_ne (ne_of_none ho hrl)]
          exact e7 _ _ hc (e6 _ _ hc ho)
        · obtain ⟨pa7, pb7, hpl7, hpos7⟩ := hp7
          exact ⟨pa7, pb7, by rw [upd_ne hlr]; exact hpl7, hpos7⟩
        · rw [upd_same, List.map_append]
          rfl
        · rcases List.mem_append.mp ht with h | h
          · exact hrt t h
          · have : t = (d4 : Int) - (e : Int) := by simpa using h
            omega
      · rintro σ H6 ⟨r, x7', rfl, e6, hp6, hrl6, hrlen, hrt⟩
        have hvs6 := e6 _ _ hlf.symm hvs
        have hvl := hall.len
        refine ⟨_, rfl, .inl ⟨rfl, _, SqL.of hvs6⟩, _, rfl, fl, _, _, rfl, rfl, hvs6, sz_lt (by omega), rows ++ [r], _, _, _, rfl, fun c o hc ho => ?_, ?_, ⟨vs ++ [.ref rl], upd_same, ?_⟩, by rw [List.length_append, hlen]; rfl, fun r' hr' => ?_⟩
        · rw [upd_ne (ne_of_none ho hfl0)]
          exact e6 _ _ hc (e3 _ _ hc ho)
        · obtain ⟨pa7, pb7, hpl7, hpos7⟩ := hp6
          refine ⟨pa7, pb7, ?_, hpos7⟩
          rw [upd_ne hlf]
          exact hpl7
        · have keep : ∀ v r', IsLB l fl H3 v r' → IsLB l fl (upd H6 fl (.lst (vs ++ [.ref rl]))) v r' := fun v r' ⟨c, ec, c1, c2, hc⟩ => ⟨c, ec, c1, c2, by rw [upd_ne c2]; exact e6 _ _ c1 hc⟩
          exact (hall.imp keep).snoc ⟨rl, rfl, hlr.symm, hfr.symm, by rw [upd_ne hfr.symm]; exact hrl6⟩
        · rcases List.mem_append.mp hr' with h | h
          · exact hrows r' h
          · have : r' = r := by simpa using h
            subst this
            exact ⟨by omega, by omega, hrt⟩
    · rintro σ H3 ⟨rows, x5, x6, x7, rfl, e3, hp3, ⟨vs, hvs, hall⟩, hlen, hrows⟩
      rw [pts] at hlen
      refine ⟨_, rfl, k _ fl rows e3 hp3 hfl0 ⟨hlf.symm, vs, hvs, hall.imp fun v r ⟨c, ec, hcl, _, hc⟩ => ⟨c, ec, hcl, hc⟩⟩ ⟨by omega, by omega, fun r hr => ?_⟩⟩
      obtain ⟨h1, h2, h3⟩ := hrows r hr
      exact ⟨h1, h2, fun t ht => by have := h3 t ht; omega⟩
end
end Fp
end part_W9
section part_W10
set_option maxHeartbeats 2000000
namespace Fp
open PySem PySem.Spec PyProof.Rows L2 Evl
theorem IsSt.upd {H : Hp} {q l : Addr} {st : Int × List Nat} {xs : List V} {o : HO} (h : IsSt H q st) (hl : H l = some (.lst xs)) : IsSt (upd H l o) q st := by
  obtain ⟨t, h1, h2⟩ := h
  refine ⟨t, ?_, ?_⟩
  · rw [upd_ne]
    · exact h1
    · rintro rfl
      rw [hl] at h1
      cases h1
  · rw [upd_ne]
    · exact h2
    · rintro rfl
      rw [hl] at h2
      cases h2
theorem Seen.upd {P : Program} {w : World} {H : Hp} {d l : Addr} {sts : List (Int × List Nat)} {xs : List V} {o : HO} (h : Seen P w H d sts) (hl : H l = some (.lst xs)) : Seen P w (upd H l o) d sts := by
  obtain ⟨ks, h1, h2, h3⟩ := h
  refine ⟨ks, ?_, h2.imp fun _ _ q => ⟨q.1, q.2.upd hl⟩, h3⟩
  rw [upd_ne]
  · exact h1
  · rintro rfl
    rw [hl] at h1
    cases h1
/-- what a law's run tells: the end, or none where it comes round -/
def RunRes (rows : Rows) (s : List Nat) (b : Nat) (r : V) (n : Nat) : Prop := (∃ x : Nat, r = .int (x : Int) ∧ RunEnds rows s b n x) ∨ (r = .non ∧ Goes rows s b (n + 1) ∧ ∃ m, m < n ∧ traj rows s b m = traj rows s b n)
def spLRun : Sp := fun vs H Q _ => ∃ (ea sa : Addr) (b e : Nat) (rows : Rows) (s : List Nat), vs = [.ref ea, .ref sa, .int (b : Int)] ∧ LL H ea rows ∧ H sa = some (.lst (nI s)) ∧ NetOk e rows ∧ SetOk rows s ∧ b < rows.length ∧
  ∀ H' t r n va na k, Ex H H' → H' t = some (.tup [r, .int k, .ref va, .ref na]) → RunRes rows s b r n → H' va = some (.lst (nI (visL rows s b n))) → Q (.ref t) H'
def spLAll : Sp := fun vs H Q _ => ∃ (ea : Addr) (e : Nat) (rows : Rows), vs = [.ref ea] ∧ LL H ea rows ∧ NetOk e rows ∧ ∀ H' a, Ex H H' → H a = none → LLN H' a (allM rows) → Q (.ref a) H'
def spLSwap : Sp := fun vs H Q _ => ∃ (ea : Addr) (e n i j : Nat) (rows : Rows) (r : List Int), vs = [.ref ea, .int (n : Int), .int (i : Int), .int (j : Int)] ∧ LL H ea rows ∧ NetOk e rows ∧ rows[n]? = some r ∧ i < r.length ∧ j < r.length ∧
  ∀ H' a, Ex H H' → H a = none → LL H' a (swapM rows n i j) → Q (.ref a) H'
section
variable {P : Program} {w : World} {K : PySem.W.Frag} {mg : Str → Option Value} {base : Heap} {CN CY : Addr}
abbrev s__law_setting : Stmt := (topS 91)
theorem sc__law_setting : FnScope ["_law_pot_here", "_law_exits_here", "_law_found", "_law_row"] ["_law_pot_here", "_law_exits_here"] (defScope s__law_setting) := ⟨rfl, rfl, rfl, by decide +kernel, rfl, by decide +kernel, by decide +kernel⟩
theorem ok__law_setting (F : FunG K mg "_law_setting" s__law_setting ["_law_pot_here", "_law_exits_here"]) (T : Txt K mg CN CY) (c__law_draw : Cal P w K mg base "_law_draw" ["_law_pot_here", "_law_size"] 1 spDraw) : Cal P w K mg base "_law_setting" ["_law_pot_here", "_law_exits_here"] 2 spLSet := by
  refine F.cal fun f fd F => F.ok sc__law_setting (fun vs H Q E h => ?_) (fun cdv A outer s H vs Q E hr h => ?_)
  · obtain ⟨l, a, e, rows, rfl, _⟩ := h
    rfl
  · obtain ⟨l, a, e, rows, rfl, hp, hLL, ok, k⟩ := h
    obtain ⟨vs, hvs, hall⟩ := hLL
    have hvl := hall.len
    have h3 := ok.pts3
    obtain ⟨pa, pb, hpl, hpos⟩ := id hp
    refine ⟨_, (pss_cons (ps_set (i := 2) sc__law_setting.nd rfl (Or.inl rfl) (pe_lst pa_nil))
      (pss_cons (ps_for PassesOwn.never rfl (pi_seqK false (pv 1)) (pg_name (i := 3) sc__law_setting.nd rfl (Or.inl rfl)) (pss_one (ps_expr (pe_bm PySem.F.plainAttrs_list PySem.F.slot_list_append PySem.F.type_list_append mt_append (pv 2) (pa_cons (pe_cal c__law_draw (hr.mono (by decide)) (by rfl) (pa_cons (pv 0) (pa_cons (pe_callB (r := rLenS K) call_len_seq (by rfl) T.m_len PySem.boot_len (pa_cons (pv 3) pa_nil)) pa_nil))) pa_nil)))))
      (pss_one (ps_ret (pv 2))))), ?_⟩
    refine ⟨by show 0 ≤ sizeLine; decide, fun fl hfl => ?_⟩
    have hlf : l ≠ fl := ne_of_none hpl hfl
    have e0 : Ex H (upd H fl (.lst [])) := Ex.new hfl
    have hal : a ≠ l ∨ vs = [] := by
      by_cases hal : a = l
      · subst hal
        rw [hpl] at hvs
        cases hvs
        cases hall with
        | cons h1 _ => obtain ⟨c, hc, _⟩ := h1; cases hc
      · exact .inl hal
    have hal' : a ≠ l := by
      rcases hal with h | h
      · exact h
      · rw [h] at hvl
        have := ok.pts
        simp at hvl
        omega
    refine ⟨_, rfl, a, rfl, ⟨_, SqK.l (e0 _ _ hvs)⟩, for_it walk_seqK (fun i σ H' => ∃ (st : List Nat) (x3 : Option V), σ = [some (.ref l), some (.ref a), some (.ref fl), x3] ∧ ExB l H H' ∧ PotAt H' l ∧ H' fl = some (.lst (nI st)) ∧ st.length = i ∧ SetOk (rows.take i) st) ⟨[], none, rfl, .of e0, ⟨pa, pb, e0 _ _ hpl, hpos⟩, upd_same, rfl, .nil⟩ (fun i σ H' _ ⟨_, _, _, e3, _⟩ => SqK.l (e3 _ _ hal' hvs)) ?_ ?_⟩
    · rintro i x σ _ H3 hi ⟨st, x3, rfl, e3, hp3, hf3, hlen, hst⟩ ⟨rfl, hx⟩
      obtain ⟨r, hri, rb, rfl, hrb⟩ := hall.getl hx
      obtain ⟨h1, h2, _⟩ := ok.row r (List.mem_of_getElem? hri)
      by_cases hrl : rb = l
      · subst hrl
        rw [hpl] at hrb
        have hr2 : r = [pa, pb] := by
          cases r with
          | nil => cases hrb
          | cons r0 r =>
            cases r with
            | nil => cases hrb
            | cons r1 r =>
              cases r with
              | nil =>
                injection hrb with hrb
                injection hrb with hrb
                injection hrb with q1 hrb
                injection hrb with q2 _
                injection q1 with q1
                injection q2 with q2
                rw [q1, q2]
              | cons _ _ => cases hrb
        obtain ⟨pa3, pb3, hpl3, hpos3⟩ := id hp3
        refine ⟨_, rfl, .inl ⟨rfl, _, SqL.of hf3⟩, _, rfl, _, rfl, _, _, rfl, .inl (SqL.of hpl3), rb, 2, rfl, hp3, by decide, by decide, fun H4 d e4 hp4 hd => ?_⟩
        have hf4 := e4 _ _ hlf.symm hf3
        refine ⟨fl, _, _, rfl, rfl, hf4, sz_lt (by rw [nI_len]; omega), st ++ [d], _, rfl, fun c o hc ho => ?_, ?_, ?_, by rw [List.length_append, hlen]; rfl, ?_⟩
        · rw [upd_ne (ne_of_none ho hfl)]
          exact e4 _ _ hc (e3 _ _ hc ho)
        · obtain ⟨pa4, pb4, hpl4, hpos4⟩ := hp4
          exact ⟨pa4, pb4, by rw [upd_ne hlf]; exact hpl4, hpos4⟩
        · rw [upd_same, nI_app]
          rfl
        · rw [List.take_add_one, hri]
          exact All2.snoc hst (by rw [hr2]; exact hd)
      · refine ⟨_, rfl, .inl ⟨rfl, _, SqL.of hf3⟩, _, rfl, _, rfl, _, _, rfl, .inl (SqL.of (e3 _ _ hrl hrb)), l, r.length, by rw [List.length_map]; rfl, hp3, h1, by omega, fun H4 d e4 hp4 hd => ?_⟩
        have hf4 := e4 _ _ hlf.symm hf3
        refine ⟨fl, _, _, rfl, rfl, hf4, sz_lt (by rw [nI_len]; omega), st ++ [d], _, rfl, fun c o hc ho => ?_, ?_, ?_, by rw [List.length_append, hlen]; rfl, ?_⟩
        · rw [upd_ne (ne_of_none ho hfl)]
          exact e4 _ _ hc (e3 _ _ hc ho)
        · obtain ⟨pa4, pb4, hpl4, hpos4⟩ := hp4
          exact ⟨pa4, pb4, by rw [upd_ne hlf]; exact hpl4, hpos4⟩
        · rw [upd_same, nI_app]
          rfl
        · rw [List.take_add_one, hri]
          exact All2.snoc hst hd
    · rintro σ H3 ⟨st, x3, rfl, e3, hp3, hf3, hlen, hst⟩
      rw [hvl, List.take_length] at hst
      exact ⟨_, rfl, k _ fl st e3 hp3 hfl hf3 hst⟩
abbrev s__law_run : Stmt := (topS 92)
theorem sc__law_run : FnScope ["_law_exits_here", "_law_setting_here", "_law_begin", "_law_where", "_law_now", "_law_visits", "_law_seen", "_law_row", "_law_at"] ["_law_exits_here", "_law_setting_here", "_law_begin"] (defScope s__law_run) := ⟨rfl, rfl, rfl, by decide +kernel, rfl, by decide +kernel, by decide +kernel⟩
theorem ok__law_run (F : FunG K mg "_law_run" s__law_run ["_law_exits_here", "_law_setting_here", "_law_begin"]) (T : Txt K mg CN CY) : Cal P w K mg base "_law_run" ["_law_exits_here", "_law_setting_here", "_law_begin"] 1 spLRun := by
  refine F.cal fun f fd F => F.ok sc__law_run (fun vs H Q E h => ?_) (fun cdv A outer s H vs Q E hr h => ?_)
  · obtain ⟨ea, sa, b, e, rows, st, rfl, _⟩ := h
    rfl
  · obtain ⟨ea, sa, b, e, rows, st, rfl, ⟨us, hus, hall⟩, hsa, ok, hs, hb, k⟩ := h
    have hul := hall.len
    have h3 := ok.pts3
    refine ⟨_, (pss_cons (ps_asg (pe_tup (pa_cons (pv 2) (pa_cons (pe_callTy (T := "list") (r := rListS K) call_list_of (by rfl) T.m_list (by decide +kernel) (pa_cons (pv 1) pa_nil)) (pa_cons (pe_op op_rep (pe_lst (pa_cons pe_int pa_nil)) (pe_callB (r := rLenS K) call_len_seq (by rfl) T.m_len PySem.boot_len (pa_cons (pv 0) pa_nil))) (pa_cons pe_seen0 pa_nil))))) (pg_tup rfl (pgs_cons (pg_name (i := 3) sc__law_run.nd rfl (Or.inl rfl)) (pgs_cons (pg_name (i := 4) sc__law_run.nd rfl (Or.inl rfl)) (pgs_cons (pg_name (i := 5) sc__law_run.nd rfl (Or.inl rfl)) (pgs_cons (pg_name (i := 6) sc__law_run.nd rfl (Or.inl rfl)) pgs_nil))))))
      (pss_cons (ps_while PassesOwn.never (PW.pt (pw_and (pt_cmpR op_ge (pv 3) pe_int (nomark _)) (pw_and1 (pt_cmpR (r := rSeen P w) (op_notInSeen hr.units) (pe_tup (pa_cons (pv 3) (pa_cons (pe_callTy (T := "tuple") (r := rTupO K) call_tuple_of (by rfl) T.m_tuple (by decide +kernel) (pa_cons (pv 4) pa_nil)) pa_nil))) (pv 6) (by rfl))))) (pss_cons (ps_asg pe_bl (pg_sub (pv 6) (pe_tup (pa_cons (pv 3) (pa_cons (pe_callTy (T := "tuple") (r := rTupO K) call_tuple_of (by rfl) T.m_tuple (by decide +kernel) (pa_cons (pv 4) pa_nil)) pa_nil))) (set_seen hr.units)))
      (pss_cons (ps_asg (pe_op op_add (pe_ix (r := rIxL K) ix_list (pv 5) (pv 3) (fun _ _ => rfl)) pe_int) (pg_sub (pv 5) (pv 3) set_list))
      (pss_cons (ps_par (i := 7) (j := 8) (by rfl) sc__law_run.nd rfl rfl (by decide) rfl rfl (pa_cons (pe_ix (r := rIxL K) ix_list (pv 0) (pv 3) (fun _ _ => rfl)) (pa_cons (pe_ix (r := rIxL K) ix_list (pv 4) (pv 3) (fun _ _ => rfl)) pa_nil)) (by rfl))
      (pss_cons (ps_asg (pe_op op_mod (pe_op op_add (pv 8) pe_int) (pe_callB (r := rLenS K) call_len_seq (by rfl) T.m_len PySem.boot_len (pa_cons (pv 7) pa_nil))) (pg_sub (pv 4) (pv 3) set_list))
      (pss_one (ps_set (i := 3) sc__law_run.nd rfl (Or.inl rfl) (pe_ix (r := rIxL K) ix_list (pv 7) (pv 8) (fun _ _ => rfl)))))))))
      (pss_one (ps_ret (pe_tup (pa_cons (pe_ifExp (pt_cmpR op_lt (pv 3) pe_int (nomark _)) (pe_op op_sub (pe_un un_neg pe_int) (pv 3)) pe_non) (pa_cons (pe_callB (r := rSum K) (cr_sum rfl) (by rfl) T.m_sum (by decide +kernel) (pa_cons (pv 5) pa_nil)) (pa_cons (pv 5) (pa_cons (pv 4) pa_nil))))))))), ?_⟩
    refine ⟨_, rfl, _, rfl, _, _, rfl, .inl (SqL.of hsa), fun na hna => ⟨by show 1 ≤ sizeLine; decide, fun z hz => ?_⟩⟩
    have e1 : Ex H (upd H na (.lst (nI st))) := Ex.new hna
    have e2 : Ex H (upd (upd H na (.lst (nI st))) z (.lst [.int 0])) := e1.trans (Ex.new hz)
    have hnz : na ≠ z := ne_of_none (by exact upd_same) hz
    refine ⟨_, rfl, ea, _, rfl, .inl (SqL.of (e2 _ _ hus)), z, _, _, rfl, rfl, upd_same, by omega, by omega, sz_of (by show 1 * _ ≤ _; omega), fun va hva d hd => ⟨by show 4 ≤ sizeLine; decide, fun tt htt => ⟨tt, _, rfl, SqT.of upd_same, rfl, _, _, rfl, _, _, rfl, _, _, rfl, _, _, rfl, rfl, ?_⟩⟩⟩
    have hrep : (List.replicate ((us.length : Nat) : Int).toNat [V.int 0]).flatten = nI (visL rows st b 0) := by
      rw [show ((us.length : Nat) : Int).toNat = us.length from rfl, hul]
      have h1 : visL rows st b 0 = List.replicate rows.length 0 := by
        unfold visL visN
        show (List.range rows.length).map (fun _ => 0) = _
        rw [List.map_const', List.length_range]
      rw [h1]
      unfold nI
      rw [List.map_replicate]
      have : ∀ n : Nat, (List.replicate n [V.int 0]).flatten = List.replicate n (V.int 0) := by
        intro n
        induction n with
        | zero => rfl
        | succ n ih => rw [List.replicate_succ, List.flatten_cons, ih]; rfl
      exact this rows.length
    rw [hrep] at hd htt ⊢
    have hnaz : (upd (upd H na (.lst (nI st))) z (.lst [.int 0])) na = some (.lst (nI st)) := by rw [upd_ne hnz, upd_same]
    have hnv : na ≠ va := ne_of_none hnaz hva
    have hva0 : H va = none := fresh_back e2 hva
    have e3 := e2.trans (Ex.new (o := .lst (nI (visL rows st b 0))) hva)
    have hd0 : H d = none := fresh_back e3 hd
    have hnav : (upd (upd (upd H na (.lst (nI st))) z (.lst [.int 0])) va (.lst (nI (visL rows st b 0)))) na = some (.lst (nI st)) := by rw [upd_ne hnv]; exact hnaz
    have hnd : na ≠ d := ne_of_none hnav hd
    have hvd : va ≠ d := ne_of_none (by exact upd_same) hd
    have e4 := e3.trans (Ex.new (o := .ext (seenF P w d [])) hd)
    have e5 := e4.trans (Ex.new (o := .tup [.int (b : Int), .ref na, .ref va, .ref d]) htt)
    have eT : Ex (upd (upd (upd (upd H na (.lst (nI st))) z (.lst [.int 0])) va (.lst (nI (visL rows st b 0)))) d (.ext (seenF P w d []))) _ := Ex.new (o := .tup [.int (b : Int), .ref na, .ref va, .ref d]) htt
    refine s_while (fun m σ H' => ∃ (i : Nat) (x7 x8 : Option V), m = 82 - i ∧ σ = [some (.ref ea), some (.ref sa), some (.int (b : Int)), some (.int (traj rows st b i).1), some (.ref na), some (.ref va), some (.ref d), x7, x8] ∧ Ex H H' ∧ H' na = some (.lst (nI (traj rows st b i).2)) ∧ H' va = some (.lst (nI (visL rows st b i))) ∧ Seen P w H' d ((List.range i).map (traj rows st b)) ∧ Goes rows st b i ∧ ((List.range i).map (traj rows st b)).Nodup) 82
      ⟨0, none, none, rfl, rfl, e5, eT _ _ (by rw [upd_ne hnd]; exact hnav), eT _ _ (by rw [upd_ne hvd, upd_same]), Seen.ex eT Seen.new, fun m hm => by omega, List.nodup_nil⟩ ?_
    rintro m σ H1 ⟨i, x7, x8, rfl, rfl, e6, hna1, hva1, hseen, hgo, hdis⟩
    have fin : ∀ (r : V) (H2 : Hp), Ex H1 H2 → RunRes rows st b r i → (decide ((traj rows st b i).1 < 0) = true → r = .int (-1 - (traj rows st b i).1)) → (decide ((traj rows st b i).1 < 0) = false → r = .non) →
        tRet (tTup (tCons (tIf (tTest (tOp (rI0 fun i j => .bl (decide (i < j))) (tVar 3) (tC (.int 0)))) (tOp rSub (tUn (rU fun i => .int (-i)) (tC (.int 1))) (tVar 3)) (tC .non)) (tCons (tCB (rSum K) (tCons (tVar 5) tNil)) (tCons (tVar 5) (tCons (tVar 4) tNil))))) { nx := fun _ H' => Q .non H', rt := Q } [some (.ref ea), some (.ref sa), some (.int (b : Int)), some (.int (traj rows st b i).1), some (.ref na), some (.ref va), some (.ref d), x7, x8] H2 := by
      intro r H2 e7 hres ht hf
      have rest : ∀ r' : V, r' = r → (tCons (tCB (rSum K) (tCons (tVar 5) tNil)) (tCons (tVar 5) (tCons (tVar 4) tNil))) [some (.ref ea), some (.ref sa), some (.int (b : Int)), some (.int (traj rows st b i).1), some (.ref na), some (.ref va), some (.ref d), x7, x8] H2 fun xs H3 => (r' :: xs).length ≤ sizeLine ∧ ∀ p, H3 p = none → Q (.ref p) (L2.upd H3 p (.tup (r' :: xs))) := by
        rintro r' rfl
        refine ⟨_, rfl, va, _, rfl, SqL.of (by rw [← nI_map]; exact e7 _ _ hva1), _, rfl, _, rfl, by show 4 ≤ sizeLine; decide, fun p hp => ?_⟩
        exact k _ p r' i va na _ ((e6.trans e7).trans (Ex.new hp)) upd_same hres ((Ex.new hp) _ _ (e7 _ _ hva1))
      refine ⟨_, rfl, _, _, rfl, rfl, _, rfl, ?_⟩
      cases hb : decide ((traj rows st b i).1 < 0) with
      | true => exact iteT ⟨_, rfl, _, rfl, _, _, rfl, rfl, rest _ (ht hb).symm⟩
      | false => exact iteF (rest _ (hf hb).symm)
    by_cases h0 : (traj rows st b i).1 < 0
    · refine ⟨false, fun H2 e7 Q2 hQ => ⟨_, rfl, _, _, rfl, rfl, _, rfl, itF (decide_eq_false (by omega)) (hQ _ (Ex.refl _))⟩, fun q => absurd q (by decide), fun _ H2 e7 => ?_⟩
      obtain ⟨x, hx⟩ : ∃ x : Nat, -1 - (traj rows st b i).1 = (x : Int) := ⟨(-1 - (traj rows st b i).1).toNat, by omega⟩
      exact fin (.int (x : Int)) H2 e7 (.inl ⟨x, rfl, hgo, by omega⟩) (fun _ => by rw [hx]) (fun q => absurd h0 (of_decide_eq_false q))
    have h0' : 0 ≤ (traj rows st b i).1 := by omega
    have hgo1 : Goes rows st b (i + 1) := fun m hm => by
      by_cases hmi : m < i
      · exact hgo m hmi
      · have : m = i := by omega
        subst this
        exact h0'
    -- the key
    have key : ∀ (H2 : Hp), Ex H1 H2 → ∀ Q2 : V → Hp → Prop, (∀ q H3, Ex H2 H3 → IsSt H3 q (traj rows st b i) → Q2 (.ref q) H3) →
        tTup (tCons (tVar 3) (tCons (tCB (rTupO K) (tCons (tVar 4) tNil)) tNil)) [some (.ref ea), some (.ref sa), some (.int (b : Int)), some (.int (traj rows st b i).1), some (.ref na), some (.ref va), some (.ref d), x7, x8] H2 Q2 := by
      intro H2 e7 Q2 hQ
      refine ⟨_, rfl, _, rfl, _, _, rfl, .inl ⟨SqL.of (e7 _ _ hna1), fun t ht => ⟨by show 2 ≤ sizeLine; decide, fun q hq => ?_⟩⟩⟩
      exact hQ q _ ((Ex.new ht).trans (Ex.new hq)) ⟨t, upd_same, (Ex.new hq) _ _ upd_same⟩
    refine ⟨!decide (traj rows st b i ∈ (List.range i).map (traj rows st b)), fun H2 e7 Q2 hQ => ⟨_, rfl, _, _, rfl, rfl, _, rfl, itT (decide_eq_true h0') ?_⟩, fun hnew H2 e7 => ?_, fun hold H2 e7 => ?_⟩
    · show (tTup (tCons (tVar 3) (tCons (tCB (rTupO K) (tCons (tVar 4) tNil)) tNil))) _ _ (fun x H1 => tVar 6 _ H1 fun y H2 => rSeen P w x y H2 fun z H3 => ∃ kk, z = .bl kk ∧ Q2 kk H3)
      exact key H2 e7 _ fun q H3 e8 hq => ⟨_, rfl, q, d, _, _, rfl, rfl, hq, hseen.ex (e7.trans e8), _, rfl, hQ _ e8⟩
    · have hni : traj rows st b i ∉ (List.range i).map (traj rows st b) := by simpa using hnew
      have hdis1 : ((List.range (i + 1)).map (traj rows st b)).Nodup := by
        rw [List.range_succ, List.map_append]
        refine List.nodup_append.mpr ⟨hdis, by simp, fun a ha c hc hac => ?_⟩
        have : c = traj rows st b i := by simpa using hc
        rw [hac, this] at ha
        exact hni ha
      have hi81 : i + 1 ≤ 81 := states_le ok hs hb hgo1 hdis1
      have hlt := traj_lt hs hb (fun r hr t ht => ((ok.row r hr).2.2 t ht).2) i hgo
      obtain ⟨wn, hwn⟩ : ∃ wn : Nat, (traj rows st b i).1 = (wn : Int) := ⟨_, (Int.toNat_of_nonneg h0').symm⟩
      have hwl : wn < rows.length := by omega
      obtain ⟨_, hun, rb, rfl, hrb⟩ := hall.get (List.getElem?_eq_getElem hwl)
      obtain ⟨g, hg, hgr⟩ := All2.get (hs.traj (b := b) i) (List.getElem?_eq_getElem hwl)
      have hstep : traj rows st b (i + 1) = (rows[wn][g], (traj rows st b i).2.set wn ((g + 1) % rows[wn].length)) := by
        show stepN rows (traj rows st b i) = _
        unfold stepN
        rw [hwn, Int.toNat_natCast, getD_some (List.getElem?_eq_getElem hwl), getD_some hg, getD_some (List.getElem?_eq_getElem hgr)]
      refine ⟨_, fun σ2 H3 q => q, ?_⟩
      refine ⟨_, rfl, key H2 e7 _ fun q H3 e8 hq => ⟨q, d, _, _, rfl, rfl, hq, hseen.ex (e7.trans e8), hni, by rw [List.length_map, List.length_range]; omega, fun H4 k4 hs4 => ?_⟩⟩
      have e9 := e7.trans e8
      have k49 : ∀ (c : Addr) (o : HO), c ≠ d → H1 c = some o → H4 c = some o := fun c o hc ho => k4 c o hc (e9 _ _ ho)
      have hva4 := k49 _ _ hvd hva1
      have hna4 := k49 _ _ hnd hna1
      have exH4 : Ex H H4 := fun c o ho => k49 c o (ne_of_none ho hd0) (e6 _ _ ho)
      have hvg : (visL rows st b i)[wn]? = some (visN rows st b i wn) := visL_get hwl
      refine ⟨_, rfl, _, rfl, va, _, _, _, rfl, (congrArg V.int hwn), SqL.of hva4, nI_at hvg, _, _, rfl, rfl, _, rfl, _, rfl, va, _, _, wn, rfl, (congrArg V.int hwn), hva4, ixN_nat (by rw [nI_len, visL_len]; exact hwl), ?_⟩
      have hvis : (nI (visL rows st b i)).set wn (V.int ((visN rows st b i wn : Int) + 1)) = nI (visL rows st b (i + 1)) := by
        rw [visL_succ hwl hwn, ← nI_set]
        rfl
      have nva : ∀ {c : Addr} {o : HO}, H c = some o → c ≠ va := fun ho => ne_of_none ho hva0
      have nna : ∀ {c : Addr} {o : HO}, H c = some o → c ≠ na := fun ho => ne_of_none ho hna
      refine ⟨_, rfl, _, rfl, ea, _, _, _, rfl, (congrArg V.int hwn), SqL.of (by rw [upd_ne (nva hus)]; exact exH4 _ _ hus), atI_nat hun, _, rfl, _, rfl, na, _, _, _, rfl, (congrArg V.int hwn), SqL.of (by rw [upd_ne hnv]; exact hna4), nI_at hg, _, _, rfl, ?_⟩
      refine ⟨_, rfl, _, _, rfl, rfl, _, rfl, _, _, rfl, .inl (SqL.of (by rw [upd_ne (nva hrb)]; exact exH4 _ _ hrb)), _, _, rfl, rfl, by show (0 : Int) < _; rw [List.length_map]; omega, _, rfl, _, rfl, na, _, _, wn, rfl, (congrArg V.int hwn), by rw [upd_ne hnv]; exact hna4, ixN_nat (by rw [nI_len]; exact (List.getElem?_eq_some_iff.mp hg).1), ?_⟩
      refine ⟨_, rfl, _, rfl, rb, _, _, _, rfl, rfl, SqL.of (by rw [upd_ne (nna hrb), upd_ne (nva hrb)]; exact exH4 _ _ hrb), mI_at (List.getElem?_eq_getElem hgr), ?_⟩
      refine ⟨82 - (i + 1), by omega, i + 1, _, _, rfl, (by rw [hstep]; rfl), fun c o ho => ?_, ?_, ?_, ?_, hgo1, hdis1⟩
      · rw [upd_ne (nna ho), upd_ne (nva ho)]
        exact exH4 _ _ ho
      · rw [upd_same, hstep, ← nI_set, List.length_map, Int.natCast_emod]
        rfl
      · rw [upd_ne hnv.symm, upd_same]
        exact congrArg (fun z => some (HO.lst z)) hvis
      · rw [List.range_succ, List.map_append]
        exact (hs4.upd hva4).upd (xs := nI (traj rows st b i).2) (by rw [upd_ne hnv]; exact hna4)
    · have hin : traj rows st b i ∈ (List.range i).map (traj rows st b) := by simpa using hold
      obtain ⟨m, hm, hme⟩ := List.mem_map.mp hin
      exact fin .non H2 e7 (.inr ⟨rfl, hgo1, m, List.mem_range.mp hm, hme⟩) (fun q => absurd (of_decide_eq_true q) h0) (fun _ => rfl)
abbrev s__law_all_settings : Stmt := (topS 93)
theorem sc__law_all_settings : FnScope ["_law_exits_here", "_law_found", "_law_row", "_law_longer", "_law_one", "_law_at"] ["_law_exits_here"] (defScope s__law_all_settings) := ⟨rfl, rfl, rfl, by decide +kernel, rfl, by decide +kernel, by decide +kernel⟩
theorem ok__law_all_settings (F : FunG K mg "_law_all_settings" s__law_all_settings ["_law_exits_here"]) (T : Txt K mg CN CY) : Cal P w K mg base "_law_all_settings" ["_law_exits_here"] 1 spLAll := by
  refine F.cal fun f fd F => F.ok sc__law_all_settings (fun vs H Q E h => ?_) (fun cdv A outer s H vs Q E hr h => ?_)
  · obtain ⟨ea, e, rows, rfl, _⟩ := h
    rfl
  · obtain ⟨ea, e, rows, rfl, ⟨us, hus, hall⟩, ok, k⟩ := h
    have hul := hall.len
    have h3 := ok.pts3
    refine ⟨_, (pss_cons (ps_set (i := 1) sc__law_all_settings.nd rfl (Or.inl rfl) (pe_lst (pa_cons (pe_lst pa_nil) pa_nil)))
      (pss_cons (ps_for PassesOwn.never rfl (pi_seqK false (pv 0)) (pg_name (i := 2) sc__law_all_settings.nd rfl (Or.inl rfl)) (pss_cons (ps_set (i := 3) sc__law_all_settings.nd rfl (Or.inl rfl) (pe_lst pa_nil))
      (pss_cons (ps_for PassesOwn.never rfl (pi_seqK false (pv 1)) (pg_name (i := 4) sc__law_all_settings.nd rfl (Or.inr rfl)) (pss_one (ps_expr (pe_bm PySem.F.plainAttrs_list PySem.F.slot_list_extend PySem.F.type_list_extend mt_extend (pv 3) (pa_cons (pe_lc (own := [("_law_at", 5)]) (by rfl) sc__law_all_settings.nd (pi_range1 (by rfl) T.m_range (pa_cons (pe_callB (r := rLenS K) call_len_seq (by rfl) T.m_len PySem.boot_len (pa_cons (pv 2) pa_nil)) pa_nil)) (blkOk_by (N := ["_law_exits_here", "_law_found", "_law_row", "_law_longer", "_law_one", "_law_at"]) (sc := defScope s__law_all_settings) (own := [("_law_at", 5)]) (by decide +kernel)) (fun _ _ _ _ _ => (pg_name (i := 5) sc__law_all_settings.nd rfl (Or.inl rfl))) (fun _ _ _ _ _ => pts_nil) (fun _ _ _ _ _ => (pe_op op_cat (pv 4) (pe_lst (pa_cons (pv 5) pa_nil))))) pa_nil)))))
      (pss_one (ps_set (i := 1) sc__law_all_settings.nd rfl (Or.inl rfl) (pv 3))))))
      (pss_one (ps_ret (pv 1))))), ?_⟩
    refine ⟨by show 0 ≤ sizeLine; decide, fun l1 hl1 => ⟨by show 1 ≤ sizeLine; decide, fun l2 hl2 => ?_⟩⟩
    have e1 : Ex H (upd H l1 (.lst [])) := Ex.new hl1
    have e0 : Ex H (upd (upd H l1 (.lst [])) l2 (.lst [.ref l1])) := e1.trans (Ex.new hl2)
    have h12 : l1 ≠ l2 := ne_of_none (by exact upd_same) hl2
    refine ⟨_, rfl, ea, rfl, ⟨_, SqK.l (e0 _ _ hus)⟩, for_it walk_seqK (fun i σ H' => ∃ (fa : Addr) (x2 x3 x4 x5 : Option V), σ = [some (.ref ea), some (.ref fa), x2, x3, x4, x5] ∧ Ex H H' ∧ H fa = none ∧ LLN H' fa (allM (rows.take i))) ⟨l2, none, none, none, none, rfl, e0, fresh_back e1 hl2, ⟨_, upd_same, .cons ⟨l1, rfl, by rw [upd_ne h12, upd_same]; rfl⟩ .nil⟩⟩ (fun i σ H' _ ⟨_, _, _, _, _, _, e3, _⟩ => SqK.l (e3 _ _ hus)) ?_ ?_⟩
    · rintro i x σ _ H3 hi ⟨fa, x2, x3, x4, x5, rfl, e2, hfa0, fs, hfs, hfall⟩ ⟨rfl, hx⟩
      obtain ⟨r, hri, rb, rfl, hrb⟩ := hall.getl hx
      have hr3 := (ok.row r (List.mem_of_getElem? hri)).2.1
      have hfl := hfall.len
      have h9 : (allM (rows.take i)).length ≤ 9 := Nat.le_trans (allM_len ok i (by omega)) (Nat.le_trans (Nat.pow_le_pow_right (by decide) (show i ≤ 2 by omega)) (by decide))
      have hsucc : allM (rows.take (i + 1)) = allStep (allM (rows.take i)) r := by
        unfold allM
        rw [List.take_add_one, hri, List.foldl_append]
        rfl
      generalize hacc : allM (rows.take i) = acc at hfall hfl h9 hsucc
      have haccl : ∀ s ∈ acc, s.length ≤ 10 := fun s hs => by
        rw [← hacc] at hs
        have := allM_mem_len (rows.take i) [[]] 0 (by simp) s hs
        rw [List.length_take] at this
        omega
      refine ⟨by show 0 ≤ sizeLine; decide, fun lg hlg => ?_⟩
      have e3 : Ex H3 (upd H3 lg (.lst [])) := Ex.new hlg
      have hlg0 : H lg = none := fresh_back e2 hlg
      have hff : fa ≠ lg := ne_of_none hfs hlg
      refine ⟨_, rfl, fa, rfl, ⟨_, SqK.l (e3 _ _ hfs)⟩, for_it walk_seqK (fun j σ H' => ∃ (zs : List V) (x4 x5 : Option V), σ = [some (.ref ea), some (.ref fa), some (.ref rb), some (.ref lg), x4, x5] ∧ Ex H3 H' ∧ H' lg = some (.lst zs) ∧ All2 (fun y t => ∃ c, y = .ref c ∧ c ≠ lg ∧ H' c = some (.lst (nI t))) zs ((acc.take j).flatMap fun one => (List.range r.length).map fun k => one ++ [k])) ⟨[], x4, x5, rfl, e3, upd_same, .nil⟩ (fun j σ H' _ ⟨_, _, _, _, e4, _⟩ => SqK.l (e4 _ _ hfs)) ?_ ?_⟩
      · rintro j y σ _ H4 hj ⟨zs, x4', x5', rfl, e4, hz4, hzs⟩ ⟨rfl, hy⟩
        obtain ⟨one, hone, ob, rfl, hob⟩ := hfall.getl hy
        have hol := haccl one (List.mem_of_getElem? hone)
        have hzl : zs.length ≤ 27 := by
          rw [hzs.len]
          refine Nat.le_trans (flatMap_len_le _ 3 _ fun t _ => by rw [List.length_map, List.length_range]; exact hr3) ?_
          rw [List.length_take]
          omega
        refine ⟨_, rfl, .inl ⟨rfl, _, SqL.of hz4⟩, ?_⟩
        refine ⟨_, rfl, _, _, rfl, .inl (SqL.of ((e2.trans e4) _ _ hrb)), _, rfl, by omega, by rw [List.length_map]; omega, fun D hD => lcN walk_range0 hD (by rw [List.length_map]; omega) (fun k y H => ∃ c, y = .ref c ∧ c ≠ lg ∧ H c = some (.lst (nI (one ++ [k])))) (fun _ _ _ _ e ⟨c, h1, h2, h3⟩ => ⟨c, h1, h2, e _ _ h3⟩) (fun _ _ => trivial) (fun k' yy _ H6 Ky hk' e5 hu hYY ky => ?_) fun H5 ys e5 hy5 hal => ?_⟩
        · obtain ⟨rfl, rfl⟩ := hYY
          obtain ⟨u, hu⟩ := hu
          refine ⟨rfl, _, rfl, _, rfl, by show 1 ≤ sizeLine; decide, fun m2 hm2 => ?_⟩
          refine ⟨ob, m2, _, _, rfl, rfl, ((e4.trans e5).trans (Ex.new hm2)) _ _ hob, upd_same, sz_of (by rw [nI_len]; show one.length + 1 ≤ _; omega), fun m3 hm3 => ?_⟩
          have e6 : Ex H6 (upd H6 m2 (.lst [.int (k' : Int)])) := Ex.new hm2
          refine ky _ _ (e6.trans (Ex.new hm3)) ⟨m3, rfl, (ne_of_none (e5 _ _ hz4) (fresh_back e6 hm3)).symm, hide_new hu (fresh_back e6 hm3) ?_⟩
          rw [upd_same, nI_app]
          rfl
        · rw [show (((r.map V.int).length : Nat) : Int).toNat = r.length by rw [List.length_map]; rfl] at hal
          have hyl : ys.length = r.length := by
            rw [hal.len, List.length_range]
          have hz5 := e5 _ _ hz4
          refine ⟨lg, D, _, _, rfl, rfl, hz5, hy5, sz_of (by omega), ?_⟩
          refine ⟨zs ++ ys, _, _, rfl, fun c o ho => ?_, upd_same, ?_⟩
          · rw [upd_ne (ne_of_none ho hlg)]
            exact (e4.trans e5) _ _ ho
          · rw [List.take_add_one, hone, List.flatMap_append]
            refine (hzs.imp fun y t ⟨c, ec, hc, hc2⟩ => ⟨c, ec, hc, by rw [upd_ne hc]; exact e5 _ _ hc2⟩).app ?_
            rw [Option.toList_some, List.flatMap_singleton]
            exact All2.mapR.mpr (hal.imp fun y k' ⟨c, ec, hcl, hc2⟩ => ⟨c, ec, hcl, by rw [upd_ne hcl]; exact hide_out _ _ hc2⟩)
      · rintro σ H4 ⟨zs, x4', x5', rfl, e4, hz4, hzs⟩
        rw [hfl, List.take_length] at hzs
        refine ⟨_, rfl, lg, _, _, _, _, rfl, e2.trans e4, hlg0, zs, hz4, ?_⟩
        rw [hsucc]
        exact hzs.imp fun y t ⟨c, ec, _, hc⟩ => ⟨c, ec, hc⟩
    · rintro σ H2 ⟨fa, x2, x3, x4, x5, rfl, e2, hfa0, hLL⟩
      rw [hul, List.take_length] at hLL
      exact ⟨_, rfl, k _ fa e2 hfa0 hLL⟩
abbrev s__law_swapped : Stmt := (topS 94)
theorem sc__law_swapped : FnScope ["_law_exits_here", "_law_point", "_law_spot", "_law_other", "_law_rows", "_law_row"] ["_law_exits_here", "_law_point", "_law_spot", "_law_other"] (defScope s__law_swapped) := ⟨rfl, rfl, rfl, by decide +kernel, rfl, by decide +kernel, by decide +kernel⟩
theorem ok__law_swapped (F : FunG K mg "_law_swapped" s__law_swapped ["_law_exits_here", "_law_point", "_law_spot", "_law_other"]) (T : Txt K mg CN CY) : Cal P w K mg base "_law_swapped" ["_law_exits_here", "_law_point", "_law_spot", "_law_other"] 1 spLSwap := by
  refine F.cal fun f fd F => F.ok sc__law_swapped (fun vs H Q E h => ?_) (fun cdv A outer s H vs Q E hr h => ?_)
  · obtain ⟨ea, e, n, i, j, rows, r, rfl, _⟩ := h
    rfl
  · obtain ⟨ea, e, n, i, j, rows, r, rfl, ⟨us, hus, hus2⟩, ok, hri, hil, hjl, k⟩ := h
    have hlu := hus2.len
    have h3 := ok.pts3
    refine ⟨_, (pss_cons (ps_setLc (i := 4) (own := [("_law_row", 5)]) (by rfl) sc__law_swapped.nd rfl rfl (sw_true rfl rfl rfl (by decide +kernel)) (pi_seqK false (pv 0)) (blkOk_by (N := ["_law_exits_here", "_law_point", "_law_spot", "_law_other", "_law_rows", "_law_row"]) (sc := defScope s__law_swapped) (own := [("_law_row", 5)]) (by decide +kernel)) (fun _ _ _ _ _ => (pg_name (i := 5) sc__law_swapped.nd rfl (Or.inl rfl))) (fun _ _ _ _ _ => pts_nil) (fun _ _ _ _ _ => (pe_callTy (T := "list") (r := rListS K) call_list_of (by rfl) T.m_list (by decide +kernel) (pa_cons (pv 5) pa_nil))))
      (pss_cons (ps_asg (pe_tup (pa_cons (pe_ix (r := rIxL K) ix_list (pe_ix (r := rIxL K) ix_list (pv 0) (pv 1) (fun _ _ => rfl)) (pv 3) (fun _ _ => rfl)) (pa_cons (pe_ix (r := rIxL K) ix_list (pe_ix (r := rIxL K) ix_list (pv 0) (pv 1) (fun _ _ => rfl)) (pv 2) (fun _ _ => rfl)) pa_nil))) (pg_tup rfl (pgs_cons (pg_sub (pe_ix (r := rIxL K) ix_list (pv 4) (pv 1) (fun _ _ => rfl)) (pv 2) set_list) (pgs_cons (pg_sub (pe_ix (r := rIxL K) ix_list (pv 4) (pv 1) (fun _ _ => rfl)) (pv 3) set_list) pgs_nil))))
      (pss_one (ps_ret (pv 4))))), ?_⟩
    refine ⟨_, rfl, ea, rfl, ⟨_, SqK.l hus⟩, fun D hD => lcF walk_seqK hD (by omega) (fun i y H' => ∀ r, rows[i]? = some r → IsL H' y r ∧ ∀ a, y = .ref a → H a = none) (fun i y H H' e h r hr => ⟨(h r hr).1.ex e, (h r hr).2⟩) (fun H4 e4 => SqK.l (e4 _ _ hus)) (fun i x H4 H5 Ky hi e4 hu hY ky => ?_) fun H4 ys e4 hy4 hall hnd => ?_⟩
    · obtain ⟨rfl, hx⟩ := hY
      obtain ⟨r, hri, b, rfl, hb⟩ := hus2.getl hx
      obtain ⟨u, hu⟩ := hu
      refine ⟨rfl, _, rfl, _, _, rfl, .inl (SqL.of (e4 _ _ hb)), fun l hl => ky _ _ _ (Ex.new hl) hl upd_same fun r' hr' => ?_⟩
      rw [hri] at hr'
      cases hr'
      exact ⟨⟨l, rfl, hide_new hu hl upd_same⟩, fun a ea => by cases ea; exact fresh_back e4 hl⟩
    · have hal0 := All2.of_range hlu hall
      have hal : All2 (IsL (hide D H4)) ys rows := hal0.imp fun _ _ h => h.1
      obtain ⟨_, hyn, ⟨rp, rfl, hrp⟩, hfr⟩ := hal0.get hri
      obtain ⟨_, hun, ro, rfl, hro⟩ := hus2.get hri
      have hrp0 : H rp = none := hfr rp rfl
      have hrp4 := hide_out _ _ hrp
      have hDp : rp ≠ D := by
        rintro rfl
        unfold hide at hrp
        rw [if_pos rfl] at hrp
        cases hrp
      refine ⟨_, rfl, _, rfl, ea, _, _, _, rfl, rfl, SqL.of (e4 _ _ hus), atI_nat hun, _, rfl, ro, _, _, _, rfl, rfl, SqL.of (e4 _ _ hro), mI_at (List.getElem?_eq_getElem hjl), ?_⟩
      refine ⟨_, rfl, _, rfl, ea, _, _, _, rfl, rfl, SqL.of (e4 _ _ hus), atI_nat hun, _, rfl, ro, _, _, _, rfl, rfl, SqL.of (e4 _ _ hro), mI_at (List.getElem?_eq_getElem hil), by show 2 ≤ sizeLine; decide, fun tt htt => ?_⟩
      have e5 : Ex H4 (upd H4 tt (.tup [.int r[j], .int r[i]])) := Ex.new htt
      refine ⟨tt, _, rfl, SqT.of upd_same, rfl, _, _, rfl, ?_⟩
      refine ⟨_, rfl, _, rfl, D, _, _, _, rfl, rfl, SqL.of (e5 _ _ hy4), atI_nat hyn, _, rfl, rp, _, (i : Int), i, rfl, rfl, e5 _ _ hrp4, ixN_nat (by rw [List.length_map]; exact hil), _, _, rfl, ?_⟩
      refine ⟨_, rfl, _, rfl, D, _, _, _, rfl, rfl, SqL.of (by rw [upd_ne hDp.symm]; exact e5 _ _ hy4), atI_nat hyn, _, rfl, rp, _, (j : Int), j, rfl, rfl, upd_same, ixN_nat (by rw [List.length_set, List.length_map]; exact hjl), rfl, ?_⟩
      have hG : ∀ (c : Addr) (o : HO), c ≠ rp → H4 c = some o → upd (upd (upd H4 tt (.tup [.int r[j], .int r[i]])) rp (.lst ((r.map V.int).set i (.int r[j])))) rp (.lst (((r.map V.int).set i (.int r[j])).set j (.int r[i]))) c = some o := fun c o hc ho => by
        rw [upd_ne hc, upd_ne hc]
        exact e5 _ _ ho
      refine ⟨_, rfl, k _ D (fun c o ho => hG c o (ne_of_none ho hrp0) (e4 _ _ ho)) hD ⟨ys, hG _ _ hDp.symm hy4, ?_⟩⟩
      rw [swapM_eq hri hil hjl]
      exact swap_rows (hal.imp fun _ _ h => h.ex hide_out) hnd hyn (by rw [upd_same, List.map_set, List.map_set]) hG
end
end Fp
end part_W10
section part_M2
set_option maxHeartbeats 2000000
namespace Fp
/-! ### the yard's run is the net's run until it is lost -/
/-- so far all points lead to an end -/
def GoodTo (e : Nat) (rows : Rows) (s : List Nat) (b n : Nat) : Prop := ∀ k, k < n → ∃ p : Nat, (traj rows s b k).1 = (p : Int) ∧ LeadsE e rows p
theorem same_row {e : Nat} {rows : Rows} {p : Nat} {r : List Int} (hl : LeadsE e rows p) (hr : rows[p]? = some r) : (yardRows e rows)[p]? = some r := by
  rcases yardRows_get (e := e) hr with ⟨_, h⟩ | ⟨hn, _⟩
  · exact h
  · exact absurd hl hn
theorem LeadsE.lt {e : Nat} {rows : Rows} {p : Nat} (h : LeadsE e rows p) : p < rows.length := by
  obtain ⟨x, _, h⟩ := h
  cases h with
  | one hr _ => exact (List.getElem?_eq_some_iff.mp hr).1
  | more hr _ _ => exact (List.getElem?_eq_some_iff.mp hr).1
/-- the two runs side by side -/
def Side (e : Nat) (rows : Rows) (s : List Nat) (b k : Nat) : Prop := (traj (yardRows e rows) (toldM (yardRows e rows) s) b k).1 = (traj rows s b k).1 ∧ ∀ p, LeadsE e rows p → (traj (yardRows e rows) (toldM (yardRows e rows) s) b k).2[p]? = (traj rows s b k).2[p]?
theorem side_zero {e : Nat} {rows : Rows} {s : List Nat} {b : Nat} (hs : SetOk rows s) : Side e rows s b 0 := by
  refine ⟨rfl, fun p hp => ?_⟩
  have hpl := hp.lt
  have hsl : s.length = rows.length := All2.len hs
  have ha : s[p]? = some s[p] := List.getElem?_eq_getElem (by omega)
  have hr : rows[p]? = some rows[p] := List.getElem?_eq_getElem hpl
  show (toldM (yardRows e rows) s)[p]? = s[p]?
  rw [told_get ha (same_row hp hr), ha]
  obtain ⟨r', hr', hlt⟩ := All2.getl hs ha
  rw [hr] at hr'
  cases hr'
  congr 1
  split
  · rfl
  · omega
theorem side_step {e : Nat} {rows : Rows} {s : List Nat} {b k p : Nat} (hs : SetOk rows s) (h : Side e rows s b k) (hp : (traj rows s b k).1 = (p : Int)) (hl : LeadsE e rows p) : Side e rows s b (k + 1) := by
  obtain ⟨h1, h2⟩ := h
  have hplt := hl.lt
  have hr : rows[p]? = some rows[p] := List.getElem?_eq_getElem hplt
  have hry := same_row hl hr
  have hnow := h2 p hl
  have hsl : (traj rows s b k).2.length = rows.length := All2.len (hs.traj k)
  have hpl2 : p < (traj rows s b k).2.length := by omega
  have hg : (traj rows s b k).2[p]? = some (traj rows s b k).2[p] := List.getElem?_eq_getElem hpl2
  rw [hg] at hnow
  have e1 : (traj (yardRows e rows) (toldM (yardRows e rows) s) b k).1.toNat = p := by rw [h1]; omega
  have e2 : (traj rows s b k).1.toNat = p := by omega
  refine ⟨?_, fun q hq => ?_⟩
  · show (((yardRows e rows).getD _ []).getD ((traj (yardRows e rows) (toldM (yardRows e rows) s) b k).2.getD _ 0) 0) = ((rows.getD _ []).getD ((traj rows s b k).2.getD _ 0) 0)
    rw [e1, e2, getD_some hry, getD_some hr, getD_some hnow, getD_some hg]
  · show ((traj (yardRows e rows) (toldM (yardRows e rows) s) b k).2.set _ (((traj (yardRows e rows) (toldM (yardRows e rows) s) b k).2.getD _ 0 + 1) % ((yardRows e rows).getD _ []).length))[q]? = ((traj rows s b k).2.set _ (((traj rows s b k).2.getD _ 0 + 1) % (rows.getD _ []).length))[q]?
    rw [e1, e2, getD_some hry, getD_some hr, getD_some hnow, getD_some hg, List.getElem?_set, List.getElem?_set]
    by_cases hpq : p = q
    · subst hpq
      rw [if_pos rfl, if_pos rfl, if_pos (List.getElem?_eq_some_iff.mp hnow).1, if_pos (List.getElem?_eq_some_iff.mp hg).1]
    · rw [if_neg hpq, if_neg hpq]
      exact h2 q hq
theorem side_all {e : Nat} {rows : Rows} {s : List Nat} {b : Nat} (hs : SetOk rows s) : ∀ n, GoodTo e rows s b n → Side e rows s b n
  | 0, _ => side_zero hs
  | n + 1, hg => by
    obtain ⟨p, hp, hl⟩ := hg n (by omega)
    exact side_step hs (side_all hs n fun k hk => hg k (by omega)) hp hl
/-- the next stand of a run -/
theorem traj_next {rows : Rows} {s : List Nat} {b k p : Nat} (hs : SetOk rows s) (hp : (traj rows s b k).1 = (p : Int)) (hpl : p < rows.length) : (traj rows s b (k + 1)).1 ∈ rows[p] := by
  have hsl : (traj rows s b k).2.length = rows.length := All2.len (hs.traj k)
  have hg : (traj rows s b k).2[p]? = some (traj rows s b k).2[p] := List.getElem?_eq_getElem (by omega)
  obtain ⟨r', hr', hlt⟩ := All2.getl (hs.traj (b := b) k) hg
  have hr : rows[p]? = some rows[p] := List.getElem?_eq_getElem hpl
  rw [hr] at hr'
  cases hr'
  show ((rows.getD _ []).getD ((traj rows s b k).2.getD _ 0) 0) ∈ rows[p]
  rw [show (traj rows s b k).1.toNat = p by omega, getD_some hr, getD_some hg, getD_some (List.getElem?_eq_getElem hlt)]
  exact List.getElem_mem hlt
theorem yend_iff {e : Nat} {rows : Rows} {s : List Nat} {b x : Nat} (ok : NetOk e rows) (hs : SetOk rows s) (hb : b < rows.length) (hx : x < e) : YEnd e rows s b x ↔ LEnd rows s b x := by
  constructor
  · rintro ⟨n, hg, hend⟩
    have hgood : ∀ k, k ≤ n → GoodTo e rows s b k := by
      intro k
      induction k with
      | zero => intro _ q hq; omega
      | succ k ih =>
        intro hk q hq
        have ihk := ih (by omega)
        by_cases hqk : q < k
        · exact ihk q hqk
        · have hqe : q = k := by omega
          subst hqe
          obtain ⟨h1, _⟩ := side_all hs q ihk
          have h0 := hg q (by omega)
          have hlt := traj_lt hs hb (fun r hr t ht => ((ok.row r hr).2.2 t ht).2) q (fun m hm => by obtain ⟨p, hp, _⟩ := ihk m hm; omega)
          obtain ⟨p, hp⟩ : ∃ p : Nat, (traj rows s b q).1 = (p : Int) := ⟨_, (Int.toNat_of_nonneg (by omega)).symm⟩
          have hpl : p < rows.length := by omega
          refine ⟨p, hp, ?_⟩
          rcases yardRows_get (e := e) (List.getElem?_eq_getElem hpl) with ⟨hl, _⟩ | ⟨_, hy⟩
          · exact hl
          · have hyl : p < (yardRows e rows).length := by rw [yardRows_len]; exact hpl
            have hm := traj_next (told_ok ok hs) (show (traj (yardRows e rows) (toldM (yardRows e rows) s) b q).1 = (p : Int) by omega) hyl
            have hy' : (yardRows e rows)[p] = [-1 - (e : Int)] := by
              have := List.getElem?_eq_getElem hyl
              rw [hy] at this
              exact (Option.some.inj this).symm
            rw [hy'] at hm
            have hm' : (traj (yardRows e rows) (toldM (yardRows e rows) s) b (q + 1)).1 = -1 - (e : Int) := by simpa using hm
            by_cases hqn : q + 1 = n
            · rw [hqn, hend] at hm'
              omega
            · have := hg (q + 1) (by omega)
              omega
    obtain ⟨h1, _⟩ := side_all hs n (hgood n (Nat.le_refl _))
    refine ⟨n, fun m hm => ?_, by rw [← h1]; exact hend⟩
    obtain ⟨p, hp, _⟩ := hgood n (Nat.le_refl _) m hm
    omega
  · rintro ⟨n, hg, hend⟩
    have hgood : ∀ j, j ≤ n → ∀ k, n - j ≤ k → k < n → ∃ p : Nat, (traj rows s b k).1 = (p : Int) ∧ LeadsE e rows p := by
      intro j
      induction j with
      | zero => intro _ k h1 h2; omega
      | succ j ih =>
        intro hj k h1 h2
        by_cases hk : n - j ≤ k
        · exact ih (by omega) k hk h2
        · have hlt := traj_lt hs hb (fun r hr t ht => ((ok.row r hr).2.2 t ht).2) k (fun m hm => hg m (by omega))
          have h0 := hg k h2
          obtain ⟨p, hp⟩ : ∃ p : Nat, (traj rows s b k).1 = (p : Int) := ⟨_, (Int.toNat_of_nonneg h0).symm⟩
          have hpl : p < rows.length := by omega
          have hm := traj_next hs hp hpl
          refine ⟨p, hp, ?_⟩
          by_cases hkn : k + 1 = n
          · rw [hkn, hend] at hm
            exact ⟨x, hx, .one (List.getElem?_eq_getElem hpl) hm⟩
          · obtain ⟨q, hq, y, hy, hl⟩ := ih (by omega) (k + 1) (by omega) (by omega)
            rw [hq] at hm
            exact ⟨y, hy, .more (List.getElem?_eq_getElem hpl) hm hl⟩
    have hgt : GoodTo e rows s b n := fun k hk => hgood n (Nat.le_refl _) k (by omega) hk
    obtain ⟨h1, _⟩ := side_all hs n hgt
    refine ⟨n, fun m hm => ?_, by rw [h1]; exact hend⟩
    obtain ⟨h2, _⟩ := side_all hs m fun k hk => hgt k (by omega)
    rw [h2]
    exact hg m hm
/-! ### points that a run doesn't visit -/
theorem traj_set {rows : Rows} {s : List Nat} {b p v : Nat} : ∀ n, Goes rows s b n → visN rows s b n p = 0 → traj rows (s.set p v) b n = ((traj rows s b n).1, (traj rows s b n).2.set p v)
  | 0, _, _ => rfl
  | n + 1, hg, hv => by
    rw [visN_succ] at hv
    have ih := traj_set (v := v) n (fun m hm => hg m (by omega)) (show visN rows s b n p = 0 by omega)
    have hne : (traj rows s b n).1 ≠ (p : Int) := fun h => by rw [if_pos h] at hv; omega
    have h0 := hg n (by omega)
    have hwp : (traj rows s b n).1.toNat ≠ p := by omega
    show stepN rows (traj rows (s.set p v) b n) = (_, _)
    rw [ih]
    have hgd : ((traj rows s b n).2.set p v).getD (traj rows s b n).1.toNat 0 = (traj rows s b n).2.getD (traj rows s b n).1.toNat 0 := by
      rw [List.getD_eq_getElem?_getD, List.getElem?_set, if_neg (Ne.symm hwp), ← List.getD_eq_getElem?_getD]
    show ((rows.getD (traj rows s b n).1.toNat []).getD (((traj rows s b n).2.set p v).getD (traj rows s b n).1.toNat 0) 0, ((traj rows s b n).2.set p v).set (traj rows s b n).1.toNat ((((traj rows s b n).2.set p v).getD (traj rows s b n).1.toNat 0 + 1) % (rows.getD (traj rows s b n).1.toNat []).length)) = _
    rw [hgd, List.set_comm _ _ (Ne.symm hwp)]
    rfl
theorem apart_set : ∀ (s one : List Nat) (p a : Nat), s[p]? = some a → one[p]? ≠ some a → p < one.length → apartM s (one.set p a) < apartM s one
  | [], _, _, _, h, _, _ => by simp at h
  | _ :: _, [], _, _, _, _, h => by simp at h
  | c :: s, d :: one, 0, a, h1, h2, _ => by
    simp at h1 h2
    subst h1
    unfold apartM
    simp only [List.set_cons_zero, List.zip_cons_cons]
    rw [List.filter_cons, List.filter_cons, if_neg (by simp), if_pos (by simp; exact fun z => h2 z.symm)]
    simp
  | c :: s, d :: one, p + 1, a, h1, h2, h3 => by
    have ih := apart_set s one p a (by simpa using h1) (by simpa using h2) (by simpa using h3)
    unfold apartM at ih ⊢
    simp only [List.set_cons_succ, List.zip_cons_cons]
    rw [List.filter_cons, List.filter_cons]
    split
    · rw [List.length_cons, List.length_cons]
      omega
    · exact ih
theorem unturned {e : Nat} {rows : Rows} {s one : List Nat} {b x n : Nat} (ok : NetOk e rows) (hs : SetOk rows s) (ho : SetOk rows one) (hb : b < rows.length) (hr : RunEnds rows one b n x) (hmin : ∀ t ∈ allM rows, LEnd rows t b x → apartM s one ≤ apartM s t) {p : Nat} (hp : one[p]? ≠ s[p]?) : visN rows one b n p ≠ 0 := by
  intro hv
  have hol : one.length = rows.length := All2.len ho
  have hsl : s.length = rows.length := All2.len hs
  have hpl : p < rows.length := by
    refine Classical.byContradiction fun h => hp ?_
    rw [List.getElem?_eq_none (by omega), List.getElem?_eq_none (by omega)]
  have ha : s[p]? = some s[p] := List.getElem?_eq_getElem (by omega)
  obtain ⟨r, hrr, hlt⟩ := All2.getl hs ha
  have hok : SetOk rows (one.set p s[p]) := by
    refine All2.of_get (by rw [List.length_set]; exact hol) fun i k q hk hq => ?_
    rw [List.getElem?_set] at hk
    by_cases hpi : p = i
    · subst hpi
      rw [if_pos rfl, if_pos (by omega)] at hk
      cases hk
      rw [hrr] at hq
      cases hq
      exact hlt
    · rw [if_neg hpi] at hk
      obtain ⟨r', hr', hlt'⟩ := All2.getl ho hk
      rw [hq] at hr'
      cases hr'
      exact hlt'
  have hend : LEnd rows (one.set p s[p]) b x := by
    refine ⟨n, fun m hm => ?_, ?_⟩
    · have hvm : visN rows one b m p = 0 := by
        have := visN_mono rows one b p (show m ≤ n by omega)
        omega
      rw [traj_set m (fun q hq => hr.1 q (by omega)) hvm]
      exact hr.1 m hm
    · rw [traj_set n hr.1 hv]
      exact hr.2
  have h1 := hmin _ (mem_allM hok) hend
  have h2 := apart_set s one p s[p] ha (by rw [← ha]; exact hp) (by omega)
  omega
/-! ### swaps -/
theorem swap_back {rows : Rows} {n i j : Nat} {r : List Int} (hr : rows[n]? = some r) (hi : i < r.length) (hj : j < r.length) : swapM (swapM rows n i j) n j i = rows := by
  have hn : n < rows.length := (List.getElem?_eq_some_iff.mp hr).1
  have hr2 : (swapM rows n i j)[n]? = some ((r.set i r[j]).set j r[i]) := by
    rw [swapM_eq hr hi hj, List.getElem?_set, if_pos rfl, if_pos hn]
  have hl : ((r.set i r[j]).set j r[i]).length = r.length := by rw [List.length_set, List.length_set]
  rw [swapM_eq hr2 (by rw [hl]; exact hj) (by rw [hl]; exact hi), swapM_eq hr hi hj, List.set_set]
  have hrow : ((((r.set i r[j]).set j r[i]).set j (((r.set i r[j]).set j r[i])[i]'(by rw [hl]; exact hi))).set i (((r.set i r[j]).set j r[i])[j]'(by rw [hl]; exact hj))) = r := by
    apply List.ext_getElem
    · rw [List.length_set, List.length_set, hl]
    · intro k h1 h2
      simp only [List.getElem_set]
      by_cases hik : i = k
      · subst hik
        simp
      · by_cases hjk : j = k
        · subst hjk
          simp [hik, Ne.symm hik]
        · simp [hik, hjk]
  rw [hrow]
  apply List.ext_getElem?
  intro k
  rw [List.getElem?_set]
  by_cases hnk : n = k
  · subst hnk
    rw [if_pos rfl, if_pos hn, hr]
  · rw [if_neg hnk]
open Classical in
noncomputable def dueC (rows : Rows) (s : List Nat) (b x p i j : Nat) : List (Nat × Nat × Nat) := if i < j ∧ (rows.getD p []).getD i 0 ≠ (rows.getD p []).getD j 0 ∧ LEnd (swapM rows p i j) s b x then [(p, i, j)] else []
theorem flatMap_ite {α β : Type} (f : α → Bool) (g : α → β) : ∀ xs : List α, xs.flatMap (fun a => if f a = true then [g a] else []) = (xs.filter f).map g
  | [] => rfl
  | a :: xs => by
    rw [List.flatMap_cons, flatMap_ite f g xs, List.filter_cons]
    cases f a <;> simp
theorem fm_congr {α β : Type} {f g : α → List β} : ∀ {xs : List α}, (∀ x ∈ xs, f x = g x) → xs.flatMap f = xs.flatMap g
  | [], _ => rfl
  | x :: xs, h => by rw [List.flatMap_cons, List.flatMap_cons, h x List.mem_cons_self, fm_congr fun y hy => h y (List.mem_cons_of_mem _ hy)]
theorem range_split {m n : Nat} (h : m ≤ n) : List.range n = List.range m ++ (List.range (n - m)).map fun k => m + k := by
  conv => lhs; rw [show n = m + (n - m) by omega, List.range_add]
open Classical in
theorem due_better {e : Nat} {rows : Rows} {s : List Nat} {b x : Nat} (ok : NetOk e rows) (hs : SetOk rows s) (hb : b < rows.length) (hx : x < e) :
    (List.range rows.length).flatMap (fun p => (List.range (rows.getD p []).length).flatMap fun i => (List.range (rows.getD p []).length).flatMap fun j => dueC rows s b x p i j) = betterM e rows s b x := by
  unfold betterM swapsM
  rw [List.filter_flatMap]
  apply fm_congr
  intro p hp
  have hpl := List.mem_range.mp hp
  have hr : rows[p]? = some rows[p] := List.getElem?_eq_getElem hpl
  rw [List.filter_flatMap]
  apply fm_congr
  intro i hi
  have hil := List.mem_range.mp hi
  rw [List.filter_map, List.filter_filter, range_split (show i + 1 ≤ (rows.getD p []).length by omega), List.flatMap_append]
  have h1 : (List.range (i + 1)).flatMap (fun j => dueC rows s b x p i j) = [] := by
    rw [List.flatMap_eq_nil_iff]
    intro j hj
    have := List.mem_range.mp hj
    unfold dueC
    rw [if_neg (by omega)]
  rw [h1, List.nil_append, List.flatMap_map, ← flatMap_ite]
  apply fm_congr
  intro k hk
  have hkl := List.mem_range.mp hk
  rw [getD_some hr] at hil hkl
  have hiff : YEnd e (swapM rows p i (i + 1 + k)) s b x ↔ LEnd (swapM rows p i (i + 1 + k)) s b x := yend_iff (swapM_ok ok hr hil (by omega)) (swapM_set hs hr hil (by omega)) (by rw [swapM_len]; exact hb) hx
  show dueC rows s b x p i (i + 1 + k) = (if (decide (YEnd e (swapM rows p i (i + 1 + k)) s b x) && decide ((rows.getD p []).getD i 0 ≠ (rows.getD p []).getD (i + 1 + k) 0)) = true then [(p, i, i + 1 + k)] else [])
  unfold dueC
  by_cases hne : (rows.getD p []).getD i 0 = (rows.getD p []).getD (i + 1 + k) 0
  · rw [if_neg (fun z => z.2.1 hne), if_neg (fun z => (show (rows.getD p []).getD i 0 ≠ (rows.getD p []).getD (i + 1 + k) 0 from of_decide_eq_true (Bool.and_eq_true_iff.mp z).2) hne)]
  · by_cases hl : LEnd (swapM rows p i (i + 1 + k)) s b x
    · rw [if_pos ⟨by omega, hne, hl⟩, if_pos (Bool.and_eq_true_iff.mpr ⟨decide_eq_true (hiff.mpr hl), decide_eq_true hne⟩)]
    · rw [if_neg (fun z => hl z.2.2), if_neg (fun z => hl (hiff.mp (of_decide_eq_true (Bool.and_eq_true_iff.mp z).1)))]
end Fp
end part_M2
section part_W11
set_option maxHeartbeats 2000000
namespace Fp
open PySem PySem.Spec PyProof.Rows L2 Evl
theorem runRes_iff {rows : Rows} {s : List Nat} {b n : Nat} {r : V} (h : RunRes rows s b r n) (x : Nat) : r = .int (x : Int) ↔ LEnd rows s b x := by
  rcases h with ⟨y, rfl, hy⟩ | ⟨rfl, hg, m, hm, he⟩
  · constructor
    · intro q
      have : y = x := by injection q with q; omega
      subst this
      exact ⟨n, hy⟩
    · rintro ⟨k, hk⟩
      rw [(hy.unique hk).2]
  · constructor
    · intro q
      cases q
    · rintro ⟨k, hk⟩
      have := cyc_never hg hm he k
      rw [hk.2] at this
      omega
theorem runRes_scal {rows : Rows} {s : List Nat} {b n : Nat} {r : V} (h : RunRes rows s b r n) (i : Int) : scal r (.int i) = true := by
  rcases h with ⟨y, rfl, hy⟩ | ⟨rfl, _⟩ <;> rfl
theorem NetAt.ins {CN : Addr} {H : Hp} {p : Addr} {e : Nat} {rows : Rows} (h : NetAt CN H p e rows) : ∃ dx fs, H p = some (.ins CN dx fs) ∧ fs.lookup ("exits" : Str) = none := let ⟨dx, fs, ex, tg, fi, h1, h2, h3, h4⟩ := h; ⟨dx, _, h1, layF_no _ _ _ _ _ h2 (by decide +kernel) (by decide +kernel) (by decide +kernel) (by decide +kernel)⟩
theorem IsTrip.dp {K : PySem.W.Frag} {H : Hp} {v : V} {q : Nat × Nat × Nat} (h : IsTrip H v q) : Dp K H v (dU [(q.1 : Int), (q.2.1 : Int), (q.2.2 : Int)]) := by
  obtain ⟨a, rfl, ha⟩ := h
  exact dp_U ha
theorem dp_trips {K : PySem.W.Frag} {H : Hp} {a : Addr} {vs : List V} {qs : List (Nat × Nat × Nat)} (h : H a = some (.lst vs)) (h2 : All2 (IsTrip H) vs qs) : Dp K H (.ref a) (.list (qs.map fun q => dU [(q.1 : Int), (q.2.1 : Int), (q.2.2 : Int)])) := .lst (SqL.of h) (dp_all (h2.imp fun _ _ h => h.dp))
theorem shp_trips (qs : List (Nat × Nat × Nat)) : Shp 2 (.list (qs.map fun q => dU [(q.1 : Int), (q.2.1 : Int), (q.2.2 : Int)])) := shp_list fun d hd => by
  obtain ⟨q, _, rfl⟩ := List.mem_map.mp hd
  exact shp_dU _
theorem eqv_self {n : Nat} {d : PyData} (h : Shp n d) : PyData.eqv d d = true := PySem.SeqAt.eqv_refl d h.1
def spSwaps3 (CN : Addr) : Sp := fun vs H Q _ => ∃ (p ea sa : Addr) (e b x : Nat) (rows : Rows) (s : List Nat), vs = [.ref p, .ref ea, .ref sa, .int (b : Int), .int (x : Int)] ∧ NetAt CN H p e rows ∧ LL H ea rows ∧ H sa = some (.lst (nI s)) ∧ NetOk e rows ∧ SetOk rows s ∧ b < rows.length ∧ x < e ∧ e ≤ 2 ∧ ∀ H', Ex H H' → Q (.bl true) H'
section
variable {P : Program} {w : World} {K : PySem.W.Frag} {mg : Str → Option Value} {base : Heap} {CN CY : Addr}
abbrev s__law_swaps_right : Stmt := (topS 96)
theorem sc__law_swaps_right : FnScope ["_law_net", "_law_exits_here", "_law_setting_here", "_law_begin", "_law_end", "_law_due", "_law_point", "_law_row", "_law_spot", "_law_other", "_law_rows", "_law_late"] ["_law_net", "_law_exits_here", "_law_setting_here", "_law_begin", "_law_end"] (defScope s__law_swaps_right) := ⟨rfl, rfl, rfl, by decide +kernel, rfl, by decide +kernel, by decide +kernel⟩
open Classical in
theorem ok__law_swaps_right (F : FunG K mg "_law_swaps_right" s__law_swaps_right ["_law_net", "_law_exits_here", "_law_setting_here", "_law_begin", "_law_end"]) (T : Txt K mg CN CY) (c__law_swapped : Cal P w K mg base "_law_swapped" ["_law_exits_here", "_law_point", "_law_spot", "_law_other"] 1 spLSwap)
    (c_swapped_exits : Cal P w K mg base "swapped_exits" ["net", "point", "spot", "other"] 9 (spSwapE CN)) (c_exits : MCal P w K mg base CN "exits" ["self"] 1 (spExits CN)) (c_eq : MCal P w K mg base CN "__eq__" ["self", "other"] 1 (spEq (EqNets CN)))
    (c__law_run : Cal P w K mg base "_law_run" ["_law_exits_here", "_law_setting_here", "_law_begin"] 1 spLRun) (c_better_swaps : Cal P w K mg base "better_swaps" ["net", "setting", "begin", "end"] 10 (spBetter CN)) :
    Cal P w K mg base "_law_swaps_right" ["_law_net", "_law_exits_here", "_law_setting_here", "_law_begin", "_law_end"] 11 (spSwaps3 CN) := by
  refine F.cal fun f fd F => F.ok sc__law_swaps_right (fun vs H Q E h => ?_) (fun cdv A outer s H vs Q E hr h => ?_)
  · obtain ⟨p, ea, sa, e, b, x, rows, st, rfl, _⟩ := h
    rfl
  · obtain ⟨p, ea, sa, e, b, x, rows, st, rfl, hN, hLL, hsa, ok, hs, hb, hx, he, k⟩ := h
    obtain ⟨us, hus, hall⟩ := id hLL
    have hul := hall.len
    have h3 := ok.pts3
    refine ⟨_, (pss_cons (ps_set (i := 5) sc__law_swaps_right.nd rfl (Or.inl rfl) (pe_lst pa_nil))
      (pss_cons (ps_for PassesOwn.never rfl (pi_enumK false (by rfl) T.m_enumerate (pa_cons (pv 1) pa_nil)) (pg_tup rfl (pgs_cons (pg_name (i := 6) sc__law_swaps_right.nd rfl (Or.inl rfl)) (pgs_cons (pg_name (i := 7) sc__law_swaps_right.nd rfl (Or.inl rfl)) pgs_nil))) (pss_one (ps_for PassesOwn.never rfl (pi_range1 (by rfl) T.m_range (pa_cons (pe_callB (r := rLenS K) call_len_seq (by rfl) T.m_len PySem.boot_len (pa_cons (pv 7) pa_nil)) pa_nil)) (pg_name (i := 8) sc__law_swaps_right.nd rfl (Or.inl rfl)) (pss_one (ps_for PassesOwn.never rfl (pi_range1 (by rfl) T.m_range (pa_cons (pe_callB (r := rLenS K) call_len_seq (by rfl) T.m_len PySem.boot_len (pa_cons (pv 7) pa_nil)) pa_nil)) (pg_name (i := 9) sc__law_swaps_right.nd rfl (Or.inl rfl)) (pss_cons (ps_set (i := 10) sc__law_swaps_right.nd rfl (Or.inl rfl) (pe_cal c__law_swapped (hr.mono (by decide)) (by rfl) (pa_cons (pv 1) (pa_cons (pv 6) (pa_cons (pv 8) (pa_cons (pv 9) pa_nil))))))
      (pss_cons (ps_set (i := 11) sc__law_swaps_right.nd rfl (Or.inl rfl) (pe_cal c_swapped_exits (hr.mono (by decide)) (by rfl) (pa_cons (pv 0) (pa_cons (pv 6) (pa_cons (pv 8) (pa_cons (pv 9) pa_nil))))))
      (pss_cons (ps_if (PW.pt (pw_or (pt_cmpR (r := rNeD K) (op_neD hr.units) (pe_mcal0 T.clN c_exits (hr.mono (by decide)) (pv 11)) (pv 10) (nomark _)) (pw_or1 (pt_not (pt_cmpR (op_eqNet c_eq (hr.mono (by decide))) (pe_cal c_swapped_exits (hr.mono (by decide)) (by rfl) (pa_cons (pv 11) (pa_cons (pv 6) (pa_cons (pv 9) (pa_cons (pv 8) pa_nil))))) (pv 0) (nomark _)))))) (pss_one (ps_ret pe_bl)) pss_nil)
      (pss_one (ps_if (PW.pt (pw_and (pt_cmpR op_lt (pv 8) (pv 9) (nomark _)) (pw_and (pt_cmpR op_ne (pe_ix (r := rIxL K) ix_list (pv 7) (pv 8) (fun _ _ => rfl)) (pe_ix (r := rIxL K) ix_list (pv 7) (pv 9) (fun _ _ => rfl)) (nomark _)) (pw_and1 (pt_cmpR op_eq (pe_ix (r := rIxT K) ix_tup (pe_cal c__law_run (hr.mono (by decide)) (by rfl) (pa_cons (pv 10) (pa_cons (pv 2) (pa_cons (pv 3) pa_nil)))) pe_int (fun _ _ => rfl)) (pv 4) (nomark _)))))) (pss_one (ps_expr (pe_bm PySem.F.plainAttrs_list PySem.F.slot_list_append PySem.F.type_list_append mt_append (pv 5) (pa_cons (pe_tup (pa_cons (pv 6) (pa_cons (pv 8) (pa_cons (pv 9) pa_nil)))) pa_nil)))) pss_nil))))))))))
      (pss_one (ps_ret (pe_and (pe_cmpR (r := rEqD K) (op_eqD hr.units) (pe_cal c_better_swaps (hr.mono (by decide)) (by rfl) (pa_cons (pv 0) (pa_cons (pv 2) (pa_cons (pv 3) (pa_cons (pv 4) pa_nil))))) (pv 5) (nomark _)) (pe_one (pe_cmpR (r := rEqD K) (op_eqD hr.units) (pe_mcal0 T.clN c_exits (hr.mono (by decide)) (pv 0)) (pv 1) (nomark _)))))))), ?_⟩
    refine ⟨by show 0 ≤ sizeLine; decide, fun fa hfa => ?_⟩
    have e0 : Ex H (upd H fa (.lst [])) := Ex.new hfa
    let g3 : Nat → Nat → Nat → List (Nat × Nat × Nat) := dueC rows st b x
    let g2 : Nat → Nat → List (Nat × Nat × Nat) := fun p i => (List.range (rows.getD p []).length).flatMap (g3 p i)
    let g1 : Nat → List (Nat × Nat × Nat) := fun p => (List.range (rows.getD p []).length).flatMap (g2 p)
    refine ⟨_, rfl, _, _, rfl, SqK.l (e0 _ _ hus), for_it walk_enumK (fun m σ H' => ∃ (zs : List V) (x6 x7 x8 x9 x10 x11 : Option V), σ = [some (.ref p), some (.ref ea), some (.ref sa), some (.int (b : Int)), some (.int (x : Int)), some (.ref fa), x6, x7, x8, x9, x10, x11] ∧ Ex H H' ∧ H' fa = some (.lst zs) ∧ zs.length ≤ 9 * m ∧ All2 (IsTrip H') zs ((List.range m).flatMap g1)) ⟨[], none, none, none, none, none, none, rfl, e0, upd_same, Nat.le_refl _, .nil⟩ (fun i σ H' _ ⟨_, _, _, _, _, _, _, _, e3, _⟩ => SqK.l (e3 _ _ hus)) ?_ ?_⟩
    · rintro n xx σ H1 H2 hn ⟨zs, x6, x7, x8, x9, x10, x11, rfl, e1, hz1, hzl1, hzs1⟩ ⟨Tt, y1, y2, rfl, hT, rfl, hy1, hy2⟩
      cases hy1
      obtain ⟨r, hri, rb, rfl, hrb⟩ := hall.getl hy2
      have hgd : rows.getD n [] = r := getD_some hri
      have hr3 := (ok.row r (List.mem_of_getElem? hri)).2.1
      have e2 : Ex H1 (upd H1 Tt (.tup [.int (n : Int), .ref rb])) := Ex.new hT
      refine ⟨Tt, _, rfl, SqT.of upd_same, rfl, _, _, rfl, _, _, rfl, rfl, ?_⟩
      refine ⟨_, rfl, _, _, rfl, .inl (SqL.of ((e1.trans e2) _ _ hrb)), _, rfl, by omega, by rw [List.length_map]; omega, ?_⟩
      rw [show (((r.map V.int).length : Nat) : Int).toNat = r.length by rw [List.length_map]; rfl]
      refine for_it walk_range0 (fun i σ H' => ∃ (zs : List V) (x8 x9 x10 x11 : Option V), σ = [some (.ref p), some (.ref ea), some (.ref sa), some (.int (b : Int)), some (.int (x : Int)), some (.ref fa), some (.int (n : Int)), some (.ref rb), x8, x9, x10, x11] ∧ Ex H H' ∧ H' fa = some (.lst zs) ∧ zs.length ≤ 9 * n + 3 * i ∧ All2 (IsTrip H') zs ((List.range n).flatMap g1 ++ (List.range i).flatMap (g2 n))) ⟨zs, x8, x9, x10, x11, rfl, e1.trans e2, e2 _ _ hz1, by omega, by rw [List.range_zero, List.flatMap_nil, List.append_nil]; exact hzs1.imp fun _ _ h => h.ex e2⟩ (fun _ _ _ _ _ => trivial) ?_ ?_
      · rintro i xx σ _ H3 hi ⟨zs3, x8', x9', x10', x11', rfl, e3, hz3, hzl3, hzs3⟩ ⟨rfl, rfl⟩
        refine ⟨_, rfl, _, _, rfl, .inl (SqL.of (e3 _ _ hrb)), _, rfl, by omega, by rw [List.length_map]; omega, ?_⟩
        rw [show (((r.map V.int).length : Nat) : Int).toNat = r.length by rw [List.length_map]; rfl]
        refine for_it walk_range0 (fun j σ H' => ∃ (zs : List V) (x9 x10 x11 : Option V), σ = [some (.ref p), some (.ref ea), some (.ref sa), some (.int (b : Int)), some (.int (x : Int)), some (.ref fa), some (.int (n : Int)), some (.ref rb), some (.int (i : Int)), x9, x10, x11] ∧ Ex H H' ∧ H' fa = some (.lst zs) ∧ zs.length ≤ 9 * n + 3 * i + j ∧ All2 (IsTrip H') zs (((List.range n).flatMap g1 ++ (List.range i).flatMap (g2 n)) ++ (List.range j).flatMap (g3 n i))) ⟨zs3, x9', x10', x11', rfl, e3, hz3, by omega, by rw [List.range_zero, List.flatMap_nil, List.append_nil]; exact hzs3⟩ (fun _ _ _ _ _ => trivial) ?_ ?_
        · rintro j xx σ _ H4 hj ⟨zs4, x9'', x10'', x11'', rfl, e4, hz4, hzl4, hzs4⟩ ⟨rfl, rfl⟩
          -- rows
          refine ⟨_, rfl, _, rfl, _, rfl, _, rfl, ea, e, n, i, j, rows, r, rfl, hLL.ex e4, ok, hri, hi, hj, fun H5 ra e5 hra0 hra => ?_⟩
          -- late
          refine ⟨_, rfl, _, rfl, _, rfl, _, rfl, p, e, n, i, j, rows, r, rfl, hN.mono (e4.trans e5), ok, hri, hi, hj, fun H6 la e6 hla => ?_⟩
          obtain ⟨dl, fl, hlp, hlx⟩ := hla.ins
          have ok2 := swapM_ok ok hri hi hj
          refine ⟨_, rfl, la, dl, _, rfl, hlp, hlx, la, e, swapM rows n i j, rfl, hla, by rw [swapM_len]; omega, fun H7 xa e7 hxa0 hxa => ⟨_, rfl, _, _, dp_LL hxa, dp_LL ((hra.ex e6).ex e7), (shp_dLL _).shaped (by decide), (shp_dLL _).shaped (by decide), _, rfl, ?_⟩⟩
          refine itF (by rw [tells_dLL, decide_eq_true rfl]; rfl) ?_
          -- swapped back
          have hr2 : (swapM rows n i j)[n]? = some ((r.set i r[j]).set j r[i]) := by
            rw [swapM_eq hri hi hj, List.getElem?_set, if_pos rfl, if_pos (List.getElem?_eq_some_iff.mp hri).1]
          refine ⟨_, rfl, _, rfl, _, rfl, _, rfl, la, e, n, j, i, swapM rows n i j, _, rfl, hla.mono e7, ok2, hr2, by rw [List.length_set, List.length_set]; exact hj, by rw [List.length_set, List.length_set]; exact hi, fun H8 qa e8 hqa => ⟨_, rfl, ?_⟩⟩
          rw [swap_back hri hi hj] at hqa
          have e48 := ((e5.trans e6).trans e7).trans e8
          have hN8 := hN.mono (e4.trans e48)
          obtain ⟨d1, f1, hq1, _⟩ := hqa.ins
          obtain ⟨d2, f2, hq2, _⟩ := hN8.ins
          refine ⟨⟨qa, p, d1, d2, f1, f2, rfl, rfl, hq1, hq2, e, rows, hqa, hN8⟩, fun H9 e9 => ⟨_, rfl, iteF ?_⟩⟩
          have e9' : Ex H8 H9 := e9
          have e49 : Ex H4 H9 := e48.trans e9'
          have e09 := e4.trans e49
          have hi' : r[i]? = some r[i] := List.getElem?_eq_getElem hi
          have hj' : r[j]? = some r[j] := List.getElem?_eq_getElem hj
          have hz9 := e49 _ _ hz4
          have done : ∀ H' : Hp, Ex H9 H' → g3 n i j = [] → ∃ (zs : List V) (x9 x10 x11 : Option V), [some (V.ref p), some (.ref ea), some (.ref sa), some (.int (b : Int)), some (.int (x : Int)), some (.ref fa), some (.int (n : Int)), some (.ref rb), some (.int (i : Int)), some (.int (j : Int)), some (.ref ra), some (.ref la)] = [some (.ref p), some (.ref ea), some (.ref sa), some (.int (b : Int)), some (.int (x : Int)), some (.ref fa), some (.int (n : Int)), some (.ref rb), some (.int (i : Int)), x9, x10, x11] ∧ Ex H H' ∧ H' fa = some (.lst zs) ∧ zs.length ≤ 9 * n + 3 * i + (j + 1) ∧ All2 (IsTrip H') zs (((List.range n).flatMap g1 ++ (List.range i).flatMap (g2 n)) ++ (List.range (j + 1)).flatMap (g3 n i)) := by
            intro H' eH hg
            refine ⟨zs4, _, _, _, rfl, e09.trans eH, eH _ _ hz9, by omega, ?_⟩
            rw [List.range_succ, List.flatMap_append, List.flatMap_singleton, hg, List.append_nil]
            exact hzs4.imp fun _ _ h => h.ex (e49.trans eH)
          refine ⟨_, rfl, _, rfl, _, _, rfl, rfl, _, rfl, ?_⟩
          by_cases hij : i < j
          · refine itT (decide_eq_true (by omega)) ⟨_, rfl, _, rfl, rb, _, _, _, rfl, rfl, SqL.of (e09 _ _ hrb), mI_at hi', _, rfl, _, rfl, rb, _, _, _, rfl, rfl, SqL.of (e09 _ _ hrb), mI_at hj', rfl, _, rfl, ?_⟩
            by_cases hne : r[i] = r[j]
            · refine itF (by rw [decide_eq_true (congrArg V.int hne)]; rfl) (itF rfl ?_)
              refine done H9 (Ex.refl _) ?_
              show dueC rows st b x n i j = []
              unfold dueC
              rw [if_neg]
              rintro ⟨_, q, _⟩
              rw [hgd, getD_some hi', getD_some hj'] at q
              exact q hne
            · refine itT (by rw [decide_eq_false (fun z => hne (V.int.inj z))]; rfl) ?_
              refine ⟨_, rfl, _, rfl, _, rfl, ra, sa, b, e, swapM rows n i j, st, rfl, (hra.ex e6).ex ((e7.trans e8).trans e9'), e09 _ _ hsa, ok2, swapM_set hs hri hi hj, by rw [swapM_len]; exact hb, fun H10 t rv nn va na kk e10 ht hres hva => ?_⟩
              refine ⟨t, _, 0, _, rfl, rfl, SqT.of ht, atI_nat (j := 0) rfl, _, rfl, runRes_scal hres _, _, rfl, ?_⟩
              by_cases hrv : rv = .int (x : Int)
              · refine itT (decide_eq_true hrv) ?_
                have hz10 := e10 _ _ hz9
                refine ⟨_, rfl, .inl ⟨rfl, _, SqL.of hz10⟩, _, rfl, _, rfl, _, rfl, by show 3 ≤ sizeLine; decide, fun tt htt => ?_⟩
                have e11 : Ex H10 (upd H10 tt (.tup [.int (n : Int), .int (i : Int), .int (j : Int)])) := Ex.new htt
                have hz11 := e11 _ _ hz10
                refine ⟨fa, _, _, rfl, rfl, hz11, sz_lt (by omega), zs4 ++ [.ref tt], _, _, _, rfl, Ex.mut ((e09.trans e10).trans e11) hfa, upd_same, by rw [List.length_append]; show zs4.length + 1 ≤ _; omega, ?_⟩
                rw [List.range_succ, List.flatMap_append, List.flatMap_singleton, ← List.append_assoc]
                have hg3 : g3 n i j = [(n, i, j)] := by
                  show dueC rows st b x n i j = [(n, i, j)]
                  unfold dueC
                  rw [if_pos]
                  rw [hgd, getD_some hi', getD_some hj']
                  exact ⟨hij, hne, (runRes_iff hres x).mp hrv⟩
                rw [hg3]
                exact (hzs4.imp fun _ _ h => (h.ex ((e49.trans e10).trans e11)).updL hz11).snoc ⟨tt, rfl, by rw [upd_ne (ne_of_none hz10 htt).symm, upd_same]⟩
              · refine itF (decide_eq_false hrv) ?_
                refine done H10 e10 ?_
                show dueC rows st b x n i j = []
                unfold dueC
                rw [if_neg]
                rintro ⟨_, _, q⟩
                exact hrv ((runRes_iff hres x).mpr q)
          · refine itF (decide_eq_false (by omega)) (itF rfl ?_)
            refine done H9 (Ex.refl _) ?_
            show dueC rows st b x n i j = []
            unfold dueC
            rw [if_neg fun q => hij q.1]
        · rintro σ H4 ⟨zs4, x9'', x10'', x11'', rfl, e4, hz4, hzl4, hzs4⟩
          refine ⟨zs4, _, _, _, _, rfl, e4, hz4, by omega, ?_⟩
          rw [List.range_succ, List.flatMap_append, List.flatMap_singleton, ← List.append_assoc]
          show All2 _ _ (_ ++ (List.range (rows.getD n []).length).flatMap (g3 n i))
          rw [hgd]
          exact hzs4
      · rintro σ H3 ⟨zs3, x8', x9', x10', x11', rfl, e3, hz3, hzl3, hzs3⟩
        refine ⟨zs3, _, _, _, _, _, _, rfl, e3, hz3, by omega, ?_⟩
        rw [List.range_succ, List.flatMap_append, List.flatMap_singleton]
        show All2 _ _ (_ ++ (List.range (rows.getD n []).length).flatMap (g2 n))
        rw [hgd]
        exact hzs3
    · rintro σ H1 ⟨zs, x6, x7, x8, x9, x10, x11, rfl, e1, hz1, hzl1, hzs1⟩
      rw [hul, due_better ok hs hb hx] at hzs1
      refine ⟨_, rfl, _, rfl, _, rfl, _, rfl, false, p, sa, e, b, x, rows, st, rfl, hN.mono e1, ok, e1 _ _ hsa, hs, hb, hx, by omega, fun H2 qa xs e2 hqa0 hqa hxs => ?_⟩
      have hz2 := e2 _ _ hz1
      refine ⟨_, rfl, _, _, dp_trips hqa hxs, dp_trips hz2 (hzs1.imp fun _ _ h => h.ex e2), (shp_trips _).shaped (by decide), (shp_trips _).shaped (by decide), _, rfl, itT (eqv_self (shp_trips _)) ?_⟩
      obtain ⟨d2, f2, hq2, hx2⟩ := (hN.mono (e1.trans e2)).ins
      refine ⟨_, rfl, p, d2, _, rfl, hq2, hx2, p, e, rows, rfl, hN.mono (e1.trans e2), by omega, fun H3 xa e3 hxa0 hxa => ⟨_, rfl, _, _, dp_LL hxa, dp_LL (hLL.ex ((e1.trans e2).trans e3)), (shp_dLL _).shaped (by decide), (shp_dLL _).shaped (by decide), ?_⟩⟩
      rw [tells_dLL, decide_eq_true rfl]
      exact k _ ((e1.trans e2).trans e3)
end
end Fp
end part_W11
section part_W12
set_option maxHeartbeats 2000000
namespace Fp
open PySem PySem.Spec PyProof.Rows L2 Evl
def gKw (α : Type) (us ws : List α) : List α := match us with | [] => ws.reverse | _ => []
theorem kb_few {K : PySem.W.Frag} {f : Addr} {fd : FuncData} (F : Fun K "fewest_turned" "fewest_turned" s_fewest_turned f fd) : KBinds K fd ["net", "setting", "begin", "end"] ["end", "begin", "setting", "net"] (gKw Value) (gKw V) := by
  obtain ⟨oc, od, kV, doc, pm, an, cdv, ct, osl, rfl, lk, hcd⟩ := F.ex
  refine ⟨fun s us ws hk hl => ?_, fun {vs us zs ws} r rz => ?_⟩
  · cases us with
    | cons u us => simp [gKw] at hl
    | nil =>
      have hl' : ws.length = 4 := by simpa [gKw] using hl
      match ws, hl' with
      | [a, b, c, d], _ => exact .of_eq rfl
  · cases r with
    | nil => exact rz.reverse
    | cons _ _ => exact .nil
def farM (s one : List Nat) : List Nat := (List.range one.length).filter fun i => decide (one[i]? ≠ s[i]?)
def unvM (rows : Rows) (s one : List Nat) (b n : Nat) : List Nat := (farM s one).filter fun q => decide (visN rows one b n q = 0)
/-- what the law notes of one setting -/
def IsLR (rows : Rows) (s : List Nat) (b x : Nat) (ra : Addr) (H : Hp) (v : V) (one : List Nat) : Prop := ∃ t o u n, o ≠ ra ∧ u ≠ ra ∧ v = .ref t ∧ H t = some (.tup [.int ((apartM s one : Nat) : Int), .ref o, .ref u]) ∧ H o = some (.lst (nI one)) ∧ RunEnds rows one b n x ∧ H u = some (.lst (nI (unvM rows s one b n)))
theorem IsLR.ex {rows : Rows} {s : List Nat} {b x : Nat} {ra : Addr} {H H' : Hp} {v : V} {one : List Nat} (e : Ex H H') (h : IsLR rows s b x ra H v one) : IsLR rows s b x ra H' v one := let ⟨t, o, u, n, a1, a2, h1, h2, h3, h4, h5⟩ := h; ⟨t, o, u, n, a1, a2, h1, e _ _ h2, e _ _ h3, h4, e _ _ h5⟩
theorem IsLR.updL {rows : Rows} {s : List Nat} {b x : Nat} {ra : Addr} {H : Hp} {v : V} {one : List Nat} {zs : List V} {u' : HO} (h : IsLR rows s b x ra H v one) (hr : H ra = some (.lst zs)) : IsLR rows s b x ra (upd H ra u') v one := by
  obtain ⟨t, o, u, n, a1, a2, h1, h2, h3, h4, h5⟩ := h
  refine ⟨t, o, u, n, a1, a2, h1, ?_, by rw [upd_ne a1]; exact h3, h4, by rw [upd_ne a2]; exact h5⟩
  rw [upd_ne]
  · exact h2
  · rintro rfl
    rw [hr] at h2
    cases h2
/-- a list that is not ra -/
def IsLC (ra : Addr) (H : Hp) (v : V) (s : List Nat) : Prop := ∃ c, v = .ref c ∧ c ≠ ra ∧ H c = some (.lst (nI s))
theorem IsLC.ex {ra : Addr} {H H' : Hp} {v : V} {s : List Nat} (e : Ex H H') (h : IsLC ra H v s) : IsLC ra H' v s := let ⟨c, h1, h2, h3⟩ := h; ⟨c, h1, h2, e _ _ h3⟩
theorem dp_N {K : PySem.W.Frag} {H : Hp} {a : Addr} {xs : List Nat} (h : H a = some (.lst (nI xs))) : Dp K H (.ref a) (dL (castL xs)) := dp_L (by rw [h, nI_map]; rfl)
theorem IsLR.dp {K : PySem.W.Frag} {rows : Rows} {s : List Nat} {b x : Nat} {ra : Addr} {H : Hp} {v : V} {one : List Nat} (h : IsLR rows s b x ra H v one) : ∃ d, Dp K H v d ∧ Shp 2 d := by
  obtain ⟨t, o, u, n, _, _, rfl, h2, h3, h4, h5⟩ := h
  refine ⟨_, .tup (SqT.of h2) (.cons (.int _) (.cons (dp_N h3) (.cons (dp_N h5) .nil))), shp_tup fun d hd => ?_⟩
  simp only [List.mem_cons, List.not_mem_nil, or_false] at hd
  rcases hd with rfl | rfl | rfl
  · exact (shp_int _).mono (by omega)
  · exact shp_dL _
  · exact shp_dL _
theorem dps_ex {K : PySem.W.Frag} {H : Hp} {α : Type} {R : V → α → Prop} (hR : ∀ v a, R v a → ∃ d, Dp K H v d ∧ Shp 2 d) {vs : List V} {as : List α} (h : All2 R vs as) : ∃ ds, DpAll K H vs ds ∧ (∀ d ∈ ds, Shp 2 d) ∧ ds.length = as.length := by
  induction h with
  | nil => exact ⟨[], .nil, fun d hd => by simp at hd, rfl⟩
  | cons r _ ih =>
    obtain ⟨d, h1, h2⟩ := hR _ _ r
    obtain ⟨ds, h3, h4, h5⟩ := ih
    exact ⟨d :: ds, .cons h1 h3, fun e he => by rcases List.mem_cons.mp he with rfl | he; exact h2; exact h4 e he, by rw [List.length_cons, List.length_cons, h5]⟩
/-- the pair (m, settings) -/
def dDue (m : Nat) (ls : List (List Nat)) : PyData := .tuple [.int (m : Int), .list (ls.map fun s => dL (castL s))]
theorem shp_dDue (m : Nat) (ls : List (List Nat)) : Shp 3 (dDue m ls) := shp_tup fun d hd => by
  simp only [List.mem_cons, List.not_mem_nil, or_false] at hd
  rcases hd with rfl | rfl
  · exact (shp_int _).mono (by omega)
  · exact shp_list fun d hd => by
      obtain ⟨s, _, rfl⟩ := List.mem_map.mp hd
      exact shp_dL _
theorem dp_due {K : PySem.W.Frag} {H : Hp} {t l : Addr} {m : Nat} {ls : List (List Nat)} (ht : H t = some (.tup [.int (m : Int), .ref l])) (hl : LLN H l ls) : Dp K H (.ref t) (dDue m ls) := by
  obtain ⟨vs, h1, h2⟩ := hl
  exact .tup (SqT.of ht) (.cons (.int _) (.cons (.lst (SqL.of h1) (dp_all (h2.imp fun v s ⟨a, e, h⟩ => by subst e; exact dp_N h))) .nil))
theorem MinAp.unique {e : Nat} {rows : Rows} {s : List Nat} {b x m m' : Nat} (h : MinAp e rows s b x m) (h' : MinAp e rows s b x m') : m = m' := by
  obtain ⟨⟨o, ho, hy, rfl⟩, h2⟩ := h
  obtain ⟨⟨o', ho', hy', rfl⟩, h2'⟩ := h'
  have := h2 o' ho' hy'
  have := h2' o ho hy
  omega
def spTurned (CN : Addr) : Sp := spSwaps3 CN
section
variable {P : Program} {w : World} {K : PySem.W.Frag} {mg : Str → Option Value} {base : Heap} {CN CY : Addr}
abbrev s__law_turned_right : Stmt := (topS 95)
theorem sc__law_turned_right : FnScope ["_law_net", "_law_exits_here", "_law_setting_here", "_law_begin", "_law_end", "_law_rows", "_law_one", "_law_told", "_law_far", "_law_found", "_law_least", "_law_due", "_law_point", "_law_at", "_law_row"] ["_law_net", "_law_exits_here", "_law_setting_here", "_law_begin", "_law_end"] (defScope s__law_turned_right) := ⟨rfl, rfl, rfl, by decide +kernel, rfl, by decide +kernel, by decide +kernel⟩
open Classical in
theorem ok__law_turned_right (F : FunG K mg "_law_turned_right" s__law_turned_right ["_law_net", "_law_exits_here", "_law_setting_here", "_law_begin", "_law_end"]) (T : Txt K mg CN CY) (c__law_all_settings : Cal P w K mg base "_law_all_settings" ["_law_exits_here"] 1 spLAll)
    (c__law_run : Cal P w K mg base "_law_run" ["_law_exits_here", "_law_setting_here", "_law_begin"] 1 spLRun) (c_fewest_turned : Cal P w K mg base "fewest_turned" ["net", "setting", "begin", "end"] 10 (spFewest CN))
    (cK_fewest_turned : KCal P w K mg base "fewest_turned" ["net", "setting", "begin", "end"] ["end", "begin", "setting", "net"] (gKw Value) (gKw V) 10 (spFewest CN)) :
    Cal P w K mg base "_law_turned_right" ["_law_net", "_law_exits_here", "_law_setting_here", "_law_begin", "_law_end"] 11 (spTurned CN) := by
  refine F.cal fun f fd F => F.ok sc__law_turned_right (fun vs H Q E h => ?_) (fun cdv A outer s H vs Q E hr h => ?_)
  · obtain ⟨p, ea, sa, e, b, x, rows, st, rfl, _⟩ := h
    rfl
  · obtain ⟨p, ea, sa, e, b, x, rows, st, rfl, hN, hLL, hsa, ok, hs, hb, hx, he, k⟩ := h
    have h3 := ok.pts3
    have hst3 : st.length = rows.length := All2.len hs
    have h27 := allM_27 ok
    refine ⟨_, (pss_cons (ps_set (i := 5) sc__law_turned_right.nd rfl (Or.inl rfl) (pe_lst pa_nil))
      (pss_cons (ps_for PassesOwn.never rfl (pi_seqK false (pe_cal c__law_all_settings (hr.mono (by decide)) (by rfl) (pa_cons (pv 1) pa_nil))) (pg_name (i := 6) sc__law_turned_right.nd rfl (Or.inl rfl)) (pss_cons (ps_set (i := 7) sc__law_turned_right.nd rfl (Or.inr rfl) (pe_cal c__law_run (hr.mono (by decide)) (by rfl) (pa_cons (pv 1) (pa_cons (pv 6) (pa_cons (pv 3) pa_nil)))))
      (pss_one (ps_if (pt_cmpR op_eq (pe_ix (r := rIxT K) ix_tup (pv 7) pe_int (fun _ _ => rfl)) (pv 4) (nomark _)) (pss_cons (ps_setLc (i := 8) (own := [("_law_point", 12), ("_law_at", 13)]) (g := gTup K 2 (gCons (gName 12) (gCons (gName 13) gNil))) (by rfl) sc__law_turned_right.nd rfl rfl (sw_true rfl rfl rfl (by decide +kernel)) (pi_enumK false (by rfl) T.m_enumerate (pa_cons (pv 6) pa_nil)) (blkOk_by (N := ["_law_net", "_law_exits_here", "_law_setting_here", "_law_begin", "_law_end", "_law_rows", "_law_one", "_law_told", "_law_far", "_law_found", "_law_least", "_law_due", "_law_point", "_law_at", "_law_row"]) (sc := defScope s__law_turned_right) (own := [("_law_point", 12), ("_law_at", 13)]) (by decide +kernel)) (fun _ _ _ _ _ => (pg_tup rfl (pgs_cons (pg_name (i := 12) sc__law_turned_right.nd rfl (Or.inl rfl)) (pgs_cons (pg_name (i := 13) sc__law_turned_right.nd rfl (Or.inl rfl)) pgs_nil)))) (fun _ _ _ _ _ => (pts_one (pt_cmpR op_ne (pv 13) (pe_ix (r := rIxL K) ix_list (pv 2) (pv 12) (fun _ _ => rfl)) (nomark _)))) (fun _ _ _ _ _ => (pv 12)))
      (pss_one (ps_expr (pe_bm PySem.F.plainAttrs_list PySem.F.slot_list_append PySem.F.type_list_append mt_append (pv 5) (pa_cons (pe_tup (pa_cons (pe_callB (r := rLenS K) call_len_seq (by rfl) T.m_len PySem.boot_len (pa_cons (pv 8) pa_nil)) (pa_cons (pv 6) (pa_cons (pe_lc (own := [("_law_point", 12)]) (by rfl) sc__law_turned_right.nd (pi_seqK false (pv 8)) (blkOk_by (N := ["_law_net", "_law_exits_here", "_law_setting_here", "_law_begin", "_law_end", "_law_rows", "_law_one", "_law_told", "_law_far", "_law_found", "_law_least", "_law_due", "_law_point", "_law_at", "_law_row"]) (sc := defScope s__law_turned_right) (own := [("_law_point", 12)]) (by decide +kernel)) (fun _ _ _ _ _ => (pg_name (i := 12) sc__law_turned_right.nd rfl (Or.inl rfl))) (fun _ _ _ _ _ => (pts_one (pt_cmpR op_eq (pe_ix (r := rIxL K) ix_list (pe_ix (r := rIxT K) ix_tup (pv 7) pe_int (fun _ _ => rfl)) (pv 12) (fun _ _ => rfl)) pe_int (nomark _)))) (fun _ _ _ _ _ => (pv 12))) pa_nil)))) pa_nil))))) pss_nil))))
      (pss_cons (ps_set (i := 9) sc__law_turned_right.nd rfl (Or.inl rfl) (pe_cal c_fewest_turned (hr.mono (by decide)) (by rfl) (pa_cons (pv 0) (pa_cons (pe_callTy (T := "tuple") (r := rTupO K) call_tuple_of (by rfl) T.m_tuple (by decide +kernel) (pa_cons (pv 2) pa_nil)) (pa_cons (pv 3) (pa_cons (pv 4) pa_nil))))))
      (pss_cons (ps_if (pt_cmpR (r := rEqD K) (op_eqD hr.units) (pv 5) (pe_lst pa_nil) (nomark _)) (pss_one (ps_ret (pe_cmpR op_isN (pv 9) pe_non (nomark _)))) pss_nil)
      (pss_cons (ps_set (i := 10) sc__law_turned_right.nd rfl (Or.inr rfl) (pe_callB (r := rMin K) (cr_min rfl) (by rfl) T.m_min (by decide +kernel) (pa_cons (pe_lc (own := [("_law_row", 14)]) (by rfl) sc__law_turned_right.nd (pi_seqK false (pv 5)) (blkOk_by (N := ["_law_net", "_law_exits_here", "_law_setting_here", "_law_begin", "_law_end", "_law_rows", "_law_one", "_law_told", "_law_far", "_law_found", "_law_least", "_law_due", "_law_point", "_law_at", "_law_row"]) (sc := defScope s__law_turned_right) (own := [("_law_row", 14)]) (by decide +kernel)) (fun _ _ _ _ _ => (pg_name (i := 14) sc__law_turned_right.nd rfl (Or.inl rfl))) (fun _ _ _ _ _ => pts_nil) (fun _ _ _ _ _ => (pe_ix (r := rIxT K) ix_tup (pv 14) pe_int (fun _ _ => rfl)))) pa_nil)))
      (pss_cons (ps_set (i := 11) sc__law_turned_right.nd rfl (Or.inl rfl) (pe_tup (pa_cons (pv 10) (pa_cons (pe_lc (own := [("_law_row", 14)]) (by rfl) sc__law_turned_right.nd (pi_seqK false (pv 5)) (blkOk_by (N := ["_law_net", "_law_exits_here", "_law_setting_here", "_law_begin", "_law_end", "_law_rows", "_law_one", "_law_told", "_law_far", "_law_found", "_law_least", "_law_due", "_law_point", "_law_at", "_law_row"]) (sc := defScope s__law_turned_right) (own := [("_law_row", 14)]) (by decide +kernel)) (fun _ _ _ _ _ => (pg_name (i := 14) sc__law_turned_right.nd rfl (Or.inl rfl))) (fun _ _ _ _ _ => (pts_one (pt_cmpR op_eq (pe_ix (r := rIxT K) ix_tup (pv 14) pe_int (fun _ _ => rfl)) (pv 10) (nomark _)))) (fun _ _ _ _ _ => (pe_ix (r := rIxT K) ix_tup (pv 14) pe_int (fun _ _ => rfl)))) pa_nil))))
      (pss_cons (ps_if (PW.pt (pw_or (pt_cmpR (r := rNeD K) (op_neD hr.units) (pv 9) (pv 11) (nomark _)) (pw_or1 (pt_cmpR (r := rNeD K) (op_neD hr.units) (pe_lc (own := [("_law_row", 14)]) (by rfl) sc__law_turned_right.nd (pi_seqK false (pv 5)) (blkOk_by (N := ["_law_net", "_law_exits_here", "_law_setting_here", "_law_begin", "_law_end", "_law_rows", "_law_one", "_law_told", "_law_far", "_law_found", "_law_least", "_law_due", "_law_point", "_law_at", "_law_row"]) (sc := defScope s__law_turned_right) (own := [("_law_row", 14)]) (by decide +kernel)) (fun _ _ _ _ _ => (pg_name (i := 14) sc__law_turned_right.nd rfl (Or.inl rfl))) (fun _ _ _ _ _ => (pts_one (PW.pt (pw_and (pt_cmpR op_eq (pe_ix (r := rIxT K) ix_tup (pv 14) pe_int (fun _ _ => rfl)) (pv 10) (nomark _)) (pw_and1 (pt_cmpR (r := rNeD K) (op_neD hr.units) (pe_ix (r := rIxT K) ix_tup (pv 14) pe_int (fun _ _ => rfl)) (pe_lst pa_nil) (nomark _))))))) (fun _ _ _ _ _ => (pv 14))) (pe_lst pa_nil) (nomark _))))) (pss_one (ps_ret pe_bl)) pss_nil)
      (pss_cons (ps_expr (pe_bm PySem.F.plainAttrs_list PySem.F.slot_list_append PySem.F.type_list_append mt_append (pe_ix (r := rIxT K) ix_tup (pv 9) pe_int (fun _ _ => rfl)) (pa_cons pe_non pa_nil)))
      (pss_one (ps_ret (pe_cmpR (r := rEqD K) (op_eqD hr.units) (pe_calK cK_fewest_turned (hr.mono (by decide)) (by rfl) (pk_cons (pv 4) (pk_cons (pv 3) (pk_cons (pv 2) (pk_cons (pv 0) pk_nil))))) (pv 11) (nomark _)))))))))))), ?_⟩
    refine ⟨by show 0 ≤ sizeLine; decide, fun ra hra => ?_⟩
    have e0 : Ex H (upd H ra (.lst [])) := Ex.new hra
    refine ⟨_, rfl, ea, e, rows, rfl, hLL.ex e0, ok, fun H1 aa e1 haa0 ⟨as, haa, hall⟩ => ?_⟩
    have hal := hall.len
    have e01 := e0.trans e1
    have hallC : All2 (IsLC ra H1) as (allM rows) := All2.of_get hal fun i v s hv hs' => by
      obtain ⟨s2, hs2, c, ec, hc⟩ := hall.getl hv
      rw [hs'] at hs2
      cases hs2
      refine ⟨c, ec, ?_, hc⟩
      rintro rfl
      rw [e1 _ _ upd_same] at hc
      have h1 := All2.len (allM_mem_ok (List.mem_of_getElem? hs'))
      have h2 := ok.pts
      cases s with
      | nil => simp at h1; omega
      | cons a s => cases hc
    refine ⟨aa, rfl, ⟨_, SqK.l haa⟩, for_it walk_seqK (fun i σ H' => ∃ (zs : List V) (x6 x7 x8 x9 x10 x11 x12 x13 x14 : Option V), σ = [some (.ref p), some (.ref ea), some (.ref sa), some (.int (b : Int)), some (.int (x : Int)), some (.ref ra), x6, x7, x8, x9, x10, x11, x12, x13, x14] ∧ Ex H H' ∧ H' aa = some (.lst as) ∧ All2 (IsLC ra H') as (allM rows) ∧ H' ra = some (.lst zs) ∧ zs.length ≤ i ∧ All2 (IsLR rows st b x ra H') zs (((allM rows).take i).filter fun one => decide (LEnd rows one b x))) ⟨[], none, none, none, none, none, none, none, none, none, rfl, e01, haa, hallC, e1 _ _ upd_same, Nat.le_refl _, .nil⟩ (fun i σ H' _ ⟨_, _, _, _, _, _, _, _, _, _, _, _, h, _⟩ => SqK.l h) ?_ ?_⟩
    · rintro i xx σ _ H2 hi ⟨zs, x6, x7, x8, x9, x10, x11, x12, x13, x14, rfl, e2, haa2, hall2, hz2, hzl, hzs⟩ ⟨rfl, hxx⟩
      obtain ⟨one, hone, oa, rfl, hora, hoa⟩ := hall2.getl hxx
      have hok1 := allM_mem_ok (List.mem_of_getElem? hone)
      have hol : one.length = rows.length := All2.len hok1
      have hi27 : i < 27 := by omega
      refine ⟨_, rfl, _, rfl, _, rfl, ea, oa, b, e, rows, one, rfl, hLL.ex e2, hoa, ok, hok1, hb, fun H3 t r n va na kk e3 ht hres hva => ?_⟩
      refine ⟨_, rfl, t, _, 0, _, rfl, rfl, SqT.of ht, atI_nat (j := 0) rfl, _, rfl, runRes_scal hres _, _, rfl, ?_⟩
      have htake : (allM rows).take (i + 1) = (allM rows).take i ++ [one] := by rw [List.take_add_one, hone]; rfl
      by_cases hrx : r = .int (x : Int)
      · have hLE := (runRes_iff hres x).mp hrx
        have hrun : RunEnds rows one b n x := by
          rcases hres with ⟨y, hy, hrun⟩ | ⟨hy, _⟩
          · rw [hrx] at hy
            have : x = y := by injection hy with hy; omega
            rw [this]
            exact hrun
          · rw [hrx] at hy
            cases hy
        refine itT (decide_eq_true hrx) ?_
        have hoa3 := e3 _ _ hoa
        have e23 := e2.trans e3
        -- far
        refine ⟨_, rfl, _, _, rfl, SqK.l hoa3, fun D hD => lcV walk_enumK hD (by rw [nI_len]; omega) (fun i => decide (one[i]? ≠ st[i]?)) (fun i => .int (i : Int)) (fun H4 e4 => SqK.l (e4 _ _ hoa3)) (fun q xx H4 H5 Ky Kn hq e4 hYY ky kn => ?_) fun H4 e4 hy4 => ?_⟩
        · obtain ⟨Tt, y1, y2, rfl, hT, rfl, hy1, hy2⟩ := hYY
          cases hy1
          obtain ⟨v1, hv1, rfl⟩ := nI_get hy2
          have hql : q < st.length := by rw [nI_len] at hq; omega
          have hsq : st[q]? = some st[q] := List.getElem?_eq_getElem hql
          have e5 : Ex H4 (upd H4 Tt (.tup [.int (q : Int), .int (v1 : Int)])) := Ex.new hT
          rw [hv1, hsq] at ky kn
          refine ⟨Tt, _, rfl, SqT.of upd_same, rfl, _, _, rfl, _, _, rfl, rfl, rfl, ?_⟩
          refine ⟨_, rfl, _, rfl, _, rfl, sa, _, _, _, rfl, rfl, SqL.of ((e23.trans (e4.trans e5)) _ _ hsa), nI_at hsq, rfl, _, rfl, ?_⟩
          by_cases hv : v1 = st[q]
          · exact itF (by rw [decide_eq_true (by rw [hv])]; rfl) (kn _ (decide_eq_false (by rw [hv]; simp)) e5)
          · exact itT (by rw [decide_eq_false (fun z => hv (by injection z with z; omega))]; rfl) ⟨_, rfl, ky _ (decide_eq_true (by simpa using hv)) e5⟩
        have hy4' : H4 D = some (.lst (nI (farM st one))) := by rw [hy4, nI_len]; rfl
        have hfl : (farM st one).length ≤ 3 := Nat.le_trans (List.length_filter_le _ _) (by rw [List.length_range]; omega)
        have hfar : ∀ q ∈ farM st one, q < rows.length := fun q hq => by
          have := List.mem_range.mp (List.mem_filter.mp hq).1
          omega
        have hfap : (farM st one).length = apartM st one := by
          have := zip_ne_len st one
          rw [hst3, hol, Nat.min_self] at this
          rw [← this]
          unfold farM
          rw [hol]
          congr 1
          apply List.filter_congr
          intro q _
          simp [ne_comm]
        have hz4 := (e3.trans e4) _ _ hz2
        refine ⟨_, rfl, .inl ⟨rfl, _, SqL.of hz4⟩, _, rfl, D, _, rfl, .inl (SqL.of hy4'), _, rfl, _, rfl, D, rfl, ⟨_, SqK.l hy4'⟩, fun D2 hD2 => lcV walk_seqK hD2 (by rw [nI_len]; omega) (fun i => decide (visN rows one b n ((farM st one).getD i 0) = 0)) (fun i => .int (((farM st one).getD i 0 : Nat) : Int)) (fun H5 e5 => SqK.l (e5 _ _ hy4')) (fun q xx _ H5 Ky Kn hq e5 hYY ky kn => ?_) fun H5 e5 hy5 => ?_⟩
        · obtain ⟨rfl, hxx2⟩ := hYY
          obtain ⟨pt, hpt, rfl⟩ := nI_get hxx2
          rw [getD_some hpt] at ky kn
          have hptl := hfar pt (List.mem_of_getElem? hpt)
          refine ⟨rfl, _, rfl, t, _, 2, _, rfl, rfl, SqT.of ((e4.trans e5) _ _ ht), atI_nat (j := 2) rfl, _, rfl, va, _, _, _, rfl, rfl, SqL.of ((e4.trans e5) _ _ hva), nI_at (visL_get hptl), rfl, _, rfl, ?_⟩
          by_cases hv : visN rows one b n pt = 0
          · exact itT (decide_eq_true (by rw [hv]; rfl)) ⟨_, rfl, ky _ (decide_eq_true hv) (Ex.refl _)⟩
          · exact itF (decide_eq_false (fun z => hv (by injection z with z; omega))) (kn _ (decide_eq_false hv) (Ex.refl _))
        have hy5' : H5 D2 = some (.lst (nI (unvM rows st one b n))) := by
          rw [hy5, nI_len]
          unfold unvM nI
          rw [range_filter_map (fun q => decide (visN rows one b n q = 0)) (fun q : Nat => V.int (q : Int)) 0]
        refine ⟨by show 3 ≤ sizeLine; decide, fun tt htt => ?_⟩
        have e35 := e3.trans (e4.trans e5)
        have e6 : Ex H5 (upd H5 tt (.tup [.int (((nI (farM st one)).length : Nat) : Int), .ref oa, .ref D2])) := Ex.new htt
        have e26 := e35.trans e6
        have hz6 := e26 _ _ hz2
        refine ⟨ra, _, _, rfl, rfl, hz6, sz_lt (by omega), zs ++ [.ref tt], _, _, _, _, _, _, _, _, _, rfl, Ex.mut (e2.trans e26) hra, ?_, ?_, upd_same, by rw [List.length_append]; show zs.length + 1 ≤ i + 1; omega, ?_⟩
        · have : aa ≠ ra := by
            rintro rfl
            rw [upd_same] at haa0
            cases haa0
          rw [upd_ne this]
          exact e26 _ _ haa2
        · exact hall2.imp fun v s ⟨c, ec, hcr, hc⟩ => ⟨c, ec, hcr, by rw [upd_ne hcr]; exact e26 _ _ hc⟩
        · rw [htake, List.filter_append, List.filter_cons, if_pos (decide_eq_true hLE)]
          refine (hzs.imp fun _ _ h => (h.ex e26).updL hz6).snoc ⟨tt, oa, D2, n, hora, (ne_of_none hz4 hD2).symm, rfl, ?_, ?_, hrun, ?_⟩
          · have htr : tt ≠ ra := by
              rintro rfl
              rw [(e4.trans e5) _ _ (e3 _ _ hz2)] at htt
              cases htt
            rw [upd_ne htr, upd_same, nI_len, hfap]
          · rw [upd_ne hora]
            exact e26 _ _ hoa
          · rw [upd_ne (ne_of_none hz4 hD2).symm]
            exact e6 _ _ hy5'
      · refine itF (decide_eq_false hrx) ?_
        have e13 := e3
        refine ⟨zs, _, _, _, _, _, _, _, _, _, rfl, e2.trans e3, e3 _ _ haa2, hall2.imp fun _ _ h => h.ex e3, e3 _ _ hz2, by omega, ?_⟩
        rw [htake, List.filter_append, List.filter_cons, if_neg (by rw [decide_eq_false fun z => hrx ((runRes_iff hres x).mpr z)]; decide)]
        show All2 _ _ (_ ++ [])
        rw [List.append_nil]
        exact hzs.imp fun _ _ h => h.ex e3
    · rintro σ H2 ⟨zs, x6, x7, x8, x9, x10, x11, x12, x13, x14, rfl, e2, haa2, hall2, hz2, hzl, hzs⟩
      rw [hal, List.take_length] at hzs
      have hFm : ∀ one ∈ (allM rows).filter fun one => decide (LEnd rows one b x), one ∈ allM rows ∧ LEnd rows one b x := fun one h => ⟨(List.mem_filter.mp h).1, of_decide_eq_true (List.mem_filter.mp h).2⟩
      have hmF : ∀ one, one ∈ allM rows → LEnd rows one b x → one ∈ (allM rows).filter fun one => decide (LEnd rows one b x) := fun one h h' => List.mem_filter.mpr ⟨h, decide_eq_true h'⟩
      have yiff : ∀ one ∈ allM rows, (YEnd e rows one b x ↔ LEnd rows one b x) := fun one h => yend_iff ok (allM_mem_ok h) hb hx
      have hleastF : ∀ m, leastM e rows st b x m = ((allM rows).filter fun one => decide (LEnd rows one b x)).filter fun one => decide (apartM st one = m) := fun m => by
        unfold leastM
        rw [List.filter_filter]
        apply List.filter_congr
        intro one hone
        rw [← Bool.decide_and]
        exact decide_eq_decide.mpr (by rw [yiff one hone, and_comm])
      generalize hF : ((allM rows).filter fun one => decide (LEnd rows one b x)) = F at hzs hFm hmF hleastF
      have hFl : F.length ≤ 27 := by
        rw [← hF]
        exact Nat.le_trans (List.length_filter_le _ _) h27
      have hzF := hzs.len
      refine ⟨_, rfl, _, rfl, sa, _, rfl, .inl ⟨SqL.of (e2 _ _ hsa), fun tu htu => ?_⟩⟩
      have eU : Ex H2 (upd H2 tu (.tup (nI st))) := Ex.new htu
      refine ⟨_, rfl, _, rfl, true, p, tu, e, b, x, rows, st, rfl, hN.mono (e2.trans eU), ok, upd_same, hs, hb, hx, by omega, fun H3 e3 hno => ?_, fun H3 t l m e3 hl0 hmin ht hleast => ?_⟩
      · have hF0 : F = [] := List.eq_nil_iff_forall_not_mem.mpr fun one hone => hno one (hFm one hone).1 ((yiff one (hFm one hone).1).mpr (hFm one hone).2)
        subst hF0
        cases hzs
        have hz3 := (eU.trans e3) _ _ hz2
        refine ⟨_, rfl, by show 0 ≤ sizeLine; decide, fun z hz => ⟨_, _, .lst (SqL.of ((Ex.new hz) _ _ hz3)) .nil, .lst (SqL.of upd_same) .nil, (shp_dL []).shaped (by decide), (shp_dL []).shaped (by decide), _, rfl, itT (eqv_self (shp_dL [])) ⟨_, rfl, rfl, ?_⟩⟩⟩
        rw [decide_eq_true rfl]
        exact k _ (e2.trans ((eU.trans e3).trans (Ex.new hz)))
      · have e23 := eU.trans e3
        have hl2 : H2 l = none := fresh_back eU hl0
        obtain ⟨⟨one1, hone1, hy1, hap1⟩, hminall⟩ := id hmin
        have hF1 : one1 ∈ F := hmF one1 hone1 ((yiff one1 hone1).mp hy1)
        have hFpos : 0 < F.length := List.length_pos_of_mem hF1
        have hz3 := e23 _ _ hz2
        refine ⟨_, rfl, by show 0 ≤ sizeLine; decide, fun z hz => ?_⟩
        have ez : Ex H3 (upd H3 z (.lst [])) := Ex.new hz
        have e2z := e23.trans ez
        obtain ⟨ds, hds, hdsS, hdsl⟩ := dps_ex (K := K) (fun v a h => IsLR.dp (K := K) h) (hzs.imp fun _ _ h => h.ex e2z)
        refine ⟨_, _, .lst (SqL.of (e2z _ _ hz2)) hds, .lst (SqL.of upd_same) .nil, (shp_list hdsS).shaped (by decide), (shp_dL []).shaped (by decide), _, rfl, itF ?_ ?_⟩
        · cases ds with
          | nil => simp at hdsl; omega
          | cons d ds => simp [PyData.eqv, PyData.eqvAll]
        -- least
        refine ⟨_, rfl, ra, rfl, ⟨_, SqK.l (e2z _ _ hz2)⟩, fun D hD => lcA walk_seqK hD (by omega) (atD F fun one => .int ((apartM st one : Nat) : Int)) (fun H6 e6 => SqK.l ((e2z.trans e6) _ _ hz2)) (fun i xx _ H6 Ky hi e6 hYY ky => ?_) fun H6 e6 hy6 => ?_⟩
        · obtain ⟨rfl, hxx⟩ := hYY
          obtain ⟨one, hone, t1, o1, u1, n1, _, _, rfl, ht1, _, _, _⟩ := hzs.getl hxx
          refine ⟨rfl, _, rfl, t1, _, 0, _, rfl, rfl, SqT.of ((e2z.trans e6) _ _ ht1), atI_nat (j := 0) rfl, ?_⟩
          have := ky _ (Ex.refl _)
          rw [atD_some hone] at this
          exact this
        rw [range_atD hzF] at hy6
        refine ⟨D, F.map fun one => ((apartM st one : Nat) : Int), rfl, SqL.of (by rw [hy6, List.map_map]; rfl), by rw [List.length_map]; exact hFpos, fun mi hmi hmin' => ?_⟩
        obtain ⟨one0, hone0, rfl⟩ := List.mem_map.mp hmi
        have hm0 : apartM st one0 = m := by
          have h1 := hminall one0 (hFm one0 hone0).1 ((yiff one0 (hFm one0 hone0).1).mpr (hFm one0 hone0).2)
          have h2 := hmin' _ (List.mem_map.mpr ⟨one1, hF1, rfl⟩)
          omega
        rw [hm0]
        have e26 := e2z.trans e6
        -- due
        refine ⟨_, rfl, _, rfl, ra, rfl, ⟨_, SqK.l (e26 _ _ hz2)⟩, fun D2 hD2 => lcG walk_seqK hD2 (by omega) (fun i => decide (apartM st (F.getD i []) = m)) (fun i y _ => ∃ c, y = .ref c ∧ H2 c = some (.lst (nI (F.getD i [])))) (fun _ _ _ _ _ h => h) (fun H7 e7 => SqK.l ((e26.trans e7) _ _ hz2)) (fun i xx _ H7 Ky Kn hi e7 hu hYY ky kn => ?_) fun H7 ys e7 hy7 hal7 => ?_⟩
        · obtain ⟨rfl, hxx⟩ := hYY
          obtain ⟨one, hone, t1, o1, u1, n1, _, _, rfl, ht1, ho1, _, _⟩ := hzs.getl hxx
          rw [getD_some hone] at ky kn
          refine ⟨rfl, _, rfl, t1, _, 0, _, rfl, rfl, SqT.of ((e26.trans e7) _ _ ht1), atI_nat (j := 0) rfl, _, rfl, rfl, _, rfl, ?_⟩
          by_cases hma : apartM st one = m
          · exact itT (decide_eq_true (by rw [hma])) ⟨_, rfl, t1, _, 1, _, rfl, rfl, SqT.of ((e26.trans e7) _ _ ht1), atI_nat (j := 1) rfl, ky _ _ (decide_eq_true hma) (Ex.refl _) ⟨o1, rfl, ho1⟩⟩
          · exact itF (decide_eq_false (fun z => hma (by injection z with z; omega))) (kn _ (decide_eq_false hma) (Ex.refl _))
        rw [hzF] at hal7
        have hdueL : All2 (fun y s => ∃ c, y = .ref c ∧ H2 c = some (.lst (nI s))) ys (leastM e rows st b x m) := by
          rw [hleastF]
          have := range_filter_map (fun one => decide (apartM st one = m)) (fun one : List Nat => one) [] F
          rw [List.map_id'] at this
          rw [← this]
          exact All2.mapR.mpr hal7
        have e27 := e26.trans e7
        have hl3 : ∃ lv, H3 l = some (.lst lv) ∧ lv.length ≤ 27 := by
          obtain ⟨lv, h1, h2⟩ := hleast
          refine ⟨lv, h1, ?_⟩
          rw [h2.len]
          exact Nat.le_trans (List.length_filter_le _ _) h27
        obtain ⟨lv, hlv, hlvl⟩ := hl3
        have hlD2 : D2 ≠ l := (ne_of_none ((ez.trans e6) _ _ hlv) hD2).symm
        refine ⟨by show 2 ≤ sizeLine; decide, fun du hdu => ?_⟩
        have e8 : Ex H7 (upd H7 du (.tup [.int ((m : Nat) : Int), .ref D2])) := Ex.new hdu
        have e28 := e27.trans e8
        have e38 : Ex H3 (upd H7 du (.tup [.int ((m : Nat) : Int), .ref D2])) := ((ez.trans e6).trans e7).trans e8
        have lln : ∀ {H' : Hp}, (∀ c o, H2 c = some o → H' c = some o) → H' D2 = some (.lst ys) → LLN H' D2 (leastM e rows st b x m) := fun he hD => ⟨ys, hD, hdueL.imp fun v s ⟨c, ec, hc⟩ => ⟨c, ec, he _ _ hc⟩⟩
        refine ⟨_, rfl, _, rfl, _, _, ex_dp e38 _ _ (dp_due ht hleast), dp_due upd_same (lln e28 (e8 _ _ hy7)), (shp_dDue _ _).shaped (by decide), (shp_dDue _ _).shaped (by decide), _, rfl, itF (by rw [eqv_self (shp_dDue _ _)]; rfl) ?_⟩
        -- no row with an unvisited point
        refine ⟨_, rfl, ra, rfl, ⟨_, SqK.l (e28 _ _ hz2)⟩, fun D3 hD3 => lcV walk_seqK hD3 (by omega) (fun _ => false) (fun _ => .non) (fun H9 e9 => SqK.l ((e28.trans e9) _ _ hz2)) (fun i xx _ H9 Ky Kn hi e9 hYY ky kn => ?_) fun H9 e9 hy9 => ?_⟩
        · obtain ⟨rfl, hxx⟩ := hYY
          obtain ⟨one, hone, t1, o1, u1, n1, _, _, rfl, ht1, ho1, hrun1, hu1⟩ := hzs.getl hxx
          have hmem1 := hFm one (List.mem_of_getElem? hone)
          have e29 := e28.trans e9
          refine ⟨rfl, _, rfl, t1, _, 0, _, rfl, rfl, SqT.of (e29 _ _ ht1), atI_nat (j := 0) rfl, _, rfl, rfl, _, rfl, ?_⟩
          by_cases hma : apartM st one = m
          · refine itT (decide_eq_true (by rw [hma])) ?_
            have hunv : unvM rows st one b n1 = [] := by
              unfold unvM
              rw [List.filter_eq_nil_iff]
              intro q hq hv
              have hne := of_decide_eq_true (List.mem_filter.mp hq).2
              refine unturned ok hs (allM_mem_ok hmem1.1) hb hrun1 (fun t ht hLt => ?_) hne (of_decide_eq_true hv)
              rw [hma]
              exact hminall t ht ((yiff t ht).mpr hLt)
            rw [hunv] at hu1
            refine ⟨_, rfl, t1, _, 2, _, rfl, rfl, SqT.of (e29 _ _ ht1), atI_nat (j := 2) rfl, by show 0 ≤ sizeLine; decide, fun z2 hz2' => ⟨_, _, dp_N (xs := []) ((Ex.new hz2') _ _ (e29 _ _ hu1)), .lst (SqL.of upd_same) .nil, (shp_dL _).shaped (by decide), (shp_dL []).shaped (by decide), _, rfl, ?_⟩⟩
            exact itF (by rw [show PyData.eqv (dL (castL [])) (.list []) = true from eqv_self (shp_dL [])]; rfl) (kn _ rfl (Ex.new hz2'))
          · exact itF (decide_eq_false (fun z => hma (by injection z with z; omega))) (itF rfl (kn _ rfl (Ex.refl _)))
        have hy9' : H9 D3 = some (.lst []) := by
          rw [hy9]
          simp
        refine ⟨by show 0 ≤ sizeLine; decide, fun z3 hz3' => ⟨dL [], dL [], .lst (SqL.of ((Ex.new hz3') _ _ hy9')) .nil, .lst (SqL.of upd_same) .nil, (shp_dL []).shaped (by decide), (shp_dL []).shaped (by decide), _, rfl, itF (by rw [eqv_self (shp_dL [])]; rfl) ?_⟩⟩
        have e10 : Ex H9 (upd H9 z3 (.lst [])) := Ex.new hz3'
        have e810 := e9.trans e10
        -- append
        have hl10 := (e38.trans e810) _ _ hlv
        refine ⟨_, rfl, t, _, 1, _, rfl, rfl, SqT.of ((e38.trans e810) _ _ ht), atI_nat (j := 1) rfl, .inl ⟨rfl, _, SqL.of hl10⟩, l, _, _, rfl, rfl, hl10, sz_lt (by omega), ?_⟩
        have eG : Ex H2 (upd (upd H9 z3 (.lst [])) l (.lst (lv ++ [.non]))) := Ex.mut (e28.trans e810) hl2
        have hduG : upd (upd H9 z3 (.lst [])) l (.lst (lv ++ [.non])) du = some (.tup [.int ((m : Nat) : Int), .ref D2]) := by
          have h1 := e810 _ _ (upd_same (H := H7) (a := du) (o := .tup [.int ((m : Nat) : Int), .ref D2]))
          rw [upd_ne]
          · exact h1
          · rintro rfl
            rw [hl10] at h1
            cases h1
        have hD2G : upd (upd H9 z3 (.lst [])) l (.lst (lv ++ [.non])) D2 = some (.lst ys) := by
          rw [upd_ne hlD2]
          exact e810 _ _ (e8 _ _ hy7)
        refine ⟨_, rfl, _, rfl, _, rfl, _, rfl, false, p, sa, e, b, x, rows, st, rfl, hN.mono (e2.trans eG), ok, (e2.trans eG) _ _ hsa, hs, hb, hx, by omega, fun H11 e11 hno => absurd hy1 (hno one1 hone1), fun H11 t' l' m' e11 _ hmin2 ht' hleast' => ?_⟩
        have hmm : m' = m := hmin2.unique hmin
        subst hmm
        refine ⟨_, rfl, _, _, dp_due ht' hleast', dp_due (e11 _ _ hduG) (lln (fun c o hc => e11 _ _ (eG _ _ hc)) (e11 _ _ hD2G)), (shp_dDue _ _).shaped (by decide), (shp_dDue _ _).shaped (by decide), ?_⟩
        rw [eqv_self (shp_dDue _ _)]
        exact k _ ((e2.trans eG).trans e11)
end
end Fp
end part_W12
section part_W13
set_option maxHeartbeats 2000000
namespace Fp
open PySem PySem.Spec PyProof.Rows L2 Evl
theorem NetAt.monoB {CN l : Addr} {H H' : Hp} {p : Addr} {e : Nat} {rows : Rows} {xs : List V} (k : ExB l H H') (hl : H l = some (.lst xs)) (h : NetAt CN H p e rows) : NetAt CN H' p e rows := by
  obtain ⟨dx, fs, ex, tg, fi, h1, h2, h3, ⟨vs, h4, h5⟩, h6, h7⟩ := h
  have nl : ∀ {c : Addr} {o : HO}, H c = some o → (∀ ys, o ≠ .lst ys) → H' c = some o := fun {c o} hc ho => by
    refine k c o ?_ hc
    rintro rfl
    rw [hl] at hc
    cases hc
    exact ho _ rfl
  exact ⟨dx, fs, ex, tg, fi, nl h1 (by intros; simp), h2, h3, ⟨vs, nl h4 (by intros; simp), h5.imp fun v r ⟨c, ec, hc⟩ => ⟨c, ec, nl hc (by intros; simp)⟩⟩, nl h6 (by intros; simp), nl h7 (by intros; simp)⟩
def spLaw (K : PySem.W.Frag) : Sp := fun vs H Q _ => ∃ (a : Addr) (ns : List Int), vs = [.ref a] ∧ SqL K H a (ns.map V.int) ∧ ns.length ≤ 63 ∧ ∀ H', Q (.bl true) H'
section
variable {P : Program} {w : World} {K : PySem.W.Frag} {mg : Str → Option Value} {base : Heap} {CN CY : Addr}
abbrev s_law : Stmt := (topS 97)
theorem sc_law : FnScope ["_law_script", "_law_pot_here", "_law_ends", "_law_exits_here", "_law_net", "_law_setting_here", "_law_begin", "_law_end"] ["_law_script"] (defScope s_law) := ⟨rfl, rfl, rfl, by decide +kernel, rfl, by decide +kernel, by decide +kernel⟩
theorem ok_law {f : Addr} {fd : FuncData} (F : Fun K "law" "law" s_law f fd) (T : Txt K mg CN CY) (c__law_pot : Cal P w K mg base "_law_pot" ["_law_script", "_law_k"] 1 (spPot K)) (c__law_draw : Cal P w K mg base "_law_draw" ["_law_pot_here", "_law_size"] 1 spDraw)
    (c__law_exits : Cal P w K mg base "_law_exits" ["_law_pot_here", "_law_ends"] 2 spLExits) (c_Net : MkCal P w K mg base "Net" CN ["self", "ends", "exits"] 5 (spInit CN)) (c__law_setting : Cal P w K mg base "_law_setting" ["_law_pot_here", "_law_exits_here"] 2 spLSet)
    (c__law_turned_right : Cal P w K mg base "_law_turned_right" ["_law_net", "_law_exits_here", "_law_setting_here", "_law_begin", "_law_end"] 11 (spTurned CN)) (c__law_swaps_right : Cal P w K mg base "_law_swaps_right" ["_law_net", "_law_exits_here", "_law_setting_here", "_law_begin", "_law_end"] 11 (spSwaps3 CN)) :
    FnOk P w K mg base CX0 12 f fd ["_law_script"] (spLaw K) := by
  refine F.ok sc_law (fun vs H Q E h => ?_) (fun cdv A outer s H vs Q E hr h => ?_)
  · obtain ⟨a, ns, rfl, _⟩ := h
    rfl
  · obtain ⟨a, ns, rfl, hS, hlen, k⟩ := h
    refine ⟨_, (pss_cons (ps_set (i := 1) sc_law.nd rfl (Or.inl rfl) (pe_cal c__law_pot (hr.mono (by decide)) (by rfl) (pa_cons (pv 0) (pa_cons pe_int pa_nil))))
      (pss_cons (ps_set (i := 2) sc_law.nd rfl (Or.inl rfl) (pe_op op_add pe_int (pe_cal c__law_draw (hr.mono (by decide)) (by rfl) (pa_cons (pv 1) (pa_cons pe_int pa_nil)))))
      (pss_cons (ps_set (i := 3) sc_law.nd rfl (Or.inl rfl) (pe_cal c__law_exits (hr.mono (by decide)) (by rfl) (pa_cons (pv 1) (pa_cons (pv 2) pa_nil))))
      (pss_cons (ps_par (i := 4) (j := 5) (by rfl) sc_law.nd rfl rfl (by decide) rfl rfl (pa_cons (pe_mk c_Net (hr.mono (by decide)) (by rfl) (pa_cons (pv 2) (pa_cons (pv 3) pa_nil))) (pa_cons (pe_cal c__law_setting (hr.mono (by decide)) (by rfl) (pa_cons (pv 1) (pa_cons (pv 3) pa_nil))) pa_nil)) (by rfl))
      (pss_cons (ps_par (i := 6) (j := 7) (by rfl) sc_law.nd rfl rfl (by decide) rfl rfl (pa_cons (pe_cal c__law_draw (hr.mono (by decide)) (by rfl) (pa_cons (pv 1) (pa_cons (pe_callB (r := rLenS K) call_len_seq (by rfl) T.m_len PySem.boot_len (pa_cons (pv 3) pa_nil)) pa_nil))) (pa_cons (pe_cal c__law_draw (hr.mono (by decide)) (by rfl) (pa_cons (pv 1) (pa_cons (pv 2) pa_nil))) pa_nil)) (by rfl))
      (pss_cons (ps_if (pt_not (pt_val (pe_cal c__law_turned_right (hr.mono (by decide)) (by rfl) (pa_cons (pv 4) (pa_cons (pv 3) (pa_cons (pv 5) (pa_cons (pv 6) (pa_cons (pv 7) pa_nil)))))))) (pss_one (ps_ret pe_bl)) pss_nil)
      (pss_one (ps_ret (pe_cal c__law_swaps_right (hr.mono (by decide)) (by rfl) (pa_cons (pv 4) (pa_cons (pv 3) (pa_cons (pv 5) (pa_cons (pv 6) (pa_cons (pv 7) pa_nil)))))))))))))), ?_⟩
    refine ⟨_, rfl, a, ns, rfl, hS, fun H1 l e1 hl0 hp1 => ?_⟩
    refine ⟨_, rfl, l, 2, rfl, hp1, by decide, by decide, fun H2 d e2 hp2 hd => ⟨_, _, rfl, rfl, ?_⟩⟩
    have hd1 : (1 : Int) + (d : Int) = ((d + 1 : Nat) : Int) := by omega
    refine ⟨_, rfl, _, rfl, l, d + 1, by show [V.ref l, V.int ((1 : Int) + (d : Int))] = _; rw [hd1], hp2, by omega, by omega, fun H3 ea rows e3 hp3 hea0 hL ok => ?_⟩
    obtain ⟨pa, pb, hpl3, hpos3⟩ := id hp3
    have hLL3 := hL.ll
    refine ⟨_, rfl, _, rfl, fun x dx nx ndx ne => ?_⟩
    have eX : Ex H3 (upd (upd H3 dx (.own x)) x (.ins CN dx [])) := fun c o ho => by rw [upd_ne (ne_of_none ho nx), upd_ne (ne_of_none ho ndx)]; exact ho
    refine ⟨false, x, dx, ea, 1 + (d : Int), rows, rfl, upd_same, by omega, by omega, ?_, ⟨ok.pts, by have := ok.pts3; omega, fun r hr => ?_⟩, fun H4 ex tg fi k4 hx4 hU ht hf => ⟨rfl, ?_⟩⟩
    · obtain ⟨vs, h1, h2⟩ := hLL3.ex eX
      exact ⟨vs, h1, h2⟩
    · obtain ⟨h1, h2, h3⟩ := ok.row r hr
      exact ⟨h1, by omega, fun t ht => by have := h3 t ht; omega⟩
    have e34 : Ex H3 H4 := fun c o ho => k4 c o (ne_of_none ho nx) (eX _ _ ho)
    have hpl4 := e34 _ _ hpl3
    have hN4 : NetAt CN H4 x (d + 1) rows := ⟨dx, [], ex, tg, fi, by rw [← hd1]; exact hx4, rfl, rfl, hU, ht, hf⟩
    refine ⟨_, rfl, _, rfl, l, ea, d + 1, rows, rfl, ⟨pa, pb, hpl4, hpos3⟩, hLL3.ex e34, ok, fun H5 sa st e5 hp5 hsa0 hsa hs => ⟨_, _, rfl, ?_⟩⟩
    have hlsa : sa ≠ l := (ne_of_none hpl4 hsa0).symm
    obtain ⟨pa5, pb5, hpl5, _⟩ := id hp5
    have hN5 := hN4.monoB e5 hpl4
    have hL5 := (hL.monoB (.of e34)).monoB e5
    obtain ⟨us, hus, hall⟩ := id hL5.ll
    have hul := hall.len
    have hpt := ok.pts
    have hpt3 := ok.pts3
    refine ⟨_, rfl, _, rfl, _, _, rfl, .inl (SqL.of hus), l, rows.length, by rw [hul]; rfl, hp5, hpt, by omega, fun H6 b e6 hp6 hb => ?_⟩
    obtain ⟨pa6, pb6, hpl6, _⟩ := id hp6
    refine ⟨_, rfl, _, rfl, l, d + 1, by show [V.ref l, V.int ((1 : Int) + (d : Int))] = _; rw [hd1], hp6, by omega, by omega, fun H7 z e7 hp7 hz => ⟨_, _, rfl, ?_⟩⟩
    have hN7 := (hN5.monoB e6 hpl5).monoB e7 hpl6
    have hL7 := ((hL5.monoB e6).monoB e7).ll
    have hsa7 := e7 _ _ hlsa (e6 _ _ hlsa hsa)
    refine ⟨_, rfl, _, rfl, _, rfl, _, rfl, _, rfl, x, ea, sa, d + 1, b, z, rows, st, rfl, hN7, hL7, hsa7, ok, hs, hb, hz, by omega, fun H8 e8 => ⟨true, rfl, iteF ?_⟩⟩
    exact ⟨_, rfl, _, rfl, _, rfl, _, rfl, _, rfl, x, ea, sa, d + 1, b, z, rows, st, rfl, hN7.mono e8, hL7.ex e8, e8 _ _ hsa7, ok, hs, hb, hz, by omega, fun H9 _ => k H9⟩
end
end Fp
end part_W13
section part_W14
set_option maxHeartbeats 2000000
namespace Fp
open PySem PySem.Spec PyProof.Rows L2 Evl
section
variable {K : PySem.W.Frag} {h : Heap} {mg : Str → Option Value} {f : Addr} {oc kV doc pm cd ct : Value} {od an : Option Addr} {osl : Array (Option Value)}
theorem funG_of {x : Str} {st : Stmt} {ps : List Str} (KX : K.In h) (G : h.Ns mainGlobals mg) (a : PySem.W.nsIn K mainGlobals x = some (some (.ref f))) (l : K.lookup f = some ⟨oc, od, .func (PySem.W.fnOf x x (defArgs st) (defBody st) (defScope st) .none kV doc pm an cd ct), osl⟩) (c : PySem.W.codeIn K cd x = true) (k : PySem.W.keepIn K (.ref f) = true)
    (hb : ∀ (kV doc pm : Value) (an : Option Addr) (cdv ct : Value) (us : List Value), us.length = ps.length → bindArgs (PySem.W.fnOf x x (defArgs st) (defBody st) (defScope st) .none kV doc pm an cdv ct) ⟨us, []⟩ = pure (ps.zip us)) : FunG K mg x st ps :=
  ⟨f, _, fun_mk l c k, PySem.W.mg_of KX G a, (fun_mk l c k).binds hb⟩
theorem funM_of {C : Addr} {m q : Str} {st : Stmt} {ps : List Str} (a : PySem.W.findIn K (.ref C) m = some (some (.ref f))) (i : PySem.W.isFn K (.ref f) = true) (l : K.lookup f = some ⟨oc, od, .func (PySem.W.fnOf m q (defArgs st) (defBody st) (defScope st) .none kV doc pm an cd ct), osl⟩) (c : PySem.W.codeIn K cd q = true) (k : PySem.W.keepIn K (.ref f) = true)
    (hb : ∀ (kV doc pm : Value) (an : Option Addr) (cdv ct : Value) (us : List Value), us.length = ps.length → bindArgs (PySem.W.fnOf m q (defArgs st) (defBody st) (defScope st) .none kV doc pm an cdv ct) ⟨us, []⟩ = pure (ps.zip us)) : FunM K C m q st ps :=
  ⟨f, _, fun_mk l c k, ⟨a, i, k⟩, (fun_mk l c k).binds hb⟩
theorem funI_of {C : Addr} {m q : Str} {st : Stmt} {ps : List Str} (mk : PySem.W.makesIn K C = true) (kc : PySem.W.keepIn K (.ref C) = true) (a : PySem.W.findIn K (.ref C) "__init__" = some (some (.ref f))) (i : PySem.W.isFn K (.ref f) = true) (l : K.lookup f = some ⟨oc, od, .func (PySem.W.fnOf m q (defArgs st) (defBody st) (defScope st) .none kV doc pm an cd ct), osl⟩) (c : PySem.W.codeIn K cd q = true) (k : PySem.W.keepIn K (.ref f) = true)
    (hb : ∀ (kV doc pm : Value) (an : Option Addr) (cdv ct : Value) (us : List Value), us.length = ps.length → bindArgs (PySem.W.fnOf m q (defArgs st) (defBody st) (defScope st) .none kV doc pm an cdv ct) ⟨us, []⟩ = pure (ps.zip us)) : ∃ f fd, Fun K m q st f fd ∧ Mk K C f ∧ Binds K fd ps [] :=
  ⟨f, _, fun_mk l c k, ⟨mk, a, i, kc⟩, (fun_mk l c k).binds hb⟩
theorem funP_of {C p : Addr} {m q : Str} {st : Stmt} {rest : List Value} (e1 : PySem.W.findIn K (.ref C) m = some (some (.ref p))) (e2 : PySem.W.specialIn K (.ref p) "__get__" = some (some (.builtin "property.__get__"))) (e3 : PySem.W.takesIn K (.ref p) = some true) (e4 : PySem.W.recIn K p "property" = some (.ref f :: rest))
    (l : K.lookup f = some ⟨oc, od, .func (PySem.W.fnOf m q (defArgs st) (defBody st) (defScope st) .none kV doc pm an cd ct), osl⟩) (c : PySem.W.codeIn K cd q = true) (k : PySem.W.keepIn K (.ref f) = true)
    (hb : ∀ (kV doc pm : Value) (an : Option Addr) (cdv ct : Value) (us : List Value), us.length = (["self"] : List Str).length → bindArgs (PySem.W.fnOf m q (defArgs st) (defBody st) (defScope st) .none kV doc pm an cdv ct) ⟨us, []⟩ = pure ((["self"] : List Str).zip us)) : ∃ p f fd, Fun K m q st f fd ∧ PropOf K C m p f ∧ Binds K fd ["self"] [] :=
  ⟨p, f, _, fun_mk l c k, ⟨e1, e2, e3, _, e4⟩, (fun_mk l c k).binds hb⟩
theorem noat {C : Addr} {x : Str} (a : PySem.W.findIn K (.ref C) x = some none) : NoAttr K C x := a
theorem cst_of {x : Str} {v : V} {u : Value} (KX : K.In h) (G : h.Ns mainGlobals mg) (a : PySem.W.nsIn K mainGlobals x = some (some u)) (r : RelV v u) : CstG mg x v := ⟨u, PySem.W.mg_of KX G a, r⟩
theorem law_of {l : PySem.W.OpenLaw} {w : World} {fa : Addr} (KX : K.In h) (G : h.Ns mainGlobals mg) (hfa : mg "law" = some (.ref fa)) (a : PySem.W.nsIn K mainGlobals "law" = some (some (.ref f))) (lk : K.lookup f = some ⟨oc, od, .func (PySem.W.fnOf "law" "law" (defArgs s_law) (defBody s_law) (defScope s_law) .none kV doc pm an cd ct), osl⟩) (c : PySem.W.codeIn K cd "law" = true) (k : PySem.W.keepIn K (.ref f) = true)
    (ok : ∀ base fd, Fun K "law" "law" s_law f fd → FnOk l.prog w K mg base CX0 12 f fd ["_law_script"] (spLaw K)) :
    ∃ fd : FuncData, (∀ (s : Shared) (v : Value), BindsTo s fd ⟨[v], []⟩ [("_law_script", v)]) ∧ ∀ base : Heap, K.In base → base.Ns mainGlobals mg → FnOk l.prog w K mg base CX0 20 fa fd ["_law_script"] (spLaw K) := by
  have e := hfa.symm.trans (PySem.W.mg_of KX G a)
  cases e
  exact ⟨_, fun s v => .of_eq rfl, fun base _ _ => (ok base _ (fun_mk lk c k)).mono (by decide)⟩
end
theorem all_ok {P : Program} {w : World} {K : PySem.W.Frag} {mg : Str → Option Value} {CN CY : Addr} (T : Txt K mg CN CY)
    (g_is_integer : FunG K mg "is_integer" s_is_integer ["value"])
    (g_is_count : FunG K mg "is_count" s_is_count ["value"])
    (g_is_list : FunG K mg "is_list" s_is_list ["value"])
    (g_want_at_most : FunG K mg "want_at_most" s_want_at_most ["what", "limit", "number"])
    (g_is_target_of : FunG K mg "is_target_of" s_is_target_of ["ends", "points", "value"])
    (g_is_exits_row : FunG K mg "is_exits_row" s_is_exits_row ["ends", "points", "value"])
    (g_want_exits : FunG K mg "want_exits" s_want_exits ["ends", "value"])
    (g_net_made : FunG K mg "net_made" s_net_made ["ends", "rows"])
    (g_want_net : FunG K mg "want_net" s_want_net ["value"])
    (g_is_setting_of : FunG K mg "is_setting_of" s_is_setting_of ["net", "value"])
    (g_want_setting : FunG K mg "want_setting" s_want_setting ["net", "value"])
    (g_want_point : FunG K mg "want_point" s_want_point ["net", "value"])
    (g_want_end : FunG K mg "want_end" s_want_end ["net", "value"])
    (g_want_exit : FunG K mg "want_exit" s_want_exit ["net", "point", "value"])
    (g_settings_many : FunG K mg "settings_many" s_settings_many ["net"])
    (g_want_few_settings : FunG K mg "want_few_settings" s_want_few_settings ["net"])
    (g_apart_by : FunG K mg "apart_by" s_apart_by ["setting", "other"])
    (g_dealt : FunG K mg "dealt" s_dealt ["exits", "begin", "visits"])
    (g_gone_by : FunG K mg "gone_by" s_gone_by ["net", "setting", "visits"])
    (g_come_by : FunG K mg "come_by" s_come_by ["net", "setting", "visits"])
    (g_point_by : FunG K mg "point_by" s_point_by ["net", "track"])
    (g_step_of : FunG K mg "step_of" s_step_of ["net", "where", "nexts"])
    (g_run_by : FunG K mg "run_by" s_run_by ["net", "setting", "begin", "most"])
    (g_points_to : FunG K mg "points_to" s_points_to ["net", "target"])
    (g_points_to_ends : FunG K mg "points_to_ends" s_points_to_ends ["net"])
    (g_lost_by_net : FunG K mg "lost_by_net" s_lost_by_net ["net"])
    (g_yard_setting : FunG K mg "yard_setting" s_yard_setting ["yard", "setting"])
    (g_yard_visits : FunG K mg "yard_visits" s_yard_visits ["yard", "setting"])
    (g_yard_end : FunG K mg "yard_end" s_yard_end ["yard", "setting"])
    (g_all_settings : FunG K mg "all_settings" s_all_settings ["net"])
    (g_swapped_net : FunG K mg "swapped_net" s_swapped_net ["net", "point", "spot", "other"])
    (g_swaps_of : FunG K mg "swaps_of" s_swaps_of ["net"])
    (g_swapped_exits : FunG K mg "swapped_exits" s_swapped_exits ["net", "point", "spot", "other"])
    (g_better_swaps : FunG K mg "better_swaps" s_better_swaps ["net", "setting", "begin", "end"])
    (g_fewest_turned : FunG K mg "fewest_turned" s_fewest_turned ["net", "setting", "begin", "end"])
    (g__law_pot : FunG K mg "_law_pot" s__law_pot ["_law_script", "_law_k"])
    (g__law_draw : FunG K mg "_law_draw" s__law_draw ["_law_pot_here", "_law_size"])
    (g__law_exits : FunG K mg "_law_exits" s__law_exits ["_law_pot_here", "_law_ends"])
    (g__law_setting : FunG K mg "_law_setting" s__law_setting ["_law_pot_here", "_law_exits_here"])
    (g__law_run : FunG K mg "_law_run" s__law_run ["_law_exits_here", "_law_setting_here", "_law_begin"])
    (g__law_all_settings : FunG K mg "_law_all_settings" s__law_all_settings ["_law_exits_here"])
    (g__law_swapped : FunG K mg "_law_swapped" s__law_swapped ["_law_exits_here", "_law_point", "_law_spot", "_law_other"])
    (g__law_swaps_right : FunG K mg "_law_swaps_right" s__law_swaps_right ["_law_net", "_law_exits_here", "_law_setting_here", "_law_begin", "_law_end"])
    (g__law_turned_right : FunG K mg "_law_turned_right" s__law_turned_right ["_law_net", "_law_exits_here", "_law_setting_here", "_law_begin", "_law_end"])
    (g_lay : FunM K CN "lay" "Net.lay" s_Net_lay ["self", "ends", "rows"])
    (g_exits : FunM K CN "exits" "Net.exits" s_Net_exits ["self"])
    (g_Net_eq : FunM K CN "__eq__" "Net.__eq__" s_Net_eq ["self", "other"])
    (g_Net : ∃ f fd, Fun K "__init__" "Net.__init__" s_Net_init f fd ∧ Mk K CN f ∧ Binds K fd ["self", "ends", "exits"] [])
    (g_Yard : ∃ f fd, Fun K "__init__" "Yard.__init__" s_Yard_init f fd ∧ Mk K CY f ∧ Binds K fd ["self", "net", "begin"] [])
    (g_ends : ∃ p f fd, Fun K "ends" "Net.ends" s_Net_ends f fd ∧ PropOf K CN "ends" p f ∧ Binds K fd ["self"] [])
    (base : Heap) (f : Addr) (fd : FuncData) (F : Fun K "law" "law" s_law f fd) : FnOk P w K mg base CX0 12 f fd ["_law_script"] (spLaw K) := by
  have c_is_integer := ok_is_integer (P := P) (w := w) (base := base) g_is_integer T 
  have c_is_count := ok_is_count (P := P) (w := w) (base := base) g_is_count T c_is_integer
  have c_is_list := ok_is_list (P := P) (w := w) (base := base) g_is_list T 
  have c_want_at_most := ok_want_at_most (P := P) (w := w) (base := base) g_want_at_most T 
  have c_is_target_of := ok_is_target_of (P := P) (w := w) (base := base) g_is_target_of T c_is_integer
  have c_is_exits_row := ok_is_exits_row (P := P) (w := w) (base := base) g_is_exits_row T c_is_list c_is_target_of
  have c_want_exits := ok_want_exits (P := P) (w := w) (base := base) g_want_exits T c_is_list c_is_exits_row c_want_at_most
  have c_lay := ok_lay (P := P) (w := w) (base := base) g_lay T 
  have c_Net := ok_Net_init (P := P) (w := w) (base := base) g_Net T c_is_count c_want_exits c_lay
  have c_ends := ok_ends (P := P) (w := w) (base := base) g_ends T 
  have c_exits := ok_exits (P := P) (w := w) (base := base) g_exits T 
  have c_want_net := ok_want_net (P := P) (w := w) (base := base) g_want_net T 
  have c_net_made := ok_net_made (P := P) (w := w) (base := base) g_net_made T c_Net c_lay
  have c_is_setting_of := ok_is_setting_of (P := P) (w := w) (base := base) g_is_setting_of T c_is_list c_is_count
  have c_want_setting := ok_want_setting (P := P) (w := w) (base := base) g_want_setting T c_is_setting_of
  have c_want_point := ok_want_point (P := P) (w := w) (base := base) g_want_point T c_is_count
  have c_want_end := ok_want_end (P := P) (w := w) (base := base) g_want_end T c_is_count
  have c_want_exit := ok_want_exit (P := P) (w := w) (base := base) g_want_exit T c_is_count
  have c_settings_many := ok_settings_many (P := P) (w := w) (base := base) g_settings_many T 
  have c_want_few_settings := ok_want_few_settings (P := P) (w := w) (base := base) g_want_few_settings T c_want_at_most c_settings_many
  have c_apart_by := ok_apart_by (P := P) (w := w) (base := base) g_apart_by T 
  have c_dealt := ok_dealt (P := P) (w := w) (base := base) g_dealt T 
  have c_gone_by := ok_gone_by (P := P) (w := w) (base := base) g_gone_by T c_dealt
  have c_come_by := ok_come_by (P := P) (w := w) (base := base) g_come_by T c_gone_by
  have c_point_by := ok_point_by (P := P) (w := w) (base := base) g_point_by T 
  have c_step_of := ok_step_of (P := P) (w := w) (base := base) g_step_of T 
  have c_run_by := ok_run_by (P := P) (w := w) (base := base) g_run_by T c_step_of
  have c_points_to := ok_points_to (P := P) (w := w) (base := base) g_points_to T 
  have c_points_to_ends := ok_points_to_ends (P := P) (w := w) (base := base) g_points_to_ends T c_points_to
  have c_lost_by_net := ok_lost_by_net (P := P) (w := w) (base := base) g_lost_by_net T c_points_to_ends
  have c_Yard := ok_Yard_init (P := P) (w := w) (base := base) g_Yard T c_lost_by_net c_ends c_net_made
  have c_yard_setting := ok_yard_setting (P := P) (w := w) (base := base) g_yard_setting T 
  have c_yard_visits := ok_yard_visits (P := P) (w := w) (base := base) g_yard_visits T c_yard_setting c_run_by c_point_by
  have c_yard_end := ok_yard_end (P := P) (w := w) (base := base) g_yard_end T c_yard_setting c_yard_visits c_come_by c_ends
  have c_all_settings := ok_all_settings (P := P) (w := w) (base := base) g_all_settings T 
  have c_swapped_net := ok_swapped_net (P := P) (w := w) (base := base) g_swapped_net T c_net_made c_ends
  have c_swaps_of := ok_swaps_of (P := P) (w := w) (base := base) g_swaps_of T 
  have c_eq := ok_Net_eq (P := P) (w := w) (base := base) g_Net_eq T 
  have c_swapped_exits := ok_swapped_exits (P := P) (w := w) (base := base) g_swapped_exits T c_want_net c_want_point c_want_exit c_swapped_net
  have c_better_swaps := ok_better_swaps (P := P) (w := w) (base := base) g_better_swaps T c_want_net c_want_setting c_want_point c_want_end c_swaps_of c_swapped_net c_Yard c_yard_end
  have c_fewest_turned := ok_fewest_turned (P := P) (w := w) (base := base) g_fewest_turned T c_want_net c_want_setting c_want_point c_want_end c_want_few_settings c_Yard c_all_settings c_apart_by c_yard_end c_want_at_most
  have cK_fewest_turned : KCal P w K mg base "fewest_turned" ["net", "setting", "begin", "end"] ["end", "begin", "setting", "net"] (gKw Value) (gKw V) 10 (spFewest CN) := by
    obtain ⟨f, fd, F, hm, hb⟩ := g_fewest_turned
    exact ⟨f, fd, fn_fewest_turned F T c_want_net c_want_setting c_want_point c_want_end c_want_few_settings c_Yard c_all_settings c_apart_by c_yard_end c_want_at_most, hm, F.kp, kb_few F⟩
  have c__law_pot := ok__law_pot (P := P) (w := w) (base := base) g__law_pot T 
  have c__law_draw := ok__law_draw (P := P) (w := w) (base := base) g__law_draw T 
  have c__law_exits := ok__law_exits (P := P) (w := w) (base := base) g__law_exits T c__law_draw
  have c__law_setting := ok__law_setting (P := P) (w := w) (base := base) g__law_setting T c__law_draw
  have c__law_run := ok__law_run (P := P) (w := w) (base := base) g__law_run T 
  have c__law_all_settings := ok__law_all_settings (P := P) (w := w) (base := base) g__law_all_settings T 
  have c__law_swapped := ok__law_swapped (P := P) (w := w) (base := base) g__law_swapped T 
  have c__law_swaps_right := ok__law_swaps_right (P := P) (w := w) (base := base) g__law_swaps_right T c__law_swapped c_swapped_exits c_exits c_eq c__law_run c_better_swaps
  have c__law_turned_right := ok__law_turned_right (P := P) (w := w) (base := base) g__law_turned_right T c__law_all_settings c__law_run c_fewest_turned cK_fewest_turned
  exact ok_law F T c__law_pot c__law_draw c__law_exits c_Net c__law_setting c__law_turned_right c__law_swaps_right
end Fp
end part_W14
section part_H2
set_option maxHeartbeats 0
open PySem PySem.W PyProof.Rows
open_top hd for PySem.Challenge.rw_flippedpoints_k87_whole_points_turned_an
end part_H2
section part_FIN
set_option maxHeartbeats 0
open PySem PySem.W PyProof.Rows
theorem PySem.Challenge.cw_flippedpoints_k87_whole_points_turned_an_holds : PySem.Challenge.rw_flippedpoints_k87_whole_points_turned_an.Holds :=
  hd (by
  k_fill
  refine L2.walk_of (l := PySem.Challenge.rw_flippedpoints_k87_whole_points_turned_an) (n := 63) (k := 20) (x := "_law_script") (CX := fun _ => L2.CX0) (sp := fun w => Fp.spLaw _) rfl (by decide) rfl ⟨rfl, by decide, by decide⟩ (fun w h Y => PySem.W.kIn_of Y) ?F (fun _ _ a ns hl _ hS => ⟨a, ns, rfl, hS, hl, fun _ => rfl⟩) (fun _ _ _ _ _ h => h)
  case F =>
    intro w mg fa h KX G hmg
    refine' Fp.law_of KX G hmg ?h259 ?h260 ?h261 ?h262 fun base fd F => Fp.all_ok (CN := ?CN) (CY := ?CY) ⟨⟨?h213, ?h214, ?h215, ?h216⟩, ⟨?h217, ?h218, ?h219, ?h220⟩, PySem.W.mg_of KX G ?h221, PySem.W.mg_of KX G ?h222, Fp.noat ?h223, Fp.noat ?h224, Fp.noat ?h225, Fp.noat ?h226, Fp.noat ?h227, Fp.noat ?h228, ?h229, ?h230, ?h231, ?h232, if_pos (beq_self_eq_true _), PySem.W.mg_of KX G ?h233, Fp.cst_of KX G ?h234 ?r0, Fp.cst_of KX G ?h235 ?r1, Fp.cst_of KX G ?h236 ?r2, Fp.cst_of KX G ?h237 ?r3, Fp.cst_of KX G ?h238 ?r4, Fp.cst_of KX G ?h239 ?r5, Fp.cst_of KX G ?h240 ?r6, PySem.W.mg_none_of KX G ?h241, PySem.W.mg_none_of KX G ?h242, PySem.W.mg_none_of KX G ?h243, PySem.W.mg_none_of KX G ?h244, PySem.W.mg_none_of KX G ?h245, PySem.W.mg_none_of KX G ?h246, PySem.W.mg_none_of KX G ?h247, PySem.W.mg_none_of KX G ?h248, PySem.W.mg_none_of KX G ?h249, PySem.W.mg_none_of KX G ?h250, PySem.W.mg_none_of KX G ?h251, PySem.W.mg_none_of KX G ?h252, PySem.W.mg_none_of KX G ?h253, PySem.W.mg_none_of KX G ?h254, PySem.W.mg_none_of KX G ?h255, PySem.W.mg_none_of KX G ?h256, PySem.W.mg_none_of KX G ?h257, PySem.W.mg_none_of KX G ?h258⟩
      (Fp.funG_of (st := Fp.s_is_integer) (ps := ["value"]) KX G ?h1 ?h2 ?h3 ?h4 (fun _ _ _ _ _ _ us hl => match us, hl with | [_], _ => rfl))
      (Fp.funG_of (st := Fp.s_is_count) (ps := ["value"]) KX G ?h5 ?h6 ?h7 ?h8 (fun _ _ _ _ _ _ us hl => match us, hl with | [_], _ => rfl))
      (Fp.funG_of (st := Fp.s_is_list) (ps := ["value"]) KX G ?h9 ?h10 ?h11 ?h12 (fun _ _ _ _ _ _ us hl => match us, hl with | [_], _ => rfl))
      (Fp.funG_of (st := Fp.s_want_at_most) (ps := ["what", "limit", "number"]) KX G ?h13 ?h14 ?h15 ?h16 (fun _ _ _ _ _ _ us hl => match us, hl with | [_, _, _], _ => rfl))
      (Fp.funG_of (st := Fp.s_is_target_of) (ps := ["ends", "points", "value"]) KX G ?h17 ?h18 ?h19 ?h20 (fun _ _ _ _ _ _ us hl => match us, hl with | [_, _, _], _ => rfl))
      (Fp.funG_of (st := Fp.s_is_exits_row) (ps := ["ends", "points", "value"]) KX G ?h21 ?h22 ?h23 ?h24 (fun _ _ _ _ _ _ us hl => match us, hl with | [_, _, _], _ => rfl))
      (Fp.funG_of (st := Fp.s_want_exits) (ps := ["ends", "value"]) KX G ?h25 ?h26 ?h27 ?h28 (fun _ _ _ _ _ _ us hl => match us, hl with | [_, _], _ => rfl))
      (Fp.funG_of (st := Fp.s_net_made) (ps := ["ends", "rows"]) KX G ?h29 ?h30 ?h31 ?h32 (fun _ _ _ _ _ _ us hl => match us, hl with | [_, _], _ => rfl))
      (Fp.funG_of (st := Fp.s_want_net) (ps := ["value"]) KX G ?h33 ?h34 ?h35 ?h36 (fun _ _ _ _ _ _ us hl => match us, hl with | [_], _ => rfl))
      (Fp.funG_of (st := Fp.s_is_setting_of) (ps := ["net", "value"]) KX G ?h37 ?h38 ?h39 ?h40 (fun _ _ _ _ _ _ us hl => match us, hl with | [_, _], _ => rfl))
      (Fp.funG_of (st := Fp.s_want_setting) (ps := ["net", "value"]) KX G ?h41 ?h42 ?h43 ?h44 (fun _ _ _ _ _ _ us hl => match us, hl with | [_, _], _ => rfl))
      (Fp.funG_of (st := Fp.s_want_point) (ps := ["net", "value"]) KX G ?h45 ?h46 ?h47 ?h48 (fun _ _ _ _ _ _ us hl => match us, hl with | [_, _], _ => rfl))
      (Fp.funG_of (st := Fp.s_want_end) (ps := ["net", "value"]) KX G ?h49 ?h50 ?h51 ?h52 (fun _ _ _ _ _ _ us hl => match us, hl with | [_, _], _ => rfl))
      (Fp.funG_of (st := Fp.s_want_exit) (ps := ["net", "point", "value"]) KX G ?h53 ?h54 ?h55 ?h56 (fun _ _ _ _ _ _ us hl => match us, hl with | [_, _, _], _ => rfl))
      (Fp.funG_of (st := Fp.s_settings_many) (ps := ["net"]) KX G ?h57 ?h58 ?h59 ?h60 (fun _ _ _ _ _ _ us hl => match us, hl with | [_], _ => rfl))
      (Fp.funG_of (st := Fp.s_want_few_settings) (ps := ["net"]) KX G ?h61 ?h62 ?h63 ?h64 (fun _ _ _ _ _ _ us hl => match us, hl with | [_], _ => rfl))
      (Fp.funG_of (st := Fp.s_apart_by) (ps := ["setting", "other"]) KX G ?h65 ?h66 ?h67 ?h68 (fun _ _ _ _ _ _ us hl => match us, hl with | [_, _], _ => rfl))
      (Fp.funG_of (st := Fp.s_dealt) (ps := ["exits", "begin", "visits"]) KX G ?h69 ?h70 ?h71 ?h72 (fun _ _ _ _ _ _ us hl => match us, hl with | [_, _, _], _ => rfl))
      (Fp.funG_of (st := Fp.s_gone_by) (ps := ["net", "setting", "visits"]) KX G ?h73 ?h74 ?h75 ?h76 (fun _ _ _ _ _ _ us hl => match us, hl with | [_, _, _], _ => rfl))
      (Fp.funG_of (st := Fp.s_come_by) (ps := ["net", "setting", "visits"]) KX G ?h77 ?h78 ?h79 ?h80 (fun _ _ _ _ _ _ us hl => match us, hl with | [_, _, _], _ => rfl))
      (Fp.funG_of (st := Fp.s_point_by) (ps := ["net", "track"]) KX G ?h81 ?h82 ?h83 ?h84 (fun _ _ _ _ _ _ us hl => match us, hl with | [_, _], _ => rfl))
      (Fp.funG_of (st := Fp.s_step_of) (ps := ["net", "where", "nexts"]) KX G ?h85 ?h86 ?h87 ?h88 (fun _ _ _ _ _ _ us hl => match us, hl with | [_, _, _], _ => rfl))
      (Fp.funG_of (st := Fp.s_run_by) (ps := ["net", "setting", "begin", "most"]) KX G ?h89 ?h90 ?h91 ?h92 (fun _ _ _ _ _ _ us hl => match us, hl with | [_, _, _, _], _ => rfl))
      (Fp.funG_of (st := Fp.s_points_to) (ps := ["net", "target"]) KX G ?h93 ?h94 ?h95 ?h96 (fun _ _ _ _ _ _ us hl => match us, hl with | [_, _], _ => rfl))
      (Fp.funG_of (st := Fp.s_points_to_ends) (ps := ["net"]) KX G ?h97 ?h98 ?h99 ?h100 (fun _ _ _ _ _ _ us hl => match us, hl with | [_], _ => rfl))
      (Fp.funG_of (st := Fp.s_lost_by_net) (ps := ["net"]) KX G ?h101 ?h102 ?h103 ?h104 (fun _ _ _ _ _ _ us hl => match us, hl with | [_], _ => rfl))
      (Fp.funG_of (st := Fp.s_yard_setting) (ps := ["yard", "setting"]) KX G ?h105 ?h106 ?h107 ?h108 (fun _ _ _ _ _ _ us hl => match us, hl with | [_, _], _ => rfl))
      (Fp.funG_of (st := Fp.s_yard_visits) (ps := ["yard", "setting"]) KX G ?h109 ?h110 ?h111 ?h112 (fun _ _ _ _ _ _ us hl => match us, hl with | [_, _], _ => rfl))
      (Fp.funG_of (st := Fp.s_yard_end) (ps := ["yard", "setting"]) KX G ?h113 ?h114 ?h115 ?h116 (fun _ _ _ _ _ _ us hl => match us, hl with | [_, _], _ => rfl))
      (Fp.funG_of (st := Fp.s_all_settings) (ps := ["net"]) KX G ?h117 ?h118 ?h119 ?h120 (fun _ _ _ _ _ _ us hl => match us, hl with | [_], _ => rfl))
      (Fp.funG_of (st := Fp.s_swapped_net) (ps := ["net", "point", "spot", "other"]) KX G ?h121 ?h122 ?h123 ?h124 (fun _ _ _ _ _ _ us hl => match us, hl with | [_, _, _, _], _ => rfl))
      (Fp.funG_of (st := Fp.s_swaps_of) (ps := ["net"]) KX G ?h125 ?h126 ?h127 ?h128 (fun _ _ _ _ _ _ us hl => match us, hl with | [_], _ => rfl))
      (Fp.funG_of (st := Fp.s_swapped_exits) (ps := ["net", "point", "spot", "other"]) KX G ?h129 ?h130 ?h131 ?h132 (fun _ _ _ _ _ _ us hl => match us, hl with | [_, _, _, _], _ => rfl))
      (Fp.funG_of (st := Fp.s_better_swaps) (ps := ["net", "setting", "begin", "end"]) KX G ?h133 ?h134 ?h135 ?h136 (fun _ _ _ _ _ _ us hl => match us, hl with | [_, _, _, _], _ => rfl))
      (Fp.funG_of (st := Fp.s_fewest_turned) (ps := ["net", "setting", "begin", "end"]) KX G ?h137 ?h138 ?h139 ?h140 (fun _ _ _ _ _ _ us hl => match us, hl with | [_, _, _, _], _ => rfl))
      (Fp.funG_of (st := Fp.s__law_pot) (ps := ["_law_script", "_law_k"]) KX G ?h141 ?h142 ?h143 ?h144 (fun _ _ _ _ _ _ us hl => match us, hl with | [_, _], _ => rfl))
      (Fp.funG_of (st := Fp.s__law_draw) (ps := ["_law_pot_here", "_law_size"]) KX G ?h145 ?h146 ?h147 ?h148 (fun _ _ _ _ _ _ us hl => match us, hl with | [_, _], _ => rfl))
      (Fp.funG_of (st := Fp.s__law_exits) (ps := ["_law_pot_here", "_law_ends"]) KX G ?h149 ?h150 ?h151 ?h152 (fun _ _ _ _ _ _ us hl => match us, hl with | [_, _], _ => rfl))
      (Fp.funG_of (st := Fp.s__law_setting) (ps := ["_law_pot_here", "_law_exits_here"]) KX G ?h153 ?h154 ?h155 ?h156 (fun _ _ _ _ _ _ us hl => match us, hl with | [_, _], _ => rfl))
      (Fp.funG_of (st := Fp.s__law_run) (ps := ["_law_exits_here", "_law_setting_here", "_law_begin"]) KX G ?h157 ?h158 ?h159 ?h160 (fun _ _ _ _ _ _ us hl => match us, hl with | [_, _, _], _ => rfl))
      (Fp.funG_of (st := Fp.s__law_all_settings) (ps := ["_law_exits_here"]) KX G ?h161 ?h162 ?h163 ?h164 (fun _ _ _ _ _ _ us hl => match us, hl with | [_], _ => rfl))
      (Fp.funG_of (st := Fp.s__law_swapped) (ps := ["_law_exits_here", "_law_point", "_law_spot", "_law_other"]) KX G ?h165 ?h166 ?h167 ?h168 (fun _ _ _ _ _ _ us hl => match us, hl with | [_, _, _, _], _ => rfl))
      (Fp.funG_of (st := Fp.s__law_swaps_right) (ps := ["_law_net", "_law_exits_here", "_law_setting_here", "_law_begin", "_law_end"]) KX G ?h169 ?h170 ?h171 ?h172 (fun _ _ _ _ _ _ us hl => match us, hl with | [_, _, _, _, _], _ => rfl))
      (Fp.funG_of (st := Fp.s__law_turned_right) (ps := ["_law_net", "_law_exits_here", "_law_setting_here", "_law_begin", "_law_end"]) KX G ?h173 ?h174 ?h175 ?h176 (fun _ _ _ _ _ _ us hl => match us, hl with | [_, _, _, _, _], _ => rfl))
      (Fp.funM_of (st := Fp.s_Net_lay) (ps := ["self", "ends", "rows"]) ?h177 ?h178 ?h179 ?h180 ?h181 (fun _ _ _ _ _ _ us hl => match us, hl with | [_, _, _], _ => rfl))
      (Fp.funM_of (st := Fp.s_Net_exits) (ps := ["self"]) ?h182 ?h183 ?h184 ?h185 ?h186 (fun _ _ _ _ _ _ us hl => match us, hl with | [_], _ => rfl))
      (Fp.funM_of (st := Fp.s_Net_eq) (ps := ["self", "other"]) ?h187 ?h188 ?h189 ?h190 ?h191 (fun _ _ _ _ _ _ us hl => match us, hl with | [_, _], _ => rfl))
      (Fp.funI_of (st := Fp.s_Net_init) (ps := ["self", "ends", "exits"]) ?h192 ?h193 ?h194 ?h195 ?h196 ?h197 ?h198 (fun _ _ _ _ _ _ us hl => match us, hl with | [_, _, _], _ => rfl))
      (Fp.funI_of (st := Fp.s_Yard_init) (ps := ["self", "net", "begin"]) ?h199 ?h200 ?h201 ?h202 ?h203 ?h204 ?h205 (fun _ _ _ _ _ _ us hl => match us, hl with | [_, _, _], _ => rfl))
      (Fp.funP_of (st := Fp.s_Net_ends) ?h206 ?h207 ?h208 ?h209 ?h210 ?h211 ?h212 (fun _ _ _ _ _ _ us hl => match us, hl with | [_], _ => rfl))
      base _ fd F
    (case h221 => k_is); (case h222 => k_is); (case h213 => k_is); (case h214 => k_is); (case h215 => k_is); (case h216 => k_is); (case h217 => k_is); (case h218 => k_is)
    (case h219 => k_is); (case h220 => k_is); (case h223 => k_is); (case h224 => k_is); (case h225 => k_is); (case h226 => k_is); (case h227 => k_is); (case h228 => k_is)
    (case h229 => k_is); (case h230 => k_is); (case h231 => k_is); (case h232 => k_is); (case h233 => k_is); (case h234 => k_is); (case h235 => k_is); (case h236 => k_is)
    (case h237 => k_is); (case h238 => k_is); (case h239 => k_is); (case h240 => k_is); (case h241 => k_is); (case h242 => k_is); (case h243 => k_is); (case h244 => k_is)
    (case h245 => k_is); (case h246 => k_is); (case h247 => k_is); (case h248 => k_is); (case h249 => k_is); (case h250 => k_is); (case h251 => k_is); (case h252 => k_is)
    (case h253 => k_is); (case h254 => k_is); (case h255 => k_is); (case h256 => k_is); (case h257 => k_is); (case h258 => k_is); (case h259 => k_is); (case h260 => k_is)
    (case h261 => k_is); (case h262 => k_is); (case h1 => k_is); (case h2 => k_is); (case h3 => k_is); (case h4 => k_is); (case h5 => k_is); (case h6 => k_is)
    (case h7 => k_is); (case h8 => k_is); (case h9 => k_is); (case h10 => k_is); (case h11 => k_is); (case h12 => k_is); (case h13 => k_is); (case h14 => k_is)
    (case h15 => k_is); (case h16 => k_is); (case h17 => k_is); (case h18 => k_is); (case h19 => k_is); (case h20 => k_is); (case h21 => k_is); (case h22 => k_is)
    (case h23 => k_is); (case h24 => k_is); (case h25 => k_is); (case h26 => k_is); (case h27 => k_is); (case h28 => k_is); (case h29 => k_is); (case h30 => k_is)
    (case h31 => k_is); (case h32 => k_is); (case h33 => k_is); (case h34 => k_is); (case h35 => k_is); (case h36 => k_is); (case h37 => k_is); (case h38 => k_is)
    (case h39 => k_is); (case h40 => k_is); (case h41 => k_is); (case h42 => k_is); (case h43 => k_is); (case h44 => k_is); (case h45 => k_is); (case h46 => k_is)
    (case h47 => k_is); (case h48 => k_is); (case h49 => k_is); (case h50 => k_is); (case h51 => k_is); (case h52 => k_is); (case h53 => k_is); (case h54 => k_is)
    (case h55 => k_is); (case h56 => k_is); (case h57 => k_is); (case h58 => k_is); (case h59 => k_is); (case h60 => k_is); (case h61 => k_is); (case h62 => k_is)
    (case h63 => k_is); (case h64 => k_is); (case h65 => k_is); (case h66 => k_is); (case h67 => k_is); (case h68 => k_is); (case h69 => k_is); (case h70 => k_is)
    (case h71 => k_is); (case h72 => k_is); (case h73 => k_is); (case h74 => k_is); (case h75 => k_is); (case h76 => k_is); (case h77 => k_is); (case h78 => k_is)
    (case h79 => k_is); (case h80 => k_is); (case h81 => k_is); (case h82 => k_is); (case h83 => k_is); (case h84 => k_is); (case h85 => k_is); (case h86 => k_is)
    (case h87 => k_is); (case h88 => k_is); (case h89 => k_is); (case h90 => k_is); (case h91 => k_is); (case h92 => k_is); (case h93 => k_is); (case h94 => k_is)
    (case h95 => k_is); (case h96 => k_is); (case h97 => k_is); (case h98 => k_is); (case h99 => k_is); (case h100 => k_is); (case h101 => k_is); (case h102 => k_is)
    (case h103 => k_is); (case h104 => k_is); (case h105 => k_is); (case h106 => k_is); (case h107 => k_is); (case h108 => k_is); (case h109 => k_is); (case h110 => k_is)
    (case h111 => k_is); (case h112 => k_is); (case h113 => k_is); (case h114 => k_is); (case h115 => k_is); (case h116 => k_is); (case h117 => k_is); (case h118 => k_is)
    (case h119 => k_is); (case h120 => k_is); (case h121 => k_is); (case h122 => k_is); (case h123 => k_is); (case h124 => k_is); (case h125 => k_is); (case h126 => k_is)
    (case h127 => k_is); (case h128 => k_is); (case h129 => k_is); (case h130 => k_is); (case h131 => k_is); (case h132 => k_is); (case h133 => k_is); (case h134 => k_is)
    (case h135 => k_is); (case h136 => k_is); (case h137 => k_is); (case h138 => k_is); (case h139 => k_is); (case h140 => k_is); (case h141 => k_is); (case h142 => k_is)
    (case h143 => k_is); (case h144 => k_is); (case h145 => k_is); (case h146 => k_is); (case h147 => k_is); (case h148 => k_is); (case h149 => k_is); (case h150 => k_is)
    (case h151 => k_is); (case h152 => k_is); (case h153 => k_is); (case h154 => k_is); (case h155 => k_is); (case h156 => k_is); (case h157 => k_is); (case h158 => k_is)
    (case h159 => k_is); (case h160 => k_is); (case h161 => k_is); (case h162 => k_is); (case h163 => k_is); (case h164 => k_is); (case h165 => k_is); (case h166 => k_is)
    (case h167 => k_is); (case h168 => k_is); (case h169 => k_is); (case h170 => k_is); (case h171 => k_is); (case h172 => k_is); (case h173 => k_is); (case h174 => k_is)
    (case h175 => k_is); (case h176 => k_is); (case h177 => k_is); (case h178 => k_is); (case h179 => k_is); (case h180 => k_is); (case h181 => k_is); (case h182 => k_is)
    (case h183 => k_is); (case h184 => k_is); (case h185 => k_is); (case h186 => k_is); (case h187 => k_is); (case h188 => k_is); (case h189 => k_is); (case h190 => k_is)
    (case h191 => k_is); (case h192 => k_is); (case h193 => k_is); (case h194 => k_is); (case h195 => k_is); (case h196 => k_is); (case h197 => k_is); (case h198 => k_is)
    (case h199 => k_is); (case h200 => k_is); (case h201 => k_is); (case h202 => k_is); (case h203 => k_is); (case h204 => k_is); (case h205 => k_is); (case h206 => k_is)
    (case h207 => k_is); (case h208 => k_is); (case h209 => k_is); (case h210 => k_is); (case h211 => k_is); (case h212 => k_is); (case r0 => exact ⟨_, rfl⟩); (case r1 => exact ⟨_, rfl⟩)
    (case r2 => exact ⟨_, rfl⟩); (case r3 => exact ⟨_, rfl⟩); (case r4 => exact ⟨_, rfl⟩); (case r5 => exact ⟨_, rfl⟩); (case r6 => exact ⟨_, rfl⟩)
)
end part_FIN
