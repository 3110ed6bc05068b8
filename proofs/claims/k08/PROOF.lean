import PyProof.Rows.All
import KE.SortData
import KE.SortKeyHeap
import HandS.ForMost
import HandS.Flow
import HandS.Wide
import HandS.Conv
import HandS.TupAny
import HandS.TupMul
import HandS.IsInst
import HandS.Deep
import KE.KNestM
import KE.KeyNested
import KE.KDictKeyed
import HandS.HeadHook1
import HandS.TupLe
import KE.DataEq
import KE.DataCmp
import KE.DataMinMax
import KE.DataIsa
import HandS.GenList
import HandS.AnyAll
import PyProof.TupleOfGen
import PyProof.JoinWalk
import PyProof.SumAny
import HandS.SetKeys
import HandS.SetFor
import HandS.HeadHook2
import HandS.HeadHook3
import HandS.HeadHook4
import HandS.HeadWalk
import HandS.Head0
import HandS.Head1
import HandS.Head2
import HandS.HeadEnd
import KE.GoesNew
import KE.GoesMore
import HandS.TupSets
import KE.KLam
import HandS.SortKw
import PyProof.Rows.SumAny
import HandS.Nested
import KE.DataFind
import KE.KDictDisplayH
import HandS.TupLen
import KE.KDictSum
import KE.KDictWalk
import HandS.Iter
import HandS.Text
import PyProof.Rows.ReprOcc
import HandS.Replace
import PyProof.Rows.StrJoin2
import PyProof.ListStr
import PyProof.StrOps2
import KE.DataMinKey
import PySem.Challenge.RW_tracehouse_k08_marks_that_are_covered
set_option Elab.async false
set_option linter.all false
set_option maxRecDepth 100000
/-! sorting tuples some of which are empty -/
namespace PySem.SeqAt
open PySem PyProof.Rows
section
variable {A : Around} {s : Shared}
theorem call_tup_lt {prog : Program} {w : World} {E : Value → Shared → Prop} {Q : Value → Shared → Prop} {l b : Addr} {items items2 : Array Value} {e r : Nat → Bool} (hl : s.heap.IsTuple l items) (hb : s.heap.IsTuple b items2)
    (he : ∀ j (h1 : j < items.size) (h2 : j < items2.size), EqAt A.in1 s items[j] items2[j] (e j)) (hr : ∀ j (h1 : j < items.size) (h2 : j < items2.size), e j = false → RcLt A.in1 s items[j] items2[j] (r j))
    (h : Q (.bool (firstLt e r (decide (items.size < items2.size)) (List.range (min items.size items2.size)))) s) : wpAny (model prog w) A (call (.builtin "tuple.__lt__") [.ref l, .ref b]) Q E s := by
  obtain ⟨⟨c1, dd, x1, sl⟩, ho, hc, n, hd⟩ := id hl
  obtain ⟨⟨c2, dd2, x2, sl2⟩, ho2, hc2, n2, hd2⟩ := id hb
  simp only at hc hd hc2 hd2
  subst hc hd hc2 hd2
  exact call_meets F.slot_tuple_lt ⟨_, ho, rfl⟩ F.entry_tuple_lt (F.args_tuple_lt_2 _ _) (tuple_ltAt l b items items2 n n2 dd dd2 sl sl2 e r) ⟨ho, ho2, he, hr, h⟩
end
end PySem.SeqAt
namespace PySem.W
open PySem PySem.Calls PyProof.Rows PySem.SeqAt
section
variable {prog : Program} {w : World} {A : Around} {E : Value → Shared → Prop} {s : Shared}
theorem oneLt_tup {xs ys : List PyData} {a b : Value} {as bs : List Addr} {Q : Bool → Shared → Prop} (ra : Reads s.heap a (.tuple xs) as) (rb : Reads s.heap b (.tuple ys) bs) (h : alike (.tuple xs) (.tuple ys) = true)
    (hu : A.units + min (PyData.tuple xs).depth (PyData.tuple ys).depth < cLine) (hq : Q (dataLt (.tuple xs) (.tuple ys)) s) : wpAny (model prog w) A (oneLt' true a b) Q E s := by
  have hal : alikeAll xs ys = true := by simpa [alike] using h
  cases ra with
  | @tuple l o vs n _ _ h1 h2 h3 h4 =>
    cases rb with
    | @tuple l' o' vs' n' _ _ k1 k2 k3 k4 =>
      have n1 : vs.size = xs.length := by simpa using ReadsAll.length _ _ _ h4
      have n2 : vs'.size = ys.length := by simpa using ReadsAll.length _ _ _ k4
      rw [dataLt_tuple, ← firstLt_toks xs ys hal, ← n1, ← n2] at hq
      rw [oneLt'_eq]
      simp only [if_true]
      refine wpAny_bind (wpAny_cRoomFor (room_here hu) ?_)
      refine wpAny_bind (wpAny_callSpecialIfBound?_slot (T := "tuple") ⟨_, h1, h2⟩ F.slot_tuple_lt (call_tup_lt (e := pairEq xs ys) (r := fun j => dataLt (xs.getD j .none) (ys.getD j .none)) ⟨_, h1, h2, _, h3⟩ ⟨_, k1, k2, _, k3⟩ (fun j j1 j2 => ?_) (fun j j1 j2 hj => ?_) ?_))
      · have := eqAt_alikeAll xs ys A.in1 s vs.toList vs'.toList _ _ h4 k4 hal (room_in hu) j (by simpa using j1) (by simpa using j2)
        simpa using this
      · have := rcLt_alikeAll xs ys A.in1 s vs.toList vs'.toList _ _ h4 k4 hal (room_in hu) j (by simpa using j1) (by simpa using j2) hj
        simpa using this
      · exact wpAny_truthy_bool hq
def neT : PyData → Bool
  | .tuple [] => false
  | _ => true
theorem firsts_mixed : ∀ (vs : List Value) (ds : List PyData) {Q : List (Option Value) → Shared → Prop}, EachIs (fun v d => ∃ as, Reads s.heap v d as) vs ds → (∀ d ∈ ds, ∃ xs, d = .tuple xs) → (∀ fs : List (Option Value), fs.map Option.isSome = ds.map neT → Q fs s) →
    wpAny (model prog w) A (vs.mapM firstOfTuple') Q E s
  | _, _, Q, .nil, _, h => by rw [List.mapM_nil]; exact wpAny_pure (h [] rfl)
  | v :: vs, d :: ds, Q, .cons ⟨as, r⟩ t, ht, h => by
    obtain ⟨xs, rfl⟩ := ht d List.mem_cons_self
    cases r with
    | @tuple a o ys n _ _ h1 h2 h3 h4 =>
      rw [List.mapM_cons]
      refine wpAny_bind ?_
      rw [kas_first_eq]
      refine wpAny_bind (Looks.here (show Looks (model prog w) s.heap (typeOf (.ref a)) o.cls from (Looks.ld h1).andThen .now) ?_)
      rw [h2, if_neg (by first | decide | simp)]
      refine wpAny_bind (listItems_at h1 h3 (wpAny_pure ?_))
      refine wpAny_bind (firsts_mixed vs ds (Q := fun bs s' => wpAny (model prog w) A (pure (ys[0]? :: bs)) Q E s') t (fun d hd => ht d (List.mem_cons_of_mem _ hd)) fun fs hfs => wpAny_pure (h _ ?_))
      rw [List.map_cons, List.map_cons, hfs]
      congr 1
      have n1 : ys.size = xs.length := by simpa using ReadsAll.length _ _ _ h4
      cases xs with
      | nil =>
        have : ys[0]? = none := Array.getElem?_eq_none (by rw [n1]; simp)
        rw [this]; rfl
      | cons x xs =>
        have hz : 0 < ys.size := by rw [n1]; simp
        rw [Array.getElem?_eq_getElem hz]; rfl
/-- tuples, one of them empty, can be sorted -/
theorem SortsAt.mixed {vs : List Value} {ds : List PyData} (e : EachIs (fun v d => ∃ as, Reads s.heap v d as) vs ds) (hal : AllAlike ds) (ht : ∀ d ∈ ds, ∃ xs, d = .tuple xs) (he : PyData.tuple [] ∈ ds) (hu : ∀ d, d ∈ ds → A.units + d.depth < cLine) : SortsAt prog w A s (dataKind s.heap ds) vs := by
  have room : ∀ {d d' : PyData}, d ∈ ds → A.units + min d.depth d'.depth < cLine := fun {d d'} hd => Nat.lt_of_le_of_lt (Nat.add_le_add_left (Nat.min_le_left _ _) _) (hu d hd)
  refine ⟨fun v hv => ?_, ?_⟩
  · obtain ⟨d, hd, as, r⟩ := e.left v hv
    exact ⟨_, dataKind_some hal hd r⟩
  cases ds with
  | nil => cases he
  | cons d0 ds0 =>
    cases e with
    | @cons v0 _ vs0 _ e0 et =>
    have e : EachIs (fun v d => ∃ as, Reads s.heap v d as) (v0 :: vs0) (d0 :: ds0) := .cons e0 et
    have hno : ∀ (fs : List (Option Value)), fs.map Option.isSome = (d0 :: ds0).map neT → ¬ (fs.toArray.all fun x => x.isSome) = true := fun fs hfs h => by
      rw [List.all_toArray] at h
      have h2 : (fs.map Option.isSome).all id = true := by rw [List.all_map]; exact h
      rw [hfs, List.all_map, List.all_eq_true] at h2
      have := h2 _ he
      simp [neT] at this
    have h0 : ∀ (fs : List (Option Value)), fs.map Option.isSome = (d0 :: ds0).map neT → (fs.toArray[0]?.bind id).isSome = neT d0 := fun fs hfs => by
      cases fs with
      | nil => simp at hfs
      | cons f fs =>
        simp only [List.map_cons, List.cons.injEq] at hfs
        rw [← hfs.1]; simp
    cases hn : neT d0 with
    | true =>
      refine ⟨general', fun E x y a b Q ha hb hq => ?_, fun h2 E Q hq => ?_⟩
      · obtain ⟨d, as, hd, ra, rfl⟩ := dataKind_inv ha
        obtain ⟨d', as', hd', rb, rfl⟩ := dataKind_inv hb
        have hd3 : d ≠ .none := fun z => by obtain ⟨xs, ex⟩ := ht d hd; rw [ex] at z; cases z
        show wpAny (model prog w) A (oneLt' false x y) Q E s
        exact oneLt_alike (fun z => nomatch z) ra rb (hal d hd d' hd') hd3 (room hd) hq
      · rw [kat_kind_eq, List.mapM_toArray, map_eq_pure_bind]
        refine wpAny_bind (wpAny_bind (firsts_mixed _ _ e ht fun fs hfs => wpAny_pure ?_))
        rw [if_neg (hno fs hfs), if_pos (by rw [h0 fs hfs, hn])]
        exact wpAny_pure hq
    | false =>
      refine ⟨oneType', fun E x y a b Q ha hb hq => ?_, fun h2 E Q hq => ?_⟩
      · obtain ⟨d, as, hd, ra, rfl⟩ := dataKind_inv ha
        obtain ⟨d', as', hd', rb, rfl⟩ := dataKind_inv hb
        obtain ⟨xs, rfl⟩ := ht d hd
        obtain ⟨ys, rfl⟩ := ht d' hd'
        show wpAny (model prog w) A (oneLt' true x y) Q E s
        exact oneLt_tup ra rb (hal _ hd _ hd') (room hd) hq
      · rw [kat_kind_eq, List.mapM_toArray, map_eq_pure_bind]
        refine wpAny_bind (wpAny_bind (firsts_mixed _ _ e ht fun fs hfs => wpAny_pure ?_))
        rw [if_neg (hno fs hfs), if_neg (by rw [h0 fs hfs, hn]; decide)]
        rw [oneTypeOnly'_eq, List.mapM_toArray, map_eq_pure_bind]
        refine wpAny_bind (wpAny_bind (wpAny_bind (kas_mapM (r := Value.type "tuple") _ (fun v hv Q' hq' => ?_) (wpAny_pure ?_))))
        · obtain ⟨d, hd, as, r⟩ := e.left v hv
          obtain ⟨xs, rfl⟩ := ht d hd
          exact (looks_reads (M := model prog w) r).here hq'
        · have hall : ((List.map (fun _ => Value.type "tuple") (v0 :: vs0)).toArray.all fun x => x == Value.type "tuple") = true := by
            simp only [List.all_toArray, List.all_map, List.all_eq_true]
            intro _ _
            exact beq_self_eq_true _
          have h01 : (List.map (fun _ => Value.type "tuple") (v0 :: vs0)).toArray[0]? = some (Value.type "tuple") := by simp
          rw [h01]
          simp only [hall, if_true]
          exact wpAny_pure (wpAny_pure hq)
end
/-- tuples of any length, or none is a tuple or None -/
def SortableM (ds : List PyData) : Prop := Sortable ds ∨ ((∀ d ∈ ds, ∃ xs, d = .tuple xs) ∧ PyData.tuple [] ∈ ds)
theorem SortsAt.any {prog : Program} {w : World} {A : Around} {s : Shared} {vs : List Value} {ds : List PyData} (e : EachIs (fun v d => ∃ as, Reads s.heap v d as) vs ds) (hal : AllAlike ds) (hk : SortableM ds) (hu : ∀ d, d ∈ ds → A.units + d.depth < cLine) : SortsAt prog w A s (dataKind s.heap ds) vs := by
  rcases hk with hk | ⟨h1, h2⟩
  · exact SortsAt.data e hal hk hu
  · exact SortsAt.mixed e hal h1 h2 hu
section
variable {prog : Program} {w : World} {A : Around} {E : Value → Shared → Prop} {s : Shared} {β : Type} {vs : List Value} {bs : List β} {enc : β → PyData} {R : Value → β → Prop}
theorem list_sort_dataM {a : Addr} {n : Nat} {Q : Value → Shared → Prop} (ho : s.heap.get? a = some (seqObj "list" vs.toArray n)) (e : EachIs R vs bs) (er : EachIs (fun v b => ∃ as, Reads s.heap v (enc b) as ∧ a ∉ as) vs bs) (hal : AllAlike (bs.map enc)) (hk : SortableM (bs.map enc)) (hL : bs.length ≤ sizeLine)
    (hu : ∀ b, b ∈ bs → A.units + 1 + (enc b).depth < cLine) (h : ∀ out, out.length = bs.length → EachIs R out (bs.mergeSort (dataLe false enc)) → Q .none { s with heap := sortedHeap s.heap a vs (List.toArray out) }) :
    wpAny (model prog w) A (call (.builtin "list.sort") [.ref a]) Q E s := by
  have er2 := each_keepBut (h' := sortingHeap s.heap a vs) (fun _ _ hb q => sortingHeap_old hb q) (fun o q => by rw [ho] at q; rw [← Option.some.inj q]) hal er
  have S := SortsAt.any (prog := prog) (w := w) (A := A.in1) (s := { s with heap := sortingHeap s.heap a vs }) (each_map (R := fun v d => ∃ as, Reads (sortingHeap s.heap a vs) v d as) enc er2) hal hk (bound_map (A := A.in1) hu)
  refine wpAny_call_entry slot_list_sort ⟨_, ho, rfl⟩ entry_list_sort (list_sort_vals ho S (by rw [e.length]; exact hL) ⟨.none, rfl, ?_⟩) (args_list_sort _)
  exact h _ (by rw [sortVals_length false rfl]; exact e.length) (sortVals_data false e er2 hal)
end
end PySem.W


set_option Elab.async false
set_option linter.all false
set_option maxRecDepth 100000
/-! the data of the walk: values without a heap, and what they stand for -/
namespace Z
open PySem PySem.Spec PyProof.Rows L2

inductive D where
  | non | bl (b : Bool) | int (i : Int) | str (x : Str)
  | tup (xs : List D) | lst (xs : List D) | frz (xs : List D)
  | dic (ks vs : List D) | obj (c : Str) (ns : List Str) (xs : List D)
  deriving Inhabited

mutual
def D.same : D → D → Bool
  | .non, .non => true
  | .bl a, .bl b => a == b
  | .int a, .int b => a == b
  | .str a, .str b => a == b
  | .tup a, .tup b => D.sames a b
  | .lst a, .lst b => D.sames a b
  | .frz a, .frz b => D.sames a b
  | .dic a b, .dic c d => D.sames a c && D.sames b d
  | .obj a b c, .obj a' b' c' => a == a' && b == b' && D.sames c c'
  | _, _ => false
def D.sames : List D → List D → Bool
  | [], [] => true
  | x :: xs, y :: ys => D.same x y && D.sames xs ys
  | _, _ => false
end
mutual
theorem D.same_eq : ∀ (a b : D), D.same a b = true → a = b
  | .non, b, h => by cases b <;> simp_all [D.same]
  | .bl _, b, h => by cases b <;> simp_all [D.same]
  | .int _, b, h => by cases b <;> simp_all [D.same]
  | .str _, b, h => by cases b <;> simp_all [D.same]
  | .tup x, b, h => by
    cases b <;> simp only [D.same, Bool.false_eq_true] at h
    rw [D.sames_eq _ _ h]
  | .lst x, b, h => by
    cases b <;> simp only [D.same, Bool.false_eq_true] at h
    rw [D.sames_eq _ _ h]
  | .frz x, b, h => by
    cases b <;> simp only [D.same, Bool.false_eq_true] at h
    rw [D.sames_eq _ _ h]
  | .dic x y, b, h => by
    cases b <;> simp only [D.same, Bool.false_eq_true, Bool.and_eq_true] at h
    rw [D.sames_eq _ _ h.1, D.sames_eq _ _ h.2]
  | .obj x y z, b, h => by
    cases b <;> simp only [D.same, Bool.false_eq_true, Bool.and_eq_true, beq_iff_eq] at h
    rw [D.sames_eq _ _ h.2, h.1.1, h.1.2]
theorem D.sames_eq : ∀ (a b : List D), D.sames a b = true → a = b
  | [], b, h => by cases b <;> simp_all [D.sames]
  | x :: xs, b, h => by
    cases b <;> simp only [D.sames, Bool.false_eq_true, Bool.and_eq_true] at h
    rw [D.same_eq _ _ h.1, D.sames_eq _ _ h.2]
end
mutual
theorem D.same_self : ∀ (a : D), D.same a a = true
  | .non => rfl
  | .bl _ => by simp [D.same]
  | .int _ => by simp [D.same]
  | .str _ => by simp [D.same]
  | .tup x => by simp only [D.same]; exact D.sames_self x
  | .lst x => by simp only [D.same]; exact D.sames_self x
  | .frz x => by simp only [D.same]; exact D.sames_self x
  | .dic x y => by simp only [D.same, Bool.and_eq_true]; exact ⟨D.sames_self x, D.sames_self y⟩
  | .obj x y z => by simp only [D.same, Bool.and_eq_true, beq_self_eq_true, true_and]; exact D.sames_self z
theorem D.sames_self : ∀ (a : List D), D.sames a a = true
  | [] => rfl
  | x :: xs => by simp only [D.sames, Bool.and_eq_true]; exact ⟨D.same_self x, D.sames_self xs⟩
end
instance : DecidableEq D := fun a b =>
  if h : D.same a b = true then isTrue (D.same_eq a b h) else isFalse fun e => h (by rw [e]; exact D.same_self b)

mutual
/-- nothing in it can be changed -/
def D.imm : D → Bool
  | .tup xs => D.imms xs
  | .lst _ => false
  | .dic _ _ => false
  | .obj _ _ _ => false
  | _ => true
def D.imms : List D → Bool
  | [] => true
  | x :: xs => D.imm x && D.imms xs
end
theorem D.imms_iff : ∀ (xs : List D), D.imms xs = true ↔ ∀ x ∈ xs, D.imm x = true
  | [] => by simp [D.imms]
  | x :: xs => by simp [D.imms, D.imms_iff xs]
/-- the fragment, the world -/
structure Fw where
  K : PySem.W.Frag
  w : World
instance : Coe Fw PySem.W.Frag := ⟨Fw.K⟩
abbrev _root_.L2.Cx.F (X : Cx) : Fw := ⟨X.K, X.w⟩
/-- a list that never changes any more -/
def FzAt (K : PySem.W.Frag) (H : Hp) (a : Addr) (xs : List V) : Prop :=
  (∃ o, H a = some (.frz o (.lst xs))) ∨
    ∃ (o : Obj) (its : Array Value) (n : Nat), K.lookup a = some o ∧ o.cls = .type "list" ∧ o.dict = none ∧ o.data = .seq its n ∧ its.size ≤ sizeLine ∧ Vals xs its.toList
theorem FzAt.sq {K : PySem.W.Frag} {H : Hp} {a : Addr} {xs : List V} (h : FzAt K H a xs) : SqL K H a xs := by
  rcases h with ⟨o, h⟩ | h
  · exact .inl (.inr ⟨o, h⟩)
  · exact .inr h

/-- the dict at a has these entries -/
def DicP (a : Addr) (es : Array DictEntry) : Heap → Prop := fun h => ∃ o ep, h.get? a = some o ∧ o.ExactDict ∧ o.data = .dict es ep
def IsDic (φ : Heap → Prop) : Prop := ∃ a es, φ = DicP a es ∧ ∃ h, φ h
theorem notDic_hd {c P : Addr} : ¬ IsDic fun h => PySem.W.CodeHd h c P := by
  rintro ⟨a, es, e, h, x⟩
  have x' : DicP a es h := by rw [← e]; exact x
  obtain ⟨o, ep, ha, hx, hd⟩ := x'
  by_cases hac : @Eq Nat c a
  · have hac : c = a := hac
    subst hac
    obtain ⟨o2, vs, file, tf, flags, tg, inF, text, tt, e2, e3, _⟩ := x
    rw [ha] at e2
    cases e2
    rw [hx.1] at e3
    injection e3 with e3
    exact absurd e3 (by decide)
  · have g : ({ h with objs := h.objs.setIfInBounds a { cls := .none, data := .freed } } : Heap).get? a = none := by
      have hl := Heap.lt_size ha
      simp only [Heap.get?]
      rw [Array.getElem?_setIfInBounds_self_of_lt hl]
    have g2 : ({ h with objs := h.objs.setIfInBounds a { cls := .none, data := .freed } } : Heap).get? c = h.get? c := by
      simp only [Heap.get?]
      rw [Array.getElem?_setIfInBounds_ne (fun z => hac (by have z : @Eq Nat a c := z; exact z.symm))]
    obtain ⟨o2, vs, file, tf, flags, tg, inF, text, tt, e2, r⟩ := x
    have y : PySem.W.CodeHd ({ h with objs := h.objs.setIfInBounds a { cls := .none, data := .freed } } : Heap) c P := ⟨o2, vs, file, tf, flags, tg, inF, text, tt, g2.trans e2, r⟩
    have y' : DicP a es ({ h with objs := h.objs.setIfInBounds a { cls := .none, data := .freed } } : Heap) := by rw [← e]; exact y
    obtain ⟨_, _, e4, _⟩ := y'
    rw [g] at e4; cases e4
mutual
/-- a datum as a key -/
def dNK : D → NestedKey
  | .int i => .num i
  | .str x => .text x
  | .bl b => .num (if b = true then 1 else 0)
  | .tup xs => .tup (dNKs xs)
  | _ => .none
def dNKs : List D → List NestedKey
  | [] => []
  | x :: xs => dNK x :: dNKs xs
end
/-- the entries of a dict -/
def Ents (w : World) : List D → List V → List V → List DictEntry → Prop
  | [], [], [], [] => True
  | k :: ks, kv :: kvs, vv :: vvs, e :: es => e.hash = (dNK k).hash w ∧ RelV kv e.key ∧ RelV vv e.val ∧ Ents w ks kvs vvs es
  | _, _, _, _ => False
/-- a text as the model's data have it -/
def StrOk (x : Str) : Prop := x.length ≤ sizeLine ∧ PyData.strOk x = true
mutual
/-- v stands for the datum; the addresses that are its alone -/
def Rep (K : Fw) (H : Hp) : D → V → List Addr → Prop
  | .non, v, o => v = .non ∧ o = []
  | .bl b, v, o => v = .bl b ∧ o = []
  | .int i, v, o => v = .int i ∧ o = []
  | .str x, v, o => v = .str x ∧ StrOk x ∧ o = []
  | .tup xs, v, o => ∃ a vs, v = .ref a ∧ SqT K H a vs ∧ Reps K H xs vs o
  | .lst xs, v, o => ∃ a vs o', v = .ref a ∧ H a = some (.lst vs) ∧ Reps K H xs vs o' ∧ o = a :: o'
  | .frz xs, v, o => ∃ a vs, v = .ref a ∧ FzAt K H a vs ∧ Reps K H xs vs [] ∧ o = []
  | .dic ks vs, v, o => ∃ a kvs vvs es, v = .ref a ∧ H a = some (.ext (DicP a es)) ∧ IsDic (DicP a es) ∧ (a == sysModules) = false ∧ (ks.Nodup ∧ ks.length ≤ sizeLine) ∧ Reps K H ks kvs [] ∧ Reps K H vs vvs [] ∧ Ents K.w ks kvs vvs es.toList ∧ o = [a]
  | .obj c ns xs, v, o => ∃ a dx vs o', v = .ref a ∧ H a = some (.ins (He.ga K.K c) dx (ns.zip vs)) ∧ ns.length = xs.length ∧ Reps K H xs vs o' ∧ o = a :: o'
def Reps (K : Fw) (H : Hp) : List D → List V → List Addr → Prop
  | [], vs, o => vs = [] ∧ o = []
  | x :: xs, vs, o => ∃ v vr o1 o2, vs = v :: vr ∧ Rep K H x v o1 ∧ Reps K H xs vr o2 ∧ o = o1 ++ o2
end

/-- a code object's table: its codes are tracked, and so are their tables -/
inductive GoodT (H : Hp) : Addr → Prop
  | mk (P : Addr) (ps : Array Value) (cf pf : Pos → Addr) (e : H P = some (.tbl ps)) (t : TriplesOk ps.toList)
      (k : ∀ pos cv, codeAmong pos ps.toList = some cv → cv = .ref (cf pos) ∧ H (cf pos) = some (.ext fun h => PySem.W.CodeHd h (cf pos) (pf pos)))
      (g : ∀ pos cv, codeAmong pos ps.toList = some cv → GoodT H (pf pos)) : GoodT H P
theorem GoodT.mono {H H' : Hp} (k : ∀ a u, H a = some u → ((∃ ps, u = .tbl ps) ∨ ∃ φ, u = .ext φ ∧ ¬ IsDic φ) → H' a = some u) {P : Addr} (g : GoodT H P) : GoodT H' P := by
  induction g with
  | mk P ps cf pf e t kk _ ih => exact .mk P ps cf pf (k _ _ e (.inl ⟨_, rfl⟩)) t (fun pos cv h => ⟨(kk pos cv h).1, k _ _ (kk pos cv h).2 (.inr ⟨_, rfl, notDic_hd⟩)⟩) ih
/-- the fragment; the code object that runs -/
structure Kx where
  K : Fw
  cv : Value
abbrev kx (X : Cx) : Kx := ⟨X.F, X.env.code⟩
/-- the code object cv is one whose table is good -/
def CodeNow (K : PySem.W.Frag) (cv : Value) (H : Hp) : Prop := ∀ c, cv = .ref c → ∃ P, (PySem.W.codeHdIn K c P = true ∨ H c = some (.ext fun h => PySem.W.CodeHd h c P)) ∧ GoodT H P
/-- the tables of all code objects of the fragment, and of the one that runs -/
def Tabs (κ : Kx) (H : Hp) : Prop := (∀ c P, PySem.W.codeHdIn κ.K c P = true → GoodT H P) ∧ CodeNow κ.K κ.cv H
def Nt (u : HO) : Prop := ∀ ps, u ≠ .tbl ps
/-- what is shared never changes -/
def Sh : HO → Prop
  | .tup _ => True
  | .frz _ _ => True
  | .ext φ => ¬ IsDic φ
  | _ => False
/-- what one may own -/
def Ow (u : HO) : Prop := ¬ Sh u ∧ Nt u
theorem ow_lst {vs : List V} : Ow (.lst vs) := ⟨fun z => z, fun _ z => nomatch z⟩
theorem ow_ins {C dx : Addr} {fs : List (Str × V)} : Ow (.ins C dx fs) := ⟨fun z => z, fun _ z => nomatch z⟩
theorem ow_dic {φ : Heap → Prop} (h : IsDic φ) : Ow (.ext φ) := ⟨fun z => z h, fun _ z => nomatch z⟩
/-- from H to H' what stands at o and what is shared is kept -/
structure Fr (H H' : Hp) (o : List Addr) : Prop where
  left : ∀ a ∈ o, H' a = H a
  right : ∀ a u, H a = some u → Sh u → H' a = some u
  tab : ∀ P, GoodT H P → GoodT H' P
theorem Fr.sub {H H' : Hp} {o o' : List Addr} (h : Fr H H' o) (s : ∀ a ∈ o', a ∈ o) : Fr H H' o' := ⟨fun a ha => h.left a (s a ha), h.right, h.tab⟩
theorem Fr.rfl {H : Hp} {o : List Addr} : Fr H H o := ⟨fun _ _ => Eq.refl _, fun _ _ e _ => e, fun _ g => g⟩
/-- as much of it as a value needs -/
structure Fr0 (H H' : Hp) (o : List Addr) : Prop where
  left : ∀ a ∈ o, H' a = H a
  right : ∀ a u, H a = some u → Sh u → H' a = some u
theorem Fr0.sub {H H' : Hp} {o o' : List Addr} (h : Fr0 H H' o) (s : ∀ a ∈ o', a ∈ o) : Fr0 H H' o' := ⟨fun a ha => h.left a (s a ha), h.right⟩
theorem Fr.f0 {H H' : Hp} {o : List Addr} (h : Fr H H' o) : Fr0 H H' o := ⟨h.left, h.right⟩
instance {H H' : Hp} {o : List Addr} : Coe (Fr H H' o) (Fr0 H H' o) := ⟨Fr.f0⟩
theorem Sh.nt {u : HO} (h : Sh u) : Nt u := fun ps e => by rw [e] at h; exact h
section
variable {K : Fw} {κ : Kx} {H H' : Hp}
theorem Fr0.sqt {o : List Addr} {a : Addr} {vs : List V} (h : Fr0 H H' o) (q : SqT K H a vs) : SqT K H' a vs := by
  rcases q with (q | ⟨ob, q⟩) | q
  · exact .inl (.inl (h.right _ _ q trivial))
  · exact .inl (.inr ⟨ob, h.right _ _ q trivial⟩)
  · exact .inr q
theorem Fr0.fz {o : List Addr} {a : Addr} {vs : List V} (h : Fr0 H H' o) (q : FzAt K H a vs) : FzAt K H' a vs := by
  rcases q with ⟨ob, q⟩ | q
  · exact .inl ⟨ob, h.right _ _ q trivial⟩
  · exact .inr q
mutual
theorem Rep.fr : ∀ {d : D} {v : V} {o : List Addr}, Rep K H d v o → Fr0 H H' o → Rep K H' d v o
  | .non, _, _, h, f => h
  | .bl _, _, _, h, f => h
  | .int _, _, _, h, f => h
  | .str _, _, _, h, f => h
  | .tup xs, v, o, h, f => by
    obtain ⟨a, vs, e, q, r⟩ := h
    exact ⟨a, vs, e, f.sqt q, Reps.fr r f⟩
  | .lst xs, v, o, h, f => by
    obtain ⟨a, vs, o', e, q, r, rfl⟩ := h
    exact ⟨a, vs, o', e, (f.left a List.mem_cons_self).trans q, Reps.fr r (f.sub fun b hb => List.mem_cons_of_mem _ hb), rfl⟩
  | .frz xs, v, o, h, f => by
    obtain ⟨a, vs, e, q, r, rfl⟩ := h
    exact ⟨a, vs, e, f.fz q, Reps.fr r f, rfl⟩
  | .dic ks vs, v, o, h, f => by
    obtain ⟨a, kvs, vvs, es, e, q, hd, hs, hn, rk, rv, en, rfl⟩ := h
    exact ⟨a, kvs, vvs, es, e, (f.left a List.mem_cons_self).trans q, hd, hs, hn, Reps.fr rk (f.sub fun b hb => nomatch hb), Reps.fr rv (f.sub fun b hb => nomatch hb), en, rfl⟩
  | .obj c ns xs, v, o, h, f => by
    obtain ⟨a, dx, vs, o', e, q, hl, r, rfl⟩ := h
    exact ⟨a, dx, vs, o', e, (f.left a List.mem_cons_self).trans q, hl, Reps.fr r (f.sub fun b hb => List.mem_cons_of_mem _ hb), rfl⟩
theorem Reps.fr : ∀ {xs : List D} {vs : List V} {o : List Addr}, Reps K H xs vs o → Fr0 H H' o → Reps K H' xs vs o
  | [], _, _, h, f => h
  | x :: xs, _, _, h, f => by
    obtain ⟨v, vr, o1, o2, e, h1, h2, rfl⟩ := h
    exact ⟨v, vr, o1, o2, e, Rep.fr h1 (f.sub fun b hb => List.mem_append_left _ hb), Reps.fr h2 (f.sub fun b hb => List.mem_append_right _ hb), rfl⟩
end
mutual
theorem Rep.own : ∀ {d : D} {v : V} {o : List Addr}, Rep K H d v o → ∀ a ∈ o, ∃ u, H a = some u ∧ Ow u
  | .non, _, _, h, a, ha => by rw [h.2] at ha; cases ha
  | .bl _, _, _, h, a, ha => by rw [h.2] at ha; cases ha
  | .int _, _, _, h, a, ha => by rw [h.2] at ha; cases ha
  | .str _, _, _, h, a, ha => by rw [h.2.2] at ha; cases ha
  | .tup xs, v, o, h, b, hb => by
    obtain ⟨a, vs, e, q, r⟩ := h
    exact Reps.own r b hb
  | .lst xs, v, o, h, b, hb => by
    obtain ⟨a, vs, o', e, q, r, rfl⟩ := h
    rcases List.mem_cons.mp hb with rfl | hb
    · exact ⟨_, q, ow_lst⟩
    · exact Reps.own r b hb
  | .frz xs, v, o, h, b, hb => by
    obtain ⟨a, vs, e, q, r, rfl⟩ := h
    cases hb
  | .dic ks vs, v, o, h, b, hb => by
    obtain ⟨a, kvs, vvs, es, e, q, hd, hs, hn, rk, rv, en, rfl⟩ := h
    cases List.mem_singleton.mp hb
    exact ⟨_, q, ow_dic hd⟩
  | .obj c ns xs, v, o, h, b, hb => by
    obtain ⟨a, dx, vs, o', rfl, q, hl, r, rfl⟩ := h
    rcases List.mem_cons.mp hb with rfl | hb
    · exact ⟨_, q, ow_ins⟩
    · exact Reps.own r b hb
theorem Reps.own : ∀ {xs : List D} {vs : List V} {o : List Addr}, Reps K H xs vs o → ∀ a ∈ o, ∃ u, H a = some u ∧ Ow u
  | [], _, _, h, a, ha => by rw [h.2] at ha; cases ha
  | x :: xs, _, _, h, a, ha => by
    obtain ⟨v, vr, o1, o2, e, h1, h2, rfl⟩ := h
    rcases List.mem_append.mp ha with ha | ha
    · exact Rep.own h1 a ha
    · exact Reps.own h2 a ha
end
mutual
theorem Rep.imm : ∀ {d : D} {v : V} {o : List Addr}, Rep K H d v o → d.imm = true → o = []
  | .non, _, _, h, _ => h.2
  | .bl _, _, _, h, _ => h.2
  | .int _, _, _, h, _ => h.2
  | .str _, _, _, h, _ => h.2.2
  | .tup xs, v, o, h, i => by
    obtain ⟨a, vs, e, q, r⟩ := h
    exact Reps.imm r i
  | .lst xs, v, o, h, i => by simp [D.imm] at i
  | .frz xs, v, o, h, i => by
    obtain ⟨a, vs, e, q, r, rfl⟩ := h
    rfl
  | .dic _ _, _, _, h, i => by simp [D.imm] at i
  | .obj _ _ _, _, _, h, i => by simp [D.imm] at i
theorem Reps.imm : ∀ {xs : List D} {vs : List V} {o : List Addr}, Reps K H xs vs o → D.imms xs = true → o = []
  | [], _, _, h, _ => h.2
  | x :: xs, _, _, h, i => by
    obtain ⟨v, vr, o1, o2, e, h1, h2, rfl⟩ := h
    simp only [D.imms, Bool.and_eq_true] at i
    rw [Rep.imm h1 i.1, Reps.imm h2 i.2]
    rfl
end
theorem Reps.length : ∀ {xs : List D} {vs : List V} {o : List Addr}, Reps K H xs vs o → vs.length = xs.length
  | [], _, _, h => by rw [h.1]; rfl
  | x :: xs, _, _, h => by
    obtain ⟨v, vr, o1, o2, rfl, h1, h2, rfl⟩ := h
    simp [Reps.length h2]
theorem Reps.append : ∀ {xs ys : List D} {vs ws : List V} {o o' : List Addr}, Reps K H xs vs o → Reps K H ys ws o' → Reps K H (xs ++ ys) (vs ++ ws) (o ++ o')
  | [], _, _, _, _, _, h, h' => by rw [h.1, h.2]; exact h'
  | x :: xs, _, _, _, _, _, h, h' => by
    obtain ⟨v, vr, o1, o2, rfl, h1, h2, rfl⟩ := h
    exact ⟨v, vr ++ _, o1, o2 ++ _, rfl, h1, Reps.append h2 h', by rw [List.append_assoc]⟩
theorem Reps.one {d : D} {v : V} {o : List Addr} (h : Rep K H d v o) : Reps K H [d] [v] o := ⟨v, [], o, [], rfl, h, ⟨rfl, rfl⟩, by simp⟩
/-- the item at a place, and another in its stead -/
theorem Reps.at : ∀ {xs : List D} {vs : List V} {o : List Addr} {i : Nat} {d : D}, Reps K H xs vs o → xs[i]? = some d →
    ∃ v oa o1 ob, vs[i]? = some v ∧ Rep K H d v o1 ∧ o = oa ++ o1 ++ ob ∧
      ∀ H' d' v' o1', Rep K H' d' v' o1' → Fr0 H H' (oa ++ ob) → Reps K H' (xs.set i d') (vs.set i v') (oa ++ o1' ++ ob)
  | [], _, _, _, _, h, e => by simp at e
  | x :: xs, _, _, 0, d, h, e => by
    obtain ⟨v, vr, o1, o2, rfl, h1, h2, rfl⟩ := h
    cases (Option.some.inj e : x = d)
    refine ⟨v, [], o1, o2, rfl, h1, by simp, fun H' d' v' o1' h' f => ?_⟩
    exact ⟨v', vr, o1', o2, rfl, h', h2.fr (f.sub (by simp)), by simp⟩
  | x :: xs, _, _, i + 1, d, h, e => by
    obtain ⟨v, vr, o1, o2, rfl, h1, h2, rfl⟩ := h
    obtain ⟨w, oa, oi, ob, e1, r, rfl, k⟩ := Reps.at (i := i) h2 (by simpa using e)
    refine ⟨w, o1 ++ oa, oi, ob, by simpa using e1, r, by simp, fun H' d' v' o1' h' f => ?_⟩
    refine ⟨v, vr.set i v', o1, oa ++ o1' ++ ob, rfl, h1.fr (f.sub (by simp +contextual)), k H' d' v' o1' h' (f.sub ?_), by simp⟩
    intro a ha
    rcases List.mem_append.mp ha with ha | ha <;> simp [ha]
theorem Reps.get {xs : List D} {vs : List V} {o : List Addr} {i : Nat} {d : D} (h : Reps K H xs vs o) (e : xs[i]? = some d) : ∃ v o1, vs[i]? = some v ∧ Rep K H d v o1 ∧ ∀ a ∈ o1, a ∈ o := by
  obtain ⟨v, oa, o1, ob, e1, r, rfl, _⟩ := h.at e
  exact ⟨v, o1, e1, r, fun a ha => by simp [ha]⟩
theorem Reps.take : ∀ {xs : List D} {vs : List V} (n : Nat), Reps K H xs vs [] → Reps K H (xs.take n) (vs.take n) []
  | xs, _, 0, h => ⟨rfl, rfl⟩
  | [], _, n + 1, h => by rw [h.1]; exact ⟨rfl, rfl⟩
  | x :: xs, _, n + 1, h => by
    obtain ⟨v, vr, o1, o2, rfl, h1, h2, e⟩ := h
    obtain ⟨rfl, rfl⟩ := List.append_eq_nil_iff.mp e.symm
    exact ⟨v, _, [], [], rfl, h1, Reps.take n h2, rfl⟩
theorem Reps.drop : ∀ {xs : List D} {vs : List V} (n : Nat), Reps K H xs vs [] → Reps K H (xs.drop n) (vs.drop n) []
  | xs, _, 0, h => h
  | [], _, n + 1, h => by rw [h.1]; exact ⟨rfl, rfl⟩
  | x :: xs, _, n + 1, h => by
    obtain ⟨v, vr, o1, o2, rfl, h1, h2, e⟩ := h
    obtain ⟨rfl, rfl⟩ := List.append_eq_nil_iff.mp e.symm
    exact Reps.drop n h2
end

/-! ### steps of the heap -/
/-- from H to H': what is not at W is kept; what is tracked stays tracked -/
structure Step (H H' : Hp) (W : List Addr) : Prop where
  keep : ∀ a u, H a = some u → a ∉ W → Nt u → H' a = some u
  dom : ∀ a, H' a = none → H a = none
  tab : ∀ P, GoodT H P → GoodT H' P
theorem Step.refl (H : Hp) (W : List Addr) : Step H H W := ⟨fun _ _ h _ _ => h, fun _ h => h, fun _ g => g⟩
/-- what is newly owned: from o or fresh -/
def Own (H : Hp) (o o' : List Addr) : Prop := ∀ a, o'.count a ≤ o.count a ∨ (H a = none ∧ o'.count a ≤ 1)
def Nd (o : List Addr) : Prop := ∀ a, o.count a ≤ 1
theorem Own.refl (H : Hp) (o : List Addr) : Own H o o := fun _ => .inl (Nat.le_refl _)
theorem Step.trans {H H1 H2 : Hp} {o o1 : List Addr} (s : Step H H1 o) (w : Own H o o1) (t : Step H1 H2 o1) : Step H H2 o where
  tab P g := t.tab P (s.tab P g)
  keep a u e h hn := by
    refine t.keep a u (s.keep a u e h hn) (fun hm => ?_) hn
    rcases w a with w | ⟨w, _⟩
    · have h1 : 0 < o1.count a := List.count_pos_iff.mpr hm
      have h2 : o.count a = 0 := List.count_eq_zero.mpr h
      omega
    · rw [e] at w; cases w
  dom a h := s.dom a (t.dom a h)
theorem Own.trans {H H1 : Hp} {o o1 o2 : List Addr} {W : List Addr} (w1 : Own H o o1) (s : Step H H1 W) (w2 : Own H1 o1 o2) : Own H o o2 := fun a => by
  rcases w2 a with w | ⟨w, q⟩
  · rcases w1 a with z | ⟨z, q⟩
    · exact .inl (Nat.le_trans w z)
    · exact .inr ⟨z, Nat.le_trans w q⟩
  · exact .inr ⟨s.dom a w, q⟩
theorem Own.sub {H : Hp} {o o1 o2 : List Addr} (w : Own H o o1) (h : ∀ a, o2.count a ≤ o1.count a) : Own H o o2 := fun a => by
  rcases w a with z | ⟨z, q⟩
  · exact .inl (Nat.le_trans (h a) z)
  · exact .inr ⟨z, Nat.le_trans (h a) q⟩
theorem Own.nd {H : Hp} {o o' : List Addr} (w : Own H o o') (n : Nd o) : Nd o' := fun a => by
  rcases w a with z | ⟨_, q⟩
  · exact Nat.le_trans z (n a)
  · exact q
/-- all that was tracked is as it was -/
theorem Step.of_same {H H' : Hp} (W : List Addr) (h : ∀ a u, H a = some u → H' a = some u) : Step H H' W :=
  ⟨fun a u e _ _ => h a u e, fun a e => by
    cases q : H a with
    | none => rfl
    | some u => (rw [h a u q] at e; cases e), fun P g => GoodT.mono (fun a u e _ => h a u e) g⟩
theorem Step.new {H : Hp} {p : Addr} {u : HO} {W : List Addr} (h : H p = none) : Step H (upd H p u) W := Step.of_same W fun a v e => by
  rw [upd_ne (ne_of_none e h)]; exact e
theorem Step.writeO {H : Hp} {p : Addr} {u u0 : HO} {W : List Addr} (h : H p = some u0) (ow : Ow u0) (hp : p ∈ W) : Step H (upd H p u) W where
  tab P g := g.mono fun a w e hw => by
    have : a ≠ p := fun z => by
      rw [z, h] at e; cases e
      rcases hw with ⟨ps, hw⟩ | ⟨φ, hw, hn⟩
      · exact ow.2 ps hw
      · rw [hw] at ow; exact ow.1 hn
    rw [upd_ne this]; exact e
  keep a w e hn _ := by rw [upd_ne (show a ≠ p from fun z => hn (z ▸ hp))]; exact e
  dom a e := by
    by_cases z : a = p
    · subst z; rw [upd_same] at e; cases e
    · rw [upd_ne z] at e; exact e
theorem Step.write {H : Hp} {p : Addr} {u : HO} {vs : List V} {W : List Addr} (h : H p = some (.lst vs)) (hp : p ∈ W) : Step H (upd H p u) W := Step.writeO h ow_lst hp
/-- what is not at W is framed -/
theorem Step.fr {H H' : Hp} {W o : List Addr} (s : Step H H' W) (hW : ∀ a ∈ W, ∃ u, H a = some u ∧ ¬ Sh u) (ho : ∀ a ∈ o, ∃ u, H a = some u ∧ Ow u) (hd : ∀ a ∈ o, a ∉ W) : Fr H H' o where
  tab := s.tab
  left a ha := by
    obtain ⟨u, e, hu⟩ := ho a ha
    rw [e]
    exact s.keep a _ e (hd a ha) hu.2
  right a u e hs := s.keep a u e (fun hm => by
    obtain ⟨v, e2, hn⟩ := hW a hm
    rw [e] at e2; cases e2
    exact hn hs) hs.nt
theorem nd_split {o o' : List Addr} (n : Nd (o ++ o')) : ∀ a ∈ o, a ∉ o' := fun a h1 h2 => by
  have h := n a
  rw [List.count_append] at h
  have h3 : 0 < o.count a := List.count_pos_iff.mpr h1
  have h4 : 0 < o'.count a := List.count_pos_iff.mpr h2
  omega
/-- owned by the frame that steps, or by something beside it -/
theorem Rep.step {K : Fw} {H H' : Hp} {d : D} {v : V} {ov o : List Addr} (r : Rep K H d v ov) (s : Step H H' o) (ho : ∀ a ∈ o, ∃ u, H a = some u ∧ ¬ Sh u) (n : ∀ a ∈ ov, a ∉ o) : Rep K H' d v ov :=
  r.fr (s.fr ho r.own n)
theorem Reps.step {K : Fw} {H H' : Hp} {d : List D} {v : List V} {ov o : List Addr} (r : Reps K H d v ov) (s : Step H H' o) (ho : ∀ a ∈ o, ∃ u, H a = some u ∧ ¬ Sh u) (n : ∀ a ∈ ov, a ∉ o) : Reps K H' d v ov :=
  r.fr (s.fr ho r.own n)

theorem Tabs.fr {κ : Kx} {H H' : Hp} {o : List Addr} (h : Tabs κ H) (f : Fr H H' o) : Tabs κ H' := ⟨fun c P e => f.tab P (h.1 c P e), fun c e => by
  obtain ⟨P, z, g⟩ := h.2 c e
  exact ⟨P, z.imp id fun e => f.right _ _ e notDic_hd, f.tab P g⟩⟩
theorem Tabs.step {κ : Kx} {H H' : Hp} {W : List Addr} (h : Tabs κ H) (s : Step H H' W) (hW : ∀ a ∈ W, ∃ u, H a = some u ∧ ¬ Sh u) : Tabs κ H' := ⟨fun c P e => s.tab P (h.1 c P e), fun c e => by
  obtain ⟨P, z, g⟩ := h.2 c e
  refine ⟨P, z.imp id fun e => s.keep _ _ e (fun hm => ?_) (fun _ z => nomatch z), s.tab P g⟩
  obtain ⟨u, e2, n⟩ := hW _ hm
  rw [e] at e2; cases e2; exact n notDic_hd⟩
theorem Tabs.bare {κ : Kx} {H : Hp} (h : Tabs κ H) : Tabs ⟨κ.K, .none⟩ H := ⟨h.1, fun c e => nomatch e⟩
/-! ### the names of a def -/
abbrev DE := List (Option D)
def Envs (κ : Kx) (H : Hp) : List (Option V) → DE → List Addr → Prop
  | [], [], o => o = [] ∧ Tabs κ H
  | _ :: σ, none :: δ, o => Envs κ H σ δ o
  | some v :: σ, some d :: δ, o => ∃ o1 o2, Rep κ.K H d v o1 ∧ Envs κ H σ δ o2 ∧ o = o1 ++ o2
  | _, _, _ => False
section
variable {K : Fw} {κ : Kx} {H H' : Hp}
theorem Envs.length : ∀ {σ : List (Option V)} {δ : DE} {o : List Addr}, Envs κ H σ δ o → σ.length = δ.length
  | [], [], _, _ => rfl
  | none :: σ, none :: δ, _, h => congrArg (· + 1) (Envs.length (σ := σ) (δ := δ) h)
  | some _ :: σ, none :: δ, _, h => congrArg (· + 1) (Envs.length (σ := σ) (δ := δ) h)
  | some v :: σ, some d :: δ, _, h => by
    obtain ⟨o1, o2, _, h2, _⟩ := h
    exact congrArg (· + 1) (Envs.length h2)
  | none :: σ, some d :: δ, _, h => h.elim
  | [], _ :: _, _, h => by simp [Envs] at h
  | _ :: _, [], _, h => by simp [Envs] at h
theorem Envs.own : ∀ {σ : List (Option V)} {δ : DE} {o : List Addr}, Envs κ H σ δ o → ∀ a ∈ o, ∃ u, H a = some u ∧ Ow u
  | [], [], o, h, a, ha => by rw [h.1] at ha; cases ha
  | none :: σ, none :: δ, _, h, a, ha => Envs.own (σ := σ) (δ := δ) h a ha
  | some _ :: σ, none :: δ, _, h, a, ha => Envs.own (σ := σ) (δ := δ) h a ha
  | some v :: σ, some d :: δ, _, h, a, ha => by
    obtain ⟨o1, o2, h1, h2, rfl⟩ := h
    rcases List.mem_append.mp ha with ha | ha
    · exact h1.own a ha
    · exact Envs.own h2 a ha
  | none :: σ, some d :: δ, _, h, _, _ => h.elim
  | [], _ :: _, _, h, _, _ => by simp [Envs] at h
  | _ :: _, [], _, h, _, _ => by simp [Envs] at h
theorem Envs.ok {σ : List (Option V)} {δ : DE} {o : List Addr} (h : Envs κ H σ δ o) : ∀ a ∈ o, ∃ u, H a = some u ∧ ¬ Sh u := fun a ha => by
  obtain ⟨u, e, hu⟩ := h.own a ha
  exact ⟨_, e, hu.1⟩
theorem Envs.fr : ∀ {σ : List (Option V)} {δ : DE} {o : List Addr}, Envs κ H σ δ o → Fr H H' o → Envs κ H' σ δ o
  | [], [], _, h, f => ⟨h.1, h.2.fr f⟩
  | none :: σ, none :: δ, _, h, f => Envs.fr (σ := σ) (δ := δ) h f
  | some _ :: σ, none :: δ, _, h, f => Envs.fr (σ := σ) (δ := δ) h f
  | some v :: σ, some d :: δ, _, h, f => by
    obtain ⟨o1, o2, h1, h2, rfl⟩ := h
    exact ⟨o1, o2, h1.fr (f.f0.sub fun a ha => List.mem_append_left _ ha), Envs.fr h2 (f.sub fun a ha => List.mem_append_right _ ha), rfl⟩
  | none :: σ, some d :: δ, _, h, _ => h.elim
  | [], _ :: _, _, h, _ => by simp [Envs] at h
  | _ :: _, [], _, h, _ => by simp [Envs] at h
theorem Envs.tabs : ∀ {σ : List (Option V)} {δ : DE} {o : List Addr}, Envs κ H σ δ o → Tabs κ H
  | [], [], _, h => h.2
  | none :: σ, none :: δ, _, h => Envs.tabs (σ := σ) (δ := δ) h
  | some _ :: σ, none :: δ, _, h => Envs.tabs (σ := σ) (δ := δ) h
  | some v :: σ, some d :: δ, _, h => by
    obtain ⟨o1, o2, _, h2, _⟩ := h
    exact Envs.tabs h2
  | none :: σ, some d :: δ, _, h => h.elim
  | [], _ :: _, _, h => by simp [Envs] at h
  | _ :: _, [], _, h => by simp [Envs] at h
theorem Envs.bare : ∀ {σ : List (Option V)} {δ : DE} {o : List Addr}, Envs κ H σ δ o → Envs ⟨κ.K, .none⟩ H σ δ o
  | [], [], _, h => ⟨h.1, h.2.bare⟩
  | none :: σ, none :: δ, _, h => Envs.bare (σ := σ) (δ := δ) h
  | some _ :: σ, none :: δ, _, h => Envs.bare (σ := σ) (δ := δ) h
  | some v :: σ, some d :: δ, _, h => by
    obtain ⟨o1, o2, h1, h2, e⟩ := h
    exact ⟨o1, o2, h1, Envs.bare h2, e⟩
  | none :: σ, some d :: δ, _, h => h.elim
  | [], _ :: _, _, h => by simp [Envs] at h
  | _ :: _, [], _, h => by simp [Envs] at h
/-- all that was tracked is kept -/
theorem Envs.same {σ : List (Option V)} {δ : DE} {o : List Addr} (h : Envs κ H σ δ o) (k : ∀ a u, H a = some u → H' a = some u) : Envs κ H' σ δ o :=
  h.fr ⟨fun a ha => by obtain ⟨u, e, _⟩ := h.own a ha; rw [e]; exact k _ _ e, fun a u e _ => k a u e, fun P g => g.mono fun a u e _ => k a u e⟩
/-- the datum at a slot; another in its stead (the value there stays) -/
theorem Envs.at : ∀ {σ : List (Option V)} {δ : DE} {o : List Addr} {i : Nat} {d : D}, Envs κ H σ δ o → δ[i]? = some (some d) →
    ∃ v oa o1 ob, σ[i]? = some (some v) ∧ Rep κ.K H d v o1 ∧ o = oa ++ o1 ++ ob ∧
      (∀ H' d' o1', Rep κ.K H' d' v o1' → Fr H H' (oa ++ ob) → Envs κ H' σ (δ.set i (some d')) (oa ++ o1' ++ ob)) ∧
      (∀ H', Fr H H' (oa ++ ob) → Envs κ H' σ (δ.set i none) (oa ++ ob))
  | [], [], _, _, _, h, e => by simp at e
  | none :: σ, none :: δ, _, 0, _, h, e => by simp at e
  | some _ :: σ, none :: δ, _, 0, _, h, e => by simp at e
  | none :: σ, none :: δ, o, i + 1, d, h, e => by
    obtain ⟨v, oa, o1, ob, e1, r, rfl, k, k'⟩ := Envs.at (σ := σ) (δ := δ) (i := i) (d := d) h (by simpa using e)
    exact ⟨v, oa, o1, ob, by simpa using e1, r, rfl, k, k'⟩
  | some _ :: σ, none :: δ, o, i + 1, d, h, e => by
    obtain ⟨v, oa, o1, ob, e1, r, rfl, k, k'⟩ := Envs.at (σ := σ) (δ := δ) (i := i) (d := d) h (by simpa using e)
    exact ⟨v, oa, o1, ob, by simpa using e1, r, rfl, k, k'⟩
  | some v :: σ, some d0 :: δ, o, 0, d, h, e => by
    obtain ⟨o1, o2, h1, h2, rfl⟩ := h
    cases (Option.some.inj (Option.some.inj e) : d0 = d)
    refine ⟨v, [], o1, o2, rfl, h1, by simp, fun H' d' o1' h' f => ⟨o1', o2, h', h2.fr (f.sub (by simp)), by simp⟩, fun H' f => ?_⟩
    show Envs κ H' σ δ _
    simpa using h2.fr (f.sub (by simp))
  | some v0 :: σ, some d0 :: δ, o, i + 1, d, h, e => by
    obtain ⟨p1, p2, h1, h2, rfl⟩ := h
    obtain ⟨v, oa, o1, ob, e1, r, rfl, k, k'⟩ := Envs.at (σ := σ) (δ := δ) (i := i) (d := d) h2 (by simpa using e)
    refine ⟨v, p1 ++ oa, o1, ob, by simpa using e1, r, by simp, fun H' d' o1' h' f => ?_, fun H' f => ?_⟩
    · exact ⟨p1, oa ++ o1' ++ ob, h1.fr (f.f0.sub (by simp +contextual)), k H' d' o1' h' (f.sub fun a ha => by rcases List.mem_append.mp ha with ha | ha <;> simp [ha]), by simp⟩
    · exact ⟨p1, oa ++ ob, h1.fr (f.f0.sub (by simp +contextual)), k' H' (f.sub fun a ha => by rcases List.mem_append.mp ha with ha | ha <;> simp [ha]), by simp⟩
  | none :: σ, some d :: δ, _, _, _, h, _ => h.elim
  | [], _ :: _, _, _, _, h, _ => by simp [Envs] at h
  | _ :: _, [], _, _, _, h, _ => by simp [Envs] at h
/-- a name is stored: what it had is let go -/
theorem Envs.set : ∀ {σ : List (Option V)} {δ : DE} {o : List Addr} (i : Nat) {d : D} {v : V} {o' : List Addr}, Envs κ H σ δ o → Rep κ.K H d v o' → i < δ.length →
    ∃ o2, Envs κ H (σ.set i (some v)) (δ.set i (some d)) o2 ∧ ∀ a, o2.count a ≤ o.count a + o'.count a
  | [], [], _, _, _, _, _, h, _, hi => by simp at hi
  | s :: σ, none :: δ, o, 0, d, v, o', h, r, hi => by
    have h : Envs κ H σ δ o := by cases s <;> exact h
    exact ⟨o' ++ o, ⟨o', o, r, h, rfl⟩, fun a => by rw [List.count_append]; omega⟩
  | some w :: σ, some d0 :: δ, o, 0, d, v, o', h, r, hi => by
    obtain ⟨p1, p2, h1, h2, rfl⟩ := h
    exact ⟨o' ++ p2, ⟨o', p2, r, h2, rfl⟩, fun a => by rw [List.count_append, List.count_append]; omega⟩
  | s :: σ, none :: δ, o, i + 1, d, v, o', h, r, hi => by
    have h : Envs κ H σ δ o := by cases s <;> exact h
    obtain ⟨o2, q, c⟩ := Envs.set i h r (by simpa using hi)
    refine ⟨o2, ?_, c⟩
    cases s <;> exact q
  | some w :: σ, some d0 :: δ, o, i + 1, d, v, o', h, r, hi => by
    obtain ⟨p1, p2, h1, h2, rfl⟩ := h
    obtain ⟨o2, q, c⟩ := Envs.set i h2 r (by simpa using hi)
    exact ⟨p1 ++ o2, ⟨p1, o2, h1, q, rfl⟩, fun a => by have := c a; rw [List.count_append, List.count_append]; omega⟩
  | none :: σ, some d :: δ, _, _, _, _, _, h, _, _ => h.elim
  | [], _ :: _, _, _, _, _, _, h, _, _ => by simp [Envs] at h
  | _ :: _, [], _, _, _, _, _, h, _, _ => by simp [Envs] at h
end
end Z


set_option Elab.async false
set_option linter.all false
set_option maxRecDepth 100000
/-! what an expression does to the data -/
namespace Z
open PySem PySem.Spec PyProof.Rows L2

/-- a result: a datum of its own, or what stands at a name, some items down -/
inductive R where
  | own (d : D) | at (i : Nat) (p : List Nat)
  deriving Inhabited
def R.short : R → Bool
  | .at _ (_ :: _) => false
  | _ => true
def getP : List Nat → D → Option D
  | [], d => some d
  | j :: p, .lst xs => match xs[j]? with
    | some x => getP p x
    | none => none
  | j :: p, .obj _ _ xs => match xs[j]? with
    | some x => getP p x
    | none => none
  | _ :: _, _ => none
def setP : List Nat → D → D → Option D
  | [], _, e => some e
  | j :: p, .lst xs, e => match xs[j]? with
    | some x => match setP p x e with
      | some x' => some (.lst (xs.set j x'))
      | none => none
    | none => none
  | j :: p, .obj c ns xs, e => match xs[j]? with
    | some x => match setP p x e with
      | some x' => some (.obj c ns (xs.set j x'))
      | none => none
    | none => none
  | _ :: _, _, _ => none
def deref (δ : DE) : R → Option D
  | .own d => some d
  | .at i p => match δ[i]? with
    | some (some d) => getP p d
    | _ => none
/-- u stands at place j of what is at a -/
def Chd (H : Hp) (a : Addr) (j : Nat) (u : V) : Prop := (∃ vs, H a = some (.lst vs) ∧ vs[j]? = some u) ∨ ∃ C dx fs, H a = some (.ins C dx fs) ∧ (fs.map (·.2))[j]? = some u
def PathV (H : Hp) : List Nat → V → V → Prop
  | [], u, v => v = u
  | j :: p, u, v => ∃ a u', u = .ref a ∧ Chd H a j u' ∧ PathV H p u' v
def Held (K : Fw) (H : Hp) (σ : List (Option V)) : R → V → List Addr → Prop
  | .own d, v, ov => Rep K H d v ov
  | .at i p, v, ov => ov = [] ∧ ∃ u, σ[i]? = some (some u) ∧ PathV H p u v
section
variable {K : Fw} {κ : Kx} {H H' : Hp} {σ : List (Option V)}
theorem PathV.snocC : ∀ {p : List Nat} {u : V} {a : Addr} {j : Nat} {w : V}, PathV H p u (.ref a) → Chd H a j w → PathV H (p ++ [j]) u w
  | [], _, a, j, w, h, h1 => ⟨a, w, (show V.ref a = _ from h).symm, h1, rfl⟩
  | i :: p, _, a, j, w, h, h1 => by
    obtain ⟨b, u', e1, e2, q⟩ := h
    exact ⟨b, u', e1, e2, PathV.snocC q h1⟩
theorem PathV.snoc {p : List Nat} {u : V} {a : Addr} {vs : List V} {j : Nat} {w : V} (h : PathV H p u (.ref a)) (h1 : H a = some (.lst vs)) (h2 : vs[j]? = some w) : PathV H (p ++ [j]) u w := h.snocC (.inl ⟨vs, h1, h2⟩)
theorem PathV.keep : ∀ {p : List Nat} {u v : V}, PathV H p u v → (∀ a w, H a = some w → Nt w → H' a = some w) → PathV H' p u v
  | [], _, _, h, _ => h
  | j :: p, _, _, h, k => by
    obtain ⟨a, u', e1, e2, q⟩ := h
    refine ⟨a, u', e1, ?_, PathV.keep q k⟩
    rcases e2 with ⟨vs, e2, e3⟩ | ⟨C, dx, fs, e2, e3⟩
    · exact .inl ⟨vs, k _ _ e2 (fun _ z => nomatch z), e3⟩
    · exact .inr ⟨C, dx, fs, k _ _ e2 (fun _ z => nomatch z), e3⟩
/-- what stands at a path, and another in its stead -/
theorem Rep.path : ∀ {p : List Nat} {d : D} {v : V} {o : List Addr} {e : D} {w : V}, Rep K H d v o → getP p d = some e → PathV H p v w →
    ∃ oe or_, Rep K H e w oe ∧ (∀ a, oe.count a + or_.count a = o.count a) ∧
      ∀ H' e' oe' d', Rep K H' e' w oe' → Fr0 H H' or_ → setP p d e' = some d' → ∃ o', Rep K H' d' v o' ∧ ∀ a, o'.count a = oe'.count a + or_.count a
  | [], d, v, o, e, w, r, g, q => by
    cases (Option.some.inj g : d = e)
    cases (show w = v from q)
    refine ⟨o, [], r, by simp, fun H' e' oe' d' r' f s => ?_⟩
    cases (Option.some.inj s : e' = d')
    exact ⟨oe', r', by simp⟩
  | j :: p, d, v, o, e, w, r, g, q => by
    cases d <;> simp only [getP, reduceCtorEq] at g
    · rename_i xs
      obtain ⟨a, vs, o', rfl, ha, rs, rfl⟩ := r
      obtain ⟨a', u', e1, hch, q⟩ := q
      cases e1
      have hj : vs[j]? = some u' := by
        rcases hch with ⟨vs', ha', hj⟩ | ⟨_, _, _, ha', _⟩
        · rw [ha] at ha'; cases ha'; exact hj
        · rw [ha] at ha'; cases ha'
      cases hx : xs[j]? with
      | none => rw [hx] at g; simp at g
      | some x =>
        rw [hx] at g
        obtain ⟨vj, oa, o1, ob, ev, rx, rfl, k⟩ := rs.at hx
        rw [hj] at ev; cases ev
        obtain ⟨oe, or1, re, hc, k2⟩ := Rep.path rx g q
        refine ⟨oe, a :: (oa ++ or1 ++ ob), re, fun b => ?_, fun H' e' oe' d' r' f s => ?_⟩
        · have := hc b
          simp only [List.count_cons, List.count_append] at this ⊢
          omega
        · simp only [setP, hx] at s
          cases hs : setP p x e' with
          | none => rw [hs] at s; simp at s
          | some x' =>
            rw [hs] at s
            cases (Option.some.inj s : _ = d')
            obtain ⟨o1', rx', hc'⟩ := k2 H' e' oe' x' r' (f.sub (by simp +contextual)) hs
            have hset : vs.set j u' = vs := by
              obtain ⟨hl, e2⟩ := List.getElem?_eq_some_iff.mp hj
              rw [← e2]; exact List.set_getElem_self hl
            have k3 := k H' x' u' o1' rx' (f.sub (by intro b hb; rcases List.mem_append.mp hb with hb | hb <;> simp [hb]))
            rw [hset] at k3
            refine ⟨a :: (oa ++ o1' ++ ob), ⟨a, vs, _, rfl, (f.1 a List.mem_cons_self).trans ha, k3, rfl⟩, fun b => ?_⟩
            have := hc' b
            simp only [List.count_cons, List.count_append] at this ⊢
            omega
    · rename_i c ns xs
      obtain ⟨a, dx, vs, o', rfl, ha, hl, rs, rfl⟩ := r
      obtain ⟨a', u', e1, hch, q⟩ := q
      cases e1
      have hj : vs[j]? = some u' := by
        rcases hch with ⟨vs', ha', hj⟩ | ⟨_, _, fs, ha', hj⟩
        · rw [ha] at ha'; cases ha'
        · rw [ha] at ha'; cases ha'
          rwa [List.map_snd_zip (by rw [hl, rs.length]; exact Nat.le_refl _)] at hj
      cases hx : xs[j]? with
      | none => rw [hx] at g; simp at g
      | some x =>
        rw [hx] at g
        obtain ⟨vj, oa, o1, ob, ev, rx, rfl, k⟩ := rs.at hx
        rw [hj] at ev; cases ev
        obtain ⟨oe, or1, re, hc, k2⟩ := Rep.path rx g q
        refine ⟨oe, a :: (oa ++ or1 ++ ob), re, fun b => ?_, fun H' e' oe' d' r' f s => ?_⟩
        · have := hc b
          simp only [List.count_cons, List.count_append] at this ⊢
          omega
        · simp only [setP, hx] at s
          cases hs : setP p x e' with
          | none => rw [hs] at s; simp at s
          | some x' =>
            rw [hs] at s
            cases (Option.some.inj s : _ = d')
            obtain ⟨o1', rx', hc'⟩ := k2 H' e' oe' x' r' (f.sub (by simp +contextual)) hs
            have hset : vs.set j u' = vs := by
              obtain ⟨hl, e2⟩ := List.getElem?_eq_some_iff.mp hj
              rw [← e2]; exact List.set_getElem_self hl
            have k3 := k H' x' u' o1' rx' (f.sub (by intro b hb; rcases List.mem_append.mp hb with hb | hb <;> simp [hb]))
            rw [hset] at k3
            refine ⟨a :: (oa ++ o1' ++ ob), ⟨a, dx, vs, _, rfl, (f.1 a List.mem_cons_self).trans ha, by rw [List.length_set]; exact hl, k3, rfl⟩, fun b => ?_⟩
            have := hc' b
            simp only [List.count_cons, List.count_append] at this ⊢
            omega
theorem Held.deref {δ : DE} {o ov : List Addr} {r : R} {v : V} {d : D} (E : Envs κ H σ δ o) (h : Held κ.K H σ r v ov) (e : deref δ r = some d) : ∃ o', Rep κ.K H d v o' ∧ ∀ a, o'.count a ≤ ov.count a + o.count a := by
  cases r with
  | own d' =>
    cases (Option.some.inj e : d' = d)
    exact ⟨ov, h, fun a => by omega⟩
  | «at» i p =>
    obtain ⟨rfl, u, hu, q⟩ := h
    simp only [Z.deref] at e
    cases hi : δ[i]? with
    | none => rw [hi] at e; simp at e
    | some x =>
      cases x with
      | none => rw [hi] at e; simp at e
      | some d0 =>
        rw [hi] at e
        obtain ⟨v0, oa, o1, ob, e1, r1, rfl, _⟩ := E.at hi
        rw [hu] at e1; cases e1
        obtain ⟨oe, or_, re, hc, _⟩ := r1.path e q
        exact ⟨oe, re, fun a => by have := hc a; simp only [List.count_append, List.count_nil]; omega⟩
theorem Held.step {W ov : List Addr} {r : R} {v : V} (h : Held K H σ r v ov) (s : Step H H' W) (hW : ∀ a ∈ W, ∃ u, H a = some u ∧ ¬ Sh u) (n : ∀ a ∈ ov, a ∉ W) (hq : r.short = true ∨ W = []) : Held K H' σ r v ov := by
  cases r with
  | own d => exact Rep.step h s hW n
  | «at» i p =>
    obtain ⟨e, u, hu, q⟩ := h
    refine ⟨e, u, hu, ?_⟩
    cases p with
    | nil => exact q
    | cons j p =>
      rcases hq with hq | rfl
      · simp [R.short] at hq
      · exact q.keep fun a w e hn => s.keep a _ e (by simp) hn
end

/-! ### readings -/
abbrev Den := DE → Option (R × DE)
def Wq (q : Bool) (o : List Addr) : List Addr := if q then [] else o
theorem Wq_ok {κ : Kx} {H : Hp} {σ : List (Option V)} {δ : DE} {o : List Addr} {q : Bool} (E : Envs κ H σ δ o) : ∀ a ∈ Wq q o, ∃ u, H a = some u ∧ ¬ Sh u := fun a ha => by
  cases q
  · exact E.ok a ha
  · cases ha
theorem Wq_sub {q : Bool} {o : List Addr} : ∀ a ∈ Wq q o, a ∈ o := fun a ha => by
  cases q
  · exact ha
  · cases ha
theorem Step.mono {H H' : Hp} {W W' : List Addr} (s : Step H H' W) (h : ∀ a ∈ W, a ∈ W') : Step H H' W' := ⟨fun a u e n => s.keep a u e fun z => n (h a z), s.dom, s.tab⟩
theorem Step.seq {H H1 H2 : Hp} {qa qb : Bool} {o o1 : List Addr} (s : Step H H1 (Wq qa o)) (w : Own H o o1) (t : Step H1 H2 (Wq qb o1)) : Step H H2 (Wq (qa && qb) o) := by
  cases qa with
  | true =>
    cases qb with
    | true => exact Step.trans (o := []) (o1 := []) s (Own.refl _ _) t
    | false => exact Step.trans (s.mono fun a h => nomatch h) w t
  | false =>
    cases qb with
    | true => exact Step.trans s w (t.mono fun a h => nomatch h)
    | false => exact Step.trans s w t
structure Post (κ : Kx) (H : Hp) (σ : List (Option V)) (q : Bool) (o : List Addr) (r : R) (δ' : DE) (v : V) (H' : Hp) (o' ov : List Addr) : Prop where
  step : Step H H' (Wq q o)
  env : Envs κ H' σ δ' o'
  held : Held κ.K H' σ r v ov
  own : Own H o (ov ++ o')
def T (κ : Kx) (q : Bool) (m : Den) : TE := fun σ H Q => ∃ δ o r δ', Envs κ H σ δ o ∧ Nd o ∧ m δ = some (r, δ') ∧
  ∀ v H' o' ov, Post κ H σ q o r δ' v H' o' ov → Q v H'
structure PostA (κ : Kx) (H : Hp) (σ : List (Option V)) (q : Bool) (o : List Addr) (δ' : DE) (H' : Hp) (o' : List Addr) : Prop where
  step : Step H H' (Wq q o)
  env : Envs κ H' σ δ' o'
  own : Own H o o'
/-- a test -/
def TT (κ : Kx) (q : Bool) (m : DE → Option (Bool × DE)) : L2.TT := fun σ H Q => ∃ δ o b δ', Envs κ H σ δ o ∧ Nd o ∧ m δ = some (b, δ') ∧
  ∀ H' o', PostA κ H σ q o δ' H' o' → Q b H'
def HeldL (K : Fw) (H : Hp) (σ : List (Option V)) : List R → List V → List Addr → Prop
  | [], vs, ov => vs = [] ∧ ov = []
  | r :: rs, vs, ov => ∃ v vr o1 o2, vs = v :: vr ∧ Held K H σ r v o1 ∧ HeldL K H σ rs vr o2 ∧ ov = o1 ++ o2
/-- arguments -/
def TAr (κ : Kx) (q : Bool) (m : DE → Option (List R × DE)) : TA := fun σ H Q => ∃ δ o rs δ', Envs κ H σ δ o ∧ Nd o ∧ m δ = some (rs, δ') ∧
  ∀ vs H' o' ov, Step H H' (Wq q o) → Envs κ H' σ δ' o' → HeldL κ.K H' σ rs vs ov → Own H o (ov ++ o') → Q vs H'

theorem PE.imp {X : Cx} {e : Expr} {t t' : TE} (h : PE X e t) (i : ∀ σ H Q, t' σ H Q → t σ H Q) : PE X e t' := ⟨fun pins s σ H Q I hw => h.run pins s σ H Q I (i _ _ _ hw)⟩
theorem PT.imp {X : Cx} {e : Expr} {t t' : L2.TT} (h : PT X e t) (i : ∀ σ H Q, t' σ H Q → t σ H Q) : PT X e t' := ⟨fun pins s σ H Q I hw => h.run pins s σ H Q I (i _ _ _ hw)⟩
theorem PW.imp {X : Cx} {e : Expr} {t t' : L2.TT} (h : PW X e t) (i : ∀ σ H Q, t' σ H Q → t σ H Q) : PW X e t' := ⟨fun w pins s σ H Q I hw => h.run w pins s σ H Q I (i _ _ _ hw)⟩
theorem PA.imp {X : Cx} {e : List Expr} {t t' : TA} (h : PA X e t) (i : ∀ σ H Q, t' σ H Q → t σ H Q) : PA X e t' := ⟨fun p pins s σ H Q I hw => h.run p pins s σ H Q I (i _ _ _ hw)⟩
theorem PS.imp {X : Cx} {e : Stmt} {t t' : TS} (h : PS X e t) (i : ∀ D σ H, t' D σ H → t D σ H) : PS X e t' := ⟨fun pins s σ H D I hw => h.run pins s σ H D I (i _ _ _ hw)⟩
theorem PSs.imp {X : Cx} {e : List Stmt} {t t' : TS} (h : PSs X e t) (i : ∀ D σ H, t' D σ H → t D σ H) : PSs X e t' := ⟨fun pins s σ H D I hw => h.run pins s σ H D I (i _ _ _ hw)⟩

/-! ### names, constants -/
def dVar (i : Nat) : Den := fun δ => match δ[i]? with
  | some (some d) => if d.imm then some (.own d, δ) else some (.at i [], δ)
  | _ => none
def dC (d : D) : Den := fun δ => some (.own d, δ)
section
variable {X : Cx}
theorem own_nil {H : Hp} {o : List Addr} : Own H o ([] ++ o) := Own.refl H o
theorem z_var (i : Nat) {x : Str} {pos : Pos} (hN : X.N[i]? = some x := by rfl) (hv : Vis X.env.scope x := by first | exact Or.inl rfl | exact Or.inr (Or.inl rfl) | exact Or.inr (Or.inr rfl)) (hd : (x == ("__debug__" : Str)) = false := by decide)
    (hcd : (x == ("__classdict__" : Str)) = false := by decide) : PE X (.Name x pos) (T (kx X) true (dVar i)) := by
  refine PE.imp (pe_var hN hv hd hcd) fun σ H Q h => ?_
  obtain ⟨δ, o, r, δ', E, n, hm, q⟩ := h
  simp only [dVar] at hm
  cases hi : δ[i]? with
  | none => rw [hi] at hm; simp at hm
  | some x =>
    cases x with
    | none => rw [hi] at hm; simp at hm
    | some d =>
      rw [hi] at hm
      obtain ⟨v, oa, o1, ob, e1, r1, _, _⟩ := E.at hi
      refine ⟨v, e1, ?_⟩
      by_cases hd : d.imm = true
      · simp only [hd, if_true, Option.some.injEq, Prod.mk.injEq] at hm
        obtain ⟨rfl, rfl⟩ := hm
        have := r1.imm hd
        subst this
        exact q v H o [] ⟨Step.refl _ _, E, r1, own_nil⟩
      · simp only [hd, if_false, Option.some.injEq, Prod.mk.injEq, Bool.false_eq_true] at hm
        obtain ⟨rfl, rfl⟩ := hm
        exact q v H o [] ⟨Step.refl _ _, E, ⟨rfl, v, e1, rfl⟩, own_nil⟩
theorem z_c {e : Expr} {v : V} {d : D} (h : PE X e (tC v)) (r : ∀ K H, Rep K H d v []) : PE X e (T (kx X) true (dC d)) :=
  PE.imp h fun σ H Q h => by
    obtain ⟨δ, o, r', δ', E, n, hm, q⟩ := h
    simp only [dC, Option.some.injEq, Prod.mk.injEq] at hm
    obtain ⟨rfl, rfl⟩ := hm
    exact q v H o [] ⟨Step.refl _ _, E, r _ _, own_nil⟩
theorem z_int {i j pos} : PE X (.Constant (.int i) j pos) (T (kx X) true (dC (.int i))) := z_c pe_int fun _ _ => ⟨rfl, rfl⟩
theorem z_bl {b j pos} : PE X (.Constant (.bool b) j pos) (T (kx X) true (dC (.bl b))) := z_c pe_bl fun _ _ => ⟨rfl, rfl⟩
theorem z_non {j pos} : PE X (.Constant .none j pos) (T (kx X) true (dC .non)) := z_c pe_non fun _ _ => ⟨rfl, rfl⟩
theorem z_str {x : Str} {j pos} (hx : (decide (x.cps.size ≤ 10000) && x.cps.all (· < 0x110000)) = true := by decide +kernel) : PE X (.Constant (.str x) j pos) (T (kx X) true (dC (.str x))) :=
  z_c pe_str fun _ _ => ⟨rfl, ⟨Nat.le_trans (of_decide_eq_true (Bool.and_eq_true_iff.mp hx).1) (by decide), (Bool.and_eq_true_iff.mp hx).2⟩, rfl⟩
end

/-! ### arguments -/
def dANil : DE → Option (List R × DE) := fun δ => some ([], δ)
def dACons (q : Bool) (a : Den) (r : DE → Option (List R × DE)) : DE → Option (List R × DE) := fun δ => match a δ with
  | some (x, δ1) => match r δ1 with
    | some (xs, δ2) => if x.short || q then some (x :: xs, δ2) else none
    | none => none
  | none => none
section
variable {X : Cx} {e : Expr} {es : List Expr} {qa qb : Bool} {ma : Den} {mr : DE → Option (List R × DE)}
theorem own_app {H H1 : Hp} {W o o1 o2 ova ovb : List Addr} (w1 : Own H o (ova ++ o1)) (s : Step H H1 W) (hd : ∀ a ∈ ova, H1 a ≠ none) (w2 : Own H1 o1 (ovb ++ o2)) : Own H o ((ova ++ ovb) ++ o2) := fun a => by
  have h1 := w1 a
  have h2 := w2 a
  simp only [List.count_append] at h1 h2 ⊢
  rcases h2 with h2 | ⟨z, h2⟩
  · rcases h1 with h1 | ⟨z1, h1⟩
    · left; omega
    · right; exact ⟨z1, by omega⟩
  · have hz : ova.count a = 0 := List.count_eq_zero.mpr fun hm => hd a hm z
    exact .inr ⟨s.dom a z, by omega⟩
theorem Held.dom {K : Fw} {H : Hp} {σ : List (Option V)} {r : R} {v : V} {ov : List Addr} (h : Held K H σ r v ov) : ∀ a ∈ ov, H a ≠ none := fun a ha => by
  cases r with
  | own d => obtain ⟨u, e, _⟩ := Rep.own h a ha; rw [e]; simp
  | «at» i p => obtain ⟨rfl, _⟩ := h; cases ha
theorem HeldL.dom {K : Fw} {H : Hp} {σ : List (Option V)} : ∀ {rs : List R} {vs : List V} {ov : List Addr}, HeldL K H σ rs vs ov → ∀ a ∈ ov, H a ≠ none
  | [], _, _, h, a, ha => by rw [h.2] at ha; cases ha
  | r :: rs, _, _, h, a, ha => by
    obtain ⟨v, vr, o1, o2, rfl, h1, h2, rfl⟩ := h
    rcases List.mem_append.mp ha with ha | ha
    · exact h1.dom a ha
    · exact HeldL.dom h2 a ha
theorem HeldL.own {K : Fw} {H : Hp} {σ : List (Option V)} : ∀ {rs : List R} {vs : List V} {ov : List Addr}, HeldL K H σ rs vs ov → ∀ a ∈ ov, ∃ u, H a = some u ∧ Ow u
  | [], _, _, h, a, ha => by rw [h.2] at ha; cases ha
  | .own d :: rs, _, _, h, a, ha => by
    obtain ⟨v, vr, o1, o2, rfl, h1, h2, rfl⟩ := h
    rcases List.mem_append.mp ha with ha | ha
    · exact Rep.own h1 a ha
    · exact HeldL.own h2 a ha
  | .at i p :: rs, _, _, h, a, ha => by
    obtain ⟨v, vr, o1, o2, rfl, ⟨rfl, _⟩, h2, rfl⟩ := h
    exact HeldL.own h2 a ha
theorem own_right {H : Hp} {o ov o' : List Addr} (w : Own H o (ov ++ o')) : Own H o o' := w.sub fun a => by rw [List.count_append]; omega
theorem nd_of {H : Hp} {o ov o' : List Addr} (w : Own H o (ov ++ o')) (n : Nd o) : Nd o' := (own_right w).nd n
theorem apart_of {H : Hp} {o ov o' : List Addr} (w : Own H o (ov ++ o')) (n : Nd o) : ∀ a ∈ ov, a ∉ o' := nd_split (w.nd n)
theorem z_anil : PA X [] (TAr (kx X) true dANil) := PA.imp pa_nil fun σ H Q h => by
  obtain ⟨δ, o, rs, δ', E, n, hm, q⟩ := h
  simp only [dANil, Option.some.injEq, Prod.mk.injEq] at hm
  obtain ⟨rfl, rfl⟩ := hm
  exact q [] H o [] (Step.refl _ _) E ⟨rfl, rfl⟩ own_nil
theorem z_acons (ha : PE X e (T (kx X) qa ma)) (hr : PA X es (TAr (kx X) qb mr)) (hs : starEach (e :: es) X.env = (false, eval e X.env) :: starEach es X.env := by rfl) : PA X (e :: es) (TAr (kx X) (qa && qb) (dACons qb ma mr)) := by
  refine PA.imp (pa_cons ha hr hs) fun σ H Q h => ?_
  obtain ⟨δ, o, rs, δ', E, n, hm, q⟩ := h
  simp only [dACons] at hm
  cases h1 : ma δ with
  | none => rw [h1] at hm; simp at hm
  | some p1 =>
    obtain ⟨x, δ1⟩ := p1
    rw [h1] at hm; dsimp only at hm
    cases h2 : mr δ1 with
    | none => rw [h2] at hm; simp at hm
    | some p2 =>
      obtain ⟨xs, δ2⟩ := p2
      rw [h2] at hm; dsimp only at hm
      by_cases hc : (x.short || qb) = true
      · rw [if_pos hc] at hm
        simp only [Option.some.injEq, Prod.mk.injEq] at hm
        obtain ⟨rfl, rfl⟩ := hm
        refine ⟨δ, o, x, δ1, E, n, h1, fun v H1 o1 ov1 P1 => ?_⟩
        refine ⟨δ1, o1, xs, δ2, P1.env, nd_of P1.own n, h2, fun vs H2 o2 ov2 s2 E2 hl w2 => ?_⟩
        have ap := apart_of P1.own n
        refine q (v :: vs) H2 o2 (ov1 ++ ov2) (P1.step.seq (own_right P1.own) s2) E2 ⟨v, vs, ov1, ov2, rfl, ?_, hl, rfl⟩ (own_app P1.own P1.step P1.held.dom w2)
        refine P1.held.step s2 (Wq_ok P1.env) (fun a ha hw => ap a ha (Wq_sub a hw)) ?_
        simp only [Bool.or_eq_true] at hc
        rcases hc with hc | hc
        · exact .inl hc
        · right; subst hc; rfl
      · rw [if_neg hc] at hm; simp at hm
end
def derefs (δ : DE) : List R → Option (List D)
  | [] => some []
  | r :: rs => match deref δ r, derefs δ rs with
    | some d, some ds => some (d :: ds)
    | _, _ => none
theorem HeldL.derefs {κ : Kx} {H : Hp} {σ : List (Option V)} {δ : DE} {o : List Addr} (E : Envs κ H σ δ o) : ∀ {rs : List R} {vs : List V} {ov : List Addr} {ds : List D}, HeldL κ.K H σ rs vs ov → derefs δ rs = some ds → ∃ o', Reps κ.K H ds vs o'
  | [], _, _, _, h, e => by
    cases (Option.some.inj e)
    exact ⟨[], h.1, rfl⟩
  | r :: rs, _, _, _, h, e => by
    obtain ⟨v, vr, o1, o2, rfl, h1, h2, rfl⟩ := h
    simp only [Z.derefs] at e
    cases e1 : deref δ r with
    | none => rw [e1] at e; simp at e
    | some d =>
      cases e2 : Z.derefs δ rs with
      | none => rw [e1, e2] at e; simp at e
      | some ds =>
        rw [e1, e2] at e
        cases (Option.some.inj e)
        obtain ⟨oa, ra, _⟩ := h1.deref E e1
        obtain ⟨ob, rb⟩ := HeldL.derefs E h2 e2
        exact ⟨oa ++ ob, v, vr, oa, ob, rfl, ra, rb, rfl⟩

/-! ### operators on values that make a datum and change nothing -/
def Fresh (H : Hp) (ov : List Addr) : Prop := ∀ a, ov.count a ≤ 1 ∧ (a ∈ ov → H a = none)
theorem fresh_nil {H : Hp} : Fresh H [] := fun a => ⟨by simp, fun h => nomatch h⟩
theorem fresh_one {H : Hp} {p : Addr} (h : H p = none) : Fresh H [p] := fun a => ⟨by rw [List.count_singleton]; split <;> omega, fun z => by rw [List.mem_singleton.mp z]; exact h⟩
/-- what an operation gives, told by the data -/
def Pr (K : Fw) (f : List D → Option D) (vs : List V) (H : Hp) (Q : VK) : Prop :=
  ∃ ds o d, Reps K H ds vs o ∧ f ds = some d ∧ ∀ v H' ov, (∀ a u, H a = some u → H' a = some u) → Rep K H' d v ov → Fresh H ov → Q v H'
theorem own_fresh {H H' : Hp} {o o' ov : List Addr} {W : List Addr} (w : Own H o o') (s : Step H H' W) (f : Fresh H' ov) (hd : ∀ a ∈ o', H' a ≠ none) : Own H o (ov ++ o') := fun a => by
  rw [List.count_append]
  by_cases h : a ∈ ov
  · have h1 := (f a).2 h
    have h2 : o'.count a = 0 := List.count_eq_zero.mpr fun z => hd a z h1
    have h3 := (f a).1
    exact .inr ⟨s.dom a h1, by omega⟩
  · have h2 : ov.count a = 0 := List.count_eq_zero.mpr h
    rcases w a with w | ⟨z, w⟩
    · left; omega
    · right; exact ⟨z, by omega⟩
theorem Envs.dom {κ : Kx} {H : Hp} {σ : List (Option V)} {δ : DE} {o : List Addr} (E : Envs κ H σ δ o) : ∀ a ∈ o, H a ≠ none := fun a ha => by
  obtain ⟨vs, e, how⟩ := E.own a ha
  rw [e]; simp
theorem Step.same {H H1 H2 : Hp} {W : List Addr} (s : Step H H1 W) (k : ∀ a u, H1 a = some u → H2 a = some u) : Step H H2 W :=
  ⟨fun a u e n z => k a u (s.keep a u e n z), fun a e => s.dom a ((Step.of_same [] k).dom a e), fun P g => (Step.of_same [] k).tab P (s.tab P g)⟩
/-- behind pure work on values: the end of T -/
theorem post_pure {κ : Kx} {H H1 H2 : Hp} {σ : List (Option V)} {q : Bool} {o o1 ov1 ov : List Addr} {d : D} {δ1 : DE} {v : V} (s : Step H H1 (Wq q o)) (E : Envs κ H1 σ δ1 o1) (w : Own H o (ov1 ++ o1))
    (k : ∀ a u, H1 a = some u → H2 a = some u) (r : Rep κ.K H2 d v ov) (f : Fresh H1 ov) : Post κ H σ q o (.own d) δ1 v H2 o1 ov :=
  ⟨s.same k, E.same k, r, own_fresh (own_right w) s f E.dom⟩

def dCall (f : List D → Option D) (a : DE → Option (List R × DE)) : Den := fun δ => match a δ with
  | some (rs, δ') => match derefs δ' rs with
    | some ds => match f ds with
      | some d => some (.own d, δ')
      | none => none
    | none => none
  | none => none
theorem dCall_inv {f : List D → Option D} {m : DE → Option (List R × DE)} {δ δ' : DE} {r : R} (h : dCall f m δ = some (r, δ')) : ∃ rs ds d, m δ = some (rs, δ') ∧ derefs δ' rs = some ds ∧ f ds = some d ∧ r = .own d := by
  simp only [dCall] at h
  cases h1 : m δ with
  | none => rw [h1] at h; simp at h
  | some p =>
    obtain ⟨rs, δ1⟩ := p
    rw [h1] at h; dsimp only at h
    cases h2 : derefs δ1 rs with
    | none => rw [h2] at h; simp at h
    | some ds =>
      rw [h2] at h; dsimp only at h
      cases h3 : f ds with
      | none => rw [h3] at h; simp at h
      | some d =>
        rw [h3] at h
        simp only [Option.some.injEq, Prod.mk.injEq] at h
        obtain ⟨rfl, rfl⟩ := h
        exact ⟨rs, ds, d, rfl, h2, h3, rfl⟩
section
variable {X : Cx} {e a b : Expr} {es : List Expr} {qa qb q : Bool} {ma mb : Den} {mr : DE → Option (List R × DE)} {f : List D → Option D}
/-- a call told by the data: the arguments' reading, then f -/
theorem t_call {κ : Kx} {σ : L2.St} {H : Hp} {Q : VK} (h : T κ q (dCall f mr) σ H Q) : TAr κ q mr σ H fun vs H1 => Pr κ.K f vs H1 Q := by
  obtain ⟨δ, o, r, δ', E, n, hm, k⟩ := h
  obtain ⟨rs, ds, d, h1, h2, h3, rfl⟩ := dCall_inv hm
  refine ⟨δ, o, rs, δ', E, n, h1, fun vs H1 o1 ov1 s1 E1 hl w1 => ?_⟩
  obtain ⟨o', rp⟩ := HeldL.derefs E1 hl h2
  exact ⟨ds, o', d, rp, h3, fun v H2 ov hs r fr => k v H2 o1 ov (post_pure s1 E1 w1 hs r fr)⟩
/-- two operands as two arguments -/
theorem t_two {κ : Kx} {σ : L2.St} {H : Hp} {Q : V → V → Hp → Prop} (h : TAr κ (qa && (qb && true)) (dACons (qb && true) ma (dACons true mb dANil)) σ H fun vs H1 => ∀ x y, vs = [x, y] → Q x y H1) :
    T κ qa ma σ H fun x H1 => T κ qb mb σ H1 fun y H2 => Q x y H2 := by
  obtain ⟨δ, o, rs, δ', E, n, hm, k⟩ := h
  simp only [dACons, dANil] at hm
  cases h1 : ma δ with
  | none => rw [h1] at hm; simp at hm
  | some p1 =>
    obtain ⟨x, δ1⟩ := p1
    rw [h1] at hm; dsimp only at hm
    cases h2 : mb δ1 with
    | none => rw [h2] at hm; simp at hm
    | some p2 =>
      obtain ⟨y, δ2⟩ := p2
      rw [h2] at hm; dsimp only at hm
      simp only [Bool.or_true, if_true] at hm
      by_cases hc : (x.short || (qb && true)) = true
      · rw [if_pos hc] at hm
        simp only [Option.some.injEq, Prod.mk.injEq] at hm
        obtain ⟨rfl, rfl⟩ := hm
        refine ⟨δ, o, x, δ1, E, n, h1, fun v H1 o1 ov1 P1 => ?_⟩
        refine ⟨δ1, o1, y, δ2, P1.env, nd_of P1.own n, h2, fun w H2 o2 ov2 P2 => ?_⟩
        have ap := apart_of P1.own n
        have s := P1.step.seq (own_right P1.own) P2.step
        rw [Bool.and_true] at k hc
        refine k [v, w] H2 o2 (ov1 ++ (ov2 ++ [])) s P2.env ⟨v, [w], ov1, ov2 ++ [], rfl, ?_, ⟨w, [], ov2, [], rfl, P2.held, ⟨rfl, rfl⟩, rfl⟩, rfl⟩ (by rw [List.append_nil]; exact own_app P1.own P1.step P1.held.dom P2.own) v w rfl
        refine P1.held.step P2.step (Wq_ok P1.env) (fun a ha hw => ap a ha (Wq_sub a hw)) ?_
        simp only [Bool.or_eq_true] at hc
        rcases hc with hc | hc
        · exact .inl hc
        · right; subst hc; rfl
      · rw [if_neg hc] at hm; simp at hm
theorem TAr.imp {κ : Kx} {σ : L2.St} {H : Hp} {Q Q' : List V → Hp → Prop} (h : TAr κ q mr σ H Q) (i : ∀ vs H, Q vs H → Q' vs H) : TAr κ q mr σ H Q' := by
  obtain ⟨δ, o, rs, δ', E, n, hm, k⟩ := h
  exact ⟨δ, o, rs, δ', E, n, hm, fun vs H' o' ov a b c d => i _ _ (k vs H' o' ov a b c d)⟩
abbrev d2 (qb : Bool) (ma mb : Den) : DE → Option (List R × DE) := dACons (qb && true) ma (dACons true mb dANil)
theorem z_bin {op : Operator} {pos : Pos} (ho : OpR X (binaryOp op) fun x y => Pr X.F f [x, y]) (ha : PE X a (T (kx X) qa ma)) (hb : PE X b (T (kx X) qb mb)) : PE X (.BinOp a op b pos) (T (kx X) (qa && (qb && true)) (dCall f (d2 qb ma mb))) :=
  PE.imp (pe_op ho ha hb) fun σ H Q h => t_two (Q := fun x y H2 => Pr X.F f [x, y] H2 Q) ((t_call h).imp fun vs H1 p x y e => by rw [← e]; exact p)
theorem z_cmp {op : CmpOp} {pos : Pos} (ho : OpR X (compareOp op) fun x y => Pr X.F f [x, y]) (ha : PE X a (T (kx X) qa ma)) (hb : PE X b (T (kx X) qb mb)) (hm : behindInMarks op b = false := by first | exact nomark _ | rfl) : PE X (.Compare a [op] [b] pos) (T (kx X) (qa && (qb && true)) (dCall f (d2 qb ma mb))) :=
  PE.imp (pe_cmpR ho ha hb hm) fun σ H Q h => t_two (Q := fun x y H2 => Pr X.F f [x, y] H2 Q) ((t_call h).imp fun vs H1 p x y e => by rw [← e]; exact p)
theorem z_callB {id : String} {x : Str} {p pos : Pos} (hc : CallR X (.builtin id) (Pr X.F f)) (hg : Gl X x) (hm : X.mg x = none) (hv : bootBuiltins x = some (.builtin id)) (ha : PA X (e :: es) (TAr (kx X) q mr))
    (hn : x ≠ "__name__" := by decide) (hdb : (x == ("__debug__" : Str)) = false := by decide) (he : starEach (e :: es) X.env = (false, eval e X.env) :: starEach es X.env := by rfl) (hpl : (backTo pos (starEach es X.env)).any (·.1) = false := by rfl) :
    PE X (.Call (.Name x p) (e :: es) [] pos) (T (kx X) q (dCall f mr)) :=
  PE.imp (pe_callB hc hg hm hv ha hn hdb he hpl) fun σ H Q h => t_call h
theorem z_callTy {id : String} {x : Str} {p pos : Pos} (hc : CallR X (.type id) (Pr X.F f)) (hg : Gl X x) (hm : X.mg x = none) (hv : bootBuiltins x = some (.type id)) (ha : PA X (e :: es) (TAr (kx X) q mr))
    (hn : x ≠ "__name__" := by decide) (hdb : (x == ("__debug__" : Str)) = false := by decide) (he : starEach (e :: es) X.env = (false, eval e X.env) :: starEach es X.env := by rfl) (hpl : (backTo pos (starEach es X.env)).any (·.1) = false := by rfl) :
    PE X (.Call (.Name x p) (e :: es) [] pos) (T (kx X) q (dCall f mr)) :=
  PE.imp (pe_callTy hc hg hm hv ha hn hdb he hpl) fun σ H Q h => t_call h
end
end Z


set_option Elab.async false
set_option linter.all false
set_option maxRecDepth 100000
/-! displays, subscripts, tests, calls of the program's own defs -/
namespace Z
open PySem PySem.Spec PyProof.Rows L2

/-! ### operands that are held -/
def allShort : List R → Bool
  | [] => true
  | r :: rs => r.short && allShort rs
def Stk (κ : Kx) (H0 : Hp) (σ : List (Option V)) (q : Bool) (o0 : List Addr) (rs : List R) (vs : List V) (δ : DE) (H : Hp) : Prop :=
  ∃ o ov, Step H0 H (Wq q o0) ∧ Envs κ H σ δ o ∧ HeldL κ.K H σ rs vs ov ∧ Own H0 o0 (ov ++ o)
section
variable {K : Fw} {κ : Kx} {H0 H : Hp} {σ : List (Option V)} {q qa : Bool} {o0 : List Addr} {rs : List R} {vs : List V} {δ δ1 : DE} {ma : Den} {r : R}
theorem HeldL.step : ∀ {rs : List R} {vs : List V} {W ov : List Addr} {H H' : Hp}, HeldL K H σ rs vs ov → Step H H' W → (∀ a ∈ W, ∃ u, H a = some u ∧ ¬ Sh u) → (∀ a ∈ ov, a ∉ W) → (allShort rs = true ∨ W = []) → HeldL K H' σ rs vs ov
  | [], _, _, _, _, _, h, _, _, _, _ => h
  | r :: rs, _, W, _, H, H', h, s, hW, n, hq => by
    obtain ⟨v, vr, o1, o2, rfl, h1, h2, rfl⟩ := h
    refine ⟨v, vr, o1, o2, rfl, h1.step s hW (fun a ha => n a (List.mem_append_left _ ha)) ?_, HeldL.step h2 s hW (fun a ha => n a (List.mem_append_right _ ha)) ?_, rfl⟩
    · rcases hq with hq | hq
      · simp only [allShort, Bool.and_eq_true] at hq; exact .inl hq.1
      · exact .inr hq
    · rcases hq with hq | hq
      · simp only [allShort, Bool.and_eq_true] at hq; exact .inl hq.2
      · exact .inr hq
theorem Stk.start {o : List Addr} (E : Envs κ H σ δ o) : Stk κ H σ true o [] [] δ H := ⟨o, [], Step.refl _ _, E, ⟨rfl, rfl⟩, own_nil⟩
theorem Stk.push {G : VK} (n0 : Nd o0) (S : Stk κ H0 σ q o0 rs vs δ H) (hm : ma δ = some (r, δ1)) (hs : (allShort rs || qa) = true) (k : ∀ v H1, Stk κ H0 σ (q && qa) o0 (r :: rs) (v :: vs) δ1 H1 → G v H1) : T κ qa ma σ H G := by
  obtain ⟨o, ov, s, E, hl, w⟩ := S
  refine ⟨δ, o, r, δ1, E, nd_of w n0, hm, fun v H1 o1 ov1 P => k v H1 ⟨o1, ov1 ++ ov, s.seq (own_right w) P.step, P.env, ⟨v, vs, ov1, ov, rfl, P.held, ?_, rfl⟩, ?_⟩⟩
  · have ap := apart_of w n0
    refine hl.step P.step (Wq_ok E) (fun a ha hw => ap a ha (Wq_sub a hw)) ?_
    simp only [Bool.or_eq_true] at hs
    rcases hs with hs | hs
    · exact .inl hs
    · right; subst hs; rfl
  · refine (own_app w s hl.dom P.own).sub fun a => ?_
    simp only [List.count_append]; omega
theorem Stk.reps {ds : List D} (S : Stk κ H0 σ q o0 rs vs δ H) (e : derefs δ rs = some ds) : ∃ o', Reps κ.K H ds vs o' := by
  obtain ⟨o, ov, s, E, hl, w⟩ := S
  exact hl.derefs E e
/-- the end: a new datum -/
theorem Stk.pure {d : D} {G : VK} (S : Stk κ H0 σ q o0 rs vs δ H) (h : ∀ v H' o' ov, Post κ H0 σ q o0 (.own d) δ v H' o' ov → G v H') {v : V} {H2 : Hp} {ov : List Addr} (k : ∀ a u, H a = some u → H2 a = some u) (r : Rep κ.K H2 d v ov) (f : Fresh H ov) : G v H2 := by
  obtain ⟨o, ov1, s, E, hl, w⟩ := S
  exact h v H2 o ov (post_pure s E w k r f)
end

/-! ### displays -/
def owns : List R → Option (List D)
  | [] => some []
  | .own d :: rs => match owns rs with
    | some ds => some (d :: ds)
    | none => none
  | .at _ _ :: _ => none
theorem HeldL.owns {K : Fw} {H : Hp} {σ : List (Option V)} : ∀ {rs : List R} {vs : List V} {ov : List Addr} {ds : List D}, HeldL K H σ rs vs ov → owns rs = some ds → Reps K H ds vs ov
  | [], _, _, _, h, e => by cases (Option.some.inj e); exact h
  | .own d :: rs, _, _, _, h, e => by
    obtain ⟨v, vr, o1, o2, rfl, h1, h2, rfl⟩ := h
    simp only [Z.owns] at e
    cases e2 : Z.owns rs with
    | none => rw [e2] at e; simp at e
    | some ds =>
      rw [e2] at e
      cases (Option.some.inj e)
      exact ⟨v, vr, o1, o2, rfl, h1, HeldL.owns h2 e2, rfl⟩
  | .at _ _ :: rs, _, _, _, h, e => by simp [Z.owns] at e
def dTup (m : DE → Option (List R × DE)) : Den := fun δ => match m δ with
  | some (rs, δ') => match owns rs with
    | some ds => if ds.length ≤ 1000 then some (.own (.tup ds), δ') else none
    | none => none
  | none => none
def dLst (m : DE → Option (List R × DE)) : Den := fun δ => match m δ with
  | some (rs, δ') => match owns rs with
    | some ds => if ds.length ≤ 1000 then some (.own (.lst ds), δ') else none
    | none => none
  | none => none
section
variable {X : Cx} {es : List Expr} {q : Bool} {m : DE → Option (List R × DE)}
theorem small_sz {n : Nat} (h : n ≤ 1000) : n ≤ sizeLine := Nat.le_trans h (by decide)
theorem new_same {H : Hp} {p : Addr} {u : HO} (h : H p = none) : ∀ a w, H a = some w → upd H p u a = some w := fun a w e => by
  rw [upd_ne (ne_of_none e h)]; exact e
theorem Reps.same {K : Fw} {H H' : Hp} {xs : List D} {vs : List V} {o : List Addr} (h : Reps K H xs vs o) (k : ∀ a u, H a = some u → H' a = some u) : Reps K H' xs vs o :=
  h.fr ⟨fun a ha => by obtain ⟨u, e, _⟩ := h.own a ha; rw [e]; exact k _ _ e, fun a u e _ => k a u e⟩
theorem Rep.same {K : Fw} {H H' : Hp} {d : D} {v : V} {o : List Addr} (h : Rep K H d v o) (k : ∀ a u, H a = some u → H' a = some u) : Rep K H' d v o :=
  h.fr ⟨fun a ha => by obtain ⟨u, e, _⟩ := h.own a ha; rw [e]; exact k _ _ e, fun a u e _ => k a u e⟩
theorem z_tup {k : Nat} {pos : Pos} (h : PA X es (TAr (kx X) q m)) : PE X (.Tuple es k pos) (T (kx X) q (dTup m)) :=
  PE.imp (pe_tup h) fun σ H Q h => by
    obtain ⟨δ, o, r, δ', E, n, hm, k⟩ := h
    simp only [dTup] at hm
    cases h1 : m δ with
    | none => rw [h1] at hm; simp at hm
    | some p =>
      obtain ⟨rs, δ1⟩ := p
      rw [h1] at hm; dsimp only at hm
      cases h2 : owns rs with
      | none => rw [h2] at hm; simp at hm
      | some ds =>
        rw [h2] at hm; dsimp only at hm
        by_cases hc : ds.length ≤ 1000
        · rw [if_pos hc] at hm
          simp only [Option.some.injEq, Prod.mk.injEq] at hm
          obtain ⟨rfl, rfl⟩ := hm
          refine ⟨δ, o, rs, δ1, E, n, h1, fun vs H1 o1 ov1 s1 E1 hl w1 => ?_⟩
          have rp := hl.owns h2
          refine ⟨by rw [rp.length]; exact small_sz hc, fun p hp => ?_⟩
          exact k _ _ o1 ov1 ⟨s1.same (new_same hp), E1.same (new_same hp), ⟨p, vs, rfl, .of upd_same, rp.same (new_same hp)⟩, w1⟩
        · rw [if_neg hc] at hm; simp at hm
theorem z_lst {pos : Pos} (h : PA X es (TAr (kx X) q m)) : PE X (.List es pos) (T (kx X) q (dLst m)) :=
  PE.imp (pe_lst h) fun σ H Q h => by
    obtain ⟨δ, o, r, δ', E, n, hm, k⟩ := h
    simp only [dLst] at hm
    cases h1 : m δ with
    | none => rw [h1] at hm; simp at hm
    | some p =>
      obtain ⟨rs, δ1⟩ := p
      rw [h1] at hm; dsimp only at hm
      cases h2 : owns rs with
      | none => rw [h2] at hm; simp at hm
      | some ds =>
        rw [h2] at hm; dsimp only at hm
        by_cases hc : ds.length ≤ 1000
        · rw [if_pos hc] at hm
          simp only [Option.some.injEq, Prod.mk.injEq] at hm
          obtain ⟨rfl, rfl⟩ := hm
          refine ⟨δ, o, rs, δ1, E, n, h1, fun vs H1 o1 ov1 s1 E1 hl w1 => ?_⟩
          have rp := hl.owns h2
          refine ⟨by rw [rp.length]; exact small_sz hc, fun p hp => ?_⟩
          refine k _ _ o1 (p :: ov1) ⟨s1.same (new_same hp), E1.same (new_same hp), ⟨p, vs, ov1, rfl, upd_same, rp.same (new_same hp), rfl⟩, fun a => ?_⟩
          have hw := w1 a
          have d1 : ∀ a ∈ ov1 ++ o1, H1 a ≠ none := fun a ha => (List.mem_append.mp ha).elim (hl.dom a) (E1.dom a)
          by_cases ha : a = p
          · subst ha
            have z : (ov1 ++ o1).count a = 0 := List.count_eq_zero.mpr fun hm => d1 a hm hp
            rw [List.cons_append, List.count_cons_self, z]
            exact .inr ⟨s1.dom a hp, Nat.le_refl _⟩
          · rw [List.cons_append, List.count_cons_of_ne (fun z => ha z.symm)]
            exact hw
        · rw [if_neg hc] at hm; simp at hm
end

/-! ### subscripts -/
def subD : D → Int → Option D
  | .tup xs, i => atI xs i
  | .lst xs, i => atI xs i
  | .frz xs, i => atI xs i
  | .str x, i => match atI x.cps.toList i with
    | some c => some (.str ⟨#[c]⟩)
    | none => none
  | _, _ => none
def subR (r : R) (d : D) (i : Int) : Option R := match subD d i with
  | some e => if e.imm then some (.own e) else match r, d with
    | .at s p, .lst xs => match ixN xs.length i with
      | some j => some (.at s (p ++ [j]))
      | none => none
    | _, _ => none
  | none => none
def dSub (qb : Bool) (ma mb : Den) : Den := fun δ => match ma δ with
  | some (ra, δ1) => match mb δ1 with
    | some (rb, δ2) => if ra.short || qb then match deref δ2 ra, deref δ2 rb with
      | some d, some (.int i) => match subR ra d i with
        | some r => some (r, δ2)
        | none => none
      | _, _ => none
      else none
    | none => none
  | none => none
theorem strOk_mem {x : Str} (h : PyData.strOk x = true) {c : Nat} (hc : c ∈ x.cps.toList) : c < 0x110000 := by
  have h' : x.cps.all (· < 0x110000) = true := h
  rw [← Array.all_toList, List.all_eq_true] at h'
  exact of_decide_eq_true (h' c hc)
theorem strOk_of {l : List Nat} (h : ∀ c ∈ l, c < 0x110000) : PyData.strOk ⟨l.toArray⟩ = true := by
  show Array.all _ _ = true
  rw [← Array.all_toList, List.all_eq_true]
  exact fun c hc => decide_eq_true (h c hc)
theorem strOk_at {x : Str} (h : PyData.strOk x = true) {i : Int} {c : Nat} (hc : L2.atI x.cps.toList i = some c) : StrOk ⟨#[c]⟩ := by
  refine ⟨by show 1 ≤ sizeLine; decide, strOk_of (l := [c]) fun d hd => ?_⟩
  rw [List.mem_singleton.mp hd]
  unfold L2.atI at hc
  cases hj : ixN x.cps.toList.length i with
  | none => rw [hj] at hc; cases hc
  | some j =>
    rw [hj] at hc
    exact strOk_mem h (List.mem_of_getElem? (show x.cps.toList[j]? = some c from hc))
section
variable {K : Fw} {κ : Kx} {H : Hp}
theorem Reps.atI {xs : List D} {vs : List V} {o : List Addr} {i : Int} {e : D} (h : Reps K H xs vs o) (he : atI xs i = some e) : ∃ v o1, atI vs i = some v ∧ Rep K H e v o1 ∧ ∃ j, ixN xs.length i = some j ∧ vs[j]? = some v ∧ xs[j]? = some e := by
  unfold L2.atI at he ⊢
  cases hj : ixN xs.length i with
  | none => rw [hj] at he; simp at he
  | some j =>
    rw [hj] at he
    obtain ⟨v, o1, e1, r, _⟩ := h.get (i := j) (d := e) (by simpa using he)
    refine ⟨v, o1, ?_, r, j, rfl, e1, by simpa using he⟩
    rw [h.length, hj]
    exact e1
end
section
variable {X : Cx} {a b : Expr} {qa qb : Bool} {ma mb : Den}
theorem z_sub {pos : Pos} (ha : PE X a (T (kx X) qa ma)) (hb : PE X b (T (kx X) qb mb)) (hs : PlainIx b := by exact fun _ _ => rfl) : PE X (.Subscript a b pos) (T (kx X) (qa && qb) (dSub qb ma mb)) := by
  refine PE.imp (pe_ix ix_seq ha hb hs) fun σ H Q h => ?_
  obtain ⟨δ, o, r, δ', E, n, hm, k⟩ := h
  simp only [dSub] at hm
  cases h1 : ma δ with
  | none => rw [h1] at hm; simp at hm
  | some p1 =>
    obtain ⟨ra, δ1⟩ := p1
    rw [h1] at hm; dsimp only at hm
    cases h2 : mb δ1 with
    | none => rw [h2] at hm; simp at hm
    | some p2 =>
      obtain ⟨rb, δ2⟩ := p2
      rw [h2] at hm; dsimp only at hm
      by_cases hc : (ra.short || qb) = true
      · rw [if_pos hc] at hm
        cases h3 : deref δ2 ra with
        | none => rw [h3] at hm; simp at hm
        | some d =>
          cases h4 : deref δ2 rb with
          | none => rw [h3, h4] at hm; simp at hm
          | some db =>
            rw [h3, h4] at hm
            cases db <;> simp only [reduceCtorEq] at hm
            rename_i i
            cases h5 : subR ra d i with
            | none => rw [h5] at hm; simp at hm
            | some rr =>
              rw [h5] at hm
              simp only [Option.some.injEq, Prod.mk.injEq] at hm
              obtain ⟨rfl, rfl⟩ := hm
              refine (Stk.start E).push n h1 (by simp [allShort]) fun x H1 S1 => ?_
              refine S1.push n h2 (by simpa [allShort] using hc) fun y H2 S2 => ?_
              rw [Bool.true_and] at S2
              obtain ⟨o2, ov, s2, E2, ⟨y', vr, oy, oxx, e1, hy, ⟨x', vr2, ox, onil, e2, hx, ⟨e3, e4⟩, e5⟩, e6⟩, w2⟩ := S2
              subst e4 e5 e6 e3
              cases e2; cases e1
              obtain ⟨_, ry, _⟩ := hy.deref E2 h4
              obtain ⟨rfl, rfl⟩ := ry
              obtain ⟨od, rx, _⟩ := hx.deref E2 h3
              have wr : Own H o o2 := own_right w2
              have fin : ∀ (e : D) (v : V), e.imm = true → Rep X.F H2 e v [] → rr = .own e → Q v H2 := fun e v hi re er => by
                subst er
                exact k v H2 o2 [] ⟨s2, E2, re, wr.sub fun a => by simp⟩
              have seqs : ∀ (xs : List D) (vs : List V) (oo : List Addr), Reps X.F H2 xs vs oo → subD d i = atI xs i → (d = .lst xs ∨ ∀ ys, d ≠ .lst ys) → (∀ s p, ra = .at s p → d = .lst xs → ∀ v, atI vs i = some v → ∀ j, ixN xs.length i = some j → vs[j]? = some v → Held X.F H2 σ (.at s (p ++ [j])) v []) →
                  ∃ v, atI vs i = some v ∧ Q v H2 := fun xs vs oo rs hd hdl hp => by
                unfold subR at h5
                rw [hd] at h5
                cases he : atI xs i with
                | none => rw [he] at h5; simp at h5
                | some e =>
                  rw [he] at h5; dsimp only at h5
                  obtain ⟨v, o1, hv, re, j, hj, hvj, _⟩ := rs.atI he
                  refine ⟨v, hv, ?_⟩
                  by_cases hi : e.imm = true
                  · rw [if_pos hi] at h5
                    have := re.imm hi
                    subst this
                    exact fin e v hi re (Option.some.inj h5).symm
                  · rw [if_neg hi] at h5
                    cases hra : ra with
                    | own _ => rw [hra] at h5; simp at h5
                    | «at» s p =>
                      rw [hra] at h5
                      rcases hdl with hdl | hdl
                      · subst hdl
                        simp only [hj, Option.some.injEq] at h5
                        subst h5
                        exact k v H2 o2 [] ⟨s2, E2, hp s p hra rfl v hv j hj hvj, wr.sub fun a => by simp⟩
                      · cases d <;> simp only [reduceCtorEq] at h5
                        exact (hdl _ rfl).elim
              cases d with
              | tup xs =>
                obtain ⟨a1, vs, rfl, hq, rs⟩ := rx
                obtain ⟨v, hv, q⟩ := seqs xs vs _ rs rfl (.inr fun _ z => nomatch z) (fun _ _ _ z => nomatch z)
                exact .inr (.inl ⟨a1, vs, i, v, rfl, rfl, hq, hv, q⟩)
              | lst xs =>
                obtain ⟨a1, vs, o', rfl, hq, rs, _⟩ := rx
                obtain ⟨v, hv, q⟩ := seqs xs vs _ rs rfl (.inl rfl) (fun s p era _ v hv j hj hvj => by
                  subst era
                  obtain ⟨_, u, hu, hp⟩ := hx
                  exact ⟨rfl, u, hu, hp.snoc hq hvj⟩)
                exact .inl ⟨a1, vs, i, v, rfl, rfl, .of hq, hv, q⟩
              | frz xs =>
                obtain ⟨a1, vs, rfl, hq, rs, _⟩ := rx
                obtain ⟨v, hv, q⟩ := seqs xs vs _ rs rfl (.inr fun _ z => nomatch z) (fun _ _ _ z => nomatch z)
                exact .inl ⟨a1, vs, i, v, rfl, rfl, hq.sq, hv, q⟩
              | str z =>
                obtain ⟨rfl, ⟨hz, hz2⟩, _⟩ := rx
                simp only [subR, subD] at h5
                cases hc2 : atI z.cps.toList i with
                | none => rw [hc2] at h5; simp at h5
                | some c =>
                  rw [hc2] at h5
                  simp only [D.imm, if_true, Option.some.injEq] at h5
                  exact .inr (.inr ⟨z, i, c, rfl, rfl, hz, hc2, fin (.str ⟨#[c]⟩) _ rfl ⟨rfl, strOk_at hz2 hc2, rfl⟩ h5.symm⟩)
              | _ => simp [subR, subD] at h5
      · rw [if_neg hc] at hm; simp at hm
end
end Z


set_option Elab.async false
set_option linter.all false
set_option maxRecDepth 100000
/-! tests, choices, slices, calls of the program's own defs -/
namespace Z
open PySem PySem.Spec PyProof.Rows L2

theorem Step.weak {H H' : Hp} {q q' : Bool} {o : List Addr} (s : Step H H' (Wq q o)) (h : q' = true → q = true) : Step H H' (Wq q' o) := by
  cases q' with
  | true => rw [h rfl] at s; exact s
  | false => exact s.mono Wq_sub

/-! ### tests -/
abbrev DenT := DE → Option (Bool × DE)
def truthD : D → Option Bool
  | .non => some false
  | .bl b => some b
  | .int i => some (i != 0)
  | .str x => some ((x.length : Int) != 0)
  | .tup xs => some (!xs.isEmpty)
  | .lst xs => some (!xs.isEmpty)
  | .frz xs => some (!xs.isEmpty)
  | _ => none
def dTv (m : Den) : DenT := fun δ => match m δ with
  | some (r, δ1) => match deref δ1 r with
    | some d => match truthD d with
      | some b => some (b, δ1)
      | none => none
    | none => none
  | none => none
def dAnd (ma mb : DenT) : DenT := fun δ => match ma δ with
  | some (true, δ1) => mb δ1
  | x => x
def dOr (ma mb : DenT) : DenT := fun δ => match ma δ with
  | some (false, δ1) => mb δ1
  | x => x
def dNot (ma : DenT) : DenT := fun δ => match ma δ with
  | some (b, δ1) => some (!b, δ1)
  | none => none
section
variable {K : Fw} {κ : Kx} {σ : L2.St} {H : Hp} {q qa qb : Bool} {ma mb : DenT} {o : List Addr} {δ δ1 : DE} {b : Bool}
theorem empty_reps {xs : List D} {vs : List V} {o : List Addr} (h : Reps K H xs vs o) : (!vs.isEmpty) = !xs.isEmpty := by
  cases xs with
  | nil => rw [h.1]; rfl
  | cons x xs => obtain ⟨v, vr, _, _, rfl, _⟩ := h; rfl
theorem truth_ok {d : D} {v : V} {o : List Addr} {b : Bool} (r : Rep K H d v o) (h : truthD d = some b) : TruV K v H b := by
  cases d with
  | non => obtain ⟨rfl, _⟩ := r; exact (Option.some.inj h).symm
  | bl b => obtain ⟨rfl, _⟩ := r; exact (Option.some.inj h).symm
  | int i => obtain ⟨rfl, _⟩ := r; exact (Option.some.inj h).symm
  | str x => obtain ⟨rfl, hx, _⟩ := r; exact ⟨hx.1, (Option.some.inj h).symm⟩
  | tup xs =>
    obtain ⟨a, vs, rfl, hq, rs⟩ := r
    exact .inr (.inl ⟨vs, hq, by rw [empty_reps rs]; exact (Option.some.inj h).symm⟩)
  | lst xs =>
    obtain ⟨a, vs, o', rfl, hq, rs, _⟩ := r
    exact .inl ⟨vs, .of hq, by rw [empty_reps rs]; exact (Option.some.inj h).symm⟩
  | frz xs =>
    obtain ⟨a, vs, rfl, hq, rs, _⟩ := r
    exact .inl ⟨vs, hq.sq, by rw [empty_reps rs]; exact (Option.some.inj h).symm⟩
  | dic _ _ => cases h
  | obj _ _ _ => cases h
theorem PostA.seq {H1 H2 : Hp} {o1 o2 : List Addr} {δ2 : DE} (P : PostA κ H σ qa o δ1 H1 o1) (P2 : PostA κ H1 σ qb o1 δ2 H2 o2) : PostA κ H σ (qa && qb) o δ2 H2 o2 :=
  ⟨P.step.seq P.own P2.step, P2.env, P.own.trans P.step P2.own⟩
theorem PostA.weak {q' : Bool} {H1 : Hp} {o1 : List Addr} (P : PostA κ H σ q o δ1 H1 o1) (h : q' = true → q = true) : PostA κ H σ q' o δ1 H1 o1 := ⟨P.step.weak h, P.env, P.own⟩
theorem PostA.post {H1 H2 : Hp} {o1 o2 ov : List Addr} {δ2 : DE} {r : R} {v : V} (P : PostA κ H σ qa o δ1 H1 o1) (P2 : Post κ H1 σ qb o1 r δ2 v H2 o2 ov) : Post κ H σ (qa && qb) o r δ2 v H2 o2 ov :=
  ⟨P.step.seq P.own P2.step, P2.env, P2.held, P.own.trans P.step P2.own⟩
theorem Post.weak {q' : Bool} {r : R} {v : V} {H1 : Hp} {o1 ov : List Addr} (P : Post κ H σ q o r δ1 v H1 o1 ov) (h : q' = true → q = true) : Post κ H σ q' o r δ1 v H1 o1 ov := ⟨P.step.weak h, P.env, P.held, P.own⟩
/-- another test behind a test -/
theorem TT.then_ {H0 : Hp} {o0 : List Addr} {Q : Bool → Hp → Prop} (n0 : Nd o0) (P : PostA κ H0 σ qa o0 δ H o) (hm : mb δ = some (b, δ1)) (k : ∀ H' o', PostA κ H0 σ (qa && qb) o0 δ1 H' o' → Q b H') : TT κ qb mb σ H Q :=
  ⟨δ, o, b, δ1, P.env, P.own.nd n0, hm, fun H' o' P2 => k H' o' (P.seq P2)⟩
theorem T.then_ {H0 : Hp} {o0 : List Addr} {Q : VK} {m : Den} {r : R} (n0 : Nd o0) (P : PostA κ H0 σ qa o0 δ H o) (hm : m δ = some (r, δ1)) (k : ∀ v H' o' ov, Post κ H0 σ (qa && qb) o0 r δ1 v H' o' ov → Q v H') : T κ qb m σ H Q :=
  ⟨δ, o, r, δ1, P.env, P.own.nd n0, hm, fun v H' o' ov P2 => k v H' o' ov (P.post P2)⟩
end
section
variable {X : Cx} {a b c : Expr} {rest : List Expr} {q qa qb qc : Bool} {m ma' mb' : Den} {ma mb mc : DenT} {pos : Pos}
theorem z_tv (ha : PE X a (T (kx X) q m)) (he : ∀ whole, isTrue a X.env whole = (do let v ← whole; standAt a.pos; holding [v] (truthy v)) := by intro _; rfl) : PT X a (TT (kx X) q (dTv m)) :=
  PT.imp (pt_truth ha he) fun σ H Q h => by
    obtain ⟨δ, o, b, δ', E, n, hm, k⟩ := h
    simp only [dTv] at hm
    cases h1 : m δ with
    | none => rw [h1] at hm; simp at hm
    | some p =>
      obtain ⟨r, δ1⟩ := p
      rw [h1] at hm; dsimp only at hm
      cases h2 : deref δ1 r with
      | none => rw [h2] at hm; simp at hm
      | some d =>
        rw [h2] at hm; dsimp only at hm
        cases h3 : truthD d with
        | none => rw [h3] at hm; simp at hm
        | some b' =>
          rw [h3] at hm
          simp only [Option.some.injEq, Prod.mk.injEq] at hm
          obtain ⟨rfl, rfl⟩ := hm
          refine ⟨δ, o, r, δ1, E, n, h1, fun v H1 o1 ov P => ?_⟩
          obtain ⟨o', rp, _⟩ := P.held.deref P.env h2
          exact ⟨_, truth_ok rp h3, k H1 o1 ⟨P.step, P.env, own_right P.own⟩⟩
def dTb (m : Den) : DenT := fun δ => match m δ with
  | some (.own (.bl b), δ1) => some (b, δ1)
  | _ => none
theorem isbl {α : Type} {m : Den} {δ : DE} {z : α} {f : Bool → DE → Option α} {g : Option (R × DE) → Option α} (hg : ∀ b δ1, g (some (.own (.bl b), δ1)) = f b δ1) (hn : ∀ x, (∀ b δ1, x ≠ some (.own (.bl b), δ1)) → g x = none) (h : g (m δ) = some z) :
    ∃ b δ1, m δ = some (.own (.bl b), δ1) ∧ f b δ1 = some z := by
  by_cases hx : ∃ b δ1, m δ = some (.own (.bl b), δ1)
  · obtain ⟨b, δ1, e⟩ := hx
    exact ⟨b, δ1, e, by rw [← hg, ← e]; exact h⟩
  · rw [hn _ fun b δ1 e => hx ⟨b, δ1, e⟩] at h
    cases h
/-- a comparison as a test -/
theorem z_tcmp {op : CmpOp} {f : List D → Option D} (ho : OpR X (compareOp op) fun x y => Pr X.F f [x, y]) (ha : PE X a (T (kx X) qa ma')) (hb : PE X b (T (kx X) qb mb')) (hm : behindInMarks op b = false := by first | exact nomark _ | rfl) : PT X (.Compare a [op] [b] pos) (TT (kx X) (qa && (qb && true)) (dTb (dCall f (d2 qb ma' mb')))) :=
  PT.imp (pt_cmpR ho ha hb hm) fun σ H Q h => by
    obtain ⟨δ, o, b', δ', E, n, hm, k⟩ := h
    obtain ⟨c, δ1, h1, h2⟩ := isbl (m := dCall f (d2 qb ma' mb')) (δ := δ) (g := fun x => match x with | some (.own (.bl b), δ1) => some (b, δ1) | _ => none) (f := fun b δ1 => some (b, δ1))
      (fun b δ1 => rfl) (fun x hx => by split <;> first | rfl | exact (hx _ _ rfl).elim) hm
    simp only [Option.some.injEq, Prod.mk.injEq] at h2
    obtain ⟨rfl, rfl⟩ := h2
    refine t_two (Q := fun x y H2 => Pr X.F f [x, y] H2 fun x H' => ∃ k, x = .bl k ∧ Q k H') ((TAr.imp (t_call (f := f) (Q := fun x H' => ∃ k, x = .bl k ∧ Q k H') ⟨δ, o, .own (.bl c), δ1, E, n, h1, fun v H1 o1 ov P => ?_⟩)) fun vs H1 p x y e => by rw [← e]; exact p)
    obtain ⟨rfl, _⟩ := P.held
    exact ⟨c, rfl, k H1 o1 ⟨P.step, P.env, own_right P.own⟩⟩
theorem z_not (ha : PT X a (TT (kx X) qa ma)) : PT X (.UnaryOp .Not a pos) (TT (kx X) qa (dNot ma)) :=
  PT.imp (pt_not ha) fun σ H Q h => by
    obtain ⟨δ, o, b, δ', E, n, hm, k⟩ := h
    simp only [dNot] at hm
    cases h1 : ma δ with
    | none => rw [h1] at hm; simp at hm
    | some p =>
      obtain ⟨c, δ1⟩ := p
      rw [h1] at hm
      simp only [Option.some.injEq, Prod.mk.injEq] at hm
      obtain ⟨rfl, rfl⟩ := hm
      exact ⟨δ, o, c, δ1, E, n, h1, k⟩
theorem z_wand1 (ha : PT X a (TT (kx X) qa ma)) : PW X (.BoolOp .And [a] pos) (TT (kx X) qa ma) := pw_and1 ha
theorem z_wor1 (ha : PT X a (TT (kx X) qa ma)) : PW X (.BoolOp .Or [a] pos) (TT (kx X) qa ma) := pw_or1 ha
theorem z_wand (ha : PT X a (TT (kx X) qa ma)) (hb : PW X (.BoolOp .And (b :: rest) pos) (TT (kx X) qb mb)) : PW X (.BoolOp .And (a :: b :: rest) pos) (TT (kx X) (qa && qb) (dAnd ma mb)) :=
  PW.imp (pw_and ha hb) fun σ H Q h => by
    obtain ⟨δ, o, bb, δ', E, n, hm, k⟩ := h
    simp only [dAnd] at hm
    cases h1 : ma δ with
    | none => rw [h1] at hm; simp at hm
    | some p =>
      obtain ⟨c, δ1⟩ := p
      rw [h1] at hm
      refine ⟨δ, o, c, δ1, E, n, h1, fun H1 o1 P => ?_⟩
      cases c with
      | true =>
        rw [if_pos rfl]
        exact TT.then_ n P hm k
      | false =>
        rw [if_neg Bool.false_ne_true]
        simp only [Option.some.injEq, Prod.mk.injEq] at hm
        obtain ⟨rfl, rfl⟩ := hm
        exact k H1 o1 (P.weak (by simp +contextual))
theorem z_wor (ha : PT X a (TT (kx X) qa ma)) (hb : PW X (.BoolOp .Or (b :: rest) pos) (TT (kx X) qb mb)) : PW X (.BoolOp .Or (a :: b :: rest) pos) (TT (kx X) (qa && qb) (dOr ma mb)) :=
  PW.imp (pw_or ha hb) fun σ H Q h => by
    obtain ⟨δ, o, bb, δ', E, n, hm, k⟩ := h
    simp only [dOr] at hm
    cases h1 : ma δ with
    | none => rw [h1] at hm; simp at hm
    | some p =>
      obtain ⟨c, δ1⟩ := p
      rw [h1] at hm
      refine ⟨δ, o, c, δ1, E, n, h1, fun H1 o1 P => ?_⟩
      cases c with
      | false =>
        rw [if_neg Bool.false_ne_true]
        exact TT.then_ n P hm k
      | true =>
        rw [if_pos rfl]
        simp only [Option.some.injEq, Prod.mk.injEq] at hm
        obtain ⟨rfl, rfl⟩ := hm
        exact k H1 o1 (P.weak (by simp +contextual))
/-- a if c else b -/
def dIfE (mc : DenT) (ma mb : Den) : Den := fun δ => match mc δ with
  | some (true, δ1) => ma δ1
  | some (false, δ1) => mb δ1
  | none => none
theorem z_ife (hc : PT X c (TT (kx X) qc mc)) (ha : PE X a (T (kx X) qa ma')) (hb : PE X b (T (kx X) qb mb')) : PE X (.IfExp c a b pos) (T (kx X) (qc && (qa && qb)) (dIfE mc ma' mb')) :=
  PE.imp (pe_ifExp hc ha hb) fun σ H Q h => by
    obtain ⟨δ, o, r, δ', E, n, hm, k⟩ := h
    simp only [dIfE] at hm
    cases h1 : mc δ with
    | none => rw [h1] at hm; simp at hm
    | some p =>
      obtain ⟨c, δ1⟩ := p
      rw [h1] at hm
      refine ⟨δ, o, c, δ1, E, n, h1, fun H1 o1 P => ?_⟩
      cases c with
      | true =>
        rw [if_pos rfl]
        exact T.then_ (qb := qa) n P hm fun v H' o' ov P2 => k v H' o' ov (P2.weak (by simp +contextual))
      | false =>
        rw [if_neg Bool.false_ne_true]
        exact T.then_ (qb := qb) n P hm fun v H' o' ov P2 => k v H' o' ov (P2.weak (by simp +contextual))
/-- and, or, not as values: of True and False -/
def dAndV (ma mb : Den) : Den := fun δ => match ma δ with
  | some (.own (.bl true), δ1) => mb δ1
  | some (.own (.bl false), δ1) => some (.own (.bl false), δ1)
  | _ => none
def dOrV (ma mb : Den) : Den := fun δ => match ma δ with
  | some (.own (.bl false), δ1) => mb δ1
  | some (.own (.bl true), δ1) => some (.own (.bl true), δ1)
  | _ => none
def dNotV (ma : Den) : Den := fun δ => match ma δ with
  | some (.own (.bl b), δ1) => some (.own (.bl (!b)), δ1)
  | _ => none
theorem Post.toA {κ : Kx} {H : Hp} {σ : L2.St} {o : List Addr} {r : R} {δ1 : DE} {v : V} {H1 : Hp} {o1 ov : List Addr} (P : Post κ H σ q o r δ1 v H1 o1 ov) : PostA κ H σ q o δ1 H1 o1 := ⟨P.step, P.env, own_right P.own⟩
theorem z_one {op : BoolOp} (ha : PE X a (T (kx X) qa ma')) : PE X (.BoolOp op [a] pos) (T (kx X) qa ma') := pe_one ha
theorem z_and (ha : PE X a (T (kx X) qa ma')) (hb : PE X (.BoolOp .And (b :: rest) pos) (T (kx X) qb mb')) : PE X (.BoolOp .And (a :: b :: rest) pos) (T (kx X) (qa && qb) (dAndV ma' mb')) :=
  PE.imp (pe_and ha hb) fun σ H Q h => by
    obtain ⟨δ, o, r, δ', E, n, hm, k⟩ := h
    obtain ⟨c, δ1, h1, h2⟩ := isbl (m := ma') (δ := δ) (g := fun x => match x with | some (.own (.bl true), δ1) => mb' δ1 | some (.own (.bl false), δ1) => some (.own (.bl false), δ1) | _ => none) (f := fun b δ1 => if b then mb' δ1 else some (.own (.bl false), δ1))
      (fun b δ1 => by cases b <;> rfl) (fun x hx => by split <;> first | rfl | exact (hx _ _ rfl).elim) hm
    refine ⟨δ, o, _, δ1, E, n, h1, fun v H1 o1 ov P => ?_⟩
    obtain ⟨rfl, rfl⟩ := P.held
    refine ⟨c, rfl, ?_⟩
    cases c with
    | true =>
      rw [if_pos rfl] at h2 ⊢
      exact T.then_ n P.toA h2 k
    | false =>
      rw [if_neg Bool.false_ne_true] at h2 ⊢
      simp only [Option.some.injEq, Prod.mk.injEq] at h2
      obtain ⟨rfl, rfl⟩ := h2
      exact k _ H1 o1 [] (P.weak (by simp +contextual))
theorem z_or (ha : PE X a (T (kx X) qa ma')) (hb : PE X (.BoolOp .Or (b :: rest) pos) (T (kx X) qb mb')) : PE X (.BoolOp .Or (a :: b :: rest) pos) (T (kx X) (qa && qb) (dOrV ma' mb')) :=
  PE.imp (pe_or ha hb) fun σ H Q h => by
    obtain ⟨δ, o, r, δ', E, n, hm, k⟩ := h
    obtain ⟨c, δ1, h1, h2⟩ := isbl (m := ma') (δ := δ) (g := fun x => match x with | some (.own (.bl false), δ1) => mb' δ1 | some (.own (.bl true), δ1) => some (.own (.bl true), δ1) | _ => none) (f := fun b δ1 => if b then some (.own (.bl true), δ1) else mb' δ1)
      (fun b δ1 => by cases b <;> rfl) (fun x hx => by split <;> first | rfl | exact (hx _ _ rfl).elim) hm
    refine ⟨δ, o, _, δ1, E, n, h1, fun v H1 o1 ov P => ?_⟩
    obtain ⟨rfl, rfl⟩ := P.held
    refine ⟨c, rfl, ?_⟩
    cases c with
    | false =>
      rw [if_neg Bool.false_ne_true] at h2 ⊢
      exact T.then_ n P.toA h2 k
    | true =>
      rw [if_pos rfl] at h2 ⊢
      simp only [Option.some.injEq, Prod.mk.injEq] at h2
      obtain ⟨rfl, rfl⟩ := h2
      exact k _ H1 o1 [] (P.weak (by simp +contextual))
theorem z_notV (ha : PE X a (T (kx X) qa ma')) : PE X (.UnaryOp .Not a pos) (T (kx X) qa (dNotV ma')) :=
  PE.imp (pe_not ha) fun σ H Q h => by
    obtain ⟨δ, o, r, δ', E, n, hm, k⟩ := h
    obtain ⟨c, δ1, h1, h2⟩ := isbl (m := ma') (δ := δ) (g := fun x => match x with | some (.own (.bl b), δ1) => some (R.own (.bl (!b)), δ1) | _ => none) (f := fun b δ1 => some (.own (.bl (!b)), δ1))
      (fun b δ1 => rfl) (fun x hx => by split <;> first | rfl | exact (hx _ _ rfl).elim) hm
    refine ⟨δ, o, _, δ1, E, n, h1, fun v H1 o1 ov P => ?_⟩
    obtain ⟨rfl, rfl⟩ := P.held
    simp only [Option.some.injEq, Prod.mk.injEq] at h2
    obtain ⟨rfl, rfl⟩ := h2
    exact ⟨c, rfl, k _ H1 o1 [] ⟨P.step, P.env, ⟨rfl, rfl⟩, P.own⟩⟩
end
end Z


set_option Elab.async false
set_option linter.all false
set_option maxRecDepth 100000
/-! slices; calls of the program's own defs -/
namespace Z
open PySem PySem.Spec PyProof.Rows L2

/-! ### slices -/
abbrev DenO := DE → Option (Option Int × DE)
section
variable {X : Cx} {e : Expr} {lo hi : Option Expr} {q ql qh : Bool} {m : Den} {ml mh : DenO}
end

/-! ### calls of own defs -/
def roots : List R → List Nat
  | [] => []
  | .own _ :: rs => roots rs
  | .at i _ :: rs => i :: roots rs
def rootsOk : List R → Bool
  | [] => true
  | .own _ :: rs => rootsOk rs
  | .at i _ :: rs => !(roots rs).contains i && rootsOk rs
/-- what the call left of its arguments, put back -/
def puts : DE → List R → List (Option D) → Option DE
  | δ, [], [] => some δ
  | δ, .own _ :: rs, _ :: fs => puts δ rs fs
  | δ, .at i p :: rs, f :: fs => match δ[i]? with
    | some (some d) => match puts (δ.set i none) rs fs with
      | some δ2 => match f with
        | some e => match setP p d e with
          | some d' => some (δ2.set i (some d'))
          | none => none
        | none => match p with
          | [] => some δ2
          | _ :: _ => none
      | none => none
    | _ => none
  | _, _, _ => none
theorem puts_length : ∀ {rs : List R} {δ δ2 : DE} {fs : List (Option D)}, puts δ rs fs = some δ2 → δ2.length = δ.length
  | [], δ, δ2, [], h => by cases (Option.some.inj h); rfl
  | [], _, _, _ :: _, h => by simp [puts] at h
  | .own _ :: rs, δ, δ2, [], h => by simp [puts] at h
  | .own _ :: rs, δ, δ2, f :: fs, h => puts_length (rs := rs) (fs := fs) h
  | .at i p :: rs, δ, δ2, [], h => by simp [puts] at h
  | .at i p :: rs, δ, δ2, f :: fs, h => by
    simp only [puts] at h
    split at h
    · split at h
      · rename_i d hd δ3 h3
        have ih := puts_length h3
        rw [List.length_set] at ih
        split at h
        · split at h
          · cases (Option.some.inj h); rw [List.length_set]; exact ih
          · cases h
        · split at h
          · cases (Option.some.inj h); exact ih
          · cases h
      · cases h
    · cases h
theorem deref_set {δ : DE} {i : Nat} {x : Option D} : ∀ {r : R}, (∀ p, r ≠ .at i p) → deref (δ.set i x) r = deref δ r
  | .own _, _ => rfl
  | .at j p, h => by
    have : i ≠ j := fun e => h p (by rw [e])
    simp only [deref]
    rw [List.getElem?_set_ne this]
theorem derefs_set {δ : DE} {i : Nat} {x : Option D} : ∀ {rs : List R}, i ∉ roots rs → derefs (δ.set i x) rs = derefs δ rs
  | [], _ => rfl
  | .own d :: rs, h => by
    simp only [derefs]
    rw [derefs_set (rs := rs) h]; rfl
  | .at j p :: rs, h => by
    simp only [roots, List.mem_cons, not_or] at h
    simp only [derefs]
    rw [derefs_set (rs := rs) h.2, deref_set fun q e => h.1 (by cases e; rfl)]
section
variable {K : Fw} {κ : Kx} {H : Hp} {σ : List (Option V)}
theorem take_args : ∀ {rs : List R} {vs : List V} {ov o : List Addr} {δ : DE} {ds : List D}, Envs κ H σ δ o → HeldL κ.K H σ rs vs ov → derefs δ rs = some ds → rootsOk rs = true →
    ∃ oA oR, Reps κ.K H ds vs oA ∧ (∀ a, oA.count a + oR.count a = ov.count a + o.count a) ∧
      ∀ H' fs of_, Envs ⟨κ.K, .none⟩ H' (vs.map some) fs of_ → Fr H H' oR → ∀ δ2, puts δ rs fs = some δ2 → ∃ o2, Envs κ H' σ δ2 o2 ∧ ∀ a, o2.count a ≤ of_.count a + oR.count a
  | [], vs, ov, o, δ, ds, E, hl, e, _ => by
    cases (Option.some.inj e)
    obtain ⟨rfl, rfl⟩ := hl
    refine ⟨[], o, ⟨rfl, rfl⟩, by simp, fun H' fs of_ E' f δ2 hp => ?_⟩
    cases fs with
    | nil =>
      cases (Option.some.inj hp)
      exact ⟨o, E.fr f, fun a => by omega⟩
    | cons x fs => simp [puts] at hp
  | .own d :: rs, _, _, o, δ, ds, E, hl, e, hr => by
    obtain ⟨v, vr, o1, o2, rfl, h1, h2, rfl⟩ := hl
    simp only [derefs, deref] at e
    cases e2 : derefs δ rs with
    | none => rw [e2] at e; simp at e
    | some ds' =>
      rw [e2] at e
      cases (Option.some.inj e)
      obtain ⟨oA, oR, ra, hc, k⟩ := take_args E h2 e2 hr
      refine ⟨o1 ++ oA, oR, ⟨v, vr, o1, oA, rfl, h1, ra, rfl⟩, fun a => ?_, fun H' fs of_ E' f δ2 hp => ?_⟩
      · have := hc a
        simp only [List.count_append] at this ⊢
        omega
      · cases fs with
        | nil => simp [puts] at hp
        | cons x fs =>
          cases x with
          | none => exact k H' fs of_ E' f δ2 hp
          | some x =>
            obtain ⟨p1, p2, r1, E2, rfl⟩ := E'
            obtain ⟨o3, E3, c3⟩ := k H' fs p2 E2 f δ2 hp
            exact ⟨o3, E3, fun a => by have := c3 a; rw [List.count_append]; omega⟩
  | .at i p :: rs, _, _, o, δ, ds, E, hl, e, hr => by
    obtain ⟨v, vr, o1, o2, rfl, h1, h2, rfl⟩ := hl
    simp only [derefs] at e
    cases e1 : deref δ (.at i p) with
    | none => rw [e1] at e; simp at e
    | some d1 =>
      cases e2 : derefs δ rs with
      | none => rw [e1, e2] at e; simp at e
      | some ds' =>
        rw [e1, e2] at e
        cases (Option.some.inj e)
        simp only [rootsOk, Bool.and_eq_true, Bool.not_eq_true', List.contains_eq_mem, decide_eq_false_iff_not] at hr
        obtain ⟨hi, hr⟩ := hr
        simp only [deref] at e1
        cases hd : δ[i]? with
        | none => rw [hd] at e1; simp at e1
        | some od =>
          cases od with
          | none => rw [hd] at e1; simp at e1
          | some d =>
            rw [hd] at e1
            obtain ⟨v0, oa, oi, ob, hv0, rd, rfl, _, kn⟩ := E.at hd
            obtain ⟨rfl, u, hu, hp⟩ := h1
            rw [hv0] at hu; cases hu
            obtain ⟨oe, or1, re, hc1, k2⟩ := rd.path e1 hp
            have E1 := kn H Fr.rfl
            obtain ⟨oA, oR, ra, hc, k⟩ := take_args (δ := δ.set i none) E1 h2 (by rw [derefs_set hi]; exact e2) hr
            refine ⟨oe ++ oA, or1 ++ oR, ⟨v, vr, oe, oA, rfl, re, ra, rfl⟩, fun a => ?_, fun H' fs of_ E' f δ2 hp2 => ?_⟩
            · have h3 := hc a
              have h4 := hc1 a
              simp only [List.count_append, List.nil_append] at h3 ⊢
              omega
            · cases fs with
              | nil => simp [puts] at hp2
              | cons x fs =>
                simp only [puts, hd] at hp2
                cases hp3 : puts (δ.set i none) rs fs with
                | none => rw [hp3] at hp2; simp at hp2
                | some δ3 =>
                  rw [hp3] at hp2
                  have f2 : Fr _ H' oR := f.sub fun a ha => List.mem_append_right _ ha
                  have f1 : Fr _ H' or1 := f.sub fun a ha => List.mem_append_left _ ha
                  cases x with
                  | none =>
                    cases p with
                    | nil =>
                      cases (Option.some.inj hp2)
                      obtain ⟨o3, E3, c3⟩ := k H' fs of_ E' f2 _ hp3
                      exact ⟨o3, E3, fun a => by have := c3 a; rw [List.count_append]; omega⟩
                    | cons _ _ => simp at hp2
                  | some x =>
                    dsimp only at hp2
                    cases hs : setP p d x with
                    | none => rw [hs] at hp2; simp at hp2
                    | some d' =>
                      rw [hs] at hp2
                      cases (Option.some.inj hp2)
                      obtain ⟨p1, p2, r1, E2, rfl⟩ := E'
                      obtain ⟨o3, E3, c3⟩ := k H' fs p2 E2 f2 δ3 hp3
                      obtain ⟨o'', r'', c''⟩ := k2 H' x p1 d' r1 f1 hs
                      have hlen := puts_length hp3
                      rw [List.length_set] at hlen
                      obtain ⟨hil, _⟩ := List.getElem?_eq_some_iff.mp hd
                      obtain ⟨o4, E4, c4⟩ := Envs.set i E3 r'' (by omega)
                      have hset : σ.set i (some v0) = σ := by
                        obtain ⟨hl2, e3⟩ := List.getElem?_eq_some_iff.mp hv0
                        rw [← e3]; exact List.set_getElem_self hl2
                      rw [hset] at E4
                      refine ⟨o4, E4, fun a => ?_⟩
                      have g1 := c3 a
                      have g2 := c'' a
                      have g3 := c4 a
                      simp only [List.count_append] at g1 g2 g3 ⊢
                      omega
end
/-- what a def does: its result, and what is left of its arguments (none: not told) -/
abbrev Fn := List D → Option (D × List (Option D))
def spD (K : Fw) (m : Fn) : Sp := fun vs H Q _ => ∃ ds oA r fs, Reps K H ds vs oA ∧ Nd oA ∧ Tabs ⟨K, .none⟩ H ∧ m ds = some (r, fs) ∧
  ∀ v H' ov of_, Step H H' oA → Rep K H' r v ov → Envs ⟨K, .none⟩ H' (vs.map some) fs of_ → Own H oA (ov ++ of_) → Q v H'
def dUser (m : Fn) (ma : DE → Option (List R × DE)) : Den := fun δ => match ma δ with
  | some (rs, δ1) => if rootsOk rs then match derefs δ1 rs with
    | some ds => match m ds with
      | some (r, fs) => match puts δ1 rs fs with
        | some δ2 => some (.own r, δ2)
        | none => none
      | none => none
    | none => none
    else none
  | none => none
section
variable {X : Cx} {e : Expr} {es : List Expr} {q : Bool} {mr : DE → Option (List R × DE)} {m : Fn} {k : Nat} {f : Addr} {fd : FuncData} {ps : List Str} {x : Str} {p pos : Pos}
theorem t_user {σ : L2.St} {H : Hp} {Q : VK} (h : T (kx X) false (dUser m mr) σ H Q) : TAr (kx X) q mr σ H fun vs H1 => spD X.F m (vs ++ []) H1 Q E0 := by
  obtain ⟨δ, o, r, δ', E, n, hm, k⟩ := h
  simp only [dUser] at hm
  cases h1 : mr δ with
  | none => rw [h1] at hm; simp at hm
  | some p1 =>
    obtain ⟨rs, δ1⟩ := p1
    rw [h1] at hm; dsimp only at hm
    by_cases hr : rootsOk rs = true
    · rw [if_pos hr] at hm
      cases h2 : derefs δ1 rs with
      | none => rw [h2] at hm; simp at hm
      | some ds =>
        rw [h2] at hm; dsimp only at hm
        cases h3 : m ds with
        | none => rw [h3] at hm; simp at hm
        | some p3 =>
          obtain ⟨rr, fs⟩ := p3
          rw [h3] at hm; dsimp only at hm
          cases h4 : puts δ1 rs fs with
          | none => rw [h4] at hm; simp at hm
          | some δ2 =>
            rw [h4] at hm
            simp only [Option.some.injEq, Prod.mk.injEq] at hm
            obtain ⟨rfl, rfl⟩ := hm
            refine ⟨δ, o, rs, δ1, E, n, h1, fun vs H1 o1 ov1 s1 E1 hl w1 => ?_⟩
            obtain ⟨oA, oR, ra, hc, kp⟩ := take_args E1 hl h2 hr
            have n1 := w1.nd n
            have nA : Nd oA := fun a => by have h5 := hc a; have h6 := n1 a; rw [List.count_append] at h6; omega
            rw [List.append_nil]
            refine ⟨ds, oA, rr, fs, ra, nA, E1.tabs.bare, h3, fun v H2 ov of_ s2 rv E2 w2 => ?_⟩
            have hd1 : ∀ a ∈ oR, ∃ u, H1 a = some u ∧ Ow u := fun a ha => by
              have h5 := hc a
              have h6 : 0 < oR.count a := List.count_pos_iff.mpr ha
              have h7 : 0 < ov1.count a ∨ 0 < o1.count a := by omega
              exact h7.elim (fun z => hl.own a (List.count_pos_iff.mp z)) (fun z => E1.own a (List.count_pos_iff.mp z))
            have ap : ∀ a ∈ oR, a ∉ oA := fun a ha hb => by
              have h5 := hc a
              have h6 := n1 a
              have h7 : 0 < oR.count a := List.count_pos_iff.mpr ha
              have h8 : 0 < oA.count a := List.count_pos_iff.mpr hb
              rw [List.count_append] at h6
              omega
            have f : Fr H1 H2 oR := s2.fr (fun a ha => by obtain ⟨vs, e, how⟩ := ra.own a ha; exact ⟨_, e, how.1⟩) hd1 ap
            obtain ⟨o2, E3, c3⟩ := kp H2 fs of_ E2 f δ2 h4
            have s3 : Step H H2 o := by
              refine ⟨fun a u e hn hu => ?_, fun a e => s1.dom a (s2.dom a e), fun P g => s2.tab P (s1.tab P g)⟩
              have e1 := s1.keep a u e (fun z => hn (Wq_sub a z)) hu
              refine s2.keep a u e1 (fun z => ?_) hu
              have h5 := hc a
              have h6 : 0 < oA.count a := List.count_pos_iff.mpr z
              rcases w1 a with w | ⟨w, _⟩
              · rw [List.count_append] at w
                exact hn (List.count_pos_iff.mp (by omega))
              · rw [e] at w; cases w
            refine k v H2 o2 ov ⟨s3, E3, rv, fun a => ?_⟩
            have g1 := hc a
            have g2 := c3 a
            have g3 := w1 a
            have g4 := w2 a
            simp only [List.count_append] at g1 g2 g3 g4 ⊢
            rcases g4 with g4 | ⟨z, g4⟩
            · rcases g3 with g3 | ⟨z3, g3⟩
              · left; omega
              · right; exact ⟨z3, by omega⟩
            · have hz : oR.count a = 0 := List.count_eq_zero.mpr fun hb => by
                obtain ⟨u, e, _⟩ := hd1 a hb
                rw [z] at e; cases e
              exact .inr ⟨s1.dom a z, by omega⟩
    · rw [if_neg hr] at hm; simp at hm
theorem z_call (F : FnOk X.prog X.w X.K X.mg X.base CX0 k f fd ps (spD X.F m)) (hr : Room k X.A) (hg : Gl X x) (hm : X.mg x = some (.ref f)) (hk : PySem.W.keepIn X.K (.ref f) = true) (hb : Binds X.K fd ps [])
    (ha : PA X (e :: es) (TAr (kx X) q mr)) (hdb : (x == ("__debug__" : Str)) = false := by decide) (he : starEach (e :: es) X.env = (false, eval e X.env) :: starEach es X.env := by rfl) (hpl : (backTo pos (starEach es X.env)).any (·.1) = false := by rfl) :
    PE X (.Call (.Name x p) (e :: es) [] pos) (T (kx X) false (dUser m mr)) :=
  PE.imp (pe_call F hr hg hm hk hb .nil pass0 ha hdb he hpl) fun σ H Q h => t_user h
end
end Z


set_option Elab.async false
set_option linter.all false
set_option maxRecDepth 100000
/-! statements -/
namespace Z
open PySem PySem.Spec PyProof.Rows L2

inductive Out where
  | nx (δ : DE) | bk (δ : DE) | ct (δ : DE) | rt (d : D) (δ : DE)
  deriving Inhabited
abbrev Blk := DE → Option Out
structure PS0 (κ : Kx) (H : Hp) (σ : L2.St) (kp : Nat → Bool) (o : List Addr) (δ' : DE) (σ' : L2.St) (H' : Hp) (o' : List Addr) : Prop where
  step : Step H H' o
  env : Envs κ H' σ' δ' o'
  own : Own H o o'
  kept : ∀ i, kp i = true → σ'[i]? = σ[i]?
structure PR0 (κ : Kx) (H : Hp) (σ : L2.St) (kp : Nat → Bool) (o : List Addr) (d : D) (δ' : DE) (σ' : L2.St) (v : V) (H' : Hp) (o' ov : List Addr) : Prop where
  step : Step H H' o
  env : Envs κ H' σ' δ' o'
  rep : Rep κ.K H' d v ov
  own : Own H o (ov ++ o')
  kept : ∀ i, kp i = true → σ'[i]? = σ[i]?
def Fin (κ : Kx) (H : Hp) (σ : L2.St) (kp : Nat → Bool) (o : List Addr) (D' : Ends) : Out → Prop
  | .nx δ' => ∀ σ' H' o', PS0 κ H σ kp o δ' σ' H' o' → D'.nx σ' H'
  | .bk δ' => ∀ σ' H' o', PS0 κ H σ kp o δ' σ' H' o' → D'.bk σ' H'
  | .ct δ' => ∀ σ' H' o', PS0 κ H σ kp o δ' σ' H' o' → D'.ct σ' H'
  | .rt d δ' => ∀ σ' v H' o' ov, PR0 κ H σ kp o d δ' σ' v H' o' ov → D'.rt v H'
def TSm (κ : Kx) (kp : Nat → Bool) (m : Blk) : TS := fun D' σ H => ∃ δ o out, Envs κ H σ δ o ∧ Nd o ∧ m δ = some out ∧ Fin κ H σ kp o D' out
section
variable {K : Fw} {κ : Kx} {H H1 H2 : Hp} {σ σ1 σ2 : L2.St} {kp kp' : Nat → Bool} {o o1 o2 : List Addr} {δ δ1 δ2 : DE} {D' : Ends} {out : Out}
theorem PS0.trans (a : PS0 κ H σ kp o δ1 σ1 H1 o1) (b : PS0 κ H1 σ1 kp o1 δ2 σ2 H2 o2) : PS0 κ H σ kp o δ2 σ2 H2 o2 :=
  ⟨a.step.trans a.own b.step, b.env, a.own.trans a.step b.own, fun i h => (b.kept i h).trans (a.kept i h)⟩
theorem PS0.thenR {d : D} {v : V} {ov : List Addr} (a : PS0 κ H σ kp o δ1 σ1 H1 o1) (b : PR0 κ H1 σ1 kp o1 d δ2 σ2 v H2 o2 ov) : PR0 κ H σ kp o d δ2 σ2 v H2 o2 ov :=
  ⟨a.step.trans a.own b.step, b.env, b.rep, a.own.trans a.step b.own, fun i h => (b.kept i h).trans (a.kept i h)⟩
theorem PS0.refl (E : Envs κ H σ δ o) : PS0 κ H σ kp o δ σ H o := ⟨Step.refl _ _, E, Own.refl _ _, fun _ _ => rfl⟩
theorem PS0.weak (a : PS0 κ H σ kp' o δ1 σ1 H1 o1) (h : ∀ i, kp i = true → kp' i = true) : PS0 κ H σ kp o δ1 σ1 H1 o1 := ⟨a.step, a.env, a.own, fun i z => a.kept i (h i z)⟩
theorem PR0.weak {d : D} {v : V} {ov : List Addr} (a : PR0 κ H σ kp' o d δ1 σ1 v H1 o1 ov) (h : ∀ i, kp i = true → kp' i = true) : PR0 κ H σ kp o d δ1 σ1 v H1 o1 ov := ⟨a.step, a.env, a.rep, a.own, fun i z => a.kept i (h i z)⟩
theorem Fin.shift (h : Fin κ H σ kp o D' out) (a : PS0 κ H σ kp o δ1 σ1 H1 o1) : Fin κ H1 σ1 kp o1 D' out := by
  cases out with
  | nx δ' => exact fun σ' H' o' b => h σ' H' o' (a.trans b)
  | bk δ' => exact fun σ' H' o' b => h σ' H' o' (a.trans b)
  | ct δ' => exact fun σ' H' o' b => h σ' H' o' (a.trans b)
  | rt d δ' => exact fun σ' v H' o' ov b => h σ' v H' o' ov (a.thenR b)
theorem Fin.weak (h : Fin κ H σ kp o D' out) (w : ∀ i, kp i = true → kp' i = true) : Fin κ H σ kp' o D' out := by
  cases out with
  | nx δ' => exact fun σ' H' o' b => h σ' H' o' (b.weak w)
  | bk δ' => exact fun σ' H' o' b => h σ' H' o' (b.weak w)
  | ct δ' => exact fun σ' H' o' b => h σ' H' o' (b.weak w)
  | rt d δ' => exact fun σ' v H' o' ov b => h σ' v H' o' ov (b.weak w)
/-- behind an expression -/
theorem PostA.ps {q : Bool} (P : PostA κ H σ q o δ1 H1 o1) : PS0 κ H σ kp o δ1 σ H1 o1 := ⟨P.step.mono Wq_sub, P.env, P.own, fun _ _ => rfl⟩
end
def dSeq (a b : Blk) : Blk := fun δ => match a δ with
  | some (.nx δ1) => b δ1
  | x => x
def dNx : Blk := fun δ => some (.nx δ)
section
variable {X : Cx} {st : Stmt} {rest : List Stmt} {kp kp' : Nat → Bool} {m m1 m2 : Blk} {e : Expr} {q : Bool} {me : Den} {pos : Pos}
theorem z_nil : PSs X [] (TSm (kx X) kp dNx) := PSs.imp pss_nil fun D' σ H ⟨δ, o, out, E, n, hm, f⟩ => by
  cases (Option.some.inj hm)
  exact f σ H o (.refl E)
theorem z_cons (h1 : PS X st (TSm (kx X) kp m1)) (h2 : PSs X rest (TSm (kx X) kp m2)) : PSs X (st :: rest) (TSm (kx X) kp (dSeq m1 m2)) :=
  PSs.imp (pss_cons h1 h2) fun D' σ H ⟨δ, o, out, E, n, hm, f⟩ => by
    simp only [dSeq] at hm
    cases h1 : m1 δ with
    | none => rw [h1] at hm; simp at hm
    | some x =>
      rw [h1] at hm
      cases x with
      | nx δ1 => exact ⟨δ, o, .nx δ1, E, n, h1, fun σ' H' o' P => ⟨δ1, o', out, P.env, P.own.nd n, hm, f.shift P⟩⟩
      | bk δ1 => cases (Option.some.inj hm); exact ⟨δ, o, .bk δ1, E, n, h1, f⟩
      | ct δ1 => cases (Option.some.inj hm); exact ⟨δ, o, .ct δ1, E, n, h1, f⟩
      | rt d δ1 => cases (Option.some.inj hm); exact ⟨δ, o, .rt d δ1, E, n, h1, f⟩
theorem z_sone (h1 : PS X st (TSm (kx X) kp m1)) : PSs X [st] (TSm (kx X) kp m1) := pss_one h1
def dBk : Blk := fun δ => some (.bk δ)
def dCt : Blk := fun δ => some (.ct δ)
def dDrop (m : Den) : Blk := fun δ => match m δ with
  | some (_, δ1) => some (.nx δ1)
  | none => none
theorem z_expr (he : PE X e (T (kx X) q me)) (hs : swapsWith e none pos.line X.env = pure false := by rfl) : PS X (.Expr e pos) (TSm (kx X) kp (dDrop me)) :=
  PS.imp (ps_expr he hs) fun D' σ H ⟨δ, o, out, E, n, hm, f⟩ => by
    simp only [dDrop] at hm
    cases h1 : me δ with
    | none => rw [h1] at hm; simp at hm
    | some p =>
      obtain ⟨r, δ1⟩ := p
      rw [h1] at hm
      cases (Option.some.inj hm)
      exact ⟨δ, o, r, δ1, E, n, h1, fun v H1 o1 ov P => f σ H1 o1 P.toA.ps⟩
/-- a return: a datum of its own, or a name's list, which goes -/
def dRet (kp : Nat → Bool) (m : Den) : Blk := fun δ => match m δ with
  | some (.own d, δ1) => some (.rt d δ1)
  | some (.at i [], δ1) => if kp i then none else match δ1[i]? with
    | some (some d) => some (.rt d (δ1.set i none))
    | _ => none
  | _ => none
theorem z_ret (he : PE X e (T (kx X) q me)) : PS X (.Return (some e) pos) (TSm (kx X) kp (dRet kp me)) :=
  PS.imp (ps_ret he) fun D' σ H ⟨δ, o, out, E, n, hm, f⟩ => by
    simp only [dRet] at hm
    cases h1 : me δ with
    | none => rw [h1] at hm; simp at hm
    | some p =>
      obtain ⟨r, δ1⟩ := p
      rw [h1] at hm
      refine ⟨δ, o, r, δ1, E, n, h1, fun v H1 o1 ov P => ?_⟩
      cases r with
      | own d =>
        cases (Option.some.inj hm)
        exact f σ v H1 o1 ov ⟨P.step.mono Wq_sub, P.env, P.held, P.own, fun _ _ => rfl⟩
      | «at» i p =>
        cases p with
        | cons _ _ => simp at hm
        | nil =>
          dsimp only at hm
          by_cases hk : kp i = true
          · rw [if_pos hk] at hm; simp at hm
          · rw [if_neg hk] at hm
            cases hd : δ1[i]? with
            | none => rw [hd] at hm; simp at hm
            | some x =>
              cases x with
              | none => rw [hd] at hm; simp at hm
              | some d =>
                rw [hd] at hm
                cases (Option.some.inj hm)
                obtain ⟨v0, oa, oi, ob, hv0, rd, e0, _, kn⟩ := P.env.at hd
                obtain ⟨rfl, u, hu, hp⟩ := P.held
                rw [hv0] at hu; cases hu
                cases (show v = v0 from hp)
                refine f σ v H1 (oa ++ ob) oi ⟨P.step.mono Wq_sub, kn H1 Fr.rfl, rd, P.own.sub fun a => ?_, fun _ _ => rfl⟩
                rw [e0]
                simp only [List.count_append, List.nil_append]
                omega
def dRetN : Blk := fun δ => some (.rt .non δ)
def dIf (c : DenT) (a b : Blk) : Blk := fun δ => match c δ with
  | some (true, δ1) => a δ1
  | some (false, δ1) => b δ1
  | none => none
theorem z_if {c : Expr} {a b : List Stmt} {mc : DenT} {ma mb : Blk} (hc : PT X c (TT (kx X) q mc)) (ha : PSs X a (TSm (kx X) kp ma)) (hb : PSs X b (TSm (kx X) kp mb)) : PS X (.If c a b pos) (TSm (kx X) kp (dIf mc ma mb)) :=
  PS.imp (ps_if hc ha hb) fun D' σ H ⟨δ, o, out, E, n, hm, f⟩ => by
    simp only [dIf] at hm
    cases h1 : mc δ with
    | none => rw [h1] at hm; simp at hm
    | some p =>
      obtain ⟨c, δ1⟩ := p
      rw [h1] at hm
      refine ⟨δ, o, c, δ1, E, n, h1, fun H1 o1 P => ?_⟩
      cases c with
      | true =>
        rw [if_pos rfl]
        exact ⟨δ1, o1, out, P.env, P.own.nd n, hm, f.shift P.ps⟩
      | false =>
        rw [if_neg Bool.false_ne_true]
        exact ⟨δ1, o1, out, P.env, P.own.nd n, hm, f.shift P.ps⟩
end

/-! ### targets -/
abbrev Bnd := D → DE → Option DE
abbrev Bnds := List D → DE → Option DE
def TGm (κ : Kx) (kp : Nat → Bool) (b : Bnd) : TG := fun v σ H Q => ∃ δ o d ov δ', Envs κ H σ δ o ∧ Rep κ.K H d v ov ∧ b d δ = some δ' ∧
  ∀ σ' o', Envs κ H σ' δ' o' → (∀ a, o'.count a ≤ ov.count a + o.count a) → ((∀ i, kp i = true → σ'[i]? = σ[i]?) ∧ σ'.length = σ.length) → Q σ' H
def TGsm (κ : Kx) (kp : Nat → Bool) (b : Bnds) : TGs := fun vs σ H Q => ∃ δ o ds ov δ', Envs κ H σ δ o ∧ Reps κ.K H ds vs ov ∧ b ds δ = some δ' ∧
  ∀ σ' o', Envs κ H σ' δ' o' → (∀ a, o'.count a ≤ ov.count a + o.count a) → ((∀ i, kp i = true → σ'[i]? = σ[i]?) ∧ σ'.length = σ.length) → Q σ' H
def bName (i : Nat) : Bnd := fun d δ => if i < δ.length then some (δ.set i (some d)) else none
def bNil : Bnds := fun ds δ => match ds with
  | [] => some δ
  | _ :: _ => none
def bCons (a : Bnd) (r : Bnds) : Bnds := fun ds δ => match ds with
  | [] => none
  | d :: ds => match a d δ with
    | some δ1 => r ds δ1
    | none => none
def bTup (n : Nat) (r : Bnds) : Bnd := fun d δ => match d with
  | .tup ds => if ds.length = n then r ds δ else none
  | _ => none
section
variable {X : Cx} {kp : Nat → Bool} {pos : Pos}
theorem PG.imp {e : Expr} {t t' : TG} (h : PG X e t) (i : ∀ v σ H Q, t' v σ H Q → t v σ H Q) : PG X e t' := ⟨fun pins s σ H v u Q I r hw => h.run pins s σ H v u Q I r (i _ _ _ _ hw)⟩
theorem PGs.imp {e : List Expr} {t t' : TGs} (h : PGs X e t) (i : ∀ v σ H Q, t' v σ H Q → t v σ H Q) : PGs X e t' := ⟨fun pins s σ H v u Q I r hw => h.run pins s σ H v u Q I r (i _ _ _ _ hw)⟩
theorem set_kept {σ : L2.St} {i : Nat} {x : Option V} (hk : kp i = false) : ∀ j, kp j = true → (σ.set i x)[j]? = σ[j]? := fun j hj => by
  have : i ≠ j := fun e => by rw [e, hj] at hk; cases hk
  rw [List.getElem?_set_ne this]
theorem z_gname {i : Nat} {x : Str} (hN : X.N.Nodup) (hi : X.N[i]? = some x) (hx : Loc X.env.scope x) (hk : kp i = false) (hf : X.fn x = true ∨ X.env.scope.names.lookup x = some .local := by first | exact .inl rfl | exact .inr rfl | assumption) : PG X (.Name x pos) (TGm (kx X) kp (bName i)) :=
  PG.imp (pg_name hN hi hx hf) fun v σ H Q ⟨δ, o, d, ov, δ', E, r, hb, k⟩ => by
    simp only [bName] at hb
    by_cases hl : i < δ.length
    · rw [if_pos hl] at hb
      cases (Option.some.inj hb)
      obtain ⟨o2, E2, c⟩ := Envs.set i E r hl
      exact k _ o2 E2 (fun a => by have := c a; omega) ⟨set_kept hk, List.length_set⟩
    · rw [if_neg hl] at hb; cases hb
theorem z_gsnil : PGs X [] (TGsm (kx X) kp bNil) := PGs.imp pgs_nil fun vs σ H Q ⟨δ, o, ds, ov, δ', E, r, hb, k⟩ => by
  cases ds with
  | cons _ _ => simp [bNil] at hb
  | nil =>
    cases (Option.some.inj hb)
    obtain ⟨rfl, rfl⟩ := r
    exact ⟨rfl, k σ o E (fun a => by simp) ⟨fun _ _ => rfl, rfl⟩⟩
theorem z_gscons {e : Expr} {es : List Expr} {b : Bnd} {bs : Bnds} (h1 : PG X e (TGm (kx X) kp b)) (h2 : PGs X es (TGsm (kx X) kp bs)) (hs : (assignEach (e :: es) X.env).map (·.2) = assign e X.env :: (assignEach es X.env).map (·.2) := by rfl) : PGs X (e :: es) (TGsm (kx X) kp (bCons b bs)) :=
  PGs.imp (pgs_cons h1 h2 hs) fun vs σ H Q ⟨δ, o, ds, ov, δ', E, r, hb, k⟩ => by
    cases ds with
    | nil => simp [bCons] at hb
    | cons d ds =>
      obtain ⟨v, vr, o1, o2, rfl, r1, r2, rfl⟩ := r
      simp only [bCons] at hb
      cases h3 : b d δ with
      | none => rw [h3] at hb; simp at hb
      | some δ1 =>
        rw [h3] at hb
        refine ⟨v, vr, rfl, δ, o, d, o1, δ1, E, r1, h3, fun σ1 o3 E3 c3 k3 => ?_⟩
        refine ⟨δ1, o3, ds, o2, δ', E3, r2, hb, fun σ2 o4 E4 c4 k4 => k σ2 o4 E4 (fun a => ?_) ⟨fun i hi => (k4.1 i hi).trans (k3.1 i hi), k4.2.trans k3.2⟩⟩
        have h5 := c3 a
        have h6 := c4 a
        rw [List.count_append]
        omega
theorem z_gtup {es : List Expr} {k n : Nat} {bs : Bnds} (hc : X.calm = true) (h : PGs X es (TGsm (kx X) kp bs)) (hn : (assignEach es X.env).length = n := by rfl) (hst : (assignEach es X.env).findIdx? (·.1) = none := by rfl) : PG X (.Tuple es k pos) (TGm (kx X) kp (bTup n bs)) :=
  PG.imp (pg_tup hc h hn hst) fun v σ H Q ⟨δ, o, d, ov, δ', E, r, hb, k⟩ => by
    cases d <;> simp only [bTup, reduceCtorEq] at hb
    rename_i ds
    by_cases hl : ds.length = n
    · rw [if_pos hl] at hb
      obtain ⟨a, vs, rfl, hq, rs⟩ := r
      exact ⟨a, vs, rfl, hq, rs.length.trans hl, δ, o, ds, ov, δ', E, rs, hb, k⟩
    · rw [if_neg hl] at hb; cases hb
end
def dAsg (b : Bnd) (m : Den) : Blk := fun δ => match m δ with
  | some (.own d, δ1) => match b d δ1 with
    | some δ2 => some (.nx δ2)
    | none => none
  | _ => none
section
variable {X : Cx} {kp : Nat → Bool} {pos : Pos} {tg e : Expr} {q : Bool} {m : Den} {b : Bnd}
theorem t_asg {κ : Kx} {D' : Ends} {σ : L2.St} {H : Hp} (h : TSm κ kp (dAsg b m) D' σ H) : T κ q m σ H fun x H1 => TGm κ kp b x σ H1 D'.nx := by
  obtain ⟨δ, o, out, E, n, hm, f⟩ := h
  simp only [dAsg] at hm
  cases h1 : m δ with
  | none => rw [h1] at hm; simp at hm
  | some p =>
    obtain ⟨r, δ1⟩ := p
    rw [h1] at hm
    cases r with
    | «at» _ _ => simp at hm
    | own d =>
      dsimp only at hm
      cases h2 : b d δ1 with
      | none => rw [h2] at hm; simp at hm
      | some δ2 =>
        rw [h2] at hm
        cases (Option.some.inj hm)
        refine ⟨δ, o, .own d, δ1, E, n, h1, fun v H1 o1 ov P => ?_⟩
        refine ⟨δ1, o1, d, ov, δ2, P.env, P.held, h2, fun σ' o' E' c k => f σ' H1 o' ⟨P.step.mono Wq_sub, E', P.own.sub fun a => ?_, k.1⟩⟩
        rw [List.count_append]; exact c a
theorem z_asg (he : PE X e (T (kx X) q m)) (hg : PG X tg (TGm (kx X) kp b)) (hs : swapsWithSole [tg] e pos.line X.env = pure false := by rfl) (hw : swappedStores [tg] e X.env = pure none := by rfl)
    (h1 : (assignEach [tg] X.env).map (·.2) = [assign tg X.env] := by rfl) : PS X (.Assign [tg] e pos) (TSm (kx X) kp (dAsg b m)) :=
  PS.imp (ps_asg he hg hs hw h1) fun D' σ H h => t_asg h
theorem gname_of {κ : Kx} {i : Nat} {v : V} {σ : L2.St} {H : Hp} {Q : L2.St → Hp → Prop} (hk : kp i = false) (h : TGm κ kp (bName i) v σ H Q) : Q (σ.set i (some v)) H := by
  obtain ⟨δ, o, d, ov, δ', E, r, hb, k⟩ := h
  simp only [bName] at hb
  by_cases hl : i < δ.length
  · rw [if_pos hl] at hb
    cases (Option.some.inj hb)
    obtain ⟨o2, E2, c⟩ := Envs.set i E r hl
    exact k _ o2 E2 (fun a => by have := c a; omega) ⟨set_kept hk, List.length_set⟩
  · rw [if_neg hl] at hb; cases hb
theorem z_set {i : Nat} {x : Str} {pos' : Pos} (hN : X.N.Nodup) (hi : X.N[i]? = some x) (hx : Loc X.env.scope x) (hk : kp i = false) (he : PE X e (T (kx X) q m)) (hs : swapsWith e (some (.Name x pos')) pos.line X.env = pure false := by rfl)
    (hf : X.fn x = true ∨ X.env.scope.names.lookup x = some .local := by first | exact .inl rfl | exact .inr rfl | assumption) : PS X (.Assign [.Name x pos'] e pos) (TSm (kx X) kp (dAsg (bName i) m)) :=
  PS.imp (ps_set hN hi hx he hs hf) fun D' σ H h => by
    obtain ⟨δ, o, r, δ1, E, n, h1, k⟩ := t_asg (q := q) h
    exact ⟨δ, o, r, δ1, E, n, h1, fun v H1 o1 ov P => gname_of hk (k v H1 o1 ov P)⟩
end

/-! ### while -/
def dWhile (mc : DenT) (mb : Blk) : Nat → Blk
  | 0, _ => none
  | n + 1, δ => match mc δ with
    | some (true, δ1) => match mb δ1 with
      | some (.nx δ2) => dWhile mc mb n δ2
      | some (.ct δ2) => dWhile mc mb n δ2
      | some (.bk δ2) => some (.nx δ2)
      | x => x
    | some (false, δ1) => some (.nx δ1)
    | none => none
section
variable {X : Cx} {kp : Nat → Bool} {pos : Pos} {c : Expr} {body : List Stmt} {q : Bool} {mc : DenT} {mb : Blk}
theorem z_while (n : Nat) (hp : PassesOwn (model X.prog X.w) X.A X.env X.xe) (hc : PT X c (TT (kx X) q mc)) (hb : PSs X body (TSm (kx X) kp mb)) : PS X (.While c body [] pos) (TSm (kx X) kp (dWhile mc mb n)) :=
  PS.imp (ps_while hp hc hb) fun D' σ H ⟨δ, o, out, E, nd, hm, f⟩ => by
    refine ⟨fun m σ1 H1 => ∃ δ1 o1, PS0 (kx X) H σ kp o δ1 σ1 H1 o1 ∧ dWhile mc mb m δ1 = some out, ⟨n, δ, o, .refl E, hm⟩, fun m σ1 H1 hW => ?_⟩
    obtain ⟨δ1, o1, P1, h1⟩ := hW
    cases m with
    | zero => simp [dWhile] at h1
    | succ m =>
      simp only [dWhile] at h1
      cases h2 : mc δ1 with
      | none => rw [h2] at h1; simp at h1
      | some p =>
        obtain ⟨b, δ2⟩ := p
        rw [h2] at h1
        refine ⟨δ1, o1, b, δ2, P1.env, P1.own.nd nd, h2, fun H2 o2 P2 => ?_⟩
        have P12 : PS0 (kx X) H σ kp o δ2 σ1 H2 o2 := P1.trans P2.ps
        cases b with
        | true =>
          dsimp only at h1
          show if true = true then _ else _
          rw [if_pos rfl]
          refine ⟨fun σ3 H3 => ∃ δ3 o3, PS0 (kx X) H σ kp o δ3 σ3 H3 o3 ∧ dWhile mc mb m δ3 = some out, fun σ3 H3 ⟨δ3, o3, P3, h3⟩ => ⟨m, Nat.lt_succ_self _, δ3, o3, P3, h3⟩, ?_⟩
          cases h3 : mb δ2 with
          | none => rw [h3] at h1; simp at h1
          | some x =>
            rw [h3] at h1
            refine ⟨δ2, o2, x, P12.env, P12.own.nd nd, h3, ?_⟩
            cases x with
            | nx δ3 => exact fun σ3 H3 o3 P3 => ⟨δ3, o3, P12.trans P3, h1⟩
            | ct δ3 => exact fun σ3 H3 o3 P3 => ⟨δ3, o3, P12.trans P3, h1⟩
            | bk δ3 =>
              cases (Option.some.inj h1)
              exact fun σ3 H3 o3 P3 => f σ3 H3 o3 (P12.trans P3)
            | rt d δ3 =>
              cases (Option.some.inj h1)
              exact fun σ3 v H3 o3 ov P3 => f σ3 v H3 o3 ov (P12.thenR P3)
        | false =>
          show if false = true then _ else _
          rw [if_neg Bool.false_ne_true]
          cases (Option.some.inj h1)
          exact f σ1 H2 o2 P12
end

/-! ### for -/
/-- what is walked: its items, and the names whose lists have to stay as they are -/
structure Src where
  xs : List D
  gs : List (Nat × D)
  deriving Inhabited
abbrev DenS := DE → Option (Src × DE)
def gOk : List (Nat × D) → DE → Bool
  | [], _ => true
  | (i, d) :: gs, δ => decide (δ[i]? = some (some d)) && gOk gs δ
/-- while the heap is so, the iterator gives the items -/
def SrcOk (K : Fw) (σ : L2.St) (src : Src) (J : It) (H1 : Hp) (ov : List Addr) : Prop :=
  ∀ i H', (∀ a ∈ ov, H' a = H1 a) → (∀ a u, H1 a = some u → Sh u → H' a = some u) → (∀ p ∈ src.gs, ∃ v o, σ[p.1]? = some (some v) ∧ Rep K H' p.2 v o) →
    (∀ x, src.xs[i]? = some x → J.go i H' ∧ ∀ v H'', J.yld i H' v H'' → (∀ a u, H' a = some u → H'' a = some u) ∧ Rep K H'' x v []) ∧ (src.xs.length ≤ i → J.stop i H')
def TIm (κ : Kx) (q : Bool) (m : DenS) : TI := fun σ H R => ∃ δ o src δ', Envs κ H σ δ o ∧ Nd o ∧ m δ = some (src, δ') ∧
  ∀ J H1 o1 ov, Step H H1 (Wq q o) → Envs κ H1 σ δ' o1 → Own H o (ov ++ o1) → (∀ a ∈ ov, ∃ u, H1 a = some u ∧ Ow u) → SrcOk κ.K σ src J H1 ov → src.xs.length ≤ sizeLine → R J H1
def dForL (gs : List (Nat × D)) (b : Bnd) (mb : Blk) : List D → Blk
  | [], δ => if gOk gs δ then some (.nx δ) else none
  | x :: xs, δ => if gOk gs δ then match b x δ with
    | some δ1 => match mb δ1 with
      | some (.nx δ2) => dForL gs b mb xs δ2
      | some (.ct δ2) => dForL gs b mb xs δ2
      | some (.bk δ2) => some (.nx δ2)
      | z => z
    | none => none
    else none
/-- the walked names are among the kept ones -/
def gsIn (kp : Nat → Bool) : List (Nat × D) → Bool
  | [] => true
  | p :: gs => kp p.1 && gsIn kp gs
theorem gsIn_mem {kp : Nat → Bool} : ∀ {gs : List (Nat × D)}, gsIn kp gs = true → ∀ p ∈ gs, kp p.1 = true
  | [], _, _, hp => nomatch hp
  | q :: gs, h, p, hp => by
    simp only [gsIn, Bool.and_eq_true] at h
    rcases List.mem_cons.mp hp with rfl | hp
    · exact h.1
    · exact gsIn_mem h.2 p hp
def dFor (kp : Nat → Bool) (ms : DenS) (b : Bnd) (mb : Blk) : Blk := fun δ => match ms δ with
  | some (src, δ1) => if gsIn kp src.gs then dForL src.gs b mb src.xs δ1 else none
  | none => none
theorem gOk_rep {κ : Kx} {H : Hp} {σ : L2.St} {δ : DE} {o : List Addr} (E : Envs κ H σ δ o) : ∀ {gs : List (Nat × D)}, gOk gs δ = true → ∀ p ∈ gs, ∃ v o, σ[p.1]? = some (some v) ∧ Rep κ.K H p.2 v o
  | [], _, p, hp => nomatch hp
  | (i, d) :: gs, h, p, hp => by
    simp only [gOk, Bool.and_eq_true, decide_eq_true_eq] at h
    rcases List.mem_cons.mp hp with rfl | hp
    · obtain ⟨v, oa, oi, ob, hv, r, _⟩ := E.at h.1
      exact ⟨v, oi, hv, r⟩
    · exact gOk_rep E h.2 p hp
section
variable {X : Cx} {kp kp' : Nat → Bool} {pos : Pos} {tg iter : Expr} {body : List Stmt} {q : Bool} {ms : DenS} {b : Bnd} {mb : Blk}
theorem z_for (hp : PassesOwn (model X.prog X.w) X.A X.env X.xe) (hc : X.calm = true) (hi : PI X tg iter (TIm (kx X) q ms)) (hg : PG X tg (TGm (kx X) kp' b)) (hb : PSs X body (TSm (kx X) kp' mb)) (hw : ∀ i, kp i = true → kp' i = true)
    (hs : ∀ x, foldedSetIterable iter X.env x = pure x := by intro _; rfl) : PS X (.For tg iter body [] pos) (TSm (kx X) kp (dFor kp' ms b mb)) :=
  PS.imp (ps_for hp hc hi hg hb hs) fun D' σ H ⟨δ, o, out, E, n, hm, f0⟩ => by
    have f := f0.weak hw
    simp only [dFor] at hm
    cases h1 : ms δ with
    | none => rw [h1] at hm; simp at hm
    | some p =>
      obtain ⟨src, δ1⟩ := p
      rw [h1] at hm; dsimp only at hm
      by_cases hk0 : gsIn kp' src.gs = true
      case neg => rw [if_neg hk0] at hm; cases hm
      rw [if_pos hk0] at hm
      have hk := gsIn_mem hk0
      refine ⟨δ, o, src, δ1, E, n, h1, fun J H1 o1 ov s1 E1 w1 hov S _ => ?_⟩
      have P1 : PS0 (kx X) H σ kp' o δ1 σ H1 o1 := ⟨s1.mono Wq_sub, E1, own_right w1, fun _ _ => rfl⟩
      have n1 := w1.nd n
      -- W: at turn i
      refine ⟨fun i m σ2 H2 => m + i = src.xs.length ∧ ∃ δ2 o2, PS0 (kx X) H1 σ kp' o1 δ2 σ2 H2 o2 ∧ Step H1 H2 o1 ∧ dForL src.gs b mb (src.xs.drop i) δ2 = some out, ⟨src.xs.length, rfl, δ1, o1, .refl E1, .refl _ _, hm⟩, fun i m σ2 H2 hW => ?_⟩
      obtain ⟨hl, δ2, o2, P2, s2, h2⟩ := hW
      have P12 := P1.trans P2
      have pin : ∀ a ∈ ov, H2 a = H1 a := fun a ha => by
        obtain ⟨u, e, how⟩ := hov a ha
        rw [e]
        exact s2.keep a _ e (nd_split n1 a ha) how.2
      have shr : ∀ a u, H1 a = some u → Sh u → H2 a = some u := fun a u e hu => s2.keep a u e (fun z => by
        obtain ⟨vs, e2, how⟩ := E1.own a z
        rw [e] at e2; cases e2; exact how.1 hu) hu.nt
      have gk : gOk src.gs δ2 = true → ∀ p ∈ src.gs, ∃ v o, σ[p.1]? = some (some v) ∧ Rep X.F H2 p.2 v o := fun hg p hp => by
        obtain ⟨v, o, hv, r⟩ := gOk_rep P2.env hg p hp
        exact ⟨v, o, by rw [← P2.kept _ (hk p hp)]; exact hv, r⟩
      by_cases hi : i < src.xs.length
      · have hx : src.xs[i]? = some src.xs[i] := List.getElem?_eq_getElem hi
        rw [List.drop_eq_getElem_cons hi] at h2
        simp only [dForL] at h2
        by_cases hg : gOk src.gs δ2 = true
        · rw [if_pos hg] at h2
          obtain ⟨go, _⟩ := S i H2 pin shr (gk hg)
          obtain ⟨go, yl⟩ := go _ hx
          cases h3 : b src.xs[i] δ2 with
          | none => rw [h3] at h2; simp at h2
          | some δ3 =>
            rw [h3] at h2; dsimp only at h2
            refine .inr ⟨go, fun σ' H' => ∃ δ4 o4, PS0 (kx X) H1 σ kp' o1 δ4 σ' H' o4 ∧ Step H1 H' o1 ∧ dForL src.gs b mb (src.xs.drop (i + 1)) δ4 = some out, fun σ' H' ⟨δ4, o4, P4, s4, h4⟩ => ⟨m - 1, by omega, by omega, δ4, o4, P4, s4, h4⟩, fun v H3 hy => ?_⟩
            obtain ⟨sm, rv⟩ := yl v H3 hy
            have s3 : Step H1 H3 o1 := s2.same sm
            refine ⟨δ2, o2, src.xs[i], [], δ3, P2.env.same sm, rv, h3, fun σ3 o3 E3 c3 k3 => ?_⟩
            have P3 : PS0 (kx X) H1 σ kp' o1 δ3 σ3 H3 o3 := ⟨s3, E3, P2.own.sub fun a => by have := c3 a; simp only [List.count_nil] at this; omega, fun j hj => (k3.1 j hj).trans (P2.kept j hj)⟩
            cases h4 : mb δ3 with
            | none => rw [h4] at h2; simp at h2
            | some x =>
              rw [h4] at h2
              refine ⟨δ3, o3, x, E3, P3.own.nd (own_right w1 |>.nd n), h4, ?_⟩
              cases x with
              | nx δ4 => exact fun σ4 H4 o4 P4 => ⟨δ4, o4, P3.trans P4, (P3.trans P4).step, h2⟩
              | ct δ4 => exact fun σ4 H4 o4 P4 => ⟨δ4, o4, P3.trans P4, (P3.trans P4).step, h2⟩
              | bk δ4 =>
                cases (Option.some.inj h2)
                exact fun σ4 H4 o4 P4 => f0 σ4 H4 o4 ((P1.trans (P3.trans P4)).weak hw)
              | rt d δ4 =>
                cases (Option.some.inj h2)
                exact fun σ4 v H4 o4 ov P4 => f0 σ4 v H4 o4 ov ((P1.thenR (P3.thenR P4)).weak hw)
        · rw [if_neg hg] at h2; cases h2
      · have hd : src.xs.drop i = [] := List.drop_eq_nil_of_le (by omega)
        rw [hd] at h2
        simp only [dForL] at h2
        by_cases hg : gOk src.gs δ2 = true
        · rw [if_pos hg] at h2
          cases (Option.some.inj h2)
          exact .inl ⟨(S i H2 pin shr (gk hg)).2 (by omega), f0 σ2 H2 o2 (P12.weak hw)⟩
        · rw [if_neg hg] at h2; cases h2
end
end Z


set_option Elab.async false
set_option linter.all false
set_option maxRecDepth 100000
/-! defs; what is walked; lists that change -/
namespace Z
open PySem PySem.Spec PyProof.Rows L2

/-! ### a def -/
def fins (kp : Nat → Bool) : Nat → Nat → DE → List (Option D)
  | _, 0, _ => []
  | i, n + 1, [] => none :: fins kp (i + 1) n []
  | i, n + 1, x :: δ => (if kp i then x else none) :: fins kp (i + 1) n δ
def env0 (nN np : Nat) (ds : List D) : DE := ds.map some ++ List.replicate (nN - np) none
def dFn (nN np : Nat) (kp : Nat → Bool) (m : Blk) : Fn := fun ds => if ds.length = np then match m (env0 nN np ds) with
  | some (.nx δ') => some (.non, fins kp 0 np δ')
  | some (.rt d δ') => some (d, fins kp 0 np δ')
  | _ => none
  else none
section
variable {K : Fw} {κ : Kx} {H : Hp}
theorem envs_none (tb : Tabs κ H) : ∀ (n : Nat), Envs κ H (List.replicate n none) (List.replicate n none) []
  | 0 => ⟨rfl, tb⟩
  | n + 1 => envs_none tb n
theorem envs_start : ∀ {ds : List D} {vs : List V} {o : List Addr} (n : Nat), Reps κ.K H ds vs o → Tabs κ H → Envs κ H (vs.map some ++ List.replicate n none) (ds.map some ++ List.replicate n none) o
  | [], _, _, n, h, tb => by rw [h.1, h.2]; exact envs_none tb n
  | d :: ds, _, _, n, h, tb => by
    obtain ⟨v, vr, o1, o2, rfl, h1, h2, rfl⟩ := h
    exact ⟨o1, o2, h1, envs_start n h2 tb, rfl⟩
theorem envs_fins (kp : Nat → Bool) : ∀ {vs : List V} {σ : L2.St} {δ : DE} {o : List Addr} (j : Nat), Envs κ H σ δ o → (∀ i v, vs[i]? = some v → kp (j + i) = true → σ[i]? = some (some v)) →
    ∃ o', Envs κ H (vs.map some) (fins kp j vs.length δ) o' ∧ ∀ a, o'.count a ≤ o.count a
  | [], _, _, _, j, E, _ => ⟨[], ⟨rfl, E.tabs⟩, fun a => by simp⟩
  | v :: vs, [], [], o, j, E, h => by
    obtain ⟨o', E', c⟩ := envs_fins kp (vs := vs) (σ := []) (δ := []) (o := []) (j + 1) ⟨rfl, E.2⟩ fun i w hi hk => by
      have := h (i + 1) w (by simpa using hi) (by rw [show j + (i + 1) = j + 1 + i by omega]; exact hk)
      simp at this
    refine ⟨o', E', fun a => ?_⟩
    have := c a
    simp only [List.count_nil] at this
    omega
  | v :: vs, s :: σ, x :: δ, o, j, E, h => by
    have hr : ∀ i w, vs[i]? = some w → kp (j + 1 + i) = true → σ[i]? = some (some w) := fun i w hi hk => by
      have := h (i + 1) w (by simpa using hi) (by rw [show j + (i + 1) = j + 1 + i by omega]; exact hk)
      simpa using this
    cases x with
    | none =>
      have E : Envs κ H σ δ o := by cases s <;> exact E
      obtain ⟨o', E', c⟩ := envs_fins kp (j + 1) E hr
      refine ⟨o', ?_, c⟩
      show Envs κ H (some v :: vs.map some) ((if kp j then none else none) :: _) o'
      rw [ite_self]; exact E'
    | some d =>
      cases s with
      | none => exact E.elim
      | some w =>
        obtain ⟨o1, o2, r, E2, rfl⟩ := E
        obtain ⟨o', E', c⟩ := envs_fins kp (j + 1) E2 hr
        by_cases hk : kp j = true
        · have hv := h 0 v rfl hk
          simp only [List.getElem?_cons_zero, Option.some.injEq] at hv
          subst hv
          refine ⟨o1 ++ o', ?_, fun a => by have := c a; rw [List.count_append, List.count_append]; omega⟩
          show Envs κ H (some w :: vs.map some) ((if kp j then some d else none) :: _) _
          rw [if_pos hk]
          exact ⟨o1, o', r, E', rfl⟩
        · refine ⟨o', ?_, fun a => by have := c a; rw [List.count_append]; omega⟩
          show Envs κ H (some v :: vs.map some) ((if kp j then some d else none) :: _) o'
          rw [if_neg hk]; exact E'
  | v :: vs, [], _ :: _, _, _, E, _ => by simp [Envs] at E
  | v :: vs, _ :: _, [], _, _, E, _ => by simp [Envs] at E
end
section
variable {P : Program} {w : World} {K : Fw} {κ : Kx} {mg : Str → Option Value} {base : Heap}
/-- a def of the program stands at f, its code object in the fragment -/
structure FunZ (K : PySem.W.Frag) (qual : Str) (params : Arguments) (body : List Stmt) (scope : Scope) (f : Addr) (fd : FuncData) : Prop where
  ex : ∃ (x : Str) (oc : Value) (od : Option Addr) (dV kV doc pm : Value) (an : Option Addr) (ct : Value) (osl : Array (Option Value)) (c P : Addr),
    fd = PySem.W.fnOf x qual params body scope dV kV doc pm an (.ref c) ct ∧ K.lookup f = some ⟨oc, od, .func fd, osl⟩ ∧ PySem.W.codeIn K (.ref c) qual = true ∧ PySem.W.codeHdIn K c P = true
theorem z_def {qual : Str} {params : Arguments} {body : List Stmt} {scope : Scope} {f : Addr} {fd : FuncData} {N ps : List Str} {k : Nat} {kp : Nat → Bool} {m : Blk} (F : FunZ K qual params body scope f fd) (S : FnScope N ps scope)
    (hb : ∀ (cc : Addr) (A : Around) (outer : List Env) (s : Shared) (H : Hp) (E : XK), Room k (A.deeper (envOfC qual scope s.heap.objs.size f (.ref cc))) → PSs (cxOf CX0 P w K mg base N qual scope f (.ref cc) A outer s H E).nox body (TSm ⟨K, .ref cc⟩ kp m)) :
    FnOk P w K mg base CX0 (k + 1) f fd ps (spD K (dFn N.length ps.length kp m)) := by
  obtain ⟨x, oc, od, dV, kV, doc, pm, an, ct, osl, cc, PP, rfl, lk, hcd, hhd⟩ := F.ex
  refine fn_of lk hcd S (fun vs H Q E h => ?_) fun A outer s H vs Q E hr h => ⟨_, (hb cc A outer s H E hr).nox, ?_⟩
  · obtain ⟨ds, oA, r, fs, ra, n, _, hm, _⟩ := h
    simp only [dFn] at hm
    by_cases hl : ds.length = ps.length
    · rw [ra.length]; exact hl
    · rw [if_neg hl] at hm; cases hm
  · obtain ⟨ds, oA, r, fs, ra, n, tb, hm, k⟩ := h
    simp only [dFn] at hm
    by_cases hl : ds.length = ps.length
    · rw [if_pos hl] at hm
      have hl2 : vs.length = ps.length := ra.length.trans hl
      have E0 : Envs ⟨K, .ref cc⟩ H (L2.start N vs) (env0 N.length ps.length ds) oA := by
        unfold L2.start env0
        rw [hl2]; exact envs_start _ ra ⟨tb.1, fun c e => by cases e; exact ⟨PP, .inl hhd, tb.1 _ _ hhd⟩⟩
      have kept : ∀ {σ' : L2.St}, (∀ i, kp i = true → σ'[i]? = (L2.start N vs)[i]?) → ∀ i v, vs[i]? = some v → kp (0 + i) = true → σ'[i]? = some (some v) := fun h i v hi hk => by
        rw [Nat.zero_add] at hk
        rw [h i hk]
        unfold L2.start
        obtain ⟨hlt, _⟩ := List.getElem?_eq_some_iff.mp hi
        rw [List.getElem?_append_left (by simpa using hlt), List.getElem?_map, hi]; rfl
      cases h1 : m (env0 N.length ps.length ds) with
      | none => rw [h1] at hm; simp at hm
      | some out =>
        rw [h1] at hm
        refine ⟨env0 N.length ps.length ds, oA, out, E0, n, h1, ?_⟩
        cases out with
        | nx δ' =>
          simp only [Option.some.injEq, Prod.mk.injEq] at hm
          obtain ⟨rfl, rfl⟩ := hm
          intro σ' H' o' P
          obtain ⟨of_, Ef, c⟩ := envs_fins kp 0 P.env (kept P.kept)
          rw [hl2] at Ef
          exact k .non H' [] of_ P.step ⟨rfl, rfl⟩ Ef.bare (P.own.sub c)
        | rt d δ' =>
          simp only [Option.some.injEq, Prod.mk.injEq] at hm
          obtain ⟨rfl, rfl⟩ := hm
          intro σ' v H' o' ov P
          obtain ⟨of_, Ef, c⟩ := envs_fins kp 0 P.env (kept P.kept)
          rw [hl2] at Ef
          exact k v H' ov of_ P.step P.rep Ef.bare (P.own.sub fun a => by have := c a; simp only [List.count_append]; omega)
        | bk δ' => simp at hm
        | ct δ' => simp at hm
    · rw [if_neg hl] at hm; cases hm
end

/-! ### what is walked -/
def rangeD (lo : Int) (n : Nat) : List D := (List.range n).map fun (k : Nat) => D.int (lo + (k : Int))
theorem rangeD_get {lo : Int} {n i : Nat} {x : D} (h : (rangeD lo n)[i]? = some x) : i < n ∧ x = .int (lo + i) := by
  unfold rangeD at h
  rw [List.getElem?_map] at h
  cases q : (List.range n)[i]? with
  | none => rw [q] at h; simp at h
  | some k =>
    rw [q] at h
    obtain ⟨hl, e⟩ := List.getElem?_eq_some_iff.mp q
    rw [List.getElem_range] at e
    rw [List.length_range] at hl
    subst e
    exact ⟨hl, (Option.some.inj h).symm⟩
theorem rangeD_len (lo : Int) (n : Nat) : (rangeD lo n).length = n := by simp [rangeD]
def sRange (m : DE → Option (List R × DE)) : DenS := fun δ => match m δ with
  | some ([.own (.int j)], δ') => if -1000000 ≤ j ∧ j ≤ 1000000 then some (⟨rangeD 0 j.toNat, []⟩, δ') else none
  | some ([.own (.int i), .own (.int j)], δ') => if -1000000 ≤ i ∧ i ≤ 1000000 ∧ -1000000 ≤ j ∧ j ≤ 1000000 then some (⟨rangeD i (j - i).toNat, []⟩, δ') else none
  | _ => none
theorem src_range {K : Fw} {σ : L2.St} {H : Hp} {ov : List Addr} (lo : Int) (n : Nat) : SrcOk K σ ⟨rangeD lo n, []⟩ (Itr lo n) H ov := fun i H' _ _ _ =>
  ⟨fun x hx => by
    obtain ⟨hi, rfl⟩ := rangeD_get hx
    exact ⟨hi, fun v H'' hy => by obtain ⟨rfl, rfl⟩ := hy; exact ⟨fun _ _ e => e, rfl, rfl⟩⟩, fun h => by rw [rangeD_len] at h; exact h⟩
section
variable {X : Cx} {tg a b l : Expr} {q : Bool} {m : DE → Option (List R × DE)} {ml : Den} {p pos : Pos}
theorem big_sz : 2000000 ≤ sizeLine := by decide
/-- the lists and tuples are as long as the model has them -/
def HL (K : PySem.W.Frag) (H : Hp) : Prop := (∀ a vs, SqL K H a vs → vs.length ≤ sizeLine) ∧ ∀ a vs, SqT K H a vs → vs.length ≤ sizeLine
theorem inv_hl {pins : List (Addr × Obj)} {σ : L2.St} {H : Hp} {s : Shared} (I : Inv X pins σ H s) : HL X.K H := ⟨fun a vs h => by obtain ⟨_, _, _, z⟩ := I.list h; exact z, fun a vs h => by obtain ⟨_, _, _, z⟩ := I.tuple h; exact z⟩
theorem PI.ok {iter : Expr} {t : TI} (h : PI X tg iter t) : PI X tg iter (fun σ H R => t σ H fun J H1 => HL X.K H1 → R J H1) := ⟨fun pins s σ H R I hw =>
  thn (h.run pins s σ H _ I hw) fun v s1 h1 => thn h1 fun itv s2 ⟨it, fp, tn, J, H', e1, I', T', t0, f', r⟩ => ⟨it, fp, tn, J, H', e1, I', T', t0, f', r (inv_hl I')⟩⟩
theorem PI.imp {iter : Expr} {t t' : TI} (h : PI X tg iter t) (i : ∀ σ H R, t' σ H R → t σ H R) : PI X tg iter t' := ⟨fun pins s σ H R I hw => h.run pins s σ H R I (i _ _ _ hw)⟩
theorem sRange_inv {δ δ' : DE} {src : Src} (h : sRange m δ = some (src, δ')) : (∃ j, m δ = some ([.own (.int j)], δ') ∧ (-1000000 ≤ j ∧ j ≤ 1000000) ∧ src = ⟨rangeD 0 j.toNat, []⟩) ∨
    ∃ i j, m δ = some ([.own (.int i), .own (.int j)], δ') ∧ (-1000000 ≤ i ∧ i ≤ 1000000 ∧ -1000000 ≤ j ∧ j ≤ 1000000) ∧ src = ⟨rangeD i (j - i).toNat, []⟩ := by
  unfold sRange at h
  split at h
  · rename_i j δ1 e
    split at h
    · rename_i hc
      simp only [Option.some.injEq, Prod.mk.injEq] at h
      obtain ⟨rfl, rfl⟩ := h
      exact .inl ⟨j, e, hc, rfl⟩
    · cases h
  · rename_i i j δ1 e
    split at h
    · rename_i hc
      simp only [Option.some.injEq, Prod.mk.injEq] at h
      obtain ⟨rfl, rfl⟩ := h
      exact .inr ⟨i, j, e, hc, rfl⟩
    · cases h
  · cases h
theorem z_range1 (hg : Gl X "range") (hm : X.mg "range" = none) (ha : PA X [a] (TAr (kx X) q m)) (hs : starEach [a] X.env = [(false, eval a X.env)] := by rfl) (h1 : ∀ δ rs δ', m δ = some (rs, δ') → rs.length = 1) : PI X tg (.Call (.Name "range" p) [a] [] pos) (TIm (kx X) q (sRange m)) :=
  PI.imp (pi_range1 hg hm ha hs) fun σ H R ⟨δ, o, src, δ', E, n, h, k⟩ => by
    rcases sRange_inv h with ⟨j, e, hc, rfl⟩ | ⟨i, j, e, hc, rfl⟩
    · refine ⟨δ, o, _, δ', E, n, e, fun vs H1 o1 ov s1 E1 hl w1 => ?_⟩
      obtain ⟨v, vr, oa, ob, rfl, ⟨rfl, rfl⟩, ⟨rfl, rfl⟩, rfl⟩ := hl
      exact ⟨j, rfl, by omega, by omega, k _ H1 o1 [] s1 E1 w1 (fun a ha => nomatch ha) (src_range 0 _) (by rw [rangeD_len]; exact Nat.le_trans (by omega) big_sz)⟩
    · exact absurd (h1 _ _ _ e) (by simp)
theorem z_range2 (hg : Gl X "range") (hm : X.mg "range" = none) (ha : PA X [a, b] (TAr (kx X) q m)) (h2 : ∀ δ rs δ', m δ = some (rs, δ') → rs.length = 2)
    (hs : starEach [a, b] X.env = [(false, eval a X.env), (false, eval b X.env)] := by rfl) (hs2 : starEach [b] X.env = [(false, eval b X.env)] := by rfl) : PI X tg (.Call (.Name "range" p) [a, b] [] pos) (TIm (kx X) q (sRange m)) :=
  PI.imp (pi_range2 hg hm ha hs hs2) fun σ H R ⟨δ, o, src, δ', E, n, h, k⟩ => by
    rcases sRange_inv h with ⟨j, e, hc, rfl⟩ | ⟨i, j, e, hc, rfl⟩
    · exact absurd (h2 _ _ _ e) (by simp)
    · refine ⟨δ, o, _, δ', E, n, e, fun vs H1 o1 ov s1 E1 hl w1 => ?_⟩
      obtain ⟨v, vr, oa, ob, rfl, ⟨rfl, rfl⟩, ⟨v2, vr2, oa2, ob2, rfl, ⟨rfl, rfl⟩, ⟨rfl, rfl⟩, rfl⟩, rfl⟩ := hl
      exact ⟨i, j, rfl, by omega, k _ H1 o1 [] s1 E1 w1 (fun a ha => nomatch ha) (src_range i _) (by rw [rangeD_len]; exact Nat.le_trans (by omega) big_sz)⟩
theorem acons_len1 {qb : Bool} {ma : Den} {δ δ' : DE} {rs : List R} (h : dACons qb ma dANil δ = some (rs, δ')) : rs.length = 1 := by
  simp only [dACons, dANil] at h
  split at h
  · split at h
    · simp only [Option.some.injEq, Prod.mk.injEq] at h; rw [← h.1]; rfl
    · cases h
  · cases h
theorem acons_len2 {qa qb : Bool} {ma mb : Den} {δ δ' : DE} {rs : List R} (h : dACons qa ma (dACons qb mb dANil) δ = some (rs, δ')) : rs.length = 2 := by
  rw [dACons] at h
  split at h
  · split at h
    · rename_i e
      have := acons_len1 e
      split at h
      · simp only [Option.some.injEq, Prod.mk.injEq] at h; rw [← h.1]; simp [this]
      · cases h
    · cases h
  · cases h

/-- a sequence as it comes -/
def chars (x : Str) : List D := x.cps.toList.map fun c => D.str ⟨#[c]⟩
def sSeq (m : Den) : DenS := fun δ => match m δ with
  | some (.own (.tup xs), δ') => if D.imms xs then some (⟨xs, []⟩, δ') else none
  | some (.own (.lst xs), δ') => if D.imms xs then some (⟨xs, []⟩, δ') else none
  | some (.own (.frz xs), δ') => if D.imms xs then some (⟨xs, []⟩, δ') else none
  | some (.own (.str x), δ') => some (⟨chars x, []⟩, δ')
  | some (.at i [], δ') => match δ'[i]? with
    | some (some (.lst xs)) => if D.imms xs then some (⟨xs, [(i, .lst xs)]⟩, δ') else none
    | _ => none
  | _ => none
theorem item_of {K : Fw} {H : Hp} {xs : List D} {vs : List V} {i : Nat} {x : D} (r : Reps K H xs vs []) (e : xs[i]? = some x) : ∃ v, vs[i]? = some v ∧ Rep K H x v [] := by
  obtain ⟨v, o1, e1, r1, hs⟩ := r.get e
  refine ⟨v, e1, ?_⟩
  have : o1 = [] := by
    cases o1 with
    | nil => rfl
    | cons a l => exact nomatch hs a List.mem_cons_self
  rw [this] at r1; exact r1
theorem src_list {K : Fw} {σ : L2.St} {H : Hp} {ov : List Addr} {xs : List D} {gs : List (Nat × D)} {a : Addr}
    (h : ∀ H', (∀ a ∈ ov, H' a = H a) → (∀ a u, H a = some u → Sh u → H' a = some u) → (∀ p ∈ gs, ∃ v o, σ[p.1]? = some (some v) ∧ Rep K H' p.2 v o) → ∃ vs, SqL K H' a vs ∧ Reps K H' xs vs []) : SrcOk K σ ⟨xs, gs⟩ (Itl K a) H ov := fun i H' h1 h2 h3 => by
  obtain ⟨vs, hq, r⟩ := h H' h1 h2 h3
  refine ⟨fun x hx => ?_, fun hl => ⟨vs, hq, by rw [r.length]; exact hl⟩⟩
  obtain ⟨v, hv, rv⟩ := item_of r hx
  refine ⟨⟨vs, v, hq, hv⟩, fun w H'' hy => ?_⟩
  obtain ⟨rfl, hy⟩ := hy
  have := hy vs hq
  rw [hv] at this; cases this
  exact ⟨fun _ _ e => e, rv⟩
theorem src_tup {K : Fw} {σ : L2.St} {H : Hp} {ov : List Addr} {xs : List D} {gs : List (Nat × D)} {a : Addr}
    (h : ∀ H', (∀ a ∈ ov, H' a = H a) → (∀ a u, H a = some u → Sh u → H' a = some u) → (∀ p ∈ gs, ∃ v o, σ[p.1]? = some (some v) ∧ Rep K H' p.2 v o) → ∃ vs, SqT K H' a vs ∧ Reps K H' xs vs []) : SrcOk K σ ⟨xs, gs⟩ (Itt K a) H ov := fun i H' h1 h2 h3 => by
  obtain ⟨vs, hq, r⟩ := h H' h1 h2 h3
  refine ⟨fun x hx => ?_, fun hl => ⟨vs, hq, by rw [r.length]; exact hl⟩⟩
  obtain ⟨v, hv, rv⟩ := item_of r hx
  refine ⟨⟨vs, v, hq, hv⟩, fun w H'' hy => ?_⟩
  obtain ⟨rfl, hy⟩ := hy
  have := hy vs hq
  rw [hv] at this; cases this
  exact ⟨fun _ _ e => e, rv⟩
theorem fr_of {H H' : Hp} {ov : List Addr} (h1 : ∀ a ∈ ov, H' a = H a) (h2 : ∀ a u, H a = some u → Sh u → H' a = some u) : Fr0 H H' ov := ⟨h1, h2⟩
theorem sSeq_inv {δ δ' : DE} {src : Src} (h : sSeq ml δ = some (src, δ')) : (∃ xs, ml δ = some (.own (.tup xs), δ') ∧ D.imms xs = true ∧ src = ⟨xs, []⟩) ∨ (∃ xs, ml δ = some (.own (.lst xs), δ') ∧ D.imms xs = true ∧ src = ⟨xs, []⟩) ∨
    (∃ xs, ml δ = some (.own (.frz xs), δ') ∧ D.imms xs = true ∧ src = ⟨xs, []⟩) ∨ (∃ x, ml δ = some (.own (.str x), δ') ∧ src = ⟨chars x, []⟩) ∨ (∃ i xs, ml δ = some (.at i [], δ') ∧ δ'[i]? = some (some (.lst xs)) ∧ D.imms xs = true ∧ src = ⟨xs, [(i, .lst xs)]⟩) := by
  unfold sSeq at h
  split at h
  · split at h
    · simp only [Option.some.injEq, Prod.mk.injEq] at h; obtain ⟨rfl, rfl⟩ := h; exact .inl ⟨_, by assumption, by assumption, rfl⟩
    · cases h
  · split at h
    · simp only [Option.some.injEq, Prod.mk.injEq] at h; obtain ⟨rfl, rfl⟩ := h; exact .inr (.inl ⟨_, by assumption, by assumption, rfl⟩)
    · cases h
  · split at h
    · simp only [Option.some.injEq, Prod.mk.injEq] at h; obtain ⟨rfl, rfl⟩ := h; exact .inr (.inr (.inl ⟨_, by assumption, by assumption, rfl⟩))
    · cases h
  · simp only [Option.some.injEq, Prod.mk.injEq] at h; obtain ⟨rfl, rfl⟩ := h; exact .inr (.inr (.inr (.inl ⟨_, by assumption, rfl⟩)))
  · split at h
    · split at h
      · simp only [Option.some.injEq, Prod.mk.injEq] at h; obtain ⟨rfl, rfl⟩ := h; exact .inr (.inr (.inr (.inr ⟨_, _, by assumption, by assumption, by assumption, rfl⟩)))
      · cases h
    · cases h
  · cases h
theorem z_seq (hl : PE X l (T (kx X) q ml)) : PI X tg l (TIm (kx X) q (sSeq ml)) := ⟨fun pins s σ H R I hw => by
  obtain ⟨δ, o, src, δ', E, n, h, k⟩ := hw
  rcases sSeq_inv h with ⟨xs, e, hi, rfl⟩ | ⟨xs, e, hi, rfl⟩ | ⟨xs, e, hi, rfl⟩ | ⟨x, e, rfl⟩ | ⟨i, xs, e, hd, hi, rfl⟩
  · refine (PI.ok (pi_tup hl)).run pins s σ H R I ⟨δ, o, _, δ', E, n, e, fun v H1 o1 ov P => ?_⟩
    obtain ⟨a, vs, rfl, hq, r⟩ := P.held
    have := r.imm hi; subst this
    exact ⟨a, rfl, ⟨vs, hq⟩, fun hz => k _ H1 o1 [] P.step P.env P.own (fun a ha => nomatch ha) (src_tup fun H' h1 h2 h3 => ⟨vs, (fr_of h1 h2).sqt hq, r.fr (fr_of h1 h2)⟩) (by rw [← r.length]; exact hz.2 _ _ hq)⟩
  · refine (PI.ok (pi_list hl)).run pins s σ H R I ⟨δ, o, _, δ', E, n, e, fun v H1 o1 ov P => ?_⟩
    obtain ⟨a, vs, o', rfl, hq, r, rfl⟩ := P.held
    have := r.imm hi; subst this
    refine ⟨a, rfl, ⟨vs, .of hq⟩, fun hz => k _ H1 o1 [a] P.step P.env P.own (fun b hb => by rw [List.mem_singleton.mp hb]; exact ⟨_, hq, ow_lst⟩) (src_list fun H' h1 h2 h3 => ⟨vs, .of ((h1 a List.mem_cons_self).trans hq), r.fr ((fr_of h1 h2).sub fun b hb => nomatch hb)⟩) (by rw [← r.length]; exact hz.1 _ _ (.of hq))⟩
  · refine (PI.ok (pi_list hl)).run pins s σ H R I ⟨δ, o, _, δ', E, n, e, fun v H1 o1 ov P => ?_⟩
    obtain ⟨a, vs, rfl, hq, r, rfl⟩ := P.held
    exact ⟨a, rfl, ⟨vs, hq.sq⟩, fun hz => k _ H1 o1 [] P.step P.env P.own (fun a ha => nomatch ha) (src_list fun H' h1 h2 h3 => ⟨vs, ((fr_of h1 h2).fz hq).sq, r.fr (fr_of h1 h2)⟩) (by rw [← r.length]; exact hz.1 _ _ hq.sq)⟩
  · refine (PI.ok (pi_str hl)).run pins s σ H R I ⟨δ, o, _, δ', E, n, e, fun v H1 o1 ov P => ?_⟩
    obtain ⟨rfl, hz, rfl⟩ := P.held
    refine ⟨x, rfl, fun _ => k _ H1 o1 [] P.step P.env P.own (fun a ha => nomatch ha) (fun i H' h1 h2 h3 => ⟨fun y hy => ?_, fun hl => by simpa [chars, Its] using hl⟩) (by simpa [chars, Str.length] using hz.1)⟩
    unfold chars at hy
    rw [List.getElem?_map, Array.getElem?_toList] at hy
    cases hc : x.cps[i]? with
    | none => rw [hc] at hy; simp at hy
    | some c =>
      rw [hc] at hy
      cases (Option.some.inj hy)
      refine ⟨(Array.getElem?_eq_some_iff.mp hc).1, fun v H'' hv => ?_⟩
      obtain ⟨rfl, c', hc', rfl⟩ := hv
      rw [hc] at hc'; cases hc'
      exact ⟨fun _ _ e => e, rfl, ⟨by show 1 ≤ sizeLine; decide, strOk_of (l := [c]) fun d hd => by rw [List.mem_singleton.mp hd]; exact strOk_mem hz.2 (Array.mem_toList_iff.mpr (Array.mem_of_getElem? hc))⟩, rfl⟩
  · refine (PI.ok (pi_list hl)).run pins s σ H R I ⟨δ, o, _, δ', E, n, e, fun v H1 o1 ov P => ?_⟩
    obtain ⟨rfl, u, hu, hp⟩ := P.held
    cases (show v = u from hp)
    obtain ⟨v0, oa, oi, ob, hv0, rd, e0, _, _⟩ := P.env.at hd
    rw [hu] at hv0; cases hv0
    obtain ⟨a, vs, o', rfl, hq, r, _⟩ := rd
    refine ⟨a, rfl, ⟨vs, .of hq⟩, fun hz => k _ H1 o1 [] P.step P.env P.own (fun b hb => nomatch hb) (src_list fun H' h1 h2 h3 => ?_) (by rw [← r.length]; exact hz.1 _ _ (.of hq))⟩
    obtain ⟨v2, o2, hv2, r2⟩ := h3 _ List.mem_cons_self
    rw [hu] at hv2; cases hv2
    obtain ⟨a2, vs2, o2', e2, hq2, rr2, _⟩ := r2
    cases e2
    have := rr2.imm hi; subst this
    exact ⟨vs2, .of hq2, rr2⟩⟩
end

/-! ### lists that change -/
section
variable {K : Fw} {κ : Kx} {H : Hp} {σ : L2.St}
/-- the list at a place of the names, and another content in its stead -/
theorem Envs.mut {δ : DE} {o : List Addr} {s : Nat} {p : List Nat} {d0 : D} {xs : List D} {v : V} {ov : List Addr} (E : Envs κ H σ δ o) (hh : Held κ.K H σ (.at s p) v ov) (hd : δ[s]? = some (some d0)) (hg : getP p d0 = some (.lst xs)) :
    ∃ a vs oxs, v = .ref a ∧ H a = some (.lst vs) ∧ Reps κ.K H xs vs oxs ∧ a ∈ o ∧ (∀ b, oxs.count b ≤ o.count b) ∧
      ∀ ov xs' vs' oxs' d', Nd (ov ++ o) → Reps κ.K H xs' vs' oxs' → (∀ b, oxs'.count b ≤ oxs.count b + ov.count b) → setP p d0 (.lst xs') = some d' → ∃ o', Envs κ (upd H a (.lst vs')) σ (δ.set s (some d')) o' ∧ ∀ b, o'.count b ≤ ov.count b + o.count b := by
  obtain ⟨_, u, hu, hp⟩ := hh
  obtain ⟨v0, oa, oi, ob, hv0, rd, rfl, kr, _⟩ := E.at hd
  rw [hu] at hv0; cases hv0
  obtain ⟨oe, or_, re, hc, k2⟩ := rd.path hg hp
  obtain ⟨a, vs, oxs, rfl, ha, rs, rfl⟩ := re
  have hca := hc a
  rw [List.count_cons_self] at hca
  refine ⟨a, vs, oxs, rfl, ha, rs, ?_, fun b => ?_, fun ov xs' vs' oxs' d' n r' c' hs => ?_⟩
  · refine List.count_pos_iff.mp ?_
    simp only [List.count_append]; omega
  · have h1 := hc b
    have h2 : oxs.count b ≤ (a :: oxs).count b := List.count_le_count_cons
    simp only [List.count_append]; omega
  · have nn := fun b => n b
    simp only [List.count_append] at nn
    have na := nn a
    have nax : a ∉ oxs' := fun hm => by
      have h1 := c' a
      have h2 : 0 < oxs'.count a := List.count_pos_iff.mpr hm
      omega
    have fra : ∀ (l : List Addr), a ∉ l → Fr H (upd H a (.lst vs')) l := fun l hl => ⟨fun b hb => upd_ne (fun e => hl (e ▸ hb)), fun b w e hw => by
      have : b ≠ a := fun z => by rw [z, ha] at e; cases e; exact hw
      rw [upd_ne this]; exact e, (Step.write (W := [a]) ha List.mem_cons_self).tab⟩
    have nar : a ∉ or_ := fun hm => by
      have h2 : 0 < or_.count a := List.count_pos_iff.mpr hm
      omega
    have nab : a ∉ oa ++ ob := fun hm => by
      have h2 : 0 < (oa ++ ob).count a := List.count_pos_iff.mpr hm
      rw [List.count_append] at h2
      omega
    obtain ⟨o1', r1, c1⟩ := k2 (upd H a (.lst vs')) (.lst xs') (a :: oxs') d' ⟨a, vs', oxs', rfl, upd_same, r'.fr (fra _ nax), rfl⟩ (fra _ nar) hs
    refine ⟨oa ++ o1' ++ ob, kr _ d' o1' r1 (fra _ nab), fun b => ?_⟩
    have h1 := hc b
    have h2 := c1 b
    have h3 := c' b
    simp only [List.count_append, List.count_cons] at h1 h2 h3 ⊢
    omega
end
/-- a change of the list that the first operand stands for -/
def mutD (δ : DE) (r : R) (f : List D → Option (List D)) : Option DE := match r with
  | .at s p => match δ[s]? with
    | some (some d0) => match getP p d0 with
      | some (.lst xs) => match f xs with
        | some xs' => match setP p d0 (.lst xs') with
          | some d' => some (δ.set s (some d'))
          | none => none
        | none => none
      | _ => none
    | _ => none
  | _ => none
theorem mutD_inv {δ δ' : DE} {r : R} {f : List D → Option (List D)} (h : mutD δ r f = some δ') : ∃ s p d0 xs xs' d', r = .at s p ∧ δ[s]? = some (some d0) ∧ getP p d0 = some (.lst xs) ∧ f xs = some xs' ∧ setP p d0 (.lst xs') = some d' ∧ δ' = δ.set s (some d') := by
  unfold mutD at h
  split at h
  · split at h
    · split at h
      · split at h
        · split at h
          · cases (Option.some.inj h)
            exact ⟨_, _, _, _, _, _, rfl, by assumption, by assumption, by assumption, by assumption, rfl⟩
          · cases h
        · cases h
      · cases h
    · cases h
  · cases h
def isLst (δ : DE) (r : R) : Bool := match deref δ r with
  | some (.lst _) => true
  | _ => false
def dAppend (qe : Bool) (mo me : Den) : Den := fun δ => match mo δ with
  | some (ro, δ1) => match me δ1 with
    | some (.own d, δ2) => if (ro.short || qe) && isLst δ1 ro then match mutD δ2 ro fun xs => if xs.length < 1000000 then some (xs ++ [d]) else none with
      | some δ3 => some (.own .non, δ3)
      | none => none
      else none
    | _ => none
  | none => none
theorem isLst_ty {κ : Kx} {H : Hp} {σ : L2.St} {δ : DE} {o ov : List Addr} {r : R} {v : V} (E : Envs κ H σ δ o) (h : Held κ.K H σ r v ov) (e : isLst δ r = true) : tyV κ.K "list" v H := by
  unfold isLst at e
  split at e
  · rename_i xs e1
    obtain ⟨o', ⟨a, vs, o2, rfl, hq, _⟩, _⟩ := h.deref E e1
    exact .inl ⟨rfl, vs, .of hq⟩
  · cases e
section
variable {X : Cx} {eo e : Expr} {qo qe : Bool} {mo me : Den} {apos cpos : Pos}
theorem t_append {σ : L2.St} {H : Hp} {Q : VK} (h : T (kx X) false (dAppend qe mo me) σ H Q) : tBM X.K "list" rAppend (T (kx X) qo mo) (TAr (kx X) (qe && true) (dACons true me dANil)) σ H Q := by
  obtain ⟨δ, o, r, δ', E, n, hm, k⟩ := h
  simp only [dAppend] at hm
  cases h1 : mo δ with
  | none => rw [h1] at hm; simp at hm
  | some p1 =>
    obtain ⟨ro, δ1⟩ := p1
    rw [h1] at hm; dsimp only at hm
    cases h2 : me δ1 with
    | none => rw [h2] at hm; simp at hm
    | some p2 =>
      obtain ⟨re, δ2⟩ := p2
      rw [h2] at hm
      cases re with
      | «at» _ _ => simp at hm
      | own d =>
        dsimp only at hm
        by_cases hc0 : ((ro.short || qe) && isLst δ1 ro) = true
        · rw [if_pos hc0] at hm
          obtain ⟨hc, hil⟩ := Bool.and_eq_true_iff.mp hc0
          cases h3 : mutD δ2 ro fun xs => if xs.length < 1000000 then some (xs ++ [d]) else none with
          | none => rw [h3] at hm; simp at hm
          | some δ3 =>
            rw [h3] at hm
            simp only [Option.some.injEq, Prod.mk.injEq] at hm
            obtain ⟨rfl, rfl⟩ := hm
            obtain ⟨s, p, d0, xs, xs', d', rfl, hd, hg, hf, hs, rfl⟩ := mutD_inv h3
            by_cases hlen : xs.length < 1000000
            · rw [if_pos hlen] at hf
              cases (Option.some.inj hf)
              refine ⟨δ, o, _, δ1, E, n, h1, fun v H1 o1 ov1 P1 => ⟨?_, ?_⟩⟩
              · exact isLst_ty P1.env P1.held hil
              · refine ⟨δ1, o1, [.own d], δ2, P1.env, nd_of P1.own n, by simp only [dACons, dANil, h2, Bool.or_true, if_true], fun vs H2 o2 ov2 s2 E2 hl w2 => ?_⟩
                rw [Bool.and_true] at s2
                have hh : Held X.F H2 σ (.at s p) v ov1 := P1.held.step s2 (Wq_ok P1.env) (fun a ha hw => apart_of P1.own n a ha (Wq_sub a hw)) (by
                  simp only [Bool.or_eq_true] at hc
                  rcases hc with hc | hc
                  · exact .inl hc
                  · right; subst hc; rfl)
                obtain ⟨y, vr, oy, onil, rfl, ry, ⟨rfl, rfl⟩, rfl⟩ := hl
                rw [List.append_nil] at w2
                obtain ⟨a, vs, oxs, rfl, ha, rs, hao, hcx, km⟩ := Envs.mut E2 hh hd hg
                have n2 := w2.nd (nd_of P1.own n)
                obtain ⟨o3, E3, c3⟩ := km oy (xs ++ [d]) (vs ++ [y]) (oxs ++ oy) d' n2 (rs.append (.one ry)) (fun b => Nat.le_of_eq (by rw [List.count_append])) hs
                refine ⟨a, vs, y, rfl, rfl, ha, by rw [rs.length]; exact Nat.lt_of_lt_of_le hlen (by decide), ?_⟩
                have w12 := own_app P1.own P1.step P1.held.dom w2
                have s12 : Step H H2 o := ((P1.step.seq (own_right P1.own) s2).mono Wq_sub)
                refine k _ _ o3 [] ⟨?_, E3, ⟨rfl, rfl⟩, fun b => ?_⟩
                · refine ⟨fun b u e hn hu => ?_, fun b e => ?_, fun P g => (Step.write (W := [a]) ha List.mem_cons_self).tab P (s12.tab P g)⟩
                  · have e2 := s12.keep b u e hn hu
                    have : b ≠ a := fun z => by
                      subst z
                      rcases w12 b with w | ⟨w, _⟩
                      · have h5 : 0 < o2.count b := List.count_pos_iff.mpr hao
                        simp only [List.count_append] at w
                        have h6 : 0 < o.count b := by omega
                        exact hn (List.count_pos_iff.mp h6)
                      · rw [e] at w; cases w
                    rw [upd_ne this]; exact e2
                  · by_cases z : b = a
                    · subst z; rw [upd_same] at e; cases e
                    · rw [upd_ne z] at e; exact s12.dom b e
                · have g1 := c3 b
                  have g2 := w12 b
                  simp only [List.count_append, List.nil_append] at g1 g2 ⊢
                  rcases g2 with g2 | ⟨z, g2⟩
                  · left; omega
                  · right; exact ⟨z, by omega⟩
            · rw [if_neg hlen] at hf; cases hf
        · rw [if_neg hc0] at hm; simp at hm
end
end Z


set_option Elab.async false
set_option linter.all false
set_option maxRecDepth 100000
/-! stores to items, methods of lists; operators by the data -/
namespace Z
open PySem PySem.Spec PyProof.Rows L2

section
variable {K : Fw} {κ : Kx} {H H2 : Hp} {σ : L2.St}
/-- behind a change of the list at a place -/
theorem mut_end {δ2 : DE} {o o2 ovr ov : List Addr} {s : Nat} {p : List Nat} {d0 : D} {xs : List D} {v : V} (n : Nd o) (s12 : Step H H2 o) (E2 : Envs κ H2 σ δ2 o2) (w : Own H o (ovr ++ o2)) (hh : Held κ.K H2 σ (.at s p) v ov) (hd : δ2[s]? = some (some d0)) (hg : getP p d0 = some (.lst xs)) :
    ∃ a vs oxs, v = .ref a ∧ H2 a = some (.lst vs) ∧ Reps κ.K H2 xs vs oxs ∧ (∀ b, oxs.count b ≤ o2.count b) ∧
      ∀ xs' vs' oxs' d', Reps κ.K H2 xs' vs' oxs' → (∀ b, oxs'.count b ≤ oxs.count b + ovr.count b) → setP p d0 (.lst xs') = some d' →
        ∃ o3, Step H (upd H2 a (.lst vs')) o ∧ Envs κ (upd H2 a (.lst vs')) σ (δ2.set s (some d')) o3 ∧ Own H o o3 := by
  obtain ⟨a, vs, oxs, rfl, ha, rs, hao, hcx, km⟩ := Envs.mut E2 hh hd hg
  refine ⟨a, vs, oxs, rfl, ha, rs, hcx, fun xs' vs' oxs' d' r' c' hs => ?_⟩
  obtain ⟨o3, E3, c3⟩ := km ovr xs' vs' oxs' d' (w.nd n) r' c' hs
  refine ⟨o3, ⟨fun b u e hn hu => ?_, fun b e => ?_, fun P g => (Step.write (W := [a]) ha List.mem_cons_self).tab P (s12.tab P g)⟩, E3, fun b => ?_⟩
  · have e2 := s12.keep b u e hn hu
    have : b ≠ a := fun z => by
      subst z
      rcases w b with w | ⟨w, _⟩
      · have h5 : 0 < o2.count b := List.count_pos_iff.mpr hao
        simp only [List.count_append] at w
        have h6 : 0 < o.count b := by omega
        exact hn (List.count_pos_iff.mp h6)
      · rw [e] at w; cases w
    rw [upd_ne this]; exact e2
  · by_cases z : b = a
    · subst z; rw [upd_same] at e; cases e
    · rw [upd_ne z] at e; exact s12.dom b e
  · have g1 := c3 b
    have g2 := w b
    simp only [List.count_append] at g1 g2 ⊢
    rcases g2 with g2 | ⟨z, g2⟩
    · left; omega
    · right; exact ⟨z, by omega⟩
end

/-- o[i] = e -/
def dSetI (qo qi : Bool) (mo mi me : Den) : Blk := fun δ => match me δ with
  | some (.own d, δ1) => match mo δ1 with
    | some (ro, δ2) => match mi δ2 with
      | some (.own (.int k), δ3) => if ro.short || qi then match mutD δ3 ro fun xs => match ixN xs.length k with
          | some j => some (xs.set j d)
          | none => none with
        | some δ4 => some (.nx δ4)
        | none => none
        else none
      | _ => none
    | none => none
  | _ => none
theorem dSetI_inv {qo qi : Bool} {mo mi me : Den} {δ : DE} {out : Out} (h : dSetI qo qi mo mi me δ = some out) : ∃ d δ1 ro δ2 k δ3 δ4, me δ = some (.own d, δ1) ∧ mo δ1 = some (ro, δ2) ∧ mi δ2 = some (.own (.int k), δ3) ∧ (ro.short || qi) = true ∧
    (mutD δ3 ro fun xs => match ixN xs.length k with
          | some j => some (xs.set j d)
          | none => none) = some δ4 ∧ out = .nx δ4 := by
  unfold dSetI at h
  split at h
  · split at h
    · split at h
      · split at h
        · split at h
          · cases (Option.some.inj h)
            exact ⟨_, _, _, _, _, _, _, by assumption, by assumption, by assumption, by assumption, by assumption, rfl⟩
          · cases h
        · cases h
      · cases h
    · cases h
  · cases h
theorem Reps.setI {K : Fw} {H : Hp} : ∀ {xs : List D} {vs : List V} {o : List Addr} (j : Nat) {d : D} {y : V} {oy : List Addr}, Reps K H xs vs o → Rep K H d y oy → ∃ o', Reps K H (xs.set j d) (vs.set j y) o' ∧ ∀ b, o'.count b ≤ o.count b + oy.count b
  | [], _, _, _, _, _, _, h, _ => ⟨[], by rw [h.1]; exact ⟨rfl, rfl⟩, fun b => by simp⟩
  | x :: xs, _, _, 0, d, y, oy, h, r => by
    obtain ⟨v, vr, o1, o2, rfl, h1, h2, rfl⟩ := h
    exact ⟨oy ++ o2, ⟨y, vr, oy, o2, rfl, r, h2, rfl⟩, fun b => by simp only [List.count_append]; omega⟩
  | x :: xs, _, _, j + 1, d, y, oy, h, r => by
    obtain ⟨v, vr, o1, o2, rfl, h1, h2, rfl⟩ := h
    obtain ⟨o', r', c⟩ := Reps.setI j h2 r
    exact ⟨o1 ++ o', ⟨v, vr.set j y, o1, o', rfl, h1, r', rfl⟩, fun b => by have := c b; simp only [List.count_append]; omega⟩
section
variable {X : Cx} {eo ei e : Expr} {qo qi q : Bool} {mo mi me : Den} {kp : Nat → Bool} {pos pos' : Pos}
theorem z_setI (he : PE X e (T (kx X) q me)) (ho : PE X eo (T (kx X) qo mo)) (hi : PE X ei (T (kx X) qi mi))
    (ha : ∀ v, assign (.Subscript eo ei pos') X.env v = (do
      let ov ← holding [v] (eval eo X.env)
      let iv ← holding [v, ov] (eval ei X.env)
      standAt pos'
      holding [v, ov, iv] (setItem ov iv v)
      release [v, ov, iv] []) := by intro _; rfl)
    (hs : swapsWithSole [.Subscript eo ei pos'] e pos.line X.env = pure false := by rfl) (hw : swappedStores [.Subscript eo ei pos'] e X.env = pure none := by rfl)
    (h1 : (assignEach [.Subscript eo ei pos'] X.env).map (·.2) = [assign (.Subscript eo ei pos') X.env] := by rfl) : PS X (.Assign [.Subscript eo ei pos'] e pos) (TSm (kx X) kp (dSetI qo qi mo mi me)) :=
  PS.imp (ps_asg he (pg_sub ho hi set_list ha) hs hw h1) fun D' σ H ⟨δ, o, out, E, n, hm, f⟩ => by
    obtain ⟨d, δ1, ro, δ2, k, δ3, δ4, g1, g2, g3, hc, h3, rfl⟩ := dSetI_inv hm
    obtain ⟨s, p, d0, xs, xs', d', rfl, hd, hg, hf, hst, rfl⟩ := mutD_inv h3
    refine (Stk.start E).push n g1 (by simp [allShort]) fun y H1 S1 => ?_
    refine S1.push n g2 (by simp [allShort, R.short]) fun x H2 S2 => ?_
    refine S2.push n g3 ?_ fun w H3 S3 => ?_
    · simp only [allShort, R.short, Bool.and_true]; exact hc
    · obtain ⟨o3, ov, s3, E3, ⟨w', vr, ow, ox1, e1, hw1, ⟨x', vr2, ox, oy1, e2, hx, ⟨y', vr3, oy, on, e3, hy, ⟨e4, e5⟩, e6⟩, e7⟩, e8⟩, w3⟩ := S3
      subst e5 e6 e7 e8 e4
      cases e3; cases e2; cases e1
      obtain ⟨rfl, rfl⟩ := hw1
      have hx0 := hx.1
      subst hx0
      have w4 : Own H o (oy ++ o3) := by simpa using w3
      obtain ⟨a, vs, oxs, rfl, haa, rs, _, km⟩ := mut_end n (s3.mono Wq_sub) E3 w4 hx hd hg
      cases hj : ixN xs.length k with
      | none => rw [hj] at hf; simp at hf
      | some j =>
        rw [hj] at hf
        cases (Option.some.inj hf)
        obtain ⟨o', r', c'⟩ := rs.setI j (d := d) hy
        obtain ⟨o5, s5, E5, w5⟩ := km _ _ o' d' r' c' hst
        exact ⟨a, vs, k, j, rfl, rfl, haa, by rw [rs.length]; exact hj, f σ _ o5 ⟨s5, E5, w5, fun _ _ => rfl⟩⟩
theorem z_append (ho : PE X eo (T (kx X) qo mo)) (he : PE X e (T (kx X) qi me)) {apos cpos : Pos} (hs : starEach [e] X.env = (false, eval e X.env) :: starEach [] X.env := by rfl)
    (hbase : attributeBase eo "append" X.env (eval eo X.env) = eval eo X.env := by rfl)
    (hfew : ((backTo cpos (starEach [e] X.env)).all (fun x => !x.1) && (backToKw cpos (keywordEach [] X.env)).all (fun x => x.1.isSome)
      && decide ([e].length + ([] : List Keyword).length + (if ([] : List Keyword).isEmpty then 0 else 1) < 30)) = true := by rfl)
    (hline : (apos.endLine == cpos.line) = true := by rfl) (hplain : (backTo cpos (starEach [] X.env)).any (·.1) = false := by rfl) :
    PE X (.Call (.Attribute eo "append" apos) [e] [] cpos) (T (kx X) false (dAppend qi mo me)) :=
  PE.imp (pe_bm PySem.F.plainAttrs_list PySem.F.slot_list_append PySem.F.type_list_append mt_append ho (z_acons he z_anil hs) hbase hfew hline hs hplain) fun σ H Q h => t_append h
end

/-! ### operators by the data: the rules -/
theorem pr_end {K : Fw} {f : List D → Option D} {vs : List V} {H : Hp} {Q : VK} (h : Pr K f vs H Q) : ∃ ds o d, Reps K H ds vs o ∧ f ds = some d ∧ (∀ v, Rep K H d v [] → Q v H) ∧ ∀ v H' ov, (∀ a u, H a = some u → H' a = some u) → Rep K H' d v ov → Fresh H ov → Q v H' := by
  obtain ⟨ds, o, d, r, e, k⟩ := h
  exact ⟨ds, o, d, r, e, fun v rv => k v H [] (fun _ _ e => e) rv fresh_nil, k⟩
theorem reps2 {K : Fw} {H : Hp} {ds : List D} {x y : V} {o : List Addr} (h : Reps K H ds [x, y] o) : ∃ a b oa ob, ds = [a, b] ∧ Rep K H a x oa ∧ Rep K H b y ob := by
  cases ds with
  | nil => exact absurd h.1 (by simp)
  | cons a ds =>
    obtain ⟨v, vr, o1, o2, e, h1, h2, _⟩ := h
    cases e
    cases ds with
    | nil => exact absurd h2.1 (by simp)
    | cons b ds =>
      obtain ⟨v, vr, o3, o4, e, h3, h4, _⟩ := h2
      cases e
      cases ds with
      | nil => exact ⟨a, b, o1, o3, rfl, h1, h3⟩
      | cons c ds => obtain ⟨v, vr, _, _, e, _⟩ := h4; cases e
theorem reps1 {K : Fw} {H : Hp} {ds : List D} {x : V} {o : List Addr} (h : Reps K H ds [x] o) : ∃ a oa, ds = [a] ∧ Rep K H a x oa := by
  cases ds with
  | nil => exact absurd h.1 (by simp)
  | cons a ds =>
    obtain ⟨v, vr, o1, o2, e, h1, h2, _⟩ := h
    cases e
    cases ds with
    | nil => exact ⟨a, o1, rfl, h1⟩
    | cons c ds => obtain ⟨v, vr, _, _, e, _⟩ := h2; cases e

def fAdd : List D → Option D
  | [.int i, .int j] => some (.int (i + j))
  | [.str a, .str b] => if a.length + b.length ≤ 1000000 then some (.str (a ++ b)) else none
  | [.tup a, .tup b] => if D.imms a && D.imms b && decide (a.length + b.length ≤ 1000000) then some (.tup (a ++ b)) else none
  | [.lst a, .lst b] => if D.imms a && D.imms b && decide (a.length + b.length ≤ 1000000) then some (.lst (a ++ b)) else none
  | _ => none
theorem m_sz {n : Nat} (h : n ≤ 1000000) : n ≤ sizeLine := Nat.le_trans h (by decide)
section
variable {X : Cx}
theorem Reps.imm' {K : Fw} {H : Hp} {xs : List D} {vs : List V} {o : List Addr} (r : Reps K H xs vs o) (h : D.imms xs = true) : Reps K H xs vs [] := by
  have := r.imm h
  subst this; exact r
theorem list_cat {pins : List (Addr × Obj)} {s : Shared} {σ : L2.St} {H : Hp} {Q : VK} {xs ys : List D} {vs ws : List V} {a b : Addr} (I : Inv X pins σ H s) (ha : H a = some (.lst vs)) (hb : H b = some (.lst ws)) (ra : Reps X.F H xs vs []) (rb : Reps X.F H ys ws []) (hz : xs.length + ys.length ≤ 1000000)
    (k : ∀ v H' ov, (∀ a u, H a = some u → H' a = some u) → Rep X.F H' (.lst (xs ++ ys)) v ov → Fresh H ov → Q v H') : wpAny (model X.prog X.w) X.A (binaryOp .Add (.ref a) (.ref b)) (EP X pins σ Q) X.xe s :=
  op_cat pins s σ H (.ref a) (.ref b) (.ref a) (.ref b) Q I rfl rfl ⟨a, b, vs, ws, rfl, rfl, ha, hb, by rw [ra.length, rb.length]; exact m_sz hz, fun p hp => k _ _ [p] (new_same hp) ⟨p, vs ++ ws, [], rfl, upd_same, (ra.append rb).same (new_same hp), rfl⟩ (fresh_one hp)⟩
theorem strOk_app {a b : Str} (ha : PyData.strOk a = true) (hb : PyData.strOk b = true) : PyData.strOk (a ++ b) = true := by
  have e : a ++ b = ⟨(a.cps.toList ++ b.cps.toList).toArray⟩ := by
    show (⟨a.cps ++ b.cps⟩ : Str) = _
    congr 1
    apply Array.toList_inj.mp
    simp
  rw [e]
  exact strOk_of fun c hc => (List.mem_append.mp hc).elim (strOk_mem ha) (strOk_mem hb)
theorem o_add : OpR X (binaryOp .Add) fun x y => Pr X.F fAdd [x, y] := by
  intro pins s σ H x y v u Q I rx ry h
  obtain ⟨ds, o, d, r, e, k0, k⟩ := pr_end h
  obtain ⟨a, b, oa, ob, rfl, ra, rb⟩ := reps2 r
  unfold fAdd at e
  split at e
  · rename_i i j he
    cases he
    cases (Option.some.inj e)
    obtain ⟨rfl, _⟩ := ra
    obtain ⟨rfl, _⟩ := rb
    exact op_add pins s σ H _ _ v u Q I rx ry ⟨i, j, rfl, rfl, k0 _ ⟨rfl, rfl⟩⟩
  · rename_i i j he
    cases he
    split at e
    · rename_i hl
      cases (Option.some.inj e)
      obtain ⟨rfl, si, _⟩ := ra
      obtain ⟨rfl, sj, _⟩ := rb
      exact op_add_str pins s σ H _ _ v u Q I rx ry ⟨i, j, rfl, rfl, m_sz hl, k0 _ ⟨rfl, ⟨by rw [show (i ++ j).length = i.length + j.length from Array.size_append ..]; exact m_sz hl, strOk_app si.2 sj.2⟩, rfl⟩⟩
    · cases e
  · rename_i i j he
    cases he
    split at e
    · rename_i hc
      simp only [Bool.and_eq_true, decide_eq_true_eq] at hc
      obtain ⟨⟨h1, h2⟩, h3⟩ := hc
      cases (Option.some.inj e)
      obtain ⟨pa, va, rfl, qa, sa⟩ := ra
      obtain ⟨pb, vb, rfl, qb, sb⟩ := rb
      have sa := sa.imm' h1
      have sb := sb.imm' h2
      refine op_catA pins s σ H _ _ v u Q I rx ry ⟨pa, pb, va, vb, rfl, rfl, qa, qb, by rw [sa.length, sb.length]; exact m_sz h3, fun h => k0 _ ?_, fun h h' => k0 _ ?_, fun h h' p hp => k _ _ [] (new_same hp) ⟨p, _, rfl, .of upd_same, (sa.append sb).same (new_same hp)⟩ fresh_nil⟩
      · subst h
        have : i = [] := List.eq_nil_of_length_eq_zero (by rw [← sa.length]; rfl)
        subst this
        exact ⟨pb, vb, rfl, qb, sb⟩
      · subst h'
        have : j = [] := List.eq_nil_of_length_eq_zero (by rw [← sb.length]; rfl)
        subst this
        rw [List.append_nil]
        exact ⟨pa, va, rfl, qa, sa⟩
    · cases e
  · rename_i i j he
    cases he
    split at e
    · rename_i hc
      simp only [Bool.and_eq_true, decide_eq_true_eq] at hc
      obtain ⟨⟨h1, h2⟩, h3⟩ := hc
      cases (Option.some.inj e)
      obtain ⟨pa, va, _, rfl, qa, sa, _⟩ := ra
      obtain ⟨pb, vb, _, rfl, qb, sb, _⟩ := rb
      cases rx; cases ry
      exact list_cat I qa qb (sa.imm' h1) (sb.imm' h2) h3 k
    · cases e
  · cases e
/-- two ints -/
def fI2 (g : Int → Int → Option D) : List D → Option D
  | [.int i, .int j] => g i j
  | _ => none
theorem fI2_inv {g : Int → Int → Option D} {K : Fw} {H : Hp} {x y : V} {Q : VK} (h : Pr K (fI2 g) [x, y] H Q) : ∃ i j d, x = .int i ∧ y = .int j ∧ g i j = some d ∧ (∀ v, Rep K H d v [] → Q v H) := by
  obtain ⟨ds, o, d, r, e, k0, _⟩ := pr_end h
  obtain ⟨a, b, oa, ob, rfl, ra, rb⟩ := reps2 r
  unfold fI2 at e
  split at e
  · rename_i i j he
    cases he
    obtain ⟨rfl, _⟩ := ra
    obtain ⟨rfl, _⟩ := rb
    exact ⟨i, j, d, rfl, rfl, e, k0⟩
  · cases e
theorem o_sub : OpR X (binaryOp .Sub) fun x y => Pr X.F (fI2 fun i j => some (.int (i - j))) [x, y] := by
  intro pins s σ H x y v u Q I rx ry h
  obtain ⟨i, j, d, rfl, rfl, e, k0⟩ := fI2_inv h
  cases (Option.some.inj e)
  exact op_sub pins s σ H _ _ v u Q I rx ry ⟨i, j, rfl, rfl, k0 _ ⟨rfl, rfl⟩⟩
def fMul : List D → Option D
  | [.int i, .int j] => if -(2 ^ 64) < i ∧ i < 2 ^ 64 ∨ -(2 ^ 64) < j ∧ j < 2 ^ 64 then some (.int (i * j)) else none
  | [.lst a, .int j] => if D.imms a ∧ -1000000 ≤ j ∧ j ≤ 1000000 ∧ a.length * j.toNat ≤ 1000000 then some (.lst (List.replicate j.toNat a).flatten) else none
  | _ => none
theorem reps_flat {K : Fw} {H : Hp} {xs : List D} {vs : List V} (r : Reps K H xs vs []) : ∀ n : Nat, Reps K H (List.replicate n xs).flatten (List.replicate n vs).flatten []
  | 0 => ⟨rfl, rfl⟩
  | n + 1 => by
    rw [List.replicate_succ, List.flatten_cons, List.replicate_succ, List.flatten_cons]
    exact r.append (reps_flat r n)
theorem o_mul : OpR X (binaryOp .Mult) fun x y => Pr X.F fMul [x, y] := by
  intro pins s σ H x y v u Q I rx ry h
  obtain ⟨ds, o, d, r, e, k0, k⟩ := pr_end h
  obtain ⟨a, b, oa, ob, rfl, ra, rb⟩ := reps2 r
  unfold fMul at e
  split at e
  · rename_i i j he
    cases he
    split at e
    · rename_i hc
      cases (Option.some.inj e)
      obtain ⟨rfl, _⟩ := ra
      obtain ⟨rfl, _⟩ := rb
      exact op_mul pins s σ H _ _ v u Q I rx ry ⟨i, j, rfl, rfl, hc, k0 _ ⟨rfl, rfl⟩⟩
    · cases e
  · rename_i i j he
    cases he
    split at e
    · rename_i hc
      obtain ⟨h1, h2, h3, h4⟩ := hc
      cases (Option.some.inj e)
      obtain ⟨pa, va, _, rfl, qa, sa, _⟩ := ra
      obtain ⟨rfl, _⟩ := rb
      have sa := sa.imm' h1
      refine op_rep pins s σ H _ _ v u Q I rx ry ⟨pa, j, va, rfl, rfl, qa, by omega, by omega, by rw [sa.length]; exact m_sz h4, fun p hp => ?_⟩
      exact k _ _ [p] (new_same hp) ⟨p, _, [], rfl, upd_same, (reps_flat sa _).same (new_same hp), rfl⟩ (fresh_one hp)
    · cases e
  · cases e
theorem o_fdiv : OpR X (binaryOp .FloorDiv) fun x y => Pr X.F (fI2 fun i j => if j ≠ 0 ∧ j.natAbs < 1073741824 then some (.int (i.fdiv j)) else none) [x, y] := by
  intro pins s σ H x y v u Q I rx ry h
  obtain ⟨i, j, d, rfl, rfl, e, k0⟩ := fI2_inv h
  split at e
  · rename_i hc
    cases (Option.some.inj e)
    exact op_fdivN pins s σ H _ _ v u Q I rx ry ⟨i, j, rfl, rfl, hc, k0 _ ⟨rfl, rfl⟩⟩
  · cases e
theorem o_mod : OpR X (binaryOp .Mod) fun x y => Pr X.F (fI2 fun i j => if j ≠ 0 then some (.int (i.fmod j)) else none) [x, y] := by
  intro pins s σ H x y v u Q I rx ry h
  obtain ⟨i, j, d, rfl, rfl, e, k0⟩ := fI2_inv h
  split at e
  · rename_i hc
    cases (Option.some.inj e)
    exact op_modN pins s σ H _ _ v u Q I rx ry ⟨i, j, rfl, rfl, hc, k0 _ ⟨rfl, rfl⟩⟩
  · cases e
theorem o_pow : OpR X (binaryOp .Pow) fun x y => Pr X.F (fI2 fun i j => if 0 ≤ j ∧ j ≤ 1000000 ∧ i.natAbs < 2 ^ 64 then some (.int (i ^ j.toNat)) else none) [x, y] := by
  intro pins s σ H x y v u Q I rx ry h
  obtain ⟨i, j, d, rfl, rfl, e, k0⟩ := fI2_inv h
  split at e
  · rename_i hc
    cases (Option.some.inj e)
    exact op_pow pins s σ H _ _ v u Q I rx ry ⟨i, j, rfl, rfl, hc, k0 _ ⟨rfl, rfl⟩⟩
  · cases e
end
end Z


set_option Elab.async false
set_option linter.all false
set_option maxRecDepth 100000
/-! comparisons and built-in functions by the data -/
namespace Z
open PySem PySem.Spec PyProof.Rows L2

mutual
def toPy : D → PyData
  | .non => .none
  | .bl b => .bool b
  | .int i => .int i
  | .str x => .str x
  | .tup xs => .tuple (toPys xs)
  | .lst xs => .list (toPys xs)
  | .frz xs => .list (toPys xs)
  | .dic ks vs => .dict ((toPys ks).zip (toPys vs))
  | .obj _ _ _ => .none
def toPys : List D → List PyData
  | [] => []
  | x :: xs => toPy x :: toPys xs
end
theorem toPys_map : ∀ xs : List D, toPys xs = xs.map toPy
  | [] => rfl
  | x :: xs => by rw [toPys, toPys_map xs]; rfl
mutual
/-- how deep; a dict is deeper than anything that is compared -/
def D.dp : D → Nat
  | .tup xs => D.dps xs + 1
  | .lst xs => D.dps xs + 1
  | .frz xs => D.dps xs + 1
  | .dic _ _ => 100
  | .obj _ _ _ => 100
  | _ => 0
def D.dps : List D → Nat
  | [] => 0
  | x :: xs => max (D.dp x) (D.dps xs)
end
mutual
theorem dp_eq : ∀ d : D, D.dp d < 100 → (toPy d).depth = D.dp d
  | .non, _ => by simp [toPy, PyData.depth, D.dp]
  | .bl _, _ => by simp [toPy, PyData.depth, D.dp]
  | .int _, _ => by simp [toPy, PyData.depth, D.dp]
  | .str _, _ => by simp [toPy, PyData.depth, D.dp]
  | .tup xs, h => by simp only [D.dp] at h; simp [toPy, PyData.depth, D.dp, dps_eq xs (by omega)]
  | .lst xs, h => by simp only [D.dp] at h; simp [toPy, PyData.depth, D.dp, dps_eq xs (by omega)]
  | .frz xs, h => by simp only [D.dp] at h; simp [toPy, PyData.depth, D.dp, dps_eq xs (by omega)]
  | .dic _ _, h => by simp [D.dp] at h
  | .obj _ _ _, h => by simp [D.dp] at h
theorem dps_eq : ∀ ds : List D, D.dps ds < 100 → PyData.depthAll (toPys ds) = D.dps ds
  | [], _ => by simp [toPys, PyData.depthAll, D.dps]
  | x :: xs, h => by simp only [D.dps] at h; simp [toPys, PyData.depthAll, D.dps, dp_eq x (by omega), dps_eq xs (by omega)]
end
def dep (d : D) : Bool := decide (D.dp d ≤ 60)
theorem dep_lt {d : D} (h : dep d = true) : D.dp d < 100 := by have := of_decide_eq_true h; omega
theorem dep_le {d : D} (h : dep d = true) : (toPy d).depth ≤ 60 := by have := of_decide_eq_true h; rw [dp_eq d (dep_lt h)]; exact this
def eqD (a b : D) : Bool := PyData.eqv (toPy a) (toPy b)
section
variable {K : Fw} {κ : Kx} {H : Hp}
mutual
theorem Rep.dp : ∀ {d : D} {v : V} {o : List Addr}, Rep K H d v o → D.dp d < 100 → Dp K H v (toPy d)
  | .non, _, _, h, _ => by rw [h.1]; exact .non
  | .bl b, _, _, h, _ => by rw [h.1]; exact .bl b
  | .int b, _, _, h, _ => by rw [h.1]; exact .int b
  | .str b, _, _, h, _ => by rw [h.1]; exact .str b
  | .tup xs, _, _, h, g => by
    obtain ⟨a, vs, rfl, hq, r⟩ := h
    exact .tup hq (Reps.dp r (by simp only [D.dp] at g; omega))
  | .lst xs, _, _, h, g => by
    obtain ⟨a, vs, o', rfl, hq, r, _⟩ := h
    exact .lst (.of hq) (Reps.dp r (by simp only [D.dp] at g; omega))
  | .frz xs, _, _, h, g => by
    obtain ⟨a, vs, rfl, hq, r, _⟩ := h
    exact .lst hq.sq (Reps.dp r (by simp only [D.dp] at g; omega))
  | .dic _ _, _, _, h, g => by simp [D.dp] at g
  | .obj _ _ _, _, _, h, g => by simp [D.dp] at g
theorem Reps.dp : ∀ {d : List D} {v : List V} {o : List Addr}, Reps K H d v o → D.dps d < 100 → DpAll K H v (toPys d)
  | [], _, _, h, _ => by rw [h.1]; exact .nil
  | x :: xs, _, _, h, g => by
    obtain ⟨v, vr, o1, o2, rfl, h1, h2, _⟩ := h
    exact .cons (Rep.dp h1 (by simp only [D.dps] at g; omega)) (Reps.dp h2 (by simp only [D.dps] at g; omega))
end
mutual
theorem Rep.lay : ∀ {d : D} {v : V} {o : List Addr}, Rep K H d v o → D.dp d < 100 → (toPy d).canLay0 = true
  | .non, _, _, h, _ => by simp [toPy, PyData.canLay0]
  | .bl b, _, _, h, _ => by simp [toPy, PyData.canLay0]
  | .int b, _, _, h, _ => by simp [toPy, PyData.canLay0]
  | .str b, _, _, h, _ => by simp only [toPy, PyData.canLay0]; exact h.2.1.2
  | .tup xs, _, _, h, g => by
    obtain ⟨a, vs, rfl, hq, r⟩ := h
    simp only [toPy, PyData.canLay0]; exact Reps.lay r (by simp only [D.dp] at g; omega)
  | .lst xs, _, _, h, g => by
    obtain ⟨a, vs, o', rfl, hq, r, _⟩ := h
    simp only [toPy, PyData.canLay0]; exact Reps.lay r (by simp only [D.dp] at g; omega)
  | .frz xs, _, _, h, g => by
    obtain ⟨a, vs, rfl, hq, r, _⟩ := h
    simp only [toPy, PyData.canLay0]; exact Reps.lay r (by simp only [D.dp] at g; omega)
  | .dic _ _, _, _, h, g => by simp [D.dp] at g
  | .obj _ _ _, _, _, h, g => by simp [D.dp] at g
theorem Reps.lay : ∀ {d : List D} {v : List V} {o : List Addr}, Reps K H d v o → D.dps d < 100 → PyData.canLayAll0 (toPys d) = true
  | [], _, _, h, _ => by simp [toPys, PyData.canLayAll0]
  | x :: xs, _, _, h, g => by
    obtain ⟨v, vr, o1, o2, rfl, h1, h2, _⟩ := h
    simp only [toPys, PyData.canLayAll0, Bool.and_eq_true]
    exact ⟨Rep.lay h1 (by simp only [D.dps] at g; omega), Reps.lay h2 (by simp only [D.dps] at g; omega)⟩
end
theorem Rep.shaped {d : D} {v : V} {o : List Addr} (r : Rep K H d v o) (h : dep d = true) : SeqAt.shaped (toPy d) = true := by
  show ((toPy d).canLay0 && decide ((toPy d).depth ≤ 64)) = true
  rw [Bool.and_eq_true]
  have := dep_le h
  exact ⟨r.lay (dep_lt h), decide_eq_true (by omega)⟩
theorem ents_vals {w : World} : ∀ {ks : List D} {kvs vvs : List V} {es : List DictEntry}, Ents w ks kvs vvs es → Vals kvs (es.map (·.key)) ∧ Vals vvs (es.map (·.val))
  | [], [], [], [], _ => ⟨.nil, .nil⟩
  | _ :: _, _ :: _, _ :: _, _ :: _, h => ⟨.cons h.2.1 (ents_vals h.2.2.2).1, .cons h.2.2.1 (ents_vals h.2.2.2).2⟩
  | [], [], [], _ :: _, h => h.elim
  | [], [], _ :: _, _, h => h.elim
  | [], _ :: _, _, _, h => h.elim
  | _ :: _, [], _, _, h => h.elim
  | _ :: _, _ :: _, [], _, h => h.elim
  | _ :: _, _ :: _, _ :: _, [], h => h.elim
theorem zip_both {α β : Type} : ∀ (xs : List α) (ys : List β), xs.length = ys.length → (xs.zip ys).map (·.1) = xs ∧ (xs.zip ys).map (·.2) = ys
  | [], [], _ => ⟨rfl, rfl⟩
  | x :: xs, y :: ys, h => by
    obtain ⟨h1, h2⟩ := zip_both xs ys (by simpa using h)
    exact ⟨by simp [h1], by simp [h2]⟩
  | [], _ :: _, h => by simp at h
  | _ :: _, [], h => by simp at h
theorem toPys_length : ∀ xs : List D, (toPys xs).length = xs.length := fun xs => by rw [toPys_map, List.length_map]
theorem ents_length {w : World} : ∀ {ks : List D} {kvs vvs : List V} {es : List DictEntry}, Ents w ks kvs vvs es → kvs.length = ks.length ∧ vvs.length = ks.length ∧ es.length = ks.length
  | [], [], [], [], _ => ⟨rfl, rfl, rfl⟩
  | _ :: _, _ :: _, _ :: _, _ :: _, h => by
    obtain ⟨h1, h2, h3⟩ := ents_length h.2.2.2
    simp [h1, h2, h3]
  | [], [], [], _ :: _, h => h.elim
  | [], [], _ :: _, _, h => h.elim
  | [], _ :: _, _, _, h => h.elim
  | _ :: _, [], _, _, h => h.elim
  | _ :: _, _ :: _, [], _, h => h.elim
  | _ :: _, _ :: _, _ :: _, [], h => h.elim
mutual
/-- no object in it -/
def D.ro : D → Bool
  | .tup xs => D.ros xs
  | .lst xs => D.ros xs
  | .frz xs => D.ros xs
  | .dic ks vs => D.ros ks && D.ros vs
  | .obj _ _ _ => false
  | _ => true
def D.ros : List D → Bool
  | [] => true
  | x :: xs => D.ro x && D.ros xs
end
mutual
theorem dp_ro : ∀ d : D, D.dp d < 100 → d.ro = true
  | .non, _ => rfl
  | .bl _, _ => rfl
  | .int _, _ => rfl
  | .str _, _ => rfl
  | .tup xs, h => by simp only [D.dp] at h; exact dps_ros xs (by omega)
  | .lst xs, h => by simp only [D.dp] at h; exact dps_ros xs (by omega)
  | .frz xs, h => by simp only [D.dp] at h; exact dps_ros xs (by omega)
  | .dic _ _, h => by simp [D.dp] at h
  | .obj _ _ _, h => by simp [D.dp] at h
theorem dps_ros : ∀ ds : List D, D.dps ds < 100 → D.ros ds = true
  | [], _ => rfl
  | x :: xs, h => by
    simp only [D.dps] at h
    simp only [D.ros, Bool.and_eq_true]
    exact ⟨dp_ro x (by omega), dps_ros xs (by omega)⟩
end
theorem dep_ro {d : D} (h : dep d = true) : d.ro = true := dp_ro d (dep_lt h)
mutual
theorem Rep.ro : ∀ {d : D} {v : V}, Rep K H d v [] → d.ro = true
  | .non, _, _ => rfl
  | .bl _, _, _ => rfl
  | .int _, _, _ => rfl
  | .str _, _, _ => rfl
  | .tup xs, _, h => by
    obtain ⟨a, vs, rfl, hq, r⟩ := h
    exact Reps.ro r
  | .lst xs, _, h => by
    obtain ⟨a, vs, o', rfl, hq, r, e⟩ := h
    cases e
  | .frz xs, _, h => by
    obtain ⟨a, vs, rfl, hq, r, _⟩ := h
    exact Reps.ro r
  | .dic _ _, _, h => by
    obtain ⟨a, kvs, vvs, es, rfl, hq, hd, hs, hn, rk, rv, en, e⟩ := h
    cases e
  | .obj _ _ _, _, h => by
    obtain ⟨a, dx, vs, o', rfl, hq, hl, r, e⟩ := h
    cases e
theorem Reps.ro : ∀ {d : List D} {v : List V}, Reps K H d v [] → D.ros d = true
  | [], _, _ => rfl
  | x :: xs, _, h => by
    obtain ⟨v, vr, o1, o2, rfl, h1, h2, e⟩ := h
    obtain ⟨rfl, rfl⟩ := List.append_eq_nil_iff.mp e.symm
    simp only [D.ros, Bool.and_eq_true]
    exact ⟨Rep.ro h1, Reps.ro h2⟩
end
mutual
theorem Rep.reads {X : Cx} {pins : List (Addr × Obj)} {s : Shared} {σ : L2.St} {H : Hp} (I : Inv X pins σ H s) : ∀ {d : D} {v : V} {u : Value} {o : List Addr}, Rep X.F H d v o → RelV v u → d.ro = true → ∃ as, Reads s.heap u (toPy d) as
  | .non, _, _, _, h, r, _ => by obtain ⟨rfl, _⟩ := h; cases r; exact ⟨_, Reads.none⟩
  | .bl b, _, _, _, h, r, _ => by obtain ⟨rfl, _⟩ := h; cases r; exact ⟨_, Reads.bool b⟩
  | .int b, _, u, _, h, r, _ => by obtain ⟨rfl, _⟩ := h; obtain ⟨t, rfl⟩ := (show ∃ t, u = Value.int _ t from r); exact ⟨_, Reads.int b t⟩
  | .str b, _, u, _, h, r, _ => by obtain ⟨rfl, _⟩ := h; obtain ⟨t, rfl⟩ := (show ∃ t, u = Value.str _ t from r); exact ⟨_, Reads.str b t⟩
  | .tup xs, _, _, _, h, r, w => by
    obtain ⟨a, vs, rfl, hq, rs⟩ := h
    cases r
    obtain ⟨its, rv, ⟨ob, e1, e2, n, e3⟩, _⟩ := I.tuple hq
    obtain ⟨as, g⟩ := Reps.reads I rs rv w
    exact ⟨_, Reads.tuple e1 e2 e3 (by simpa using g)⟩
  | .lst xs, _, _, _, h, r, w => by
    obtain ⟨a, vs, o', rfl, hq, rs, _⟩ := h
    cases r
    obtain ⟨its, rv, ⟨ob, n, e1, e2, _, e3⟩, _⟩ := I.list (SqL.of hq)
    obtain ⟨as, g⟩ := Reps.reads I rs rv w
    exact ⟨_, Reads.list e1 e2 e3 (by simpa using g)⟩
  | .frz xs, _, _, _, h, r, w => by
    obtain ⟨a, vs, rfl, hq, rs, _⟩ := h
    cases r
    obtain ⟨its, rv, ⟨ob, n, e1, e2, _, e3⟩, _⟩ := I.list hq.sq
    obtain ⟨as, g⟩ := Reps.reads I rs rv w
    exact ⟨_, Reads.list e1 e2 e3 (by simpa using g)⟩
  | .dic ks vs, _, _, _, h, r, w => by
    have w := Bool.and_eq_true_iff.mp (show (D.ros ks && D.ros vs) = true from w)
    obtain ⟨a, kvs, vvs, es, rfl, hq, hd, hs, hn, rk, rv, en, rfl⟩ := h
    cases r
    obtain ⟨ob, ep, e1, e2, e3⟩ := (I.hok a _ hq).1
    obtain ⟨v1, v2⟩ := ents_vals en
    obtain ⟨as, g1⟩ := Reps.reads I rk v1 w.1
    obtain ⟨bs, g2⟩ := Reps.reads I rv v2 w.2
    obtain ⟨l1, l2, _⟩ := ents_length en
    have hl : (toPys ks).length = (toPys vs).length := by rw [toPys_length, toPys_length, ← rv.length]; exact l2.symm
    obtain ⟨z1, z2⟩ := zip_both _ _ hl
    exact ⟨_, Reads.dict e1 e2.1 e3 (by rw [z1]; exact g1) (by rw [z2]; exact g2)⟩
  | .obj _ _ _, _, _, _, _, _, w => nomatch w
theorem Reps.reads {X : Cx} {pins : List (Addr × Obj)} {s : Shared} {σ : L2.St} {H : Hp} (I : Inv X pins σ H s) : ∀ {ds : List D} {vs : List V} {us : List Value} {o : List Addr}, Reps X.F H ds vs o → Vals vs us → D.ros ds = true → ∃ as, ReadsAll s.heap us (toPys ds) as
  | [], _, _, _, h, r, _ => by rw [h.1] at r; cases r; exact ⟨_, ReadsAll.nil⟩
  | x :: xs, _, _, _, h, r, w => by
    have w := Bool.and_eq_true_iff.mp (show (D.ro x && D.ros xs) = true from w)
    obtain ⟨v, vr, o1, o2, rfl, h1, h2, _⟩ := h
    cases r with
    | cons r1 r2 =>
      obtain ⟨as, g1⟩ := Rep.reads I h1 r1 w.1
      obtain ⟨bs, g2⟩ := Reps.reads I h2 r2 w.2
      exact ⟨_, ReadsAll.cons g1 g2⟩
end
end

def fEq : List D → Option D
  | [a, b] => if dep a && dep b then some (.bl (eqD a b)) else none
  | _ => none
def fNe : List D → Option D
  | [a, b] => if dep a && dep b then some (.bl (!eqD a b)) else none
  | _ => none
def isNone : D → Bool
  | .non => true
  | _ => false
def fIs : List D → Option D
  | [a, .non] => some (.bl (isNone a))
  | [.bl a, .bl b] => some (.bl (decide (a = b)))
  | _ => none
def anyEq (xs : List D) (x : D) : Bool := xs.any fun y => eqD y x
def fNotIn : List D → Option D
  | [x, .lst xs] => if dep x && dep (.lst xs) then some (.bl (!anyEq xs x)) else none
  | [x, .frz xs] => if dep x && dep (.frz xs) then some (.bl (!anyEq xs x)) else none
  | [x, .tup xs] => if dep x && dep (.tup xs) then some (.bl (!anyEq xs x)) else none
  | [.str i, .str j] => some (.bl (!(!(Builtin.Str.occurrences j i 0 j.length 1).isEmpty)))
  | _ => none
/-- can be compared by < -/
def cmpOk (a b : D) : Bool := PySem.W.alike (toPy a) (toPy b) && dep a && dep b && match a with
  | .int _ => true
  | .str _ => true
  | .bl _ => true
  | .tup _ => true
  | .lst _ => true
  | .frz _ => true
  | _ => false
def ltD (a b : D) : Bool := PySem.W.dataLt (toPy a) (toPy b)
def fCmp (g : D → D → Bool) : List D → Option D
  | [a, b] => if cmpOk a b then some (.bl (g a b)) else none
  | _ => none
section
variable {X : Cx}
theorem any_toPys (xs : List D) (x : D) : (toPys xs).any (fun z => PyData.eqv z (toPy x)) = anyEq xs x := by
  rw [toPys_map, List.any_map]; rfl
theorem o_eq (hu : X.A.units + 64 < cLine) : OpR X (compareOp .Eq) fun x y => Pr X.F fEq [x, y] := by
  intro pins s σ H x y v u Q I rx ry h
  obtain ⟨ds, o, d, r, e, k0, k⟩ := pr_end h
  obtain ⟨a, b, oa, ob, rfl, ra, rb⟩ := reps2 r
  simp only [fEq] at e
  split at e
  · rename_i hc
    simp only [Bool.and_eq_true] at hc
    cases (Option.some.inj e)
    exact op_eqD hu pins s σ H x y v u Q I rx ry ⟨_, _, ra.dp (dep_lt hc.1), rb.dp (dep_lt hc.2), ra.shaped hc.1, rb.shaped hc.2, k0 _ ⟨rfl, rfl⟩⟩
  · cases e
theorem o_ne (hu : X.A.units + 64 < cLine) : OpR X (compareOp .NotEq) fun x y => Pr X.F fNe [x, y] := by
  intro pins s σ H x y v u Q I rx ry h
  obtain ⟨ds, o, d, r, e, k0, k⟩ := pr_end h
  obtain ⟨a, b, oa, ob, rfl, ra, rb⟩ := reps2 r
  simp only [fNe] at e
  split at e
  · rename_i hc
    simp only [Bool.and_eq_true] at hc
    cases (Option.some.inj e)
    exact op_neD hu pins s σ H x y v u Q I rx ry ⟨_, _, ra.dp (dep_lt hc.1), rb.dp (dep_lt hc.2), ra.shaped hc.1, rb.shaped hc.2, k0 _ ⟨rfl, rfl⟩⟩
  · cases e
theorem rep_non {K : Fw} {H : Hp} {a : D} {x : V} {o : List Addr} (r : Rep K H a x o) : isNone a = decide (x = .non) := by
  cases a with
  | non => rw [r.1]; rfl
  | bl _ => rw [r.1]; rfl
  | int _ => rw [r.1]; rfl
  | str _ => rw [r.1]; rfl
  | tup _ => obtain ⟨_, _, rfl, _⟩ := r; rfl
  | lst _ => obtain ⟨_, _, _, rfl, _⟩ := r; rfl
  | frz _ => obtain ⟨_, _, rfl, _⟩ := r; rfl
  | dic _ _ => obtain ⟨_, _, _, _, rfl, _⟩ := r; rfl
  | obj _ _ _ => obtain ⟨_, _, _, _, rfl, _⟩ := r; rfl
theorem o_is : OpR X (compareOp .Is) fun x y => Pr X.F fIs [x, y] := by
  intro pins s σ H x y v u Q I rx ry h
  obtain ⟨ds, o, d, r, e, k0, k⟩ := pr_end h
  obtain ⟨a, b, oa, ob, rfl, ra, rb⟩ := reps2 r
  unfold fIs at e
  split at e
  · rename_i a' he
    cases he
    cases (Option.some.inj e)
    obtain ⟨rfl, _⟩ := rb
    exact op_isN pins s σ H x _ v u Q I rx ry ⟨rfl, by rw [← rep_non ra]; exact k0 _ ⟨rfl, rfl⟩⟩
  · rename_i a' b' he
    cases he
    cases (Option.some.inj e)
    obtain ⟨rfl, _⟩ := ra
    obtain ⟨rfl, _⟩ := rb
    exact op_is_bl pins s σ H _ _ v u Q I rx ry ⟨a', b', rfl, rfl, k0 _ ⟨rfl, rfl⟩⟩
  · cases e
theorem o_notIn (hu : X.A.units + 65 < cLine) : OpR X (compareOp .NotIn) fun x y => Pr X.F fNotIn [x, y] := by
  intro pins s σ H x y v u Q I rx ry h
  obtain ⟨ds, o, d, r, e, k0, k⟩ := pr_end h
  obtain ⟨a, b, oa, ob, rfl, ra, rb⟩ := reps2 r
  have lists : ∀ (xs : List D), toPy b = .list (toPys xs) → dep a = true → dep b = true → d = .bl (!anyEq xs a) → wpAny (model X.prog X.w) X.A (compareOp .NotIn v u) (EP X pins σ Q) X.xe s := fun xs hb h1 h2 hd => by
    subst hd
    have rb2 := rb.dp (dep_lt h2)
    have sb := rb.shaped h2
    rw [hb] at rb2 sb
    exact op_notInD hu pins s σ H x y v u Q I rx ry ⟨_, _, ra.dp (dep_lt h1), rb2, ra.shaped h1, sb, by rw [any_toPys]; exact k0 _ ⟨rfl, rfl⟩⟩
  unfold fNotIn at e
  split at e
  · rename_i a' xs he
    cases he
    split at e
    · rename_i hc
      simp only [Bool.and_eq_true] at hc
      exact lists xs rfl hc.1 hc.2 (Option.some.inj e).symm
    · cases e
  · rename_i a' xs he
    cases he
    split at e
    · rename_i hc
      simp only [Bool.and_eq_true] at hc
      exact lists xs rfl hc.1 hc.2 (Option.some.inj e).symm
    · cases e
  · rename_i a' xs he
    cases he
    split at e
    · rename_i hc
      simp only [Bool.and_eq_true] at hc
      cases (Option.some.inj e)
      obtain ⟨as, h1⟩ := Rep.reads I ra rx (dep_ro hc.1)
      obtain ⟨bs, h2⟩ := Rep.reads I rb ry (dep_ro hc.2)
      have hl := rb.lay (dep_lt hc.2)
      have hd2 := dep_le hc.1
      simp only [toPy] at h2 hl
      refine SeqAt.notIn_tuple_reads h2 h1 (by simpa [PyData.canLay0] using hl) (ra.lay (dep_lt hc.1)) (by have := Nat.min_le_right (PyData.depthAll (toPys xs)) (toPy a).depth; omega) ?_
      rw [any_toPys]
      exact ⟨.bl _, H, I, rfl, k0 _ ⟨rfl, rfl⟩⟩
    · cases e
  · rename_i i j he
    cases he
    cases (Option.some.inj e)
    obtain ⟨rfl, _⟩ := ra
    obtain ⟨rfl, _⟩ := rb
    exact op_notin_str pins s σ H _ _ v u Q I rx ry ⟨i, j, rfl, rfl, k0 _ ⟨rfl, rfl⟩⟩
  · cases e
theorem cmp_inv {K : Fw} {g : D → D → Bool} {H : Hp} {x y : V} {Q : VK} (h : Pr K (fCmp g) [x, y] H Q) : ∃ a b oa ob, Rep K H a x oa ∧ Rep K H b y ob ∧ PySem.W.alike (toPy a) (toPy b) = true ∧ toPy a ≠ .none ∧ (dep a = true ∧ dep b = true) ∧ Q (.bl (g a b)) H := by
  obtain ⟨ds, o, d, r, e, k0, k⟩ := pr_end h
  obtain ⟨a, b, oa, ob, rfl, ra, rb⟩ := reps2 r
  simp only [fCmp] at e
  split at e
  · rename_i hc
    cases (Option.some.inj e)
    simp only [cmpOk, Bool.and_eq_true] at hc
    obtain ⟨⟨⟨h1, h2⟩, h3⟩, h4⟩ := hc
    refine ⟨a, b, oa, ob, ra, rb, h1, ?_, ⟨h2, h3⟩, k0 _ ⟨rfl, rfl⟩⟩
    cases a <;> simp_all [toPy]
  · cases e
theorem o_lt (hu : X.A.units + 64 < cLine) : OpR X (compareOp .Lt) fun x y => Pr X.F (fCmp fun a b => ltD a b) [x, y] := by
  intro pins s σ H x y v u Q I rx ry h
  obtain ⟨a, b, oa, ob, ra, rb, h1, h2, h3, q⟩ := cmp_inv h
  obtain ⟨as, g1⟩ := Rep.reads I ra rx (dep_ro h3.1)
  obtain ⟨bs, g2⟩ := Rep.reads I rb ry (dep_ro h3.2)
  have h5 := dep_le h3.1
  exact PySem.W.lt_data g1 g2 h1 h2 (by omega) ⟨.bl _, H, I, rfl, q⟩
theorem o_gt (hu : X.A.units + 64 < cLine) : OpR X (compareOp .Gt) fun x y => Pr X.F (fCmp fun a b => ltD b a) [x, y] := by
  intro pins s σ H x y v u Q I rx ry h
  obtain ⟨a, b, oa, ob, ra, rb, h1, h2, h3, q⟩ := cmp_inv h
  obtain ⟨as, g1⟩ := Rep.reads I ra rx (dep_ro h3.1)
  obtain ⟨bs, g2⟩ := Rep.reads I rb ry (dep_ro h3.2)
  have h5 := dep_le h3.1
  exact PySem.W.gt_data g1 g2 h1 h2 (by omega) ⟨.bl _, H, I, rfl, q⟩
theorem o_ge (hu : X.A.units + 64 < cLine) : OpR X (compareOp .GtE) fun x y => Pr X.F (fCmp fun a b => !ltD a b) [x, y] := by
  intro pins s σ H x y v u Q I rx ry h
  obtain ⟨a, b, oa, ob, ra, rb, h1, h2, h3, q⟩ := cmp_inv h
  obtain ⟨as, g1⟩ := Rep.reads I ra rx (dep_ro h3.1)
  obtain ⟨bs, g2⟩ := Rep.reads I rb ry (dep_ro h3.2)
  have h5 := dep_le h3.1
  exact PySem.W.ge_data g1 g2 h1 h2 (by omega) ⟨.bl _, H, I, rfl, q⟩

/-! ### built-in functions -/
def lenD : D → Option Nat
  | .str x => some x.length
  | .tup xs => some xs.length
  | .lst xs => some xs.length
  | .frz xs => some xs.length
  | _ => none
def fLen : List D → Option D
  | [a] => match lenD a with
    | some n => some (.int n)
    | none => none
  | _ => none
theorem one_inv {K : Fw} {f : List D → Option D} {vs : List V} {H : Hp} {Q : VK} (h : Pr K f vs H Q) (h1 : ∀ ds d, f ds = some d → ∃ a, ds = [a]) : ∃ a x oa d, vs = [x] ∧ Rep K H a x oa ∧ f [a] = some d ∧ (∀ v, Rep K H d v [] → Q v H) ∧ ∀ v H' ov, (∀ a u, H a = some u → H' a = some u) → Rep K H' d v ov → Fresh H ov → Q v H' := by
  obtain ⟨ds, o, d, r, e, k0, k⟩ := pr_end h
  obtain ⟨a, rfl⟩ := h1 ds d e
  obtain ⟨v, vr, o1, o2, rfl, ra, ⟨rfl, _⟩, _⟩ := r
  exact ⟨a, v, o1, d, rfl, ra, e, k0, k⟩
theorem c_len : CallR X (.builtin "len") (Pr X.F fLen) := by
  intro pins s σ H xs us Q I r h
  obtain ⟨a, x, oa, d, rfl, ra, e, k0, k⟩ := one_inv h fun ds d e => by
    cases ds with
    | nil => simp [fLen] at e
    | cons a ds => cases ds with
      | nil => exact ⟨a, rfl⟩
      | cons b ds => simp [fLen] at e
  simp only [fLen] at e
  cases hl : lenD a with
  | none => rw [hl] at e; simp at e
  | some n =>
    rw [hl] at e
    cases (Option.some.inj e)
    refine call_len pins s σ H _ us Q I r ⟨x, n, rfl, ?_, k0 _ ⟨rfl, rfl⟩⟩
    cases a <;> simp only [lenD, reduceCtorEq, Option.some.injEq] at hl
    · obtain ⟨rfl, hs, _⟩ := ra
      exact ⟨hs.1, hl.symm⟩
    · obtain ⟨p, vs, rfl, hq, rs⟩ := ra
      exact .inr ⟨vs, hq, by rw [rs.length]; exact hl.symm⟩
    · obtain ⟨p, vs, _, rfl, hq, rs, _⟩ := ra
      exact .inl ⟨vs, .of hq, by rw [rs.length]; exact hl.symm⟩
    · obtain ⟨p, vs, rfl, hq, rs, _⟩ := ra
      exact .inl ⟨vs, hq.sq, by rw [rs.length]; exact hl.symm⟩
def fInt : List D → Option D
  | [.int i] => some (.int i)
  | [.bl b] => some (.int (if b then 1 else 0))
  | _ => none
theorem c_int : CallR X (.type "int") (Pr X.F fInt) := by
  intro pins s σ H xs us Q I r h
  obtain ⟨ds, o, d, rr, e, k0, k⟩ := pr_end h
  unfold fInt at e
  split at e
  · cases (Option.some.inj e)
    obtain ⟨v, vr, o1, o2, rfl, ⟨rfl, _⟩, ⟨rfl, _⟩, _⟩ := rr
    exact call_int1 pins s σ H _ us Q I r (.inl ⟨_, rfl, k0 _ ⟨rfl, rfl⟩⟩)
  · cases (Option.some.inj e)
    obtain ⟨v, vr, o1, o2, rfl, ⟨rfl, _⟩, ⟨rfl, _⟩, _⟩ := rr
    exact call_int1 pins s σ H _ us Q I r (.inr ⟨_, rfl, k0 _ ⟨rfl, rfl⟩⟩)
  · cases e
def fTuple : List D → Option D
  | [.lst xs] => if D.imms xs then some (.tup xs) else none
  | [.frz xs] => some (.tup xs)
  | [.tup xs] => if D.imms xs then some (.tup xs) else none
  | _ => none
theorem c_tuple : CallR X (.type "tuple") (Pr X.F fTuple) := by
  intro pins s σ H xs us Q I r h
  obtain ⟨ds, o, d, rr, e, k0, k⟩ := pr_end h
  have lists : ∀ (a : Addr) (vs : List V) (ys : List D), xs = [.ref a] → SqL X.K H a vs → Reps X.F H ys vs [] → d = .tup ys → wpAny (model X.prog X.w) X.A (call (.type "tuple") us) (EP X pins σ Q) X.xe s := fun a vs ys hx hq rs hd => by
    subst hx hd
    exact call_tuple_of pins s σ H _ us Q I r ⟨a, vs, rfl, .inl ⟨hq, fun l hl => k _ _ [] (new_same hl) ⟨l, vs, rfl, .of upd_same, rs.same (new_same hl)⟩ fresh_nil⟩⟩
  unfold fTuple at e
  split at e
  · rename_i ys
    split at e
    · rename_i hi
      obtain ⟨v, vr, o1, o2, rfl, ⟨a, vs, o', rfl, hq, rs, _⟩, ⟨rfl, _⟩, _⟩ := rr
      exact lists a vs ys rfl (.of hq) (rs.imm' hi) (Option.some.inj e).symm
    · cases e
  · rename_i ys
    obtain ⟨v, vr, o1, o2, rfl, ⟨a, vs, rfl, hq, rs, _⟩, ⟨rfl, _⟩, _⟩ := rr
    exact lists a vs ys rfl hq.sq rs (Option.some.inj e).symm
  · rename_i ys
    split at e
    · rename_i hi
      obtain ⟨v, vr, o1, o2, rfl, ⟨a, vs, rfl, hq, rs⟩, ⟨rfl, _⟩, _⟩ := rr
      cases (Option.some.inj e)
      exact call_tuple_of pins s σ H _ us Q I r ⟨a, vs, rfl, .inr ⟨hq, k0 _ ⟨a, vs, rfl, hq, rs.imm' hi⟩⟩⟩
    · cases e
  · cases e
def fList : List D → Option D
  | [.lst xs] => if D.imms xs then some (.lst xs) else none
  | [.frz xs] => some (.lst xs)
  | [.tup xs] => if D.imms xs then some (.lst xs) else none
  | _ => none
theorem c_list : CallR X (.type "list") (Pr X.F fList) := by
  intro pins s σ H xs us Q I r h
  obtain ⟨ds, o, d, rr, e, k0, k⟩ := pr_end h
  have all : ∀ (a : Addr) (vs : List V) (ys : List D), xs = [.ref a] → (SqL X.K H a vs ∨ SqT X.K H a vs) → Reps X.F H ys vs [] → d = .lst ys → wpAny (model X.prog X.w) X.A (call (.type "list") us) (EP X pins σ Q) X.xe s := fun a vs ys hx hq rs hd => by
    subst hx hd
    exact call_list_of pins s σ H _ us Q I r ⟨a, vs, rfl, hq, fun l hl => k _ _ [l] (new_same hl) ⟨l, vs, [], rfl, upd_same, rs.same (new_same hl), rfl⟩ (fresh_one hl)⟩
  unfold fList at e
  split at e
  · rename_i ys
    split at e
    · rename_i hi
      obtain ⟨v, vr, o1, o2, rfl, ⟨a, vs, o', rfl, hq, rs, _⟩, ⟨rfl, _⟩, _⟩ := rr
      exact all a vs ys rfl (.inl (.of hq)) (rs.imm' hi) (Option.some.inj e).symm
    · cases e
  · rename_i ys
    obtain ⟨v, vr, o1, o2, rfl, ⟨a, vs, rfl, hq, rs, _⟩, ⟨rfl, _⟩, _⟩ := rr
    exact all a vs ys rfl (.inl hq.sq) rs (Option.some.inj e).symm
  · rename_i ys
    split at e
    · rename_i hi
      obtain ⟨v, vr, o1, o2, rfl, ⟨a, vs, rfl, hq, rs⟩, ⟨rfl, _⟩, _⟩ := rr
      exact all a vs ys rfl (.inr hq) (rs.imm' hi) (Option.some.inj e).symm
    · cases e
  · cases e
end
end Z


set_option Elab.async false
set_option linter.all false
set_option maxRecDepth 100000
/-! isinstance; least and greatest; sums -/
namespace Z
open PySem PySem.Spec PyProof.Rows L2

def fIsa (g : PyData → Bool) : List D → Option D
  | [.obj _ _ _] => none
  | [a] => some (.bl (g (toPy a)))
  | _ => none
section
variable {X : Cx} {e : Expr} {q : Bool} {m : Den} {p p2 pos : Pos}
/-- what isinstance is asked of -/
structure IsaT (T : String) (g : PyData → Bool) : Prop where
  non : ∀ {prog : Program} {w : World} {A : Around} {E Q : Value → Shared → Prop} {s : Shared}, (∀ tk, s.toks ≤ tk → Q (.bool (g .none)) { s with toks := tk }) → wpAny (model prog w) A (call (.builtin "isinstance") [.none, .type T]) Q E s
  bl : ∀ {prog : Program} {w : World} {A : Around} {E Q : Value → Shared → Prop} {s : Shared} {b : Bool}, (∀ tk, s.toks ≤ tk → Q (.bool (g (.bool b))) { s with toks := tk }) → wpAny (model prog w) A (call (.builtin "isinstance") [.bool b, .type T]) Q E s
  int : ∀ {prog : Program} {w : World} {A : Around} {E Q : Value → Shared → Prop} {s : Shared} {i : Int} {t : Nat}, (∀ tk, s.toks ≤ tk → Q (.bool (g (.int i))) { s with toks := tk }) → wpAny (model prog w) A (call (.builtin "isinstance") [.int i t, .type T]) Q E s
  str : ∀ {prog : Program} {w : World} {A : Around} {E Q : Value → Shared → Prop} {s : Shared} {x : Str} {t : Nat}, (∀ tk, s.toks ≤ tk → Q (.bool (g (.str x))) { s with toks := tk }) → wpAny (model prog w) A (call (.builtin "isinstance") [.str x t, .type T]) Q E s
  lst : ∀ {prog : Program} {w : World} {A : Around} {E Q : Value → Shared → Prop} {s : Shared} {a : Addr} {o : Obj} {xs : List PyData}, s.heap.get? a = some o → o.cls = .type "list" → (∀ tk, s.toks ≤ tk → Q (.bool (g (.list xs))) { s with toks := tk }) → wpAny (model prog w) A (call (.builtin "isinstance") [.ref a, .type T]) Q E s
  tup : ∀ {prog : Program} {w : World} {A : Around} {E Q : Value → Shared → Prop} {s : Shared} {a : Addr} {o : Obj} {xs : List PyData}, s.heap.get? a = some o → o.cls = .type "tuple" → (∀ tk, s.toks ≤ tk → Q (.bool (g (.tuple xs))) { s with toks := tk }) → wpAny (model prog w) A (call (.builtin "isinstance") [.ref a, .type T]) Q E s
  dic : ∀ {prog : Program} {w : World} {A : Around} {E Q : Value → Shared → Prop} {s : Shared} {a : Addr} {o : Obj} {xs : List (PyData × PyData)}, s.heap.get? a = some o → o.cls = .type "dict" → (∀ tk, s.toks ≤ tk → Q (.bool (g (.dict xs))) { s with toks := tk }) → wpAny (model prog w) A (call (.builtin "isinstance") [.ref a, .type T]) Q E s
theorem isa_tuple : IsaT "tuple" PyData.isTuple where
  non h := PySem.W.isinstance_tuple_data .none h
  bl h := PySem.W.isinstance_tuple_data (.bool _) h
  int h := PySem.W.isinstance_tuple_data (.int _ _) h
  str h := PySem.W.isinstance_tuple_data (.str _ _) h
  lst {_ _ _ _ _ s _ _ _} h1 h2 h := IsiPair.list_tuple h1 h2 (h _ (Nat.le_succ _))
  tup {_ _ _ _ _ s _ _ _} h1 h2 h := IsiPair.tuple_tuple h1 h2 (h s.toks (Nat.le_refl _))
  dic {_ _ _ _ _ s _ _ _} h1 h2 h := IsiPair.dict_tuple h1 h2 (h _ (Nat.le_succ _))
theorem isa_bool : IsaT "bool" PyData.isBool where
  non h := PySem.W.isinstance_bool_data .none h
  bl h := PySem.W.isinstance_bool_data (.bool _) h
  int h := PySem.W.isinstance_bool_data (.int _ _) h
  str h := PySem.W.isinstance_bool_data (.str _ _) h
  lst {_ _ _ _ _ s _ _ _} h1 h2 h := IsiPair.list_bool h1 h2 (h _ (Nat.le_succ _))
  tup {_ _ _ _ _ s _ _ _} h1 h2 h := IsiPair.tuple_bool h1 h2 (h _ (Nat.le_succ _))
  dic {_ _ _ _ _ s _ _ _} h1 h2 h := IsiPair.dict_bool h1 h2 (h _ (Nat.le_succ _))
theorem isa_int : IsaT "int" PyData.isInt where
  non h := PySem.W.isinstance_int_data .none h
  bl h := PySem.W.isinstance_int_data (.bool _) h
  int h := PySem.W.isinstance_int_data (.int _ _) h
  str h := PySem.W.isinstance_int_data (.str _ _) h
  lst {_ _ _ _ _ s _ _ _} h1 h2 h := IsiPair.list_int h1 h2 (h _ (Nat.le_succ _))
  tup {_ _ _ _ _ s _ _ _} h1 h2 h := IsiPair.tuple_int h1 h2 (h _ (Nat.le_succ _))
  dic {_ _ _ _ _ s _ _ _} h1 h2 h := IsiPair.dict_int h1 h2 (h _ (Nat.le_succ _))
theorem isa_str : IsaT "str" PyData.isStr where
  non h := PySem.W.isinstance_str_data .none h
  bl h := PySem.W.isinstance_str_data (.bool _) h
  int h := PySem.W.isinstance_str_data (.int _ _) h
  str h := PySem.W.isinstance_str_data (.str _ _) h
  lst {_ _ _ _ _ s _ _ _} h1 h2 h := IsiPair.list_str h1 h2 (h _ (Nat.le_succ _))
  tup {_ _ _ _ _ s _ _ _} h1 h2 h := IsiPair.tuple_str h1 h2 (h _ (Nat.le_succ _))
  dic {_ _ _ _ _ s _ _ _} h1 h2 h := IsiPair.dict_str h1 h2 (h _ (Nat.le_succ _))
theorem c_isa {T : String} {g : PyData → Bool} (t : IsaT T g) : CallR X (.builtin "isinstance") fun xs H Q => ∃ x, xs = [x, .ty T] ∧ Pr X.F (fIsa g) [x] H Q := by
  intro pins s σ H xs us Q I r h
  obtain ⟨x, rfl, h⟩ := h
  obtain ⟨ds, o, d, rr, e, k0, k⟩ := pr_end h
  obtain ⟨a, oa, rfl, ra⟩ := reps1 rr
  cases r with
  | cons r1 r2 =>
    cases r2 with
    | cons r3 r4 =>
      cases r4
      cases r3
      have fin : ∀ tk, s.toks ≤ tk → d = .bl (g (toPy a)) → EP X pins σ Q (.bool (g (toPy a))) { s with toks := tk } := fun tk htk ed => ⟨.bl _, H, I.tok tk, rfl, k0 _ (by rw [ed]; exact ⟨rfl, rfl⟩)⟩
      cases a with
      | non => cases (Option.some.inj e); obtain ⟨rfl, _⟩ := ra; cases r1; exact t.non fun tk h => fin tk h rfl
      | bl b => cases (Option.some.inj e); obtain ⟨rfl, _⟩ := ra; cases r1; exact t.bl fun tk h => fin tk h rfl
      | int b => cases (Option.some.inj e); obtain ⟨rfl, _⟩ := ra; obtain ⟨tt, rfl⟩ := (show ∃ t, _ = Value.int _ t from r1); exact t.int fun tk h => fin tk h rfl
      | str b => cases (Option.some.inj e); obtain ⟨rfl, _⟩ := ra; obtain ⟨tt, rfl⟩ := (show ∃ t, _ = Value.str _ t from r1); exact t.str fun tk h => fin tk h rfl
      | tup xs =>
        cases (Option.some.inj e)
        obtain ⟨p, vs, rfl, hq, rs⟩ := ra
        cases r1
        obtain ⟨its, rv, ⟨ob, e1, e2, n, e3⟩, _⟩ := I.tuple hq
        exact t.tup e1 e2 fun tk h => fin tk h rfl
      | lst xs =>
        cases (Option.some.inj e)
        obtain ⟨p, vs, o', rfl, hq, rs, _⟩ := ra
        cases r1
        obtain ⟨its, rv, ⟨ob, n, e1, e2, _, e3⟩, _⟩ := I.list (SqL.of hq)
        exact t.lst e1 e2 fun tk h => fin tk h rfl
      | frz xs =>
        cases (Option.some.inj e)
        obtain ⟨p, vs, rfl, hq, rs, _⟩ := ra
        cases r1
        obtain ⟨its, rv, ⟨ob, n, e1, e2, _, e3⟩, _⟩ := I.list hq.sq
        exact t.lst e1 e2 fun tk h => fin tk h rfl
      | dic ks vs =>
        cases (Option.some.inj e)
        obtain ⟨p, kvs, vvs, es, rfl, hq, _⟩ := ra
        cases r1
        obtain ⟨ob, ep, e1, e2, e3⟩ := (I.hok p _ hq).1
        exact t.dic e1 e2.1 fun tk h => fin tk h rfl
      | obj _ _ _ => cases e
theorem z_isa {T : String} {x : Str} {g : PyData → Bool} (t : IsaT T g) (hg : Gl X "isinstance") (hm : X.mg "isinstance" = none) (hv : bootBuiltins "isinstance" = some (.builtin "isinstance")) (hg2 : Gl X x) (hm2 : X.mg x = none) (hv2 : bootBuiltins x = some (.type T))
    (he : PE X e (Z.T (kx X) q m)) (hn2 : x ≠ "__name__" := by decide) (hdb2 : (x == ("__debug__" : Str)) = false := by decide)
    (hs : starEach [e, .Name x p2] X.env = (false, eval e X.env) :: starEach [.Name x p2] X.env := by rfl) (hs2 : starEach [.Name x p2] X.env = (false, eval (.Name x p2) X.env) :: starEach [] X.env := by rfl) (hpl : (backTo pos (starEach [.Name x p2] X.env)).any (·.1) = false := by rfl) :
    PE X (.Call (.Name "isinstance" p) [e, .Name x p2] [] pos) (Z.T (kx X) (q && true) (dCall (fIsa g) (dACons true m dANil))) :=
  PE.imp (pe_callB (c_isa t) hg hm hv (pa_cons he (pa_cons (pe_bltn (v := .ty T) hg2 hm2 hv2 rfl hn2 hdb2) pa_nil hs2) hs) (by decide) (by decide) hs hpl) fun σ H Q h => by
    obtain ⟨δ, o, r, δ', E, n, hm, k⟩ := t_call h
    simp only [dACons, dANil] at hm
    cases h1 : m δ with
    | none => rw [h1] at hm; simp at hm
    | some p1 =>
      obtain ⟨x, δ1⟩ := p1
      rw [h1] at hm
      simp only [Bool.or_true, if_true, Option.some.injEq, Prod.mk.injEq] at hm
      obtain ⟨rfl, rfl⟩ := hm
      rw [Bool.and_true] at k
      exact ⟨δ, o, x, δ1, E, n, h1, fun v H1 o1 ov1 P1 => ⟨v, rfl, k [v] H1 o1 (ov1 ++ []) P1.step P1.env ⟨v, [], ov1, [], rfl, P1.held, ⟨rfl, rfl⟩, rfl⟩ (by rw [List.append_nil]; exact P1.own)⟩⟩
end

/-! ### min, max of data -/
mutual
/-- no list in it -/
def D.nol : D → Bool
  | .tup xs => D.nols xs
  | .lst _ => false
  | .frz _ => false
  | .dic _ _ => false
  | .obj _ _ _ => false
  | _ => true
def D.nols : List D → Bool
  | [] => true
  | x :: xs => D.nol x && D.nols xs
end
theorem D.nols_iff : ∀ (xs : List D), D.nols xs = true ↔ ∀ x ∈ xs, D.nol x = true
  | [] => by simp [D.nols]
  | x :: xs => by simp [D.nols, D.nols_iff xs]
mutual
theorem D.nol_imm : ∀ (d : D), d.nol = true → d.imm = true
  | .tup xs, h => by simp only [D.nol, D.imm] at h ⊢; exact D.nols_imms xs h
  | .non, _ => rfl
  | .bl _, _ => rfl
  | .int _, _ => rfl
  | .str _, _ => rfl
  | .lst _, h => by simp [D.nol] at h
  | .frz _, h => by simp [D.nol] at h
  | .dic _ _, h => by simp [D.nol] at h
  | .obj _ _ _, h => by simp [D.nol] at h
theorem D.nols_imms : ∀ (xs : List D), D.nols xs = true → D.imms xs = true
  | [], _ => rfl
  | x :: xs, h => by
    simp only [D.nols, D.imms, Bool.and_eq_true] at h ⊢
    exact ⟨D.nol_imm x h.1, D.nols_imms xs h.2⟩
end
mutual
theorem toPy_inj : ∀ (a b : D), a.nol = true → b.nol = true → toPy a = toPy b → a = b
  | .tup xs, b, ha, hb, h => by
    cases b <;> simp only [toPy, reduceCtorEq] at h
    · simp only [PyData.tuple.injEq] at h
      rw [toPys_inj xs _ ha hb h]
    all_goals simp [D.nol] at hb
  | .non, b, _, hb, h => by cases b <;> simp_all [toPy, D.nol]
  | .bl _, b, _, hb, h => by cases b <;> simp_all [toPy, D.nol]
  | .int _, b, _, hb, h => by cases b <;> simp_all [toPy, D.nol]
  | .str _, b, _, hb, h => by cases b <;> simp_all [toPy, D.nol]
  | .lst _, _, ha, _, _ => by simp [D.nol] at ha
  | .frz _, _, ha, _, _ => by simp [D.nol] at ha
  | .dic _ _, _, ha, _, _ => by simp [D.nol] at ha
  | .obj _ _ _, _, ha, _, _ => by simp [D.nol] at ha
theorem toPys_inj : ∀ (a b : List D), D.nols a = true → D.nols b = true → toPys a = toPys b → a = b
  | [], b, _, _, h => by cases b <;> simp_all [toPys]
  | x :: xs, b, ha, hb, h => by
    cases b with
    | nil => simp [toPys] at h
    | cons y ys =>
      simp only [D.nols, Bool.and_eq_true, toPys, List.cons.injEq] at ha hb h
      rw [toPy_inj x y ha.1 hb.1 h.1, toPys_inj xs ys ha.2 hb.2 h.2]
end
/-- all can be compared with one another -/
def cmpAll (xs : List D) : Bool := D.nols xs && xs.all fun x => xs.all fun y => cmpOk x y
def maxD (x : D) (xs : List D) : D := xs.foldl (fun a y => if ltD a y then y else a) x
def itemsD : D → Option (List D)
  | .tup xs => some xs
  | .lst xs => some xs
  | .frz xs => some xs
  | _ => none
def fMax : List D → Option D
  | [a] => match itemsD a with
    | some (x :: xs) => if cmpAll (x :: xs) then some (maxD x xs) else none
    | _ => none
  | a :: b :: r => if cmpAll (a :: b :: r) then some (maxD a (b :: r)) else none
  | _ => none
theorem maxD_py (x : D) (xs : List D) : toPy (maxD x xs) = PySem.W.maxD (toPy x) (toPys xs) := by
  rw [toPys_map]
  unfold maxD PySem.W.maxD
  induction xs generalizing x with
  | nil => rfl
  | cons y ys ih =>
    rw [List.foldl_cons, List.map_cons, List.foldl_cons, ih]
    congr 1
    show toPy (if PySem.W.dataLt (toPy x) (toPy y) = true then y else x) = _
    split <;> rfl
theorem maxD_mem (x : D) (xs : List D) : maxD x xs ∈ x :: xs := by
  unfold maxD
  induction xs generalizing x with
  | nil => simp
  | cons y ys ih =>
    rw [List.foldl_cons]
    have := ih (if ltD x y then y else x)
    split at this
    · rcases List.mem_cons.mp this with h | h
      · rw [if_pos (by assumption)]; rw [h]; simp
      · rw [if_pos (by assumption)]; simp [h]
    · rcases List.mem_cons.mp this with h | h
      · rw [if_neg (by assumption)]; rw [h]; simp
      · rw [if_neg (by assumption)]; simp [h]
theorem cmpAll_alike {xs : List D} (h : cmpAll xs = true) : PySem.W.AlikeAll (toPys xs) ∧ PyData.depthAll (toPys xs) ≤ 60 := by
  simp only [cmpAll, Bool.and_eq_true, List.all_eq_true] at h
  obtain ⟨hn, h⟩ := h
  rw [toPys_map]
  refine ⟨⟨fun a ha b hb => ?_, fun a ha => ?_⟩, ?_⟩
  · obtain ⟨x, hx, rfl⟩ := List.mem_map.mp ha
    obtain ⟨y, hy, rfl⟩ := List.mem_map.mp hb
    have := h x hx y hy
    simp only [cmpOk, Bool.and_eq_true] at this
    exact this.1.1.1
  · obtain ⟨x, hx, rfl⟩ := List.mem_map.mp ha
    have := h x hx x hx
    simp only [cmpOk, Bool.and_eq_true] at this
    have h4 := this.2
    cases x <;> simp_all [toPy]
  · have hd : ∀ x ∈ xs, (toPy x).depth ≤ 60 := fun x hx => by
      have := h x hx x hx
      simp only [cmpOk, Bool.and_eq_true] at this
      exact dep_le this.1.1.2
    clear h hn
    induction xs with
    | nil => simp [PyData.depthAll]
    | cons x xs ih =>
      simp only [List.map_cons, PyData.depthAll]
      have h1 := hd x List.mem_cons_self
      have h2 := ih fun y hy => hd y (List.mem_cons_of_mem _ hy)
      omega
section
variable {X : Cx}
theorem vals_at {us : List Value} {vs : List V} {i : Nat} {u : Value} (r : Vals vs us) (h : us[i]? = some u) : ∃ v, vs[i]? = some v ∧ RelV v u := by
  cases hv : vs[i]? with
  | none => rw [r.none_of hv] at h; cases h
  | some v =>
    obtain ⟨u', h', ru⟩ := r.get hv
    rw [h] at h'; cases h'
    exact ⟨v, rfl, ru⟩
mutual
theorem Rep.layN {K : Fw} {H : Hp} : ∀ {d : D} {v : V} {o : List Addr}, Rep K H d v o → d.nol = true → (toPy d).canLay0 = true
  | .non, _, _, h, _ => by simp [toPy, PyData.canLay0]
  | .bl b, _, _, h, _ => by simp [toPy, PyData.canLay0]
  | .int b, _, _, h, _ => by simp [toPy, PyData.canLay0]
  | .str b, _, _, h, _ => by simp only [toPy, PyData.canLay0]; exact h.2.1.2
  | .tup xs, _, _, h, g => by
    obtain ⟨a, vs, rfl, hq, r⟩ := h
    simp only [toPy, PyData.canLay0]; exact Reps.layN r g
  | .lst xs, _, _, h, g => by simp [D.nol] at g
  | .frz xs, _, _, h, g => by simp [D.nol] at g
  | .dic _ _, _, _, h, g => by simp [D.nol] at g
  | .obj _ _ _, _, _, h, g => by simp [D.nol] at g
theorem Reps.layN {K : Fw} {H : Hp} : ∀ {d : List D} {v : List V} {o : List Addr}, Reps K H d v o → D.nols d = true → PyData.canLayAll0 (toPys d) = true
  | [], _, _, h, _ => by simp [toPys, PyData.canLayAll0]
  | x :: xs, _, _, h, g => by
    obtain ⟨v, vr, o1, o2, rfl, h1, h2, _⟩ := h
    simp only [D.nols, Bool.and_eq_true] at g
    simp only [toPys, PyData.canLayAll0, Bool.and_eq_true]
    exact ⟨Rep.layN h1 g.1, Reps.layN h2 g.2⟩
end
/-- an item that reads as a datum of the list is that datum -/
theorem item_eq {pins : List (Addr × Obj)} {s : Shared} {σ : L2.St} {H : Hp} {xs : List D} {vs : List V} {us : List Value} {i : Nat} {u : Value} {d : D} {h' : Heap} {bs : List Addr} (I : Inv X pins σ H s) (rs : Reps X.F H xs vs []) (rv : Vals vs us) (hn : D.nols xs = true) (hd : d.nol = true) (hi : us[i]? = some u) (hr : Reads h' u (toPy d) bs)
    (hk : ∀ b o, s.heap.get? b = some o → h'.get? b = some o) : ∃ v, RelV v u ∧ Rep X.F H d v [] := by
  obtain ⟨v, hv, ru⟩ := vals_at rv hi
  have hil : i < xs.length := by
    have := (List.getElem?_eq_some_iff.mp hv).1
    rw [rs.length] at this; exact this
  obtain ⟨v', hv', rr⟩ := item_of rs (List.getElem?_eq_getElem hil)
  rw [hv] at hv'; cases hv'
  obtain ⟨as, g⟩ := Rep.reads I rr ru rr.ro
  have e : toPy xs[i] = toPy d := SeqAt.plain_unique _ _ u as bs (PyData.plain_of_canLay0 _ (Rep.layN rr ((D.nols_iff xs).mp hn _ (List.getElem_mem hil)))) (Reads.keeps hk g) hr
  have := toPy_inj _ _ ((D.nols_iff xs).mp hn _ (List.getElem_mem hil)) hd e
  rw [this] at rr
  exact ⟨v, ru, rr⟩
theorem seq_items {K : Fw} {H : Hp} {a : D} {v : V} {o : List Addr} {xs : List D} (r : Rep K H a v o) (h : itemsD a = some xs) (hi : D.imms xs = true) : ∃ p vs, v = .ref p ∧ (SqL K H p vs ∨ SqT K H p vs) ∧ Reps K H xs vs [] := by
  cases a <;> simp only [itemsD, reduceCtorEq, Option.some.injEq] at h
  · subst h
    obtain ⟨p, vs, rfl, hq, rs⟩ := r
    exact ⟨p, vs, rfl, .inr hq, rs.imm' hi⟩
  · subst h
    obtain ⟨p, vs, _, rfl, hq, rs, _⟩ := r
    exact ⟨p, vs, rfl, .inl (.of hq), rs.imm' hi⟩
  · subst h
    obtain ⟨p, vs, rfl, hq, rs, _⟩ := r
    exact ⟨p, vs, rfl, .inl hq.sq, rs⟩
theorem plainL_isList {h : Heap} {a : Addr} {its : Array Value} (p : PlainL h a its) : h.IsList a its := by
  obtain ⟨o, n, e, c, _, d⟩ := p
  exact ⟨o, e, c, n, d⟩
end
end Z


set_option Elab.async false
set_option linter.all false
set_option maxRecDepth 100000
/-! list comprehensions -/
namespace Z
open PySem PySem.Spec PyProof.Rows L2

def wipeD (δ : DE) : List Nat → DE
  | [] => δ
  | v :: vs => (wipeD δ vs).set v none
/-- the block's own names as they were ahead of it -/
def restD (δ0 : DE) : DE → List Nat → DE
  | δ2, [] => δ2
  | δ2, v :: vs => restD δ0 (δ2.set v (match (wipeD δ0 vs)[v]? with | some x => x | none => none)) vs
section
variable {K : Fw} {κ : Kx} {H H1 H2 : Hp}
theorem wipeD_len (δ : DE) : ∀ vs : List Nat, (wipeD δ vs).length = δ.length
  | [] => rfl
  | v :: vs => by rw [wipeD, List.length_set, wipeD_len δ vs]
/-- a slot that isn't told -/
theorem Envs.sig : ∀ {σ : L2.St} {δ : DE} {o : List Addr} (v : Nat) (x : Option V), Envs κ H σ δ o → (∀ d, δ[v]? ≠ some (some d)) → Envs κ H (σ.set v x) δ o
  | [], [], _, _, _, h, _ => h
  | s :: σ, none :: δ, o, 0, x, h, _ => by
    cases x <;> cases s <;> exact h
  | some w :: σ, some d :: δ, o, 0, x, h, hn => absurd rfl (hn d)
  | none :: σ, none :: δ, o, v + 1, x, h, hn => Envs.sig (σ := σ) (δ := δ) v x h fun d e => hn d (by simpa using e)
  | some w :: σ, none :: δ, o, v + 1, x, h, hn => Envs.sig (σ := σ) (δ := δ) v x h fun d e => hn d (by simpa using e)
  | some w :: σ, some d :: δ, o, v + 1, x, h, hn => by
    obtain ⟨o1, o2, h1, h2, e⟩ := h
    exact ⟨o1, o2, h1, Envs.sig v x h2 fun d e => hn d (by simpa using e), e⟩
  | none :: σ, some d :: δ, _, _, _, h, _ => h.elim
  | [], _ :: _, _, _, _, h, _ => by simp [Envs] at h
  | _ :: _, [], _, _, _, h, _ => by simp [Envs] at h
theorem set_none_same {δ : DE} {v : Nat} (h : ∀ d, δ[v]? ≠ some (some d)) : δ.set v none = δ := by
  by_cases hl : v < δ.length
  · have e : δ[v] = none := by
      cases q : δ[v] with
      | none => rfl
      | some d => exact absurd (by rw [List.getElem?_eq_getElem hl, q]) (h d)
    rw [← e]; exact List.set_getElem_self hl
  · exact List.set_eq_of_length_le (by omega)
theorem set_none_get {δ : DE} (v : Nat) : ∀ d, (δ.set v none)[v]? ≠ some (some d) := fun d e => by
  by_cases hl : v < δ.length
  · rw [List.getElem?_set_self hl] at e; simp at e
  · rw [List.getElem?_eq_none (by simpa using hl)] at e; cases e
theorem Envs.drop {σ : L2.St} {δ : DE} {o : List Addr} (v : Nat) (E : Envs κ H σ δ o) : ∃ o', Envs κ H σ (δ.set v none) o' ∧ ∀ a, o'.count a ≤ o.count a := by
  by_cases h : ∃ d, δ[v]? = some (some d)
  · obtain ⟨d, h⟩ := h
    obtain ⟨w, oa, o1, ob, _, _, rfl, _, k⟩ := E.at h
    exact ⟨oa ++ ob, k H Fr.rfl, fun a => by simp only [List.count_append]; omega⟩
  · rw [set_none_same fun d e => h ⟨d, e⟩]
    exact ⟨o, E, fun _ => Nat.le_refl _⟩
theorem Envs.wipe : ∀ {σ : L2.St} {δ : DE} {o : List Addr} (vs : List Nat), Envs κ H σ δ o → ∃ ow, Envs κ H (wipe σ vs) (wipeD δ vs) ow ∧ ∀ a, ow.count a ≤ o.count a
  | σ, δ, o, [], E => ⟨o, E, fun _ => Nat.le_refl _⟩
  | σ, δ, o, v :: vs, E => by
    obtain ⟨ow, Ew, c⟩ := Envs.wipe vs E
    obtain ⟨o', E', c'⟩ := Ew.drop v
    refine ⟨o', ?_, fun a => Nat.le_trans (c' a) (c a)⟩
    exact Envs.sig v none E' (set_none_get v)
/-- the block's own names put back -/
theorem Envs.rest : ∀ (vs : List Nat) {σ : L2.St} {δ : DE} {o : List Addr}, Envs κ H1 σ δ o → Nd o → ∃ (ow od : List Addr), Envs κ H1 (L2.wipe σ vs) (wipeD δ vs) ow ∧ (∀ a, ow.count a + od.count a ≤ o.count a) ∧ (∀ a ∈ od, H1 a ≠ none) ∧
    ∀ {H2 : Hp} {δ2 : DE} {o2 : List Addr}, Step H1 H2 ow → Envs κ H2 (L2.wipe σ vs) δ2 o2 → ∃ o3, Envs κ H2 σ (restD δ δ2 vs) o3 ∧ ∀ a, o3.count a ≤ o2.count a + od.count a
  | [], σ, δ, o, E, n => ⟨o, [], E, fun a => by simp, (fun a ha => nomatch ha), fun {H2 δ2 o2} s E2 => ⟨o2, E2, fun a => by simp⟩⟩
  | v :: vs, σ, δ, o, E, n => by
    obtain ⟨ow, od, Ew, c, dm, k⟩ := Envs.rest vs E n
    have nw : Nd ow := fun a => by have := c a; have := n a; omega
    by_cases h : ∃ d, (wipeD δ vs)[v]? = some (some d)
    · obtain ⟨d, h⟩ := h
      obtain ⟨w, oa, o1, ob, hw, r, rfl, _, kn⟩ := Ew.at h
      have Ev := kn H1 Fr.rfl
      have hvl : v < (wipeD δ vs).length := (List.getElem?_eq_some_iff.mp h).1
      have tr : ∀ a ∈ o1, H1 a ≠ none := fun a ha => by obtain ⟨vs, e, how⟩ := r.own a ha; rw [e]; simp
      refine ⟨oa ++ ob, o1 ++ od, Envs.sig v none Ev (set_none_get v), fun a => ?_, fun a ha => (List.mem_append.mp ha).elim (tr a) (dm a), fun {H2 δ2 o2} s E2 => ?_⟩
      · have := c a; simp only [List.count_append] at this ⊢; omega
      · have hd1 : ∀ a ∈ o1, a ∉ oa ++ ob := fun a h1 h2 => by
          have g1 : 0 < o1.count a := List.count_pos_iff.mpr h1
          have g2 : 0 < (oa ++ ob).count a := List.count_pos_iff.mpr h2
          have g3 := nw a
          simp only [List.count_append] at g2 g3
          omega
        have r2 : Rep κ.K H2 d w o1 := r.step s (fun a ha => Ew.ok a (by rcases List.mem_append.mp ha with z | z <;> simp [z])) hd1
        have hl2 : δ2.length = δ.length := by
          rw [← E2.length, wipe_length, ← E.length]
        obtain ⟨o3, E3, c3⟩ := Envs.set v E2 r2 (by rw [hl2, ← wipeD_len δ vs]; exact hvl)
        have hs : (L2.wipe σ (v :: vs)).set v (some w) = L2.wipe σ vs := by
          show ((L2.wipe σ vs).set v none).set v (some w) = _
          rw [List.set_set]
          obtain ⟨hl, e⟩ := List.getElem?_eq_some_iff.mp hw
          rw [← e]; exact List.set_getElem_self hl
        rw [hs] at E3
        have s3 : Step H1 H2 (oa ++ o1 ++ ob) := s.mono fun a ha => by rcases List.mem_append.mp ha with z | z <;> simp [z]
        obtain ⟨o4, E4, c4⟩ := k s3 E3
        refine ⟨o4, ?_, fun a => ?_⟩
        · show Envs κ H2 σ (restD δ (δ2.set v (match (wipeD δ vs)[v]? with | some x => x | none => none)) vs) o4
          rw [h]; exact E4
        · have g := c3 a
          have g2 := c4 a
          rw [List.count_append]; omega
    · have hn : ∀ d, (wipeD δ vs)[v]? ≠ some (some d) := fun d e => h ⟨d, e⟩
      refine ⟨ow, od, ?_, c, dm, fun {H2 δ2 o2} s E2 => ?_⟩
      · show Envs κ H1 ((L2.wipe σ vs).set v none) ((wipeD δ vs).set v none) ow
        rw [set_none_same hn]
        exact Envs.sig v none Ew hn
      · obtain ⟨o2', E2', c2'⟩ := E2.drop v
        have E3 : Envs κ H2 (L2.wipe σ vs) (δ2.set v none) o2' := by
          have e : L2.wipe σ vs = (L2.wipe σ (v :: vs)).set v ((L2.wipe σ vs)[v]?.getD none) := by
            show _ = ((L2.wipe σ vs).set v none).set v _
            rw [List.set_set]
            by_cases hl : v < (L2.wipe σ vs).length
            · rw [List.getElem?_eq_getElem hl]; exact (List.set_getElem_self hl).symm
            · exact (List.set_eq_of_length_le (by omega)).symm
          rw [e]
          exact Envs.sig v _ E2' (set_none_get v)
        obtain ⟨o4, E4, c4⟩ := k s E3
        refine ⟨o4, ?_, fun a => ?_⟩
        · show Envs κ H2 σ (restD δ (δ2.set v (match (wipeD δ vs)[v]? with | some x => x | none => none)) vs) o4
          have : (match (wipeD δ vs)[v]? with | some x => x | none => none) = (none : Option D) := by
            cases q : (wipeD δ vs)[v]? with
            | none => rfl
            | some x => cases x with
              | none => rfl
              | some d => exact absurd q (hn d)
          rw [this]; exact E4
        · have g := c2' a
          have g2 := c4 a
          omega
end
/-- one turn after another: what the elements are -/
def dLcL (gs : List (Nat × D)) (vs : List Nat) (b : Bnd) (mt : DenT) (me : Den) : List D → DE → Option (List D × DE)
  | [], δ => if gOk gs δ then some ([], δ) else none
  | x :: xs, δ => if gOk gs δ then match b x δ with
    | some δ1 => match mt δ1 with
      | some (false, δ2) => dLcL gs vs b mt me xs (wipeD δ2 vs)
      | some (true, δ2) => match me δ2 with
        | some (.own d, δ3) => match dLcL gs vs b mt me xs (wipeD δ3 vs) with
          | some (ds, δ4) => some (d :: ds, δ4)
          | none => none
        | _ => none
      | none => none
    | none => none
    else none
def kpOut (vs : List Nat) : Nat → Bool := fun i => !vs.contains i
def dLc (vs : List Nat) (ms : DenS) (b : Bnd) (mt : DenT) (me : Den) : Den := fun δ => match ms δ with
  | some (src, δ1) => if gsIn (kpOut vs) src.gs then match dLcL src.gs vs b mt me src.xs (wipeD δ1 vs) with
    | some (ds, δ2) => some (.own (.lst ds), restD δ1 δ2 vs)
    | none => none
    else none
  | none => none
def dYes : DenT := fun δ => some (true, δ)
theorem wipe_get {σ : L2.St} {i : Nat} : ∀ {vs : List Nat}, i ∉ vs → (L2.wipe σ vs)[i]? = σ[i]?
  | [], _ => rfl
  | v :: vs, h => by
    simp only [List.mem_cons, not_or] at h
    show ((L2.wipe σ vs).set v none)[i]? = _
    rw [List.getElem?_set_ne (Ne.symm h.1), wipe_get h.2]
theorem wipe_in {σ : L2.St} {i : Nat} : ∀ {vs : List Nat}, i ∈ vs → i < σ.length → (L2.wipe σ vs)[i]? = some none
  | v :: vs, h, hl => by
    show ((L2.wipe σ vs).set v none)[i]? = _
    by_cases e : v = i
    · subst e
      rw [List.getElem?_set_self (by rw [wipe_length]; exact hl)]
    · rw [List.getElem?_set_ne e]
      exact wipe_in ((List.mem_cons.mp h).resolve_left (Ne.symm e)) hl
theorem wipe_same {σ σ2 : L2.St} {vs : List Nat} (hl : σ2.length = σ.length) (h : ∀ i, i ∉ vs → σ2[i]? = σ[i]?) : L2.wipe σ2 vs = L2.wipe σ vs := by
  apply List.ext_getElem?
  intro i
  by_cases hi : i ∈ vs
  · by_cases hn : i < σ.length
    · rw [wipe_in hi hn, wipe_in hi (by omega)]
    · rw [List.getElem?_eq_none (by rw [wipe_length]; omega), List.getElem?_eq_none (by rw [wipe_length]; omega)]
  · rw [wipe_get hi, wipe_get hi, h i hi]
theorem wipe_wipe (σ : L2.St) (vs : List Nat) : L2.wipe (L2.wipe σ vs) vs = L2.wipe σ vs := wipe_same (wipe_length σ vs) fun i hi => wipe_get hi
section
variable {X : Cx} {elt tg iter c : Expr} {ifs : List Expr} {q qt qe : Bool} {ms : DenS} {b : Bnd} {mt : DenT} {me : Den} {vs : List Nat}
theorem PTs.imp {t t' : L2.TT} (h : PTs X ifs t) (i : ∀ σ H Q, t' σ H Q → t σ H Q) : PTs X ifs t' := ⟨fun pins s σ H Q I hw => h.run pins s σ H Q I (i _ _ _ hw)⟩
theorem z_tsnil : PTs X [] (TT (kx X) true dYes) := PTs.imp pts_nil fun σ H Q ⟨δ, o, bb, δ', E, n, hm, k⟩ => by
  simp only [dYes, Option.some.injEq, Prod.mk.injEq] at hm
  obtain ⟨rfl, rfl⟩ := hm
  exact k H o ⟨Step.refl _ _, E, Own.refl _ _⟩
theorem z_tsone (h : PT X c (TT (kx X) qt mt)) : PTs X [c] (TT (kx X) qt mt) := pts_one h
/-- the reading of a comprehension -/
theorem t_lc {κ : Kx} {σ : L2.St} {H : Hp} {Q : VK} (h : T κ false (dLc vs ms b mt me) σ H Q) : tLc (TIm κ q ms) (TGm κ (kpOut vs) b) (TT κ qt mt) (T κ qe me) vs σ H Q := by
  obtain ⟨δ, o, r, δ', E, n, hm, k⟩ := h
  simp only [dLc] at hm
  cases h1 : ms δ with
  | none => rw [h1] at hm; simp at hm
  | some p =>
    obtain ⟨src, δ1⟩ := p
    rw [h1] at hm; dsimp only at hm
    by_cases hk0 : gsIn (kpOut vs) src.gs = true
    case neg => rw [if_neg hk0] at hm; cases hm
    rw [if_pos hk0] at hm
    have hk : ∀ p ∈ src.gs, p.1 ∉ vs := fun p hp => by
      have := gsIn_mem hk0 p hp
      simpa [kpOut] using this
    cases h2 : dLcL src.gs vs b mt me src.xs (wipeD δ1 vs) with
    | none => rw [h2] at hm; simp at hm
    | some p2 =>
      obtain ⟨ds, δe⟩ := p2
      rw [h2] at hm
      simp only [Option.some.injEq, Prod.mk.injEq] at hm
      obtain ⟨rfl, rfl⟩ := hm
      refine ⟨δ, o, src, δ1, E, n, h1, fun J H1 o1 ov s1 E1 w1 hov S hlen => fun D hD => ?_⟩
      have n1 := w1.nd n
      have no1 : Nd o1 := (own_right w1).nd n
      obtain ⟨ow, od, Ew, cw, hod, kr⟩ := Envs.rest vs E1 no1
      have nw : Nd ow := fun a => by have := cw a; have := no1 a; omega
      have hlw : (wipeD δ1 vs).length = σ.length := by rw [wipeD_len, ← E1.length]
      -- the heap is so at turn i
      refine ⟨fun i m H' => m + i = src.xs.length ∧ ∃ accV accD oacc δ2 o2 rest, accV.length ≤ i ∧ H' D = some (.lst accV) ∧ Reps κ.K H' accD accV oacc ∧ Envs κ H' (L2.wipe σ vs) δ2 o2 ∧ Step H1 H' ow ∧ Own H1 ow (oacc ++ o2) ∧ D ∉ oacc ++ o2 ∧
        dLcL src.gs vs b mt me (src.xs.drop i) δ2 = some (rest, δe) ∧ accD ++ rest = ds, ⟨src.xs.length, rfl, [], [], [], wipeD δ1 vs, ow, ds, Nat.le_refl _, upd_same, ⟨rfl, rfl⟩, Ew.same (new_same hD), Step.new hD, Own.refl _ _, fun hm => Ew.dom D hm hD, h2, rfl⟩, fun i m H' hW => ?_⟩
      obtain ⟨hmi, accV, accD, oacc, δ2, o2, rest, hacc, hHD, ra, E2, s2, w2, hDn, h3, hds⟩ := hW
      have n2 := w2.nd nw
      have pin : ∀ a ∈ ov, H' a = H1 a := fun a ha => by
        obtain ⟨u, e, how⟩ := hov a ha
        rw [e]
        refine s2.keep a _ e (fun hz => nd_split n1 a ha ?_) how.2
        have h5 : 0 < ow.count a := List.count_pos_iff.mpr hz
        have h6 := cw a
        exact List.count_pos_iff.mp (show 0 < o1.count a by omega)
      have shr : ∀ a u, H1 a = some u → Sh u → H' a = some u := fun a u e hu => s2.keep a u e (fun z => by
        obtain ⟨vs, e2, how⟩ := Ew.own a z
        rw [e] at e2; cases e2; exact how.1 hu) hu.nt
      have gk : gOk src.gs δ2 = true → ∀ p ∈ src.gs, ∃ v o, σ[p.1]? = some (some v) ∧ Rep κ.K H' p.2 v o := fun hg p hp => by
        obtain ⟨v, o, hv, r⟩ := gOk_rep E2 hg p hp
        exact ⟨v, o, by rw [← wipe_get (σ := σ) (hk p hp)]; exact hv, r⟩
      by_cases hi : i < src.xs.length
      · have hx : src.xs[i]? = some src.xs[i] := List.getElem?_eq_getElem hi
        rw [List.drop_eq_getElem_cons hi] at h3
        simp only [dLcL] at h3
        by_cases hg : gOk src.gs δ2 = true
        case neg => rw [if_neg hg] at h3; cases h3
        rw [if_pos hg] at h3
        obtain ⟨go, _⟩ := S i H' pin shr (gk hg)
        obtain ⟨go, yl⟩ := go _ hx
        cases h4 : b src.xs[i] δ2 with
        | none => rw [h4] at h3; simp at h3
        | some δ3 =>
          rw [h4] at h3; dsimp only at h3
          refine .inr ⟨go, fun H6 => ∃ accV accD oacc δ2 o2 rest, accV.length ≤ i + 1 ∧ H6 D = some (.lst accV) ∧ Reps κ.K H6 accD accV oacc ∧ Envs κ H6 (L2.wipe σ vs) δ2 o2 ∧ Step H1 H6 ow ∧ Own H1 ow (oacc ++ o2) ∧ D ∉ oacc ++ o2 ∧
            dLcL src.gs vs b mt me (src.xs.drop (i + 1)) δ2 = some (rest, δe) ∧ accD ++ rest = ds, fun H6 hN => ⟨m - 1, by omega, by omega, hN⟩, fun v H3 hy => ?_⟩
          obtain ⟨sm, rv⟩ := yl v H3 hy
          have s3 : Step H1 H3 ow := s2.same sm
          refine ⟨δ2, o2, src.xs[i], [], δ3, E2.same sm, rv, h4, fun σ3 o3 E3 c3 k3 => ?_⟩
          have c3' : ∀ a, o3.count a ≤ o2.count a := fun a => by have := c3 a; simp only [List.count_nil] at this; omega
          have hw3 : L2.wipe σ3 vs = L2.wipe σ vs := by
            rw [← wipe_wipe σ vs]
            exact wipe_same k3.2 fun j hj => k3.1 j (by simpa [kpOut] using hj)
          refine ⟨hw3, ?_⟩
          have w3 : Own H1 ow (oacc ++ o3) := w2.sub fun a => by rw [List.count_append, List.count_append]; have := c3' a; omega
          have hD3 : D ∉ oacc ++ o3 := fun hm => hDn (by
            rcases List.mem_append.mp hm with z | z
            · exact List.mem_append_left _ z
            · have h5 : 0 < o3.count D := List.count_pos_iff.mpr z
              have h6 := c3' D
              exact List.mem_append_right _ (List.count_pos_iff.mp (show 0 < o2.count D by omega)))
          have n3 : Nd (oacc ++ o3) := w3.nd nw
          have no3 : Nd o3 := fun a => by have := n3 a; rw [List.count_append] at this; omega
          cases h5 : mt δ3 with
          | none => rw [h5] at h3; simp at h3
          | some p5 =>
            obtain ⟨bt, δ4⟩ := p5
            rw [h5] at h3
            refine ⟨δ3, o3, bt, δ4, E3, no3, h5, fun H4 o4 P4 => ?_⟩
            -- what stays through a step of the block
            have stay : ∀ {H5 : Hp} {o5 ov5 : List Addr}, Step H3 H5 o3 → Own H3 o3 (ov5 ++ o5) → (∀ a ∈ ov5 ++ o5, H5 a ≠ none) → H5 D = some (.lst accV) ∧ Reps κ.K H5 accD accV oacc ∧ Step H1 H5 ow ∧ Own H1 ow (oacc ++ (ov5 ++ o5)) ∧ D ∉ oacc ++ (ov5 ++ o5) := fun {H5 o5 ov5} st wt hdom => by
              have hD5 : D ∉ o3 := fun z => hD3 (List.mem_append_right _ z)
              have hHD3 : H3 D = some (.lst accV) := sm _ _ hHD
              have ra3 : Reps κ.K H3 accD accV oacc := ra.same sm
              refine ⟨st.keep D _ hHD3 hD5 (fun _ z => nomatch z), ra3.step st E3.ok (nd_split n3), s3.trans (own_right w3) st, fun a => ?_, fun hm => ?_⟩
              · have g1 := w3 a
                have g2 := wt a
                simp only [List.count_append] at g1 g2 ⊢
                rcases g2 with g2 | ⟨z, g2⟩
                · rcases g1 with g1 | ⟨z1, g1⟩
                  · left; omega
                  · right; exact ⟨z1, by omega⟩
                · have : oacc.count a = 0 := List.count_eq_zero.mpr fun hm => by
                    obtain ⟨vs, e, how⟩ := ra3.own a hm
                    rw [z] at e; cases e
                  right; exact ⟨s3.dom a z, by omega⟩
              · rcases List.mem_append.mp hm with z | z
                · exact hD3 (List.mem_append_left _ z)
                · have g : 0 < (ov5 ++ o5).count D := List.count_pos_iff.mpr z
                  rcases wt D with y | ⟨y, _⟩
                  · exact hD5 (List.count_pos_iff.mp (show 0 < o3.count D by omega))
                  · rw [hHD3] at y; cases y
            cases bt with
            | false =>
              show if false = true then _ else _
              rw [if_neg Bool.false_ne_true]
              dsimp only at h3
              obtain ⟨g1, g2, g3, g4, g5⟩ := stay (ov5 := []) (P4.step.mono Wq_sub) P4.own (fun a ha => P4.env.dom a ha)
              obtain ⟨o6, E6, c6⟩ := P4.env.wipe vs
              rw [hw3] at E6
              refine ⟨accV, accD, oacc, wipeD δ4 vs, o6, rest, by omega, g1, g2, E6, g3, g4.sub fun a => ?_, fun hm => g5 ?_, h3, hds⟩
              · have := c6 a; simp only [List.count_append, List.nil_append]; omega
              · rcases List.mem_append.mp hm with z | z
                · exact List.mem_append_left _ z
                · have h7 : 0 < o6.count D := List.count_pos_iff.mpr z
                  have h8 := c6 D
                  exact List.mem_append_right _ (List.count_pos_iff.mp (show 0 < ([] ++ o4).count D by rw [List.nil_append]; omega))
            | true =>
              show if true = true then _ else _
              rw [if_pos rfl]
              dsimp only at h3
              cases h6 : me δ4 with
              | none => rw [h6] at h3; simp at h3
              | some p6 =>
                obtain ⟨re, δ5⟩ := p6
                rw [h6] at h3
                cases re with
                | «at» _ _ => simp at h3
                | own d =>
                  dsimp only at h3
                  cases h7 : dLcL src.gs vs b mt me (src.xs.drop (i + 1)) (wipeD δ5 vs) with
                  | none => rw [h7] at h3; simp at h3
                  | some p7 =>
                    obtain ⟨rest', δe'⟩ := p7
                    rw [h7] at h3
                    simp only [Option.some.injEq, Prod.mk.injEq] at h3
                    obtain ⟨rfl, rfl⟩ := h3
                    refine T.then_ (qb := qe) no3 P4 h6 fun y H5 o5 oy P5 => ?_
                    obtain ⟨g1, g2, g3, g4, g5⟩ := stay (P5.step.mono Wq_sub) P5.own (fun a ha => (List.mem_append.mp ha).elim (P5.held.dom a) (P5.env.dom a))
                    refine ⟨accV, g1, by omega, ?_⟩
                    obtain ⟨o6, E6, c6⟩ := P5.env.wipe vs
                    rw [hw3] at E6
                    have rep6 := g2.append (Reps.one P5.held)
                    have fr6 : ∀ (l : List Addr), D ∉ l → Fr H5 (upd H5 D (.lst (accV ++ [y]))) l := fun l hl => ⟨fun a ha => upd_ne (fun e => hl (e ▸ ha)), fun a w e hw => by
                      have : a ≠ D := fun z => by rw [z, g1] at e; cases e; exact hw
                      rw [upd_ne this]; exact e, (Step.write (W := [D]) g1 List.mem_cons_self).tab⟩
                    have hDo : D ∉ oacc ++ oy := fun hm => g5 (by
                      rcases List.mem_append.mp hm with z | z
                      · exact List.mem_append_left _ z
                      · exact List.mem_append_right _ (List.mem_append_left _ z))
                    have hD6 : D ∉ o6 := fun z => by
                      have h8 : 0 < o6.count D := List.count_pos_iff.mpr z
                      have h9 := c6 D
                      exact g5 (List.mem_append_right _ (List.mem_append_right _ (List.count_pos_iff.mp (show 0 < o5.count D by omega))))
                    refine ⟨accV ++ [y], accD ++ [d], oacc ++ oy, wipeD δ5 vs, o6, rest', by simp; omega, upd_same, rep6.fr (fr6 _ hDo), E6.fr (fr6 _ hD6), ⟨fun a u e hn hu => ?_, fun a e => ?_, fun P g => (Step.write (W := [D]) g1 List.mem_cons_self).tab P (g3.tab P g)⟩, g4.sub fun a => ?_, fun hm => ?_, h7, by rw [List.append_assoc]; exact hds⟩
                    · have : a ≠ D := fun z => by rw [z, hD] at e; cases e
                      rw [upd_ne this]; exact g3.keep a u e hn hu
                    · by_cases z : a = D
                      · rw [z, upd_same] at e; cases e
                      · rw [upd_ne z] at e; exact g3.dom a e
                    · have := c6 a; simp only [List.count_append]; omega
                    · rcases List.mem_append.mp hm with z | z
                      · exact hDo z
                      · exact hD6 z
      · have hd : src.xs.drop i = [] := List.drop_eq_nil_of_le (by omega)
        rw [hd] at h3
        simp only [dLcL] at h3
        by_cases hg : gOk src.gs δ2 = true
        case neg => rw [if_neg hg] at h3; cases h3
        rw [if_pos hg] at h3
        simp only [Option.some.injEq, Prod.mk.injEq] at h3
        obtain ⟨rfl, rfl⟩ := h3
        rw [List.append_nil] at hds
        subst hds
        obtain ⟨o3, E3, c3⟩ := kr s2 E2
        have sH : Step H H' o := (s1.mono Wq_sub).trans (own_right w1) (s2.mono fun a ha => by
          have h5 : 0 < ow.count a := List.count_pos_iff.mpr ha
          have h6 := cw a
          exact List.count_pos_iff.mp (show 0 < o1.count a by omega))
        refine .inl ⟨(S i H' pin shr (gk hg)).2 (by omega), k _ H' o3 (D :: oacc) ⟨sH, E3, ⟨D, accV, oacc, rfl, hHD, ra, rfl⟩, fun a => ?_⟩⟩
        have g1 := w2 a
        have g2 := c3 a
        have g3 := cw a
        have g4 := w1 a
        simp only [List.count_append] at g1 g4 ⊢
        have g5 : od.count a = 0 ∨ H1 a ≠ none := by
          by_cases z : a ∈ od
          · exact .inr (hod a z)
          · exact .inl (List.count_eq_zero.mpr z)
        by_cases ha : a = D
        · subst ha
          have z1 : oacc.count a = 0 := List.count_eq_zero.mpr fun z => hDn (List.mem_append_left _ z)
          have z2 : o2.count a = 0 := List.count_eq_zero.mpr fun z => hDn (List.mem_append_right _ z)
          have z3 : od.count a = 0 := g5.resolve_right (fun z => z hD)
          rw [List.count_cons_self]
          exact .inr ⟨s1.dom a hD, by omega⟩
        · rw [List.count_cons_of_ne (Ne.symm ha)]
          rcases g1 with g1 | ⟨z, g1⟩
          · rcases g4 with g4 | ⟨z4, g4⟩
            · left; omega
            · right; exact ⟨z4, by omega⟩
          · have z3 : od.count a = 0 := g5.resolve_right (fun y => y z)
            exact .inr ⟨s1.dom a z, by omega⟩
theorem z_lc {scope : Scope} {own : List (Str × Nat)} {pos : Pos} (hc : X.calm = true) (hN : X.N.Nodup) (hi : PI X tg iter (TIm (kx X) q ms)) (ok : BlkOk X.N X.env.scope scope own)
    (hg : ∀ (s : Shared) (H : Hp) (C : Addr) (cl : List (Str × Addr)) (fp : List Addr), PG (X.blk s H scope (compEnvC scope cl C X.env) fp) tg (TGm (kx X) (kpOut (own.map (·.2))) b)) (ht : ∀ (s : Shared) (H : Hp) (C : Addr) (cl : List (Str × Addr)) (fp : List Addr), PTs (X.blk s H scope (compEnvC scope cl C X.env) fp) ifs (TT (kx X) qt mt))
    (he : ∀ (s : Shared) (H : Hp) (C : Addr) (cl : List (Str × Addr)) (fp : List Addr), PE (X.blk s H scope (compEnvC scope cl C X.env) fp) elt (T (kx X) qe me)) (hs : ∀ x, foldedSetIterable iter X.env x = pure x := by intro _; rfl) :
    PE X (.ListComp elt [⟨tg, iter, ifs, 0⟩] scope pos) (T (kx X) false (dLc (own.map (·.2)) ms b mt me)) :=
  PE.imp (pe_lc hc hN hi ok hg ht he hs) fun σ H Q h => t_lc h
end
end Z


set_option Elab.async false
set_option linter.all false
set_option maxRecDepth 100000
/-! generator expressions: the code object, the frame -/
namespace Z
open PySem PySem.Spec PyProof.Rows L2

/-- the module of built-ins, as a new frame asks it -/
def BMod (base : Heap) (mg : Str → Option Value) : Prop := ∃ (bm : Addr) (ob : Obj), mg "__builtins__" = some (.ref bm) ∧ bm ≠ builtinsNs ∧ base.get? bm = some ob ∧ ob.cls = .type "module" ∧ ob.dict = some builtinsNs ∧ ob.data = .plain
theorem among_snoc {pos q : Pos} {c : Value} (l : List Value) (h : TriplesOk l) : codeAmong q (l ++ [rawInt pos.line, rawInt pos.col, c]) =
    match codeAmong q l with
    | some v => some v
    | none => codeAmong q [rawInt pos.line, rawInt pos.col, c] := by
  fun_induction TriplesOk l with
  | case1 => simp [codeAmong]
  | case2 a t b u x rest ih =>
    simp only [List.cons_append, codeAmong]
    split
    · rfl
    · exact ih h
  | case3 l h1 h2 => exact h.elim
theorem among_one {pos q : Pos} {c v : Value} (h : codeAmong q [rawInt pos.line, rawInt pos.col, c] = some v) : v = c := by
  simp only [codeAmong, rawInt] at h
  split at h
  · exact (Option.some.inj h).symm
  · cases h
/-- a table has a new code: all that was good is good -/
theorem GoodT.grow {H H' : Hp} {P c1 P1 : Addr} {ps : Array Value} {pos : Pos} (hP : H P = some (.tbl ps)) (hP' : H' P = some (.tbl (ps ++ #[rawInt pos.line, rawInt pos.col, .ref c1])))
    (hc : H' c1 = some (.ext fun h => PySem.W.CodeHd h c1 P1)) (h1 : H' P1 = some (.tbl #[])) (keep : ∀ a u, H a = some u → a ≠ P → H' a = some u) {Q : Addr} (g : GoodT H Q) : GoodT H' Q := by
  have new : GoodT H' P1 := .mk P1 #[] (fun _ => 0) (fun _ => 0) h1 trivial (fun pos cv h => by simp [codeAmong] at h) (fun pos cv h => by simp [codeAmong] at h)
  induction g with
  | mk Q qs cf pf e t kk _ ih =>
    have hcf : ∀ q cv, codeAmong q qs.toList = some cv → cv = .ref (cf q) ∧ H' (cf q) = some (.ext fun h => PySem.W.CodeHd h (cf q) (pf q)) := fun q cv h => by
      obtain ⟨h2, h3⟩ := kk q cv h
      refine ⟨h2, keep _ _ h3 fun z => ?_⟩
      rw [z, hP] at h3; cases h3
    by_cases hQ : Q = P
    · subst hQ
      rw [hP] at e; cases e
      have hl : (ps ++ #[rawInt pos.line, rawInt pos.col, Value.ref c1]).toList = ps.toList ++ [rawInt pos.line, rawInt pos.col, .ref c1] := by simp
      refine .mk Q _ (fun q => if (codeAmong q ps.toList).isSome then cf q else c1) (fun q => if (codeAmong q ps.toList).isSome then pf q else P1) hP' (by rw [hl]; exact TriplesOk_snoc _ _ _ _ t) (fun q cv h => ?_) fun q cv h => ?_
      · rw [hl, among_snoc _ t] at h
        cases ha : codeAmong q ps.toList with
        | some v =>
          rw [ha] at h
          dsimp only at h
          cases h
          simp only [Option.isSome_some, if_true]
          exact hcf q _ ha
        | none =>
          rw [ha] at h
          dsimp only at h
          have := among_one h
          subst this
          simp only [Option.isSome_none, Bool.false_eq_true, if_false]
          exact ⟨trivial, hc⟩
      · rw [hl, among_snoc _ t] at h
        cases ha : codeAmong q ps.toList with
        | some v =>
          simp only [Option.isSome_some, if_true]
          exact ih q v ha
        | none =>
          simp only [Option.isSome_none, Bool.false_eq_true, if_false]
          exact new
    · exact .mk Q qs cf pf (keep _ _ e hQ) t hcf ih
section
variable {X : Cx} {pins : List (Addr × Obj)} {σ : L2.St} {H : Hp} {s : Shared}
theorem hd_stable {c P : Addr} : ∀ h1 h2 : Heap, PySem.W.CodeHd h1 c P → (∀ o, h1.get? c = some o → h2.get? c = some o) → PySem.W.CodeHd h2 c P := fun h1 h2 ⟨o, vs, file, tf, flags, tg, inF, text, tt, e, r⟩ k => ⟨o, vs, file, tf, flags, tg, inF, text, tt, k _ e, r⟩
/-- the code object of a generator expression: found, or made -/
theorem gen_code {cc : Addr} {δ : DE} {o : List Addr} {gpos : Pos} {qn : Str} {scope : Scope} {E : Value → Shared → Prop} {Q : Value → Shared → Prop} (hcode : X.env.code = .ref cc) (I : Inv X pins σ H s) (En : Envs (kx X) H σ δ o)
    (hQ : ∀ c' P' H' s', Inv X pins σ H' s' → Step H H' [] → Fr H H' o → (∀ b, H b = none → b < s.heap.objs.size → H' b = none) → H' c' = some (.ext fun h => PySem.W.CodeHd h c' P') → GoodT H' P' → s.heap.objs.size ≤ s'.heap.objs.size → (∀ b o, H b = none → s.heap.get? b = some o → s'.heap.get? b = some o) → Q (.ref c') s') :
    wpAny (model X.prog X.w) X.A (genexprCode X.env gpos qn scope) Q E s := by
  obtain ⟨P, hhd, gP⟩ := En.tabs.2 cc hcode
  have hd : PySem.W.CodeHd s.heap cc P := by
    rcases hhd with z | z
    · exact PySem.W.codeHd_of_K I.kIn z
    · exact (I.hok cc _ z).1
  cases gP with
  | mk _ ps cf pf e t kk gg =>
  have hPs : s.heap.get? P = some { cls := .none, data := .fields ps } := I.hok P _ e
  cases hf : codeAmong gpos ps.toList with
  | some cv =>
    obtain ⟨rfl, hc⟩ := kk _ _ hf
    exact wpAny_genexprCode_hit hcode (hd.code hPs t) hf (hQ _ _ H s I (.refl _ _) .rfl (fun b hb _ => hb) hc (gg _ _ hf) (Nat.le_refl _) fun _ _ _ e => e)
  | none =>
    refine wpAny_genexprCodeX hcode (hd.code hPs t) (hd.tab hPs) hf fun c1 h' tk hx hge hlt hco' _ htab' ⟨P1, hP1, hco1, htab1⟩ => ?_
    have hP1' : h'.get? P1 = some { cls := .none, data := .fields #[] } := htab1.2
    have hcd1 : PySem.W.CodeHd h' c1 P1 := .of hco1 htab1
    have ne1 : c1 ≠ P1 := by
      obtain ⟨_, _, _, _, _, _, _, _, _, _, _, _, _, _, _, _, _, _, z⟩ := hcd1
      exact z
    have nf1 : H c1 = none := I.hok.fresh hge
    have nf2 : H P1 = none := I.hok.fresh hP1
    have nP1 : P ≠ c1 := ne_of_none e nf1
    have nP2 : P ≠ P1 := ne_of_none e nf2
    let H' : Hp := upd (upd (upd H P (.tbl (ps ++ #[rawInt gpos.line, rawInt gpos.col, .ref c1]))) c1 (.ext fun h => PySem.W.CodeHd h c1 P1)) P1 (.tbl #[])
    have eP : H' P = some (.tbl (ps ++ #[rawInt gpos.line, rawInt gpos.col, .ref c1])) := by
      show upd _ _ _ _ = _
      rw [upd_ne nP2, upd_ne nP1, upd_same]
    have ec : H' c1 = some (.ext fun h => PySem.W.CodeHd h c1 P1) := by
      show upd _ _ _ _ = _
      rw [upd_ne ne1, upd_same]
    have e1 : H' P1 = some (.tbl #[]) := upd_same
    have eo : ∀ b, b ≠ P → b ≠ c1 → b ≠ P1 → H' b = H b := fun b n1 n2 n3 => by
      show upd _ _ _ _ = _
      rw [upd_ne n3, upd_ne n2, upd_ne n1]
    have keep : ∀ a u, H a = some u → a ≠ P → H' a = some u := fun a u ea n => by
      rw [eo a n (ne_of_none ea nf1) (ne_of_none ea nf2)]; exact ea
    have old : ∀ b o, s.heap.get? b = some o → b ≠ c1 ∧ b ≠ P1 := fun b o eb => by
      have := Heap.lt_size eb
      exact ⟨fun z => by subst z; exact absurd (Nat.lt_of_lt_of_le this hge) (Nat.lt_irrefl _), fun z => by subst z; exact absurd (Nat.lt_of_lt_of_le this hP1) (Nat.lt_irrefl _)⟩
    have nP : ∀ b u, H b = some u → (∀ qs, u ≠ .tbl qs) → b ≠ P := fun b u eb hn z => by
      rw [z, e] at eb; cases eb; exact hn _ rfl
    have nN : ∀ b, H b = none → b ≠ P := fun b eb z => by rw [z, e] at eb; cases eb
    have un : Un X.fs [] H H' s.heap h' := by
      refine ⟨fun b o eb hb _ _ => hx b o (nN b hb) eb, fun b o eb hb _ _ => ⟨o.slots, hx b o (nN b hb) eb⟩, fun b o eb hb _ => ?_, fun b o eb _ => ?_, fun b xs eb => keep b _ eb (nP b _ eb fun _ z => nomatch z), fun b o u eb => keep b _ eb (nP b _ eb fun _ z => nomatch z), fun b qs eb => ?_⟩
      · rw [eo b (nN b hb) (old b o eb).1 (old b o eb).2]; exact hb
      · by_cases hb : b = P
        · rw [hb]; exact ⟨_, htab'.2⟩
        · exact ⟨o, hx b o hb eb⟩
      · by_cases hb : b = P
        · rw [hb, e] at eb; cases eb
          exact ⟨_, by rw [hb]; exact eP⟩
        · exact ⟨#[], by rw [keep b _ eb hb]; simp⟩
    have hok : HOk X.prog X.w H' h' := fun a u ea => by
      by_cases ha : a = P
      · rw [ha, eP] at ea; cases ea; rw [ha]; exact htab'.2
      · by_cases ha1 : a = c1
        · rw [ha1, ec] at ea; cases ea
          rw [ha1]
          obtain ⟨ob, vs, file, tf, flags, tg, inF, text, tt, eo1, r⟩ := id hcd1
          exact ⟨hcd1, ⟨ob, eo1⟩, hd_stable⟩
        · by_cases ha2 : a = P1
          · rw [ha2, e1] at ea; cases ea; rw [ha2]; exact hP1'
          · rw [eo a ha ha1 ha2] at ea
            refine (I.hok a u ea).stay (fun b v hb eb => hx b v ?_ eb) (fun b eb => keep b _ eb (nP b _ eb fun _ z => nomatch z)) fun b xs eb => keep b _ eb (nP b _ eb fun _ z => nomatch z)
            rcases hb with rfl | hb
            · exact ha
            · exact nP b _ hb fun _ z => nomatch z
    have gr : ∀ Q, GoodT H Q → GoodT H' Q := fun Q g => g.grow e eP ec e1 keep
    refine hQ c1 P1 H' _ (I.un (t' := tk) un hok) ⟨fun a u ea _ hn => keep a u ea (nP a u ea hn), fun a ea => ?_, gr⟩ ⟨fun a ha => ?_, fun a u ea hs => keep a u ea (nP a u ea hs.nt), gr⟩ (fun b hb hl => ?_) ec (.mk P1 #[] (fun _ => 0) (fun _ => 0) e1 trivial (fun _ _ h => by simp [codeAmong] at h) (fun _ _ h => by simp [codeAmong] at h)) (Nat.le_trans hge (Nat.le_of_lt hlt)) fun b o hb eb => hx b o (nN b hb) eb
    · cases q : H a with
      | none => rfl
      | some u =>
        by_cases ha : a = P
        · rw [ha, eP] at ea; cases ea
        · rw [keep a u q ha] at ea; cases ea
    · obtain ⟨vs, ea, how⟩ := En.own a ha
      rw [ea]; exact keep a _ ea (nP a _ ea how.2)
    · rw [eo b (nN b hb) (fun z => by subst z; exact absurd (Nat.lt_of_lt_of_le hl hge) (Nat.lt_irrefl _)) (fun z => by subst z; exact absurd (Nat.lt_of_lt_of_le hl hP1) (Nat.lt_irrefl _))]; exact hb
end
end Z


set_option Elab.async false
set_option linter.all false
set_option maxRecDepth 100000
/-! generator expressions: the generator's own frame -/
namespace Z
open PySem PySem.Spec PyProof.Rows L2

/-- the context of a generator's frame that was made at s -/
abbrev _root_.L2.Cx.gen (X : Cx) (A : Around) (s : Shared) (H : Hp) (scope : Scope) (cenv : Env) (fp : List Addr) : Cx :=
  { X with A := A, s_0 := s, H_0 := H, env := cenv, outer := X.stack, stack := cenv :: X.stack, ex := fp, fn := fun x => scope.names.lookup x == some .cell, pn := [], xe := fun _ _ => False }
theorem newEnv_gen {M : Model} {A : Around} {E : Value → Shared → Prop} {s : Shared} {scope : Scope} {cl : List (Str × Addr)} {env : Env} {it code : Value} {bi : Addr} {Q : Env → Shared → Prop} (hk : scope.kind = .function) (h0 : scope.names.lookup (".0" : Str) = some NameKind.local)
    (hQ : ∀ h' tk, h'.Ns s.heap.objs.size (fun y => if y = ".0" then some it else none) → Heap.SameBut s.heap.objs.size (pushCells (s.heap.push { cls := .type "frame", data := .dict #[] }) scope.names) h' →
      Q (genEnv scope (cellsFrom (s.heap.objs.size + 1) scope.names cl) s.heap.objs.size code bi env) { s with heap := h', toks := tk }) :
    wpAny M A (newFunctionEnv scope env.globals cl [((".0" : Str), it)] (env.qual ++ "<genexpr>.") none code none bi) Q E s := by
  simp only [newFunctionEnv, Option.isSome_none, Bool.false_eq_true, if_false]
  refine wpAny_bind (wpAny_alloc ?_)
  refine wpAny_bind (wpAny_layCells _ (fun name kind cells => by cases hkc : kind == NameKind.cell <;> simp [hkc]) _ _ _ _ ?_)
  rw [show ({ s with heap := s.heap.push { cls := .type "frame", data := .dict #[] } } : Shared).heap.objs.size = s.heap.objs.size + 1 from Heap.size_push ..]
  simp only [List.forIn_cons, List.forIn_nil]
  refine wpAny_bind (wpAny_bind (wpAny_bind (wpAny_storeName_local (m := fun _ => none) h0 ((Heap.Ns.new s.heap (.type "frame")).keeps (pushCells_keeps _ _)) (fun h' hn hs => ?_) (by simp [hk]))))
  exact wpAny_pure (wpAny_pure (wpAny_pure (hQ h' _ hn hs)))
section
variable {X : Cx} {pins : List (Addr × Obj)} {σ : L2.St} {H : Hp} {s : Shared}
theorem gen_start {A : Around} {scope : Scope} {own : List (Str × Nat)} {fp : List Addr} {code : Value} {it : Value} {h' h5 : Heap} {g5 : Array GenState} {t5 : Nat} (I : Inv X pins σ H s) (ok : BlkOk X.N X.env.scope scope own) (hN : X.N.Nodup) (hfp : ∀ b ∈ fp, FpOk X pins H b ∧ b < s.heap.objs.size)
    (hA : A.frames = some (genEnv scope (cellsFrom (s.heap.objs.size + 1) scope.names (cloFrom X.env.cells scope.names [])) s.heap.objs.size code builtinsNs X.env :: X.stack)) (hh : A.handled = none)
    (hn : h'.Ns s.heap.objs.size (fun y => if y = ".0" then some it else none)) (hs : Heap.SameBut s.heap.objs.size (pushCells (s.heap.push { cls := .type "frame", data := .dict #[] }) scope.names) h') (h5k : ∀ b o, h'.get? b = some o → h5.get? b = some o) (hg : AllBare g5) :
    Inv (X.gen A s H scope (genEnv scope (cellsFrom (s.heap.objs.size + 1) scope.names (cloFrom X.env.cells scope.names [])) s.heap.objs.size code builtinsNs X.env) fp) [] (wipe σ (own.map (·.2))) H { s with heap := h5, gens := g5, toks := t5 } := by
  have hfree : ∀ y ∈ scope.names, y.2 = .free → ∃ c, X.env.cells.lookup y.1 = some c := fun y hy e => by
    rcases ok.free y hy e with k | k
    · exact I.ok.has _ (.inl k)
    · exact I.ok.has _ (.inr k)
  generalize hcenv : genEnv scope (cellsFrom (s.heap.objs.size + 1) scope.names (cloFrom X.env.cells scope.names [])) s.heap.objs.size code builtinsNs X.env = cenv at *
  have hlc : ∀ b o, b ≠ s.heap.objs.size → (pushCells (s.heap.push { cls := .type "frame", data := .dict #[] }) scope.names).get? b = some o → h5.get? b = some o := fun b o hb e => h5k b o (hs.extBut b o hb e)
  have kp : ∀ b o, s.heap.get? b = some o → h5.get? b = some o := fun b o e => hlc b o (Nat.ne_of_lt (Heap.lt_size e)) (pushCells_keeps _ _ _ _ (Heap.get?_push_of_some _ e))
  have hL : cenv.locals = s.heap.objs.size := by rw [← hcenv]; rfl
  have hcl : cenv.cells = cellsFrom (s.heap.objs.size + 1) scope.names (cloFrom X.env.cells scope.names []) := by rw [← hcenv]; rfl
  have hsc : cenv.scope = scope := by rw [← hcenv]; rfl
  rw [← Heap.size_push s.heap { cls := .type "frame", data := .dict #[] }] at hcl
  have cm : ∀ {y c}, (y, c) ∈ cloFrom X.env.cells scope.names [] → X.env.cells.lookup y = some c ∧ c < s.heap.objs.size := fun {y c} hm => by
    rcases cloFrom_mem hm with hm | ⟨h1, rfl⟩
    · cases hm
    · obtain ⟨c, hc⟩ := hfree _ h1 rfl
      rw [hc]
      obtain ⟨w, z⟩ := I.cell _ _ hc
      exact ⟨rfl, z.lt⟩
  have mem : ∀ {y c}, cenv.cells.lookup y = some c → (X.env.cells.lookup y = some c ∧ c < s.heap.objs.size) ∨ (s.heap.objs.size + 1 ≤ c ∧ CellAt h5 c none) := fun {y c} e => by
    rw [hcl] at e
    rcases cells_mem (PySem.mem_of_lookup e) with hm | ⟨_, h2, o, h3, h4⟩
    · exact .inl (cm hm)
    · rw [Heap.size_push] at h2
      exact .inr ⟨h2, o, hlc c o (Nat.ne_of_gt h2) h3, h4⟩
  have look : ∀ {y}, scope.names.lookup y = some .free → ∃ c, cenv.cells.lookup y = some c ∧ X.env.cells.lookup y = some c := fun {y} hl => by
    have hy : (y, NameKind.free) ∈ scope.names := PySem.mem_of_lookup hl
    obtain ⟨c', e'⟩ := mem_lookup (cells_acc (names := scope.names) (n := (s.heap.push { cls := .type "frame", data := .dict #[] }).objs.size) (cloFrom_has (cells := X.env.cells) (acc := []) hy))
    rw [← hcl] at e'
    refine ⟨c', e', ?_⟩
    rw [hcl] at e'
    rcases cells_mem (PySem.mem_of_lookup e') with hm | ⟨h1, _, _⟩
    · exact (cm hm).1
    · have := ok.uniq _ h1
      rw [hl] at this; cases this
  have okB : (X.gen A s H scope cenv fp).Ok := by
    refine ⟨I.ok.mod, by show cenv.scope.kind = _; rw [hsc]; exact ok.kind, by show cenv.globals = _; rw [← hcenv]; exact I.ok.glob, by show cenv.builtins = _; rw [← hcenv]; rfl, by show s.heap.objs.size ≤ cenv.locals; rw [hL]; exact Nat.le_refl _,
      fun y z c e1 e2 => ?_, fun y hy => ?_, fun y c z e => ?_, fun _ => hh, hA, .inr ⟨rfl, by show cenv.frame = some cenv.locals; rw [← hcenv]; rfl⟩, fun b hb => ⟨?_, fun y c e z => ?_⟩, I.bs, Nat.le_trans I.ok.bsz I.sz, fun b o e hb => ?_, fun b hb z => ?_, I.stack, I.stkFree⟩
    · have e1 : cenv.cells.lookup y = some c := e1
      have e2 : cenv.cells.lookup z = some c := e2
      rw [hcl] at e1 e2
      refine cells_inj (fun p hp => ?_) (fun y z c a b => I.ok.inj y z c (cm a).1 (cm b).1) (PySem.mem_of_lookup e1) (PySem.mem_of_lookup e2)
      rw [Heap.size_push]
      exact Nat.lt_succ_of_lt (cm (y := p.1) (c := p.2) hp).2
    · show ∃ c, cenv.cells.lookup y = some c
      have hy : cenv.scope.names.lookup y = some .cell ∨ cenv.scope.names.lookup y = some .free := hy
      rw [hsc] at hy
      rcases hy with e | e
      · obtain ⟨c, hm⟩ := cells_has (n := (s.heap.push { cls := .type "frame", data := .dict #[] }).objs.size) (acc := cloFrom X.env.cells scope.names []) (PySem.mem_of_lookup e)
        obtain ⟨c', e'⟩ := mem_lookup hm
        exact ⟨c', by rw [hcl]; exact e'⟩
      · obtain ⟨c, h1, _⟩ := look e
        exact ⟨c, h1⟩
    · have z : (scope.names.lookup y == some NameKind.cell) = true := z
      have z : scope.names.lookup y = some .cell := by simpa using z
      have e : cenv.cells.lookup y = some c := e
      rw [hcl] at e
      rcases cells_mem (PySem.mem_of_lookup e) with hm | ⟨_, h2, _⟩
      · rcases cloFrom_mem hm with hm | ⟨h1, _⟩
        · cases hm
        · have q := ok.uniq _ h1
          rw [z] at q; cases q
      · rw [Heap.size_push] at h2
        exact Nat.le_of_succ_le h2
    · show b ≠ cenv.locals
      rw [hL]; exact Nat.ne_of_lt (hfp b hb).2
    · have e : cenv.cells.lookup y = some c := e
      rcases mem e with ⟨h1, _⟩ | ⟨h1, _⟩
      · exact (hfp b hb).1.2.2.2.2.1 y c h1 z
      · have h2 : s.heap.objs.size + 1 ≤ b := by rw [← z]; exact h1
        exact absurd (Nat.lt_of_lt_of_le (hfp b hb).2 (Nat.le_of_succ_le h2)) (Nat.lt_irrefl _)
    · rcases (hfp b hb).1.2.2.2.1 with z | z
      · exact I.ok.noex b o e z
      · exact absurd (Nat.lt_of_lt_of_le (Heap.lt_size e) (Nat.le_trans I.ok.bsz z)) (Nat.lt_irrefl _)
    · rcases List.mem_cons.mp (I.stkSub b z) with z | z
      · exact (hfp b hb).1.2.1 z
      · exact (hfp b hb).1.2.2.1 z
  refine ⟨okB, rfl, hg, Un.kept kp, ⟨(fun y => if y = ".0" then some it else none), ?_, fun i y av e1 e2 e3 => ?_⟩, fun y c e => ?_, ?_, fun y c e => ?_, fun p hp => ?_, I.hok.kept kp, by rw [wipe_length]; exact I.len⟩
  · show Heap.Ns _ cenv.locals _
    rw [hL]
    exact hn.keeps h5k
  · obtain ⟨e2, hne⟩ := wipe_some e2
    have e3 : Vis cenv.scope y := e3
    rw [hsc] at e3
    have hfr : scope.names.lookup y = some .free := by
      have no : ∀ k, scope.names.lookup y = some k → ¬ (k = .local ∨ k = .cell) := fun k e hh => by
        rcases ok.own _ (PySem.mem_of_lookup e) hh with e' | e'
        · obtain ⟨p, hp, hpy⟩ := List.mem_map.mp e'
          have e3 := ok.ix p hp
          have : p.1 = y := hpy
          rw [this] at e3
          exact hne (List.mem_map.mpr ⟨p, hp, nodup_ix hN e3 e1⟩)
        · exact e' (List.mem_of_getElem? e1)
      rcases e3 with e3 | e3 | e3
      · exact absurd (.inl rfl) (no _ e3)
      · exact absurd (.inr rfl) (no _ e3)
      · exact e3
    obtain ⟨m, hnm, hl⟩ := I.loc
    have hvis : Vis X.env.scope y := (ok.free _ (PySem.mem_of_lookup hfr) rfl).elim (fun k => .inr (.inl k)) (fun k => .inr (.inr k))
    obtain ⟨w, r, q⟩ := hl i y av e1 e2 hvis
    refine ⟨w, r, .inr ⟨.inr (by show cenv.scope.names.lookup y = _; rw [hsc]; exact hfr), ?_⟩⟩
    obtain ⟨c, h1, h2⟩ := look hfr
    rcases q with ⟨k, _⟩ | ⟨_, c', e', z⟩
    · have k : X.env.scope.names.lookup y = some .local := k
      rcases ok.free _ (PySem.mem_of_lookup hfr) rfl with k' | k' <;> rw [show X.env.scope.names.lookup y = _ from k'] at k <;> cases k
    · rw [h2] at e'; cases e'
      exact ⟨c, h1, z.keeps kp⟩
  · have e : cenv.cells.lookup y = some c := e
    rcases mem e with ⟨h1, _⟩ | ⟨_, z⟩
    · obtain ⟨w, z⟩ := I.cell y c h1
      exact ⟨w, z.keeps kp⟩
    · exact ⟨_, z⟩
  · show H cenv.locals = none
    rw [hL]; exact I.hok.fresh (Nat.le_refl _)
  · have e : cenv.cells.lookup y = some c := e
    rcases mem e with ⟨h1, _⟩ | ⟨h1, _⟩
    · exact I.freeC y c h1
    · exact I.hok.fresh (Nat.le_of_succ_le h1)
  · exact absurd (show p ∈ ([] : List (Addr × Obj)) ++ [] from hp) (by simp)
theorem over_gen {A : Around} {elt : Expr} {gs : List Comprehension} {scope : Scope} {pos : Pos} {it acc : Value} {cenv : Env} : A.over (.compLoop (.GeneratorExp elt gs scope pos) 0 it acc cenv) [] = A.deeper cenv := by rfl
end
end Z


set_option Elab.async false
set_option linter.all false
set_option maxRecDepth 100000
/-! generator expressions: the turns -/
namespace Z
open PySem PySem.Spec PyProof.Rows L2

/-- what one item of the walked thing gives: nothing told, nothing handed out, or a datum -/
def gx (vs : List Nat) (b : Bnd) (mt : DenT) (me : Den) (δw : DE) (x : D) : Option (Option D) := match b x δw with
  | some δ3 => match mt δ3 with
    | some (false, δ4) => if wipeD δ4 vs = δw then some none else none
    | some (true, δ4) => match me δ4 with
      | some (.own d, δ5) => if wipeD δ5 vs = δw ∧ d.imm = true then some (some d) else none
      | _ => none
    | none => none
  | none => none
/-- what is handed out, up to the first that ends the walk -/
def dG (stop : D → Bool) (f : D → Option (Option D)) : List D → Option (List D)
  | [] => some []
  | x :: xs => match f x with
    | none => none
    | some none => dG stop f xs
    | some (some d) => if stop d then some [d] else match dG stop f xs with
      | some r => some (d :: r)
      | none => none
theorem Envs.cv {κ : Kx} {cv : Value} {H : Hp} : ∀ {σ : List (Option V)} {δ : DE} {o : List Addr}, Envs κ H σ δ o → CodeNow κ.K cv H → Envs ⟨κ.K, cv⟩ H σ δ o
  | [], [], _, h, c => ⟨h.1, h.2.1, c⟩
  | none :: σ, none :: δ, _, h, c => Envs.cv (σ := σ) (δ := δ) h c
  | some _ :: σ, none :: δ, _, h, c => Envs.cv (σ := σ) (δ := δ) h c
  | some v :: σ, some d :: δ, _, h, c => by
    obtain ⟨o1, o2, h1, h2, e⟩ := h
    exact ⟨o1, o2, h1, Envs.cv h2 c, e⟩
  | none :: σ, some d :: δ, _, h, _ => h.elim
  | [], _ :: _, _, h, _ => by simp [Envs] at h
  | _ :: _, [], _, h, _ => by simp [Envs] at h
theorem rest_wipe (δ : DE) : ∀ vs : List Nat, restD δ (wipeD δ vs) vs = δ
  | [] => rfl
  | v :: vs => by
    show restD δ (((wipeD δ vs).set v none).set v (match (wipeD δ vs)[v]? with | some x => x | none => none)) vs = δ
    rw [List.set_set]
    have : (wipeD δ vs).set v (match (wipeD δ vs)[v]? with | some x => x | none => none) = wipeD δ vs := by
      by_cases hl : v < (wipeD δ vs).length
      · rw [List.getElem?_eq_getElem hl]; exact List.set_getElem_self hl
      · exact List.set_eq_of_length_le (by omega)
    rw [this]
    exact rest_wipe δ vs
theorem pinsAt_eq {L : List Addr} {h h' : Heap} (k : ∀ b ∈ L, ∃ o, h.get? b = some o ∧ h'.get? b = some o) : pinsAt L h' = pinsAt L h := by
  unfold pinsAt
  induction L with
  | nil => rfl
  | cons b L ih =>
    obtain ⟨o, e1, e2⟩ := k b List.mem_cons_self
    rw [List.filterMap_cons, List.filterMap_cons, e1, e2, ih fun b hb => k b (List.mem_cons_of_mem _ hb)]
theorem _root_.L2.Inv.gens {X : Cx} {pins : List (Addr × Obj)} {σ : L2.St} {H : Hp} {s : Shared} (I : Inv X pins σ H s) {g : Array GenState} (h : AllBare g) : Inv X pins σ H { s with gens := g } :=
  ⟨I.ok, I.os, h, I.base, I.loc, I.cell, I.free, I.freeC, I.pin, I.hok, I.len⟩

/-- the consumer's lists hold these data -/
def Keeps (K : Fw) (S : List Addr) (gd : List D) (H : Hp) (s : Shared) : Prop := ∀ b ∈ S, ∃ acc c gv, s.heap.get? b = some (lstObj acc c) ∧ Vals gv acc.toList ∧ Reps K H gd gv [] ∧ H b = none
/-- a generator's turn i is due: its frame's context, the names and data that it has, what is pinned -/
structure GInv (Xg : Cx) (σw : L2.St) (δw : DE) (fp : List Addr) (tn : Nat → Heap → Prop) (H1 : Hp) (ow : List Addr) (L : List Addr) (S : List Addr) (gd : List D) (pins : List (Addr × Obj)) (i : Nat) (H : Hp) (s : Shared) : Prop where
  inv : Inv Xg pins σw H s
  trn : tn i s.heap
  nof : ∀ b ∈ fp, H b = none
  env : ∃ o', Envs (kx Xg) H σw δw o' ∧ Own H1 ow o'
  step : Step H1 H ow
  live : ∀ b ∈ L, ∃ o, s.heap.get? b = some o
  apart : ∀ p ∈ pins, p.1 ∉ fp
  held : Keeps Xg.F S gd H s
/-- at the end -/
structure GEnd (Xg : Cx) (σw : L2.St) (δw : DE) (H1 : Hp) (ow : List Addr) (S : List Addr) (gd : List D) (pins : List (Addr × Obj)) (H : Hp) (s : Shared) : Prop where
  inv : Inv Xg pins σw H s
  env : ∃ o', Envs (kx Xg) H σw δw o' ∧ Own H1 ow o'
  step : Step H1 H ow
  held : Keeps Xg.F S gd H s
theorem GInv.fin {Xg : Cx} {σw : L2.St} {δw : DE} {fp : List Addr} {tn : Nat → Heap → Prop} {H1 : Hp} {ow L S : List Addr} {gd : List D} {pins : List (Addr × Obj)} {i : Nat} {H : Hp} {s : Shared} (G : GInv Xg σw δw fp tn H1 ow L S gd pins i H s) : GEnd Xg σw δw H1 ow S gd pins H s := ⟨G.inv, G.env, G.step, G.held⟩
def GPr (Xg : Cx) (σw : L2.St) (δw : DE) (H1 : Hp) (ow : List Addr) (L S : List Addr) (cd : Nat → List D) (R0 : List D) : Nat → Shared → Shared → Prop := fun n s₀ s => n = 1 ∧ ∃ H, GEnd Xg σw δw H1 ow S (cd R0.length) (pinsAt L s₀.heap) H s
def GYd (Xg : Cx) (σw : L2.St) (δw : DE) (fp : List Addr) (tn : Nat → Heap → Prop) (H1 : Hp) (ow : List Addr) (L S : List Addr) (cd : Nat → List D) (stop : D → Bool) (R0 : List D) : Protocol := fun m s₀ v s kap =>
  1 ≤ m ∧ ∃ i d x H, R0[R0.length - m]? = some d ∧ GInv Xg σw δw fp tn H1 ow L S (cd (R0.length - m)) (pinsAt L s₀.heap) i H s ∧ RelV x v ∧ Rep Xg.F H d x [] ∧
    (stop d = false → ∀ s'' H'', GInv Xg σw δw fp tn H1 ow L S (cd (R0.length - m + 1)) (pinsAt L s''.heap) i H'' s'' → kap (.send .none) s'')
section
variable {Xg : Cx} {σ : L2.St} {δw : DE} {fp : List Addr} {tn : Nat → Heap → Prop} {H1 : Hp} {ow L Sc vs : List Addr} {cd : Nat → List D} {stop : D → Bool} {R0 : List D} {Ac : Around} {cenv : Env} {elt tg iter : Expr} {ifs : List Expr} {scope : Scope} {pos : Pos} {it : Addr} {J : It} {xs : List D} {b : Bnd} {mt : DenT} {me : Den} {qt qe : Bool}
theorem seg_gen (hA : Xg.A = Ac.deeper cenv) (hE : Xg.env = cenv) (hxe : Xg.xe = fun _ _ => False) (hx : Xg.ex = fp) (hpn : Xg.pn = []) (hcm : Xg.calm = true) (hco : cenv.scope.isCoroutine = false)
    (Tn : Turn Xg.prog Xg.w Xg.K tg J fp it tn) (pg : PG Xg tg (TGm (kx Xg) (kpOut vs) b)) (pt : PTs Xg ifs (TT (kx Xg) qt mt)) (pe : PE Xg elt (T (kx Xg) qe me)) (hNow : Nd ow)
    (S : ∀ i H, Step H1 H ow → (∃ o', Envs (kx Xg) H (L2.wipe σ vs) δw o' ∧ Own H1 ow o') → (∀ x, xs[i]? = some x → J.go i H ∧ ∀ v H'', J.yld i H v H'' → (∀ a u, H a = some u → H'' a = some u) ∧ Rep Xg.F H'' x v []) ∧ (xs.length ≤ i → J.stop i H)) :
    ∀ (k i : Nat) (s₀ s : Shared) (H : Hp) (r pre : List D), xs.length - i = k → i ≤ xs.length → dG stop (gx vs b mt me δw) (xs.drop i) = some r → R0 = pre ++ r → (∀ b ∈ L, ∃ o, s₀.heap.get? b = some o) → (∀ b ∈ Sc, b ∈ L) → GInv Xg (L2.wipe σ vs) δw fp tn H1 ow L Sc (cd pre.length) (pinsAt L s₀.heap) i H s →
      Seg (model Xg.prog Xg.w) Ac (fun n s₀ r s₁ => r = .ok .next ∧ GPr Xg (L2.wipe σ vs) δw H1 ow L Sc cd R0 n s₀ s₁) (GYd Xg (L2.wipe σ vs) δw fp tn H1 ow L Sc cd stop R0) (r.length + 1) s₀
        (.compLoop (.GeneratorExp elt [⟨tg, iter, ifs, 0⟩] scope pos) 0 (.ref it) .none cenv) ((model Xg.prog Xg.w).den (.compLoop (.GeneratorExp elt [⟨tg, iter, ifs, 0⟩] scope pos) 0 (.ref it) .none cenv)) [] s := by
  have stat : ∀ {pins : List (Addr × Obj)} {σ' : L2.St} {H' : Hp} {s' : Shared}, Inv Xg pins σ' H' s' → (∀ p ∈ pins, p.1 ∉ fp) → (∀ b ∈ fp, H' b = none) → ∀ b ∈ fp, FpOk Xg pins H' b := fun {pins σ' H' s'} I' hp hn b hb => by
    have hb' : b ∈ Xg.ex := by rw [hx]; exact hb
    refine ⟨hn b hb, (I'.ok.exf b hb').1, I'.ok.exfs b hb', .inl hb', fun x c e => (I'.ok.exf b hb').2 x c e, fun p hp' => ?_⟩
    rw [hpn, List.nil_append] at hp'
    exact fun z => hp p hp' (z ▸ hb)
  intro k
  induction k with
  | zero =>
    intro i s₀ s H r pre hk hi hr hR hL hLS G
    have hin : i = xs.length := by omega
    subst hin
    rw [List.drop_length] at hr
    cases (Option.some.inj hr : [] = r)
    show Seg _ Ac _ _ _ s₀ _ ((compTurn (.GeneratorExp elt [⟨tg, iter, ifs, 0⟩] scope pos) 0 (.ref it) .none cenv).onRaise (leaving cenv)) [] s
    rw [compTurn_gen, Sem.onRaise_eq_wrap]
    refine seg_bind_wrap (wpAny_standAt ?_)
    have td := Tn.done Xg rfl rfl rfl hcm xs.length (pinsAt L s₀.heap) s _ H (fun _ _ => False) G.inv (stat G.inv G.apart G.nof) G.trn ((S xs.length H G.step G.env).2 (Nat.le_refl _))
    rw [hA] at td
    refine seg_bind_wrap ?_
    rw [over_gen]
    refine thnF td fun r s6 ⟨hr, I6⟩ => ?_
    subst hr
    exact seg_end (.ok .next) ⟨rfl, rfl, H, I6, G.env, G.step, by
      rw [hR, List.append_nil]
      intro b hb
      obtain ⟨acc, c, gv, e, va, re, hn⟩ := G.held b hb
      exact ⟨acc, c, gv, (I6.pin (b, _) (List.mem_append_right _ (mem_pinsAt (hLS b hb) (by
        obtain ⟨o, eo⟩ := hL b (hLS b hb)
        have := (G.inv.pin (b, o) (List.mem_append_right _ (mem_pinsAt (hLS b hb) eo))).1
        rw [e] at this; rw [eo, this])))).1, va, re, hn⟩⟩
  | succ k ih =>
    intro i s₀ s H r pre hk hi hr hR hL hLS G
    have hlt : i < xs.length := by omega
    have hxi : xs[i]? = some xs[i] := List.getElem?_eq_getElem hlt
    rw [List.drop_eq_getElem_cons hlt] at hr
    simp only [dG] at hr
    obtain ⟨o2, E2, w2⟩ := G.env
    obtain ⟨go, yl⟩ := (S i H G.step ⟨o2, E2, w2⟩).1 _ hxi
    show Seg _ Ac _ _ _ s₀ _ ((compTurn (.GeneratorExp elt [⟨tg, iter, ifs, 0⟩] scope pos) 0 (.ref it) .none cenv).onRaise (leaving cenv)) [] s
    rw [compTurn_gen, Sem.onRaise_eq_wrap]
    refine seg_bind_wrap (wpAny_standAt ?_)
    have ti := Tn.item Xg rfl rfl rfl hcm i (pinsAt L s₀.heap) s _ H (fun _ _ => False) G.inv (stat G.inv G.apart G.nof) G.trn go
    rw [hA] at ti
    refine seg_bind_wrap ?_
    rw [over_gen]
    refine thnF ti fun r6 s6 ⟨u, hr6, h6⟩ => ?_
    subst hr6
    dsimp only
    refine seg_bind_wrap ?_
    rw [over_gen]
    refine thnF h6 fun _ s7 ⟨x, H7, I7, r7, y7, st7, n7⟩ => ?_
    obtain ⟨sm, rv⟩ := yl x H7 y7
    have I7' := I7.pinned (stat I7 G.apart n7) (Tn.obj _ _ st7)
    cases hg : gx vs b mt me δw xs[i] with
    | none => rw [hg] at hr; simp at hr
    | some go1 =>
    rw [hg] at hr
    simp only [gx] at hg
    cases hb : b xs[i] δw with
    | none => rw [hb] at hg; simp at hg
    | some δ3 =>
    rw [hb] at hg; dsimp only at hg
    cases hm : mt δ3 with
    | none => rw [hm] at hg; simp at hg
    | some p4 =>
    obtain ⟨bt, δ4⟩ := p4
    rw [hm] at hg
    have s3 : Step H1 H7 ow := G.step.same sm
    -- the target, the tests
    have tgt : TGm (kx Xg) (kpOut vs) b x (L2.wipe σ vs) H7 (fun σ3 H3 => H3 = H7 ∧ L2.wipe σ3 vs = L2.wipe σ vs ∧ σ3.length = (L2.wipe σ vs).length ∧ ∃ o3, Envs (kx Xg) H7 σ3 δ3 o3 ∧ Own H1 ow o3) := by
      refine ⟨δw, o2, xs[i], [], δ3, E2.same sm, rv, hb, fun σ3 o3 E3 c3 k3 => ⟨rfl, ?_, k3.2, o3, E3, w2.sub fun a => ?_⟩⟩
      · rw [← wipe_wipe σ vs]
        exact wipe_same k3.2 fun j hj => k3.1 j (by simpa [kpOut] using hj)
      · have := c3 a; simp only [List.count_nil] at this; omega
    have pgr := pg.run _ s7 _ H7 x u _ I7' r7 tgt
    rw [hA, hE, hxe] at pgr
    refine seg_bind_wrap ?_
    rw [over_gen]
    refine thnF pgr fun _ s8 ⟨σ8, H8, I8, e8, hw8, hl8, o3, E3, w3⟩ => ?_
    subst e8
    have no3 : Nd o3 := w3.nd hNow
    have tst : TT (kx Xg) qt mt σ8 H8 (fun b9 H9 => b9 = bt ∧ Step H8 H9 o3 ∧ ∃ o4, Envs (kx Xg) H9 σ8 δ4 o4 ∧ Own H8 o3 o4) := ⟨δ3, o3, bt, δ4, E3, no3, hm, fun H9 o4 P4 => ⟨rfl, P4.step.mono Wq_sub, o4, P4.env, P4.own⟩⟩
    have ptr := pt.run _ s8 σ8 H8 _ I8 tst
    rw [hA, hE, hxe] at ptr
    refine seg_bind_wrap ?_
    rw [over_gen]
    refine thnF ptr fun b9 s9 ⟨H9, I9, hb9, s9', o4, E4, w4⟩ => ?_
    subst hb9
    have s4 : Step H1 H9 ow := s3.trans w3 s9'
    have w4' : Own H1 ow o4 := w3.trans s3 w4
    have keep9 : ∀ gv, Reps Xg.F H (cd pre.length) gv [] → Reps Xg.F H9 (cd pre.length) gv [] := fun gv r => (r.same sm).step s9' E3.ok fun a ha => nomatch ha
    -- behind the turn
    have fin : ∀ {s' : Shared} {H' : Hp} {δ' : DE} {o' : List Addr}, Inv Xg (pinsAt L s₀.heap ++ pinsAt fp s7.heap) σ8 H' s' → Step H1 H' ow → Envs (kx Xg) H' σ8 δ' o' → Own H1 ow o' → wipeD δ' vs = δw → (∀ gv, Reps Xg.F H (cd pre.length) gv [] → Reps Xg.F H' (cd pre.length) gv []) → GInv Xg (L2.wipe σ vs) δw fp tn H1 ow L Sc (cd pre.length) (pinsAt L s₀.heap) (i + 1) H' s' := fun {s' H' δ' o'} I' st' E' w' hw hre => by
      have pin' : ∀ b ∈ fp, ∀ o, s7.heap.get? b = some o → s'.heap.get? b = some o ∧ H' b = none := fun b hb o e =>
        let z := I'.pin (b, o) (List.mem_append_right _ (List.mem_append_right _ (mem_pinsAt hb e)))
        ⟨z.1, z.2.1⟩
      obtain ⟨o6, E6, c6⟩ := E'.wipe vs
      rw [hw8, hw] at E6
      refine ⟨(I'.unpinned).weak hl8.symm fun j v e => ?_, Tn.keep _ _ _ st7 fun b hb o e => (pin' b hb o e).1, fun b hb => ?_, ⟨o6, E6, w'.sub c6⟩, st', fun b hb => ?_, G.apart, fun b hb => ?_⟩
      · rw [← hw8] at e
        exact (wipe_some e).1
      · obtain ⟨o, e, _⟩ := Tn.obj _ _ st7 b hb
        exact (pin' b hb o e).2
      · obtain ⟨o, e⟩ := hL b hb
        exact ⟨o, (I'.pin (b, o) (List.mem_append_right _ (List.mem_append_left _ (mem_pinsAt hb e)))).1⟩
      · obtain ⟨acc, c, gv, e, va, re, _⟩ := G.held b hb
        obtain ⟨o, eo⟩ := hL b (hLS b hb)
        have e2 := (G.inv.pin (b, o) (List.mem_append_right _ (mem_pinsAt (hLS b hb) eo))).1
        rw [e] at e2
        have e3 := (I'.pin (b, o) (List.mem_append_right _ (List.mem_append_left _ (mem_pinsAt (hLS b hb) eo)))).1
        exact ⟨acc, c, gv, by rw [e3, Option.some.inj e2], va, hre gv re, (I'.pin (b, o) (List.mem_append_right _ (List.mem_append_left _ (mem_pinsAt (hLS b hb) eo)))).2.1⟩
    cases b9 with
    | false =>
      by_cases hwd : wipeD δ4 vs = δw
      case neg => dsimp only at hg; rw [if_neg hwd] at hg; cases hg
      dsimp only at hg
      rw [if_pos hwd] at hg
      cases (Option.some.inj hg : none = go1)
      simp only [Bool.false_eq_true, if_false]
      exact seg_again rfl (ih (i + 1) s₀ _ H9 r pre (by omega) hlt hr hR hL hLS (fin I9 s4 E4 w4' hwd keep9))
    | true =>
      dsimp only at hg
      cases he : me δ4 with
      | none => rw [he] at hg; simp at hg
      | some p5 =>
      obtain ⟨re, δ5⟩ := p5
      rw [he] at hg
      cases re with
      | «at» _ _ => simp at hg
      | own d =>
      dsimp only at hg
      by_cases hwd : wipeD δ5 vs = δw ∧ d.imm = true
      case neg => rw [if_neg hwd] at hg; cases hg
      rw [if_pos hwd] at hg
      cases (Option.some.inj hg : some d = go1)
      dsimp only at hr
      have no4 : Nd o4 := w4'.nd hNow
      have elr : T (kx Xg) qe me σ8 H9 (fun y H5 => Step H9 H5 o4 ∧ Rep Xg.F H5 d y [] ∧ ∃ o5, Envs (kx Xg) H5 σ8 δ5 o5 ∧ Own H9 o4 o5) := ⟨δ4, o4, .own d, δ5, E4, no4, he, fun y H5 o5 oy P5 => by
        have hoy : oy = [] := Rep.imm P5.held hwd.2
        subst hoy
        exact ⟨P5.step.mono Wq_sub, P5.held, o5, P5.env, own_right P5.own⟩⟩
      have per := pe.run _ s9 σ8 H9 _ I9 elr
      rw [hA, hE, hxe] at per
      simp only [if_true]
      have hy : ∀ v, yieldOut cenv v = yieldValue v := fun v => by simp only [yieldOut, hco, Bool.false_eq_true, if_false]
      simp only [hy]
      rw [Sem.bind_eq_wrap', Sem.bind_eq_wrap', Sem.wrap_wrap, Sem.wrap_wrap]
      refine seg_wrap ?_
      rw [over_gen]
      refine thnF per fun y s10 ⟨yv, H10, I10, r10, s10', rep, o5, E5, w5⟩ => ?_
      have s5 : Step H1 H10 ow := s4.trans w4' s10'
      have w5' : Own H1 ow o5 := w4'.trans s4 w5
      have G10 := fin I10 s5 E5 w5' hwd.1 fun gv r => (keep9 gv r).step s10' E4.ok fun a ha => nomatch ha
      have hr' : ∃ r', r = d :: r' ∧ (stop d = false → dG stop (gx vs b mt me δw) (xs.drop (i + 1)) = some r') := by
        cases hst : stop d with
        | true =>
          rw [hst, if_pos rfl] at hr
          exact ⟨[], (Option.some.inj hr).symm, fun z => nomatch z⟩
        | false =>
          rw [hst, if_neg Bool.false_ne_true] at hr
          cases hq : dG stop (gx vs b mt me δw) (xs.drop (i + 1)) with
          | none => rw [hq] at hr; simp at hr
          | some r' =>
            rw [hq] at hr
            exact ⟨r', (Option.some.inj hr).symm, fun _ => rfl⟩
      obtain ⟨r', rfl, hr2⟩ := hr'
      rw [List.length_cons]
      have hj : R0.length - (r'.length + 1) = pre.length := by rw [hR, List.length_append, List.length_cons]; omega
      refine seg_at (seg_yield rfl rfl rfl ⟨Nat.le_add_left 1 _, i + 1, d, yv, H10, ?_, by rw [hj]; exact G10, r10, rep, fun hst s'' H'' G'' => ?_⟩)
      · rw [hj, hR, List.getElem?_append_right (Nat.le_refl _), Nat.sub_self]; rfl
      · rw [hj] at G''
        exact seg_again rfl (ih (i + 1) s'' s'' H'' r' (pre ++ [d]) (by omega) hlt (hr2 hst) (by rw [hR, List.append_assoc]; rfl) G''.live hLS (by rw [List.length_append]; exact G''))
end
end Z


set_option Elab.async false
set_option linter.all false
set_option maxRecDepth 100000
/-! generator expressions: begun, asked for the next item, made -/
namespace Z
open PySem PySem.Spec PyProof.Rows L2

section
variable {Xg : Cx} {σw : L2.St} {δw : DE} {fp : List Addr} {tn : Nat → Heap → Prop} {H1 : Hp} {ow L Sc vs : List Addr} {cd : Nat → List D} {gd : List D} {stop : D → Bool} {R0 : List D}
/-- the generator g, r still to come -/
def Gat (Xg : Cx) (σw : L2.St) (δw : DE) (fp : List Addr) (tn : Nat → Heap → Prop) (H1 : Hp) (ow L Sc : List Addr) (cd : Nat → List D) (stop : D → Bool) (R0 : List D) (Ac : Around) (g i : Nat) (r : List D) (s : Shared) : Prop :=
  g < s.gens.size ∧ ∃ gs, s.gens[g]? = some gs ∧ ∀ s'' H'', GInv Xg σw δw fp tn H1 ow L Sc (cd (R0.length - r.length)) (pinsAt L s''.heap) i H'' s'' →
    gs.Goes (model Xg.prog Xg.w) Ac (fun n s₀ r s₁ => r = .ok .next ∧ GPr Xg σw δw H1 ow L Sc cd R0 n s₀ s₁) (GYd Xg σw δw fp tn H1 ow L Sc cd stop R0) (r.length + 1) (.send .none) s''
theorem GInv.gens {pins : List (Addr × Obj)} {i : Nat} {H : Hp} {s : Shared} (G : GInv Xg σw δw fp tn H1 ow L Sc gd pins i H s) {g : Array GenState} (h : AllBare g) : GInv Xg σw δw fp tn H1 ow L Sc gd pins i H { s with gens := g } :=
  ⟨G.inv.gens h, G.trn, G.nof, G.env, G.step, G.live, G.apart, G.held⟩
theorem GInv.pin {i : Nat} {H : Hp} {s₀ s : Shared} (G : GInv Xg σw δw fp tn H1 ow L Sc gd (pinsAt L s₀.heap) i H s) (hL : ∀ b ∈ L, ∃ o, s₀.heap.get? b = some o) : pinsAt L s.heap = pinsAt L s₀.heap := pinsAt_eq fun b hb => by
  obtain ⟨o, e⟩ := hL b hb
  exact ⟨o, e, (G.inv.pin (b, o) (List.mem_append_right _ (mem_pinsAt hb e))).1⟩
theorem GInv.at {i : Nat} {H : Hp} {s₀ s : Shared} {b : Addr} {o : Obj} (G : GInv Xg σw δw fp tn H1 ow L Sc gd (pinsAt L s₀.heap) i H s) (hb : b ∈ L) (e : s₀.heap.get? b = some o) : s.heap.get? b = some o := (G.inv.pin (b, o) (List.mem_append_right _ (mem_pinsAt hb e))).1
theorem GEnd.at {H : Hp} {s₀ s : Shared} {b : Addr} {o : Obj} (G : GEnd Xg σw δw H1 ow Sc gd (pinsAt L s₀.heap) H s) (hb : b ∈ L) (e : s₀.heap.get? b = some o) : s.heap.get? b = some o := (G.inv.pin (b, o) (List.mem_append_right _ (mem_pinsAt hb e))).1
theorem gen_next {A : Around} {a : Addr} {g i : Nat} {H : Hp} {s : Shared} {r pre : List D} {E : Value → Shared → Prop} {Q : Option Value → Shared → Prop} (hh : A.handled = none) (hroom : A.depth < recursionLimit) (ha : a ∈ L) (isg : s.heap.IsGen a g)
    (G : GInv Xg σw δw fp tn H1 ow L Sc (cd pre.length) (pinsAt L s.heap) i H s) (Ka : Gat Xg σw δw fp tn H1 ow L Sc cd stop R0 A.in1 g i r s) (hR : R0 = pre ++ r) (hpre : ∀ d ∈ pre, stop d = false)
    (hnil : r = [] → ∀ s' H', GEnd Xg σw δw H1 ow Sc (cd pre.length) (pinsAt L s.heap) H' s' → Q none s')
    (hcons : ∀ d r', r = d :: r' → ∀ v x i' s' H', RelV x v → Rep Xg.F H' d x [] → GInv Xg σw δw fp tn H1 ow L Sc (cd pre.length) (pinsAt L s.heap) i' H' s' → s'.heap.IsGen a g → (stop d = false → Gat Xg σw δw fp tn H1 ow L Sc cd stop R0 A.in1 g i' r' s') → Q (some v) s') :
    wpAny (model Xg.prog Xg.w) A (pyNext (.ref a)) Q E s := by
  obtain ⟨hgl, gs, hgs, goes⟩ := Ka
  have hbr : AllBare (s.setGen g .running).gens := allBare_setGen G.inv.bare rfl
  have hj : R0.length - r.length = pre.length := by rw [hR, List.length_append]; omega
  rw [hj] at goes
  have G0 : GInv Xg σw δw fp tn H1 ow L Sc (cd pre.length) (pinsAt L s.heap) i H (s.setGen g .running) := G.gens hbr
  have hgo := goes (s.setGen g .running) H G0
  have live := G.live
  refine GenW.wpAny_gsz (n := g + 1) hgl (wpAny_pyNext_genexpQ hh G.inv.nolimit hroom isg hgs hgo (fun v s₁ gs' hb hY => ?_) fun s₁ hP h' hk => ?_)
  · intro hsz
    have hs1 : g < s₁.gens.size := by
      have q : (s₁.setGen g gs').gens.size = s₁.gens.size := GenW.setGen_size _ _ _
      have hsz' : g + 1 ≤ (s₁.setGen g gs').gens.size := hsz
      omega
    obtain ⟨h1, i', d, x, H', hd, G', rx, rep, kap⟩ := hY
    cases r with
    | nil => exact absurd h1 (by simp)
    | cons d0 r' =>
      have hd0 : d = d0 := by
        have hd : R0[R0.length - (d0 :: r').length]? = some d := hd
        rw [hR, List.length_append, List.length_cons, show pre.length + (r'.length + 1) - (r'.length + 1) = pre.length by omega, List.getElem?_append_right (Nat.le_refl _), Nat.sub_self] at hd
        simpa using hd.symm
      subst hd0
      have hj2 : R0.length - (d :: r').length = pre.length := by rw [hR, List.length_append, List.length_cons]; omega
      have hj3 : R0.length - (d :: r').length + 1 = R0.length - r'.length := by rw [hj2, hR, List.length_append, List.length_cons]; omega
      have G' : GInv Xg σw δw fp tn H1 ow L Sc (cd pre.length) (pinsAt L s.heap) i' H' s₁ := by rw [← hj2]; exact G'
      have G1 : GInv Xg σw δw fp tn H1 ow L Sc (cd pre.length) (pinsAt L s.heap) i' H' (s₁.setGen g gs') := G'.gens (allBare_setGen G'.inv.bare hb)
      have isg' : (s₁.setGen g gs').heap.IsGen a g := by
        obtain ⟨o, nm, qn, ho, q⟩ := isg
        exact ⟨o, nm, qn, G'.at ha ho, q⟩
      refine hcons d r' rfl v x i' _ H' rx rep G1 isg' fun hst => ⟨by rw [GenW.setGen_size]; exact hs1, gs', setGen_at hs1, fun s'' H'' G'' => kap hst s'' H'' (by rw [← hj3] at G''; exact G'')⟩
  · intro hsz
    obtain ⟨hn, H', Ge⟩ := hP
    have hnil' : r = [] := List.length_eq_zero_iff.mp (Nat.succ.inj hn)
    have hRl : R0.length = pre.length := by rw [hR, hnil', List.append_nil]
    have Ge : GEnd Xg σw δw H1 ow Sc (cd pre.length) (pinsAt L s.heap) H' s₁ := by rw [← hRl]; exact Ge
    refine hnil hnil' _ H' ⟨?_, Ge.env, Ge.step, fun b hb => by obtain ⟨acc, c, gv, e, q⟩ := Ge.held b hb; exact ⟨acc, c, gv, hk _ _ e, q⟩⟩
    exact (Ge.inv.gens (allBare_setGen Ge.inv.bare rfl)).kept (t' := s₁.toks) hk
end
section
variable {Xg : Cx} {σ : L2.St} {δw : DE} {fp : List Addr} {tn : Nat → Heap → Prop} {H1 : Hp} {ow L Sc vs : List Addr} {cd : Nat → List D} {stop : D → Bool} {R0 : List D} {Ac : Around} {cenv : Env} {elt tg iter : Expr} {ifs : List Expr} {scope : Scope} {pos : Pos} {it : Addr} {J : It} {xs : List D} {b : Bnd} {mt : DenT} {me : Den} {qt qe : Bool}
theorem seg_gen0 (hA : Xg.A = Ac.deeper cenv) (hE : Xg.env = cenv) (hxe : Xg.xe = fun _ _ => False) (hx : Xg.ex = fp) (hpn : Xg.pn = []) (hcm : Xg.calm = true) (hco : cenv.scope.isCoroutine = false)
    (Tn : Turn Xg.prog Xg.w Xg.K tg J fp it tn) (pg : PG Xg tg (TGm (kx Xg) (kpOut vs) b)) (pt : PTs Xg ifs (TT (kx Xg) qt mt)) (pe : PE Xg elt (T (kx Xg) qe me)) (hNow : Nd ow)
    (S : ∀ i H, Step H1 H ow → (∃ o', Envs (kx Xg) H (L2.wipe σ vs) δw o' ∧ Own H1 ow o') → (∀ x, xs[i]? = some x → J.go i H ∧ ∀ v H'', J.yld i H v H'' → (∀ a u, H a = some u → H'' a = some u) ∧ Rep Xg.F H'' x v []) ∧ (xs.length ≤ i → J.stop i H))
    (s : Shared) (H : Hp) (hr : dG stop (gx vs b mt me δw) xs = some R0) (hLS : ∀ b ∈ Sc, b ∈ L) (G : GInv Xg (L2.wipe σ vs) δw fp tn H1 ow L Sc (cd 0) (pinsAt L s.heap) 0 H s) :
    Seg (model Xg.prog Xg.w) Ac (fun n s₀ r s₁ => r = .ok .next ∧ GPr Xg (L2.wipe σ vs) δw H1 ow L Sc cd R0 n s₀ s₁) (GYd Xg (L2.wipe σ vs) δw fp tn H1 ow L Sc cd stop R0) (R0.length + 1) s
        (.compStart (.GeneratorExp elt [⟨tg, iter, ifs, 0⟩] scope pos) 0 (.ref it) .none cenv) ((model Xg.prog Xg.w).den (.compStart (.GeneratorExp elt [⟨tg, iter, ifs, 0⟩] scope pos) 0 (.ref it) .none cenv)) [] s := by
  have loop := seg_gen (iter := iter) (scope := scope) (pos := pos) (R0 := R0) hA hE hxe hx hpn hcm hco Tn pg pt pe hNow S xs.length 0 s s H R0 [] (Nat.sub_zero _) (Nat.zero_le _) (by rw [List.drop_zero]; exact hr) rfl G.live hLS G
  show Seg _ Ac _ _ _ s _ ((compStart (.GeneratorExp elt [⟨tg, iter, ifs, 0⟩] scope pos) 0 (.ref it) .none cenv).onRaise (leaving cenv)) [] s
  unfold compStart
  rw [Sem.onRaise_eq_wrap]
  show Seg _ Ac _ _ _ s _ ((ask >>= _).wrap _ _ _ _) [] s
  refine seg_bind_wrap (wpAny_askSetting ?_)
  split
  · exact seg_again rfl loop
  · first
      | exact seg_bind_wrap (wpAny_rule (seg_bind_wrap (wpAny_standAt (seg_bind_wrap (Tn.self _ 0 s _ _ G.trn (seg_again rfl loop))))))
      | (refine seg_bind_wrap (wpAny_rule ?_); show Seg _ Ac _ _ _ s _ ((standAt iter.pos >>= _).wrap _ _ _ _) [] s; exact seg_bind_wrap (wpAny_standAt (seg_bind_wrap (Tn.self _ 0 s _ _ G.trn (seg_again rfl loop)))))
end
end Z


set_option Elab.async false
set_option linter.all false
set_option maxRecDepth 100000
/-! generator expressions: what a consumer sees of one -/
namespace Z
open PySem PySem.Spec PyProof.Rows L2

/-- back in the def's context -/
structure Back (X : Cx) (pins : List (Addr × Obj)) (σ : L2.St) (δ : DE) (o : List Addr) (Hx : Hp) (H : Hp) (s : Shared) : Prop where
  inv : Inv X pins σ H s
  env : ∃ o', Envs (kx X) H σ δ o' ∧ Own Hx o o'
  step : Step Hx H o
/-- the consumer has changed its own objects S, or made new ones -/
structure Chg (S : List Addr) (s s' : Shared) : Prop where
  os : s'.os = s.os
  gens : s'.gens = s.gens
  keep : ∀ b o, b ∉ S → s.heap.get? b = some o → s'.heap.get? b = some o
  own : ∀ b ∈ S, ∃ o, s'.heap.get? b = some o ∧ ∀ v, o.data ≠ .cell v
theorem Chg.refl {S : List Addr} {s : Shared} (h : ∀ b ∈ S, ∃ o, s.heap.get? b = some o ∧ ∀ v, o.data ≠ .cell v) : Chg S s s := ⟨rfl, rfl, fun _ _ _ e => e, h⟩
/-- the consumer's objects stay -/
def Sk (S : List Addr) (s s' : Shared) : Prop := ∀ b ∈ S, ∀ o, s.heap.get? b = some o → s'.heap.get? b = some o
/-- the generator a, of which r is still to come; cd: what the consumer's lists hold when it asks for the j-th -/
def GSt (X : Cx) (pins : List (Addr × Obj)) (σ : L2.St) (δ : DE) (o : List Addr) (Hx : Hp) (A : Around) (a : Addr) (stop : D → Bool) (S : List Addr) (cd : Nat → List D) : Nat → List D → Hp → Shared → Prop
  | j, [], H, s => Back X pins σ δ o Hx H s ∧ s.TypeIs (.ref a) "generator" ∧ ∀ (s'' : Shared) (E : Value → Shared → Prop) (Q : Option Value → Shared → Prop), Chg S s s'' → Keeps X.F S (cd j) H s'' →
      (∀ s' H', Back X pins σ δ o Hx H' s' → Sk S s'' s' → Keeps X.F S (cd j) H' s' → Q none s') → wpAny (model X.prog X.w) A (pyNext (.ref a)) Q E s''
  | j, d :: r, H, s => Back X pins σ δ o Hx H s ∧ s.TypeIs (.ref a) "generator" ∧ ∀ (s'' : Shared) (E : Value → Shared → Prop) (Q : Option Value → Shared → Prop), Chg S s s'' → Keeps X.F S (cd j) H s'' →
      (∀ v x s' H', RelV x v → Rep X.F H' d x [] → Back X pins σ δ o Hx H' s' → Sk S s'' s' → Keeps X.F S (cd j) H' s' → (stop d = false → GSt X pins σ δ o Hx A a stop S cd (j + 1) r H' s') → Q (some v) s') → wpAny (model X.prog X.w) A (pyNext (.ref a)) Q E s''
theorem GSt.back {X : Cx} {pins : List (Addr × Obj)} {σ : L2.St} {δ : DE} {o : List Addr} {Hx : Hp} {A : Around} {a : Addr} {stop : D → Bool} {S : List Addr} {cd : Nat → List D} {j : Nat} {r : List D} {H : Hp} {s : Shared} (h : GSt X pins σ δ o Hx A a stop S cd j r H s) : Back X pins σ δ o Hx H s := by
  cases r with
  | nil => exact h.1
  | cons d r => exact h.1
theorem GSt.ty {X : Cx} {pins : List (Addr × Obj)} {σ : L2.St} {δ : DE} {o : List Addr} {Hx : Hp} {A : Around} {a : Addr} {stop : D → Bool} {S : List Addr} {cd : Nat → List D} {j : Nat} {r : List D} {H : Hp} {s : Shared} (h : GSt X pins σ δ o Hx A a stop S cd j r H s) : s.TypeIs (.ref a) "generator" := by
  cases r with
  | nil => exact h.2.1
  | cons d r => exact h.2.1
theorem Chg.trans {S : List Addr} {s s' s'' : Shared} (h : Chg S s s') (k : Chg S s' s'') : Chg S s s'' := ⟨k.os.trans h.os, k.gens.trans h.gens, fun b o hb e => k.keep b o hb (h.keep b o hb e), k.own⟩
/-- the consumer has done something meanwhile -/
theorem GSt.chg {X : Cx} {pins : List (Addr × Obj)} {σ : L2.St} {δ : DE} {o : List Addr} {Hx : Hp} {A : Around} {a : Addr} {stop : D → Bool} {S : List Addr} {cd : Nat → List D} {j : Nat} {r : List D} {H : Hp} {s s2 : Shared} (h : GSt X pins σ δ o Hx A a stop S cd j r H s) (c : Chg S s s2) (B : Back X pins σ δ o Hx H s2) (t : s2.TypeIs (.ref a) "generator") : GSt X pins σ δ o Hx A a stop S cd j r H s2 := by
  cases r with
  | nil => exact ⟨B, t, fun s'' E Q k => h.2.2 s'' E Q (c.trans k)⟩
  | cons d r => exact ⟨B, t, fun s'' E Q k => h.2.2 s'' E Q (c.trans k)⟩
section
variable {X : Cx} {pins : List (Addr × Obj)} {σ : L2.St} {δ1 : DE} {o1 ow od : List Addr} {Hx : Hp} {sB : Shared} {vs : List Nat} {scope : Scope} {cenv : Env} {fp : List Addr} {tn : Nat → Heap → Prop} {stop : D → Bool} {S : List Addr} {cd : Nat → List D} {gd : List D} {A Ag : Around} {a g : Addr}
theorem back_of (IB : Inv X pins σ Hx sB) (hfp : ∀ b ∈ fp, FpOk X pins Hx b) (En : Envs (kx X) Hx σ δ1 o1) (cw : ∀ a, ow.count a + od.count a ≤ o1.count a) (hod : ∀ a ∈ od, Hx a ≠ none) (hok : ∀ a ∈ ow, ∃ u, Hx a = some u ∧ ¬ Sh u)
    (kr : ∀ {H2 : Hp} {δ2 : DE} {o2 : List Addr}, Step Hx H2 ow → Envs (kx X) H2 (L2.wipe σ vs) δ2 o2 → ∃ o3, Envs (kx X) H2 σ (restD δ1 δ2 vs) o3 ∧ ∀ a, o3.count a ≤ o2.count a + od.count a) {pg : List (Addr × Obj)} {H : Hp} {s : Shared}
    (G : GEnd (X.gen Ag sB Hx scope cenv fp) (L2.wipe σ vs) (wipeD δ1 vs) Hx ow S gd pg H s) : Back X pins σ δ1 o1 Hx H s := by
  obtain ⟨I, ⟨o', E', w'⟩, st, _⟩ := G
  refine ⟨IB.call' (ch := fp) I.os I.base I.hok I.bare fun b hb => ⟨(hfp b hb).2.2.2.1, (hfp b hb).2.1, (hfp b hb).2.2.2.2.1, (hfp b hb).2.2.2.2.2⟩, ?_, st.mono fun a ha => ?_⟩
  · have E2 : Envs (kx X) H (L2.wipe σ vs) (wipeD δ1 vs) o' := Envs.cv (cv := X.env.code) E' (En.tabs.step st hok).2
    obtain ⟨o3, E3, c3⟩ := kr st E2
    rw [rest_wipe] at E3
    refine ⟨o3, E3, fun a => ?_⟩
    have h1 := c3 a
    have h2 := cw a
    rcases w' a with w | ⟨z, w⟩
    · left; omega
    · have : od.count a = 0 := List.count_eq_zero.mpr fun hm => hod a hm z
      right; exact ⟨z, by omega⟩
  · have h1 : 0 < ow.count a := List.count_pos_iff.mpr ha
    have h2 := cw a
    exact List.count_pos_iff.mp (show 0 < o1.count a by omega)
theorem gst_of (IB : Inv X pins σ Hx sB) (hfp : ∀ b ∈ fp, FpOk X pins Hx b) (En : Envs (kx X) Hx σ δ1 o1) (cw : ∀ a, ow.count a + od.count a ≤ o1.count a) (hod : ∀ a ∈ od, Hx a ≠ none) (hok : ∀ a ∈ ow, ∃ u, Hx a = some u ∧ ¬ Sh u)
    (kr : ∀ {H2 : Hp} {δ2 : DE} {o2 : List Addr}, Step Hx H2 ow → Envs (kx X) H2 (L2.wipe σ vs) δ2 o2 → ∃ o3, Envs (kx X) H2 σ (restD δ1 δ2 vs) o3 ∧ ∀ a, o3.count a ≤ o2.count a + od.count a)
    (hh : A.handled = none) (hroom : A.depth < recursionLimit) (haS : a ∉ S) (hSy : ∀ b ∈ S, sB.heap.objs.size ≤ b ∧ b ≠ cenv.locals ∧ (∀ x c, cenv.cells.lookup x = some c → c ≠ b) ∧ b ∉ fp) (hTn : ∀ i h h', tn i h → (∀ b ∈ fp, ∀ o, h.get? b = some o → h'.get? b = some o) → tn i h')
    {R0 : List D} : ∀ (r pre : List D) (i : Nat) (H : Hp) (s : Shared) (gd : List D), R0 = pre ++ r → (∀ d ∈ pre, stop d = false) → s.heap.IsGen a g →
    GInv (X.gen Ag sB Hx scope cenv fp) (L2.wipe σ vs) (wipeD δ1 vs) fp tn Hx ow (a :: S) S gd (pinsAt (a :: S) s.heap) i H s → Gat (X.gen Ag sB Hx scope cenv fp) (L2.wipe σ vs) (wipeD δ1 vs) fp tn Hx ow (a :: S) S cd stop R0 A.in1 g i r s →
    GSt X pins σ δ1 o1 Hx A a stop S cd pre.length r H s := by
  have chg : ∀ {i : Nat} {H : Hp} {s s'' : Shared} {r : List D} {gd gd' : List D}, Chg S s s'' → s.heap.IsGen a g → GInv (X.gen Ag sB Hx scope cenv fp) (L2.wipe σ vs) (wipeD δ1 vs) fp tn Hx ow (a :: S) S gd (pinsAt (a :: S) s.heap) i H s → Keeps X.F S gd' H s'' → Gat (X.gen Ag sB Hx scope cenv fp) (L2.wipe σ vs) (wipeD δ1 vs) fp tn Hx ow (a :: S) S cd stop R0 A.in1 g i r s →
      s''.heap.IsGen a g ∧ GInv (X.gen Ag sB Hx scope cenv fp) (L2.wipe σ vs) (wipeD δ1 vs) fp tn Hx ow (a :: S) S gd' (pinsAt (a :: S) s''.heap) i H s'' ∧ Gat (X.gen Ag sB Hx scope cenv fp) (L2.wipe σ vs) (wipeD δ1 vs) fp tn Hx ow (a :: S) S cd stop R0 A.in1 g i r s'' := fun {i H s s'' r gd gd'} c isg G hk Ga => by
    have isg' : s''.heap.IsGen a g := by
      obtain ⟨o, nm, qn, ho, q⟩ := isg
      exact ⟨o, nm, qn, c.keep a o haS ho, q⟩
    have nP : ∀ b ∈ S, ∃ o, s.heap.get? b = some o ∧ H b = none ∧ b ≠ cenv.locals ∧ b ∉ frs X.stack := fun b hb => by
      obtain ⟨o, e⟩ := G.live b (List.mem_cons_of_mem _ hb)
      obtain ⟨_, h2, h3, h4, _⟩ := G.inv.pin (b, o) (List.mem_append_right _ (mem_pinsAt (List.mem_cons_of_mem _ hb) e))
      exact ⟨o, e, h2, h3, h4⟩
    have I0 : Inv (X.gen Ag sB Hx scope cenv fp) [] (L2.wipe σ vs) H s := G.inv.pins_of fun p hp => nomatch hp
    have nt : ∀ b u, H b = some u → b ∉ S := fun b u e hb => by obtain ⟨_, _, z, _⟩ := nP b hb; rw [e] at z; cases z
    have I1 : Inv (X.gen Ag sB Hx scope cenv fp) [] (L2.wipe σ vs) H s'' := by
      obtain ⟨hp, gn, dr, tk, os⟩ := s''
      have e : os = s.os := c.os
      subst e
      refine I0.step (g' := gn) (t' := tk) (d' := dr) (ch := S) (fun b hb => ⟨.inr (hSy b hb).1, (hSy b hb).2.1, (hSy b hb).2.2.1, fun p hp => nomatch hp⟩)
        (fun b o _ _ hc e _ => c.keep b o hc e) (fun b o _ _ hc e _ => ⟨o.slots, c.keep b o hc e⟩) (fun _ _ _ _ n => n) (fun b o hc e => ⟨o, c.keep b o hc e⟩) (fun _ _ e => e) (fun _ _ _ e => e) (fun b ps e => ⟨#[], by rw [e]; simp⟩) (fun m hm => ?_) (fun b u e => ?_) (by rw [show gn = s.gens from c.gens]; exact G.inv.bare)
      · obtain ⟨ob, es, ep, ho, r⟩ := hm
        exact ⟨ob, es, ep, c.keep _ ob (fun hb => (hSy _ hb).2.1 rfl) ho, r⟩
      · refine (I0.hok b u e).stay (fun d v hd q => c.keep d v ?_ q) (fun _ q => q) fun _ _ q => q
        rcases hd with rfl | hd
        · exact nt _ u e
        · exact nt d _ hd
    refine ⟨isg', ⟨I1.pins_of fun p hp => ?_, hTn i _ _ G.trn fun b hb o e => c.keep b o (fun hm => (hSy b hm).2.2.2 hb) e, G.nof, G.env, G.step, fun b hb => ?_, fun p hp => ?_, hk⟩, by rw [c.gens]; exact Ga.1, by rw [c.gens]; exact Ga.2⟩
    · obtain ⟨hb, e⟩ := of_pinsAt hp
      rcases List.mem_cons.mp hb with hb | hb
      · obtain ⟨o, nm, qn, ho, q1, q2, q3⟩ := isg
        have ea := c.keep a o haS ho
        rw [hb, ea] at e
        have eo : o = p.2 := Option.some.inj e
        obtain ⟨_, h2, h3, h4, h5⟩ := G.inv.pin (a, o) (List.mem_append_right _ (mem_pinsAt List.mem_cons_self ho))
        rw [hb, ← eo]
        exact ⟨ea, h2, h3, h4, h5⟩
      · obtain ⟨o, _, h2, h3, h4⟩ := nP p.1 hb
        obtain ⟨o', e', hc⟩ := c.own p.1 hb
        rw [e'] at e
        have eo : o' = p.2 := Option.some.inj e
        exact ⟨by rw [e', eo], h2, h3, h4, by rw [← eo]; exact hc⟩
    · rcases List.mem_cons.mp hb with rfl | hb
      · obtain ⟨o, nm, qn, ho, _⟩ := isg'
        exact ⟨o, ho⟩
      · obtain ⟨o', e', _⟩ := c.own b hb
        exact ⟨o', e'⟩
    · obtain ⟨hb, e⟩ := of_pinsAt hp
      rcases List.mem_cons.mp hb with hb | hb
      · obtain ⟨o, nm, qn, ho, _⟩ := isg
        have := G.apart (a, o) (mem_pinsAt List.mem_cons_self ho)
        rw [hb]; exact this
      · exact (hSy p.1 hb).2.2.2
  intro r
  induction r with
  | nil =>
    intro pre i H s gd hR hpre isg G Ga
    refine ⟨back_of IB hfp En cw hod hok kr G.fin, isg.typeIs, fun s'' E Q c hk hQ => ?_⟩
    obtain ⟨isg2, G2, Ga2⟩ := chg c isg G hk Ga
    refine gen_next (Xg := X.gen Ag sB Hx scope cenv fp) hh hroom List.mem_cons_self isg2 G2 Ga2 hR hpre (fun _ s' H' Ge => ?_) fun d r' e => nomatch e
    exact hQ s' H' (back_of IB hfp En cw hod hok kr Ge) (fun b hb o e => Ge.at (List.mem_cons_of_mem _ hb) e) Ge.held
  | cons d r ih =>
    intro pre i H s gd hR hpre isg G Ga
    refine ⟨back_of IB hfp En cw hod hok kr G.fin, isg.typeIs, fun s'' E Q c hk hQ => ?_⟩
    obtain ⟨isg2, G2, Ga2⟩ := chg c isg G hk Ga
    refine gen_next (Xg := X.gen Ag sB Hx scope cenv fp) hh hroom List.mem_cons_self isg2 G2 Ga2 hR hpre (fun e => nomatch e) fun d' r' e v x i' s' H' rx rep G' isg' Gn => ?_
    cases e
    refine hQ v x s' H' rx rep (back_of IB hfp En cw hod hok kr G'.fin) (fun b hb o e => G'.at (List.mem_cons_of_mem _ hb) e) G'.held fun hst => ?_
    have hp : pinsAt (a :: S) s'.heap = pinsAt (a :: S) s''.heap := G'.pin G2.live
    have := ih (pre ++ [d]) i' H' s' _ (by rw [hR, List.append_assoc]; rfl) (fun z hz => (List.mem_append.mp hz).elim (hpre z) fun hz => by rw [List.mem_singleton.mp hz]; exact hst) isg' (by rw [hp]; exact G') (Gn hst)
    rw [List.length_append] at this
    exact this
end
end Z


set_option Elab.async false
set_option linter.all false
set_option maxRecDepth 100000
/-! generator expressions: made -/
namespace Z
open PySem PySem.Spec PyProof.Rows L2

theorem inv_same {X : Cx} {pins : List (Addr × Obj)} {σ : L2.St} {H : Hp} {s s' : Shared} (I : Inv X pins σ H s) (h : s'.heap = s.heap) (g : s'.gens = s.gens) (o : s'.os = s.os) : Inv X pins σ H s' := by
  obtain ⟨h', g', d', t', o'⟩ := s'
  obtain ⟨h0, g0, d0, t0, o0⟩ := s
  cases h; cases g; cases o
  exact ⟨I.ok, I.os, I.bare, I.base, I.loc, I.cell, I.free, I.freeC, I.pin, I.hok, I.len⟩
/-- the generator expression's scope -/
structure GSc (scope : Scope) : Prop where
  co : scope.isCoroutine = false
  dot : scope.names.lookup (".0" : Str) = some NameKind.local
/-- the generator that stands at a may be walked -/
def GMk (X : Cx) (pins : List (Addr × Obj)) (σ : L2.St) (δ1 : DE) (o1 : List Addr) (Hx : Hp) (k : Nat) (a : Addr) (stop : D → Bool) (R0 : List D) (s5 : Shared) : Prop :=
  s5.TypeIs (.ref a) "generator" ∧ a < s5.heap.objs.size ∧ Back X pins σ δ1 o1 Hx Hx s5 ∧ ∀ (A : Around) (S : List Addr) (cd : Nat → List D) (s6 : Shared), A.handled = none → A.depth < recursionLimit → (∀ e, Room k (A.in1.deeper e)) → A.frames = some X.stack → (∀ b ∈ S, s5.heap.objs.size ≤ b) → Chg S s5 s6 → Keeps X.F S (cd 0) Hx s6 → GSt X pins σ δ1 o1 Hx A a stop S cd 0 R0 Hx s6
section
variable {X : Cx} {pins : List (Addr × Obj)} {σ : L2.St} {H : Hp} {s : Shared} {elt tg iter : Expr} {ifs : List Expr} {scope : Scope} {own : List (Str × Nat)} {pos : Pos} {ms : DenS} {b : Bnd} {mt : DenT} {me : Den} {q qt qe : Bool} {k : Nat} {stop : D → Bool}
theorem gen_make {δ : DE} {o : List Addr} {src : Src} {δ1 : DE} {R0 : List D} {Q : Value → Shared → Prop} {cc : Addr} (hr : Room (k + 1) X.A) (hcode : X.env.code = .ref cc) (hc : X.calm = true) (hN : X.N.Nodup) (hBM : BMod X.base X.mg) (gs : GSc scope)
    (hi : PI X tg iter (TIm (kx X) q ms)) (ok : BlkOk X.N X.env.scope scope own)
    (hg : ∀ (Ag : Around) (s : Shared) (H : Hp) (C c' : Addr) (cl : List (Str × Addr)) (fp : List Addr), Room k Ag → PG (X.gen Ag s H scope (genEnv scope cl C (.ref c') builtinsNs X.env) fp) tg (TGm ⟨X.F, .ref c'⟩ (kpOut (own.map (·.2))) b))
    (ht : ∀ (Ag : Around) (s : Shared) (H : Hp) (C c' : Addr) (cl : List (Str × Addr)) (fp : List Addr), Room k Ag → PTs (X.gen Ag s H scope (genEnv scope cl C (.ref c') builtinsNs X.env) fp) ifs (TT ⟨X.F, .ref c'⟩ qt mt))
    (he : ∀ (Ag : Around) (s : Shared) (H : Hp) (C c' : Addr) (cl : List (Str × Addr)) (fp : List Addr), Room k Ag → PE (X.gen Ag s H scope (genEnv scope cl C (.ref c') builtinsNs X.env) fp) elt (T ⟨X.F, .ref c'⟩ qe me))
    (hs : ∀ v, genFold iter X.env v = pure v) (I : Inv X pins σ H s) (E : Envs (kx X) H σ δ o) (n : Nd o) (hm : ms δ = some (src, δ1)) (hgo : gOk src.gs δ1 = true) (hd : dG stop (gx (own.map (·.2)) b mt me (wipeD δ1 (own.map (·.2)))) src.xs = some R0)
    (hQ : ∀ a s5 Hx o1, Step H Hx (Wq q o) → Envs (kx X) Hx σ δ1 o1 → Own H o o1 → R0.length ≤ sizeLine → GMk X pins σ δ1 o1 Hx k a stop R0 s5 → Q (.ref a) s5) :
    wpAny (model X.prog X.w) X.A (eval (.GeneratorExp elt [⟨tg, iter, ifs, 0⟩] scope pos) X.env) Q X.xe s := by
  have hfree : ∀ y ∈ scope.names, y.2 = .free → ∃ c, X.env.cells.lookup y.1 = some c := fun y hy e => by
    rcases ok.free y hy e with k | k
    · exact I.ok.has _ (.inl k)
    · exact I.ok.has _ (.inr k)
  rw [eval_GeneratorExp1 _ _ _ _ _ _ _ gs.co, closure_ok hfree]
  have hrd : TIm (kx X) q ms σ H (fun J H1 => ∃ o1 ov, Step H H1 (Wq q o) ∧ Envs (kx X) H1 σ δ1 o1 ∧ Own H o (ov ++ o1) ∧ (∀ a ∈ ov, ∃ u, H1 a = some u ∧ Ow u) ∧ SrcOk X.F σ src J H1 ov ∧ src.xs.length ≤ sizeLine) :=
    ⟨δ, o, src, δ1, E, n, hm, fun J H1 o1 ov s1 E1 w1 hov S hl => ⟨o1, ov, s1, E1, w1, hov, S, hl⟩⟩
  refine wpAny_bind (thn (hi.run pins s σ H _ I hrd) fun xv s1 h1 => ?_)
  refine wpAny_bind (wpAny_standAt ?_)
  refine wpAny_bind (wpAny_of_eq (hs xv) ?_)
  refine wpAny_bind (wpAny_holding (thn h1 fun itv s2 h2 => ?_))
  obtain ⟨it, fp, tn, J, H2, rfl, I2, Tn, st2, f2, o1, ov, s12, E2, w2, hov, S, hlen⟩ := h2
  refine wpAny_bind (wpAny_enterFrame I2.nolimit (by have := hr.dp; omega) ?_)
  refine wpAny_bind (wpAny_pure ?_)
  refine wpAny_bind (gen_code hcode I2 E2 fun c' P' H3 s3 I3 st3 fr3 nf3 hc' gP' hsz3 hk3 => ?_)
  obtain ⟨bm, ob, b1, b2, b3, b4, b5, b6⟩ := hBM
  refine wpAny_bind (wpAny_builtinsFor (m := X.mg) (by rw [I3.ok.glob]; exact I3.mod.glob.keeps I3.bk) b1 b2 (I3.bk _ _ b3) b4 b5 b6 ?_)
  refine wpAny_bind (newEnv_gen ok.kind gs.dot fun h' tk hn hs' => ?_)
  simp only [newGenerator, newFields]
  refine wpAny_bind (wpAny_newGen (wpAny_bind (wpAny_mkText (wpAny_bind (wpAny_mkText (wpAny_newObj_type ?_ (by size_fits)))))))
  suffices main : ∀ (gobj : Obj) (nm qn : Value) (tk3 : Nat), gobj.cls = .type "generator" → gobj.data = .fields #[.int s3.gens.size 0, nm, qn] → gobj.slots = #[] → (∀ h : Heap, (h.push gobj).get? h.objs.size = some gobj) →
      Q (.ref h'.objs.size) { s3 with heap := h'.push gobj, gens := s3.gens.push (.fresh (.compStart (.GeneratorExp elt [⟨tg, iter, ifs, 0⟩] scope pos) 0 (.ref it) .none (genEnv scope (cellsFrom (s3.heap.objs.size + 1) scope.names (cloFrom X.env.cells scope.names [])) s3.heap.objs.size (.ref c') builtinsNs X.env))), toks := tk3 } from
    main _ _ _ _ rfl rfl rfl fun h => Heap.get?_push_size _ rfl
  intro gobj nm qn tk3 gcl gd gsl gpush
  have no1 : Nd o1 := (own_right w2).nd n
  have E3 : Envs (kx X) H3 σ δ1 o1 := E2.fr fr3
  obtain ⟨ow, od, Ew, cw, hod, kr⟩ := Envs.rest (own.map (·.2)) E3 no1
  have nw : Nd ow := fun a => by have := cw a; have := no1 a; omega
  have sz4 : h'.objs.size = (pushCells (s3.heap.push { cls := .type "frame", data := .dict #[] }) scope.names).objs.size := hs'.1
  have sz4' : s3.heap.objs.size + 1 ≤ h'.objs.size := by
    rw [sz4]
    have := pushCells_size scope.names (s3.heap.push { cls := .type "frame", data := .dict #[] })
    rw [Heap.size_push] at this; exact this
  have k34 : ∀ b o, s3.heap.get? b = some o → h'.get? b = some o := fun b o e => hs'.extBut b o (Nat.ne_of_lt (Heap.lt_size e)) (pushCells_keeps _ _ _ _ (Heap.get?_push_of_some _ e))
  have fp3 : ∀ b ∈ fp, FpOk X pins H3 b ∧ b < s3.heap.objs.size := fun b hb => by
    obtain ⟨ob, e, _⟩ := Tn.obj _ _ st2 b hb
    have hlt := Heap.lt_size e
    exact ⟨⟨nf3 b (f2 b hb).1 hlt, (f2 b hb).2⟩, Nat.lt_of_lt_of_le hlt hsz3⟩
  have st3' : tn 0 s3.heap := Tn.keep _ _ _ st2 fun b hb o e => hk3 b o (f2 b hb).1 e
  generalize hcenv : genEnv scope (cellsFrom (s3.heap.objs.size + 1) scope.names (cloFrom X.env.cells scope.names [])) s3.heap.objs.size (.ref c') builtinsNs X.env = cenv
  have hloc : cenv.locals = s3.heap.objs.size := by rw [← hcenv]; rfl
  have hcd : cenv.code = .ref c' := by rw [← hcenv]; rfl
  have hscp : cenv.scope = scope := by rw [← hcenv]; rfl
  have gobAt : (h'.push gobj).get? h'.objs.size = some gobj := gpush h'
  have hisG : ∀ h : Heap, h.get? h'.objs.size = some gobj → h.IsGen h'.objs.size s3.gens.size := fun h e => ⟨gobj, nm, qn, e, gcl, gd, gsl⟩
  -- the generator's frame, whatever is made behind
  have start : ∀ (A : Around) (s6 : Shared), A.handled = none → A.frames = some X.stack → (∀ b o, (h'.push gobj).get? b = some o → s6.heap.get? b = some o) → s6.os = s3.os → AllBare s6.gens → Inv (X.gen (A.in1.deeper cenv) s3 H3 scope cenv fp) [] (L2.wipe σ (own.map (·.2))) H3 s6 := fun A s6 hA hfr hk6 ho hb6 => by
    subst hcenv
    refine inv_same (gen_start (A := A.in1.deeper _) (h' := h') (h5 := s6.heap) (g5 := s6.gens) (t5 := s6.toks) I3 ok hN fp3 ?_ hA hn hs' (fun b o e => hk6 b o (Heap.get?_push_of_some _ e)) hb6) rfl rfl ho
    exact Around.frames_deeper (show A.in1.frames = some X.stack from hfr)
  have nostk : ∀ b, s3.heap.objs.size ≤ b → b ∉ frs X.stack := fun b hb hm => by
    rcases List.mem_cons.mp (I3.stkSub b hm) with z | z
    · have := I3.lt; rw [← z] at this; exact absurd (Nat.lt_of_lt_of_le this hb) (Nat.lt_irrefl _)
    · exact I3.nofs hb z
  have sz5 : (h'.push gobj).objs.size = h'.objs.size + 1 := Heap.size_push ..
  have IB5 : ∀ (s6 : Shared), (∀ b o, (h'.push gobj).get? b = some o → s6.heap.get? b = some o) → s6.os = s3.os → AllBare s6.gens → Inv X pins σ H3 s6 := fun s6 hk6 ho hb6 => I3.call' (ch := []) ho (Un.kept fun b o e => hk6 b o (Heap.get?_push_of_some _ (k34 b o e))) (I3.hok.kept fun b o e => hk6 b o (Heap.get?_push_of_some _ (k34 b o e))) hb6 fun b z => by simp at z
  have bare5 : AllBare (s3.gens.push (.fresh (.compStart (.GeneratorExp elt [⟨tg, iter, ifs, 0⟩] scope pos) 0 (.ref it) .none cenv))) := I3.bare.push rfl
  have hR0 : R0.length ≤ sizeLine := Nat.le_trans (by
    have : ∀ (xs : List D) (r : List D), dG stop (gx (own.map (·.2)) b mt me (wipeD δ1 (own.map (·.2)))) xs = some r → r.length ≤ xs.length := by
      intro xs
      induction xs with
      | nil => intro r h; cases (Option.some.inj h : [] = r); exact Nat.le_refl _
      | cons x xs ih =>
        intro r h
        simp only [dG] at h
        split at h
        · cases h
        · exact Nat.le_succ_of_le (ih r h)
        · split at h
          · cases (Option.some.inj h); simp
          · split at h
            · rename_i r' e
              cases (Option.some.inj h)
              exact Nat.succ_le_succ (ih r' e)
            · cases h
    exact this _ _ hd) hlen
  have w3 : Own H o o1 := own_right w2
  have sH3 : Step H H3 (Wq q o) := ⟨fun a u e hn hu => st3.keep a u (s12.keep a u e hn hu) (by simp) hu, fun a e => s12.dom a (st3.dom a e), fun P g => st3.tab P (s12.tab P g)⟩
  refine hQ h'.objs.size _ H3 o1 sH3 E3 w3 hR0 ⟨Heap.IsGen.typeIs (s := { s3 with heap := h'.push gobj, gens := _, toks := tk3 }) (hisG _ gobAt), by show _ < (h'.push gobj).objs.size; rw [sz5]; exact Nat.lt_succ_self _, ⟨IB5 _ (fun _ _ e => e) rfl bare5, ⟨o1, E3, .refl _ _⟩, .refl _ _⟩, fun A Sx cd s6 hA hdp hrm hfr hS hC hKp => ?_⟩
  have hk6 : ∀ b o, (h'.push gobj).get? b = some o → s6.heap.get? b = some o := fun b o e => hC.keep b o (fun hm => by
    have h1 := hS b hm
    have h2 : b < (h'.push gobj).objs.size := Heap.lt_size e
    exact absurd (Nat.lt_of_lt_of_le h2 h1) (Nat.lt_irrefl _)) e
  have gn6 : s6.gens = s3.gens.push (.fresh (.compStart (.GeneratorExp elt [⟨tg, iter, ifs, 0⟩] scope pos) 0 (.ref it) .none cenv)) := hC.gens
  have Ig := start A s6 hA hfr hk6 hC.os (by rw [gn6]; exact bare5)
  have hS5 : ∀ b ∈ Sx, h'.objs.size + 1 ≤ b := fun b hb => by rw [← sz5]; exact hS b hb
  have ndS : h'.objs.size ∉ Sx := fun hm => absurd (hS5 _ hm) (Nat.not_succ_le_self _)
  have cells : ∀ x c, cenv.cells.lookup x = some c → c < (h'.push gobj).objs.size := fun x c e => by
    have I5 := start A { s3 with heap := h'.push gobj, gens := s3.gens.push (.fresh (.compStart (.GeneratorExp elt [⟨tg, iter, ifs, 0⟩] scope pos) 0 (.ref it) .none cenv)) } hA hfr (fun _ _ e => e) rfl bare5
    obtain ⟨v, z⟩ := I5.cell x c e
    exact z.lt
  have En' : Envs ⟨X.F, .ref c'⟩ H3 (L2.wipe σ (own.map (·.2))) (wipeD δ1 (own.map (·.2))) ow := Envs.cv (κ := kx X) Ew fun c e => by cases e; exact ⟨P', .inr hc', gP'⟩
  have En2 : Envs (kx (X.gen (A.in1.deeper cenv) s3 H3 scope cenv fp)) H3 (L2.wipe σ (own.map (·.2))) (wipeD δ1 (own.map (·.2))) ow := by
    show Envs ⟨X.F, cenv.code⟩ _ _ _ _
    rw [hcd]; exact En'
  have G : GInv (X.gen (A.in1.deeper cenv) s3 H3 scope cenv fp) (L2.wipe σ (own.map (·.2))) (wipeD δ1 (own.map (·.2))) fp tn H3 ow (h'.objs.size :: Sx) Sx (cd 0) (pinsAt (h'.objs.size :: Sx) s6.heap) 0 H3 s6 := by
    refine ⟨Ig.pins_of fun p hp => ?_, Tn.keep _ _ _ st3' fun b hb o e => hk6 b o (Heap.get?_push_of_some _ (k34 b o e)), fun b hb => (fp3 b hb).1.1, ⟨ow, En2, .refl _ _⟩, .refl _ _, fun b hb => ?_, fun p hp hf => ?_, hKp⟩
    · obtain ⟨hb, e⟩ := of_pinsAt hp
      have hge : s3.heap.objs.size + 1 ≤ p.1 := by
        rcases List.mem_cons.mp hb with z | z
        · rw [z]; exact sz4'
        · exact Nat.le_trans (Nat.le_succ_of_le sz4') (hS5 _ z)
      refine ⟨e, I3.hok.fresh (Nat.le_of_succ_le hge), ?_, nostk _ (Nat.le_of_succ_le hge), fun v hv => ?_⟩
      · show p.1 ≠ cenv.locals
        rw [hloc]; exact Nat.ne_of_gt hge
      · rcases List.mem_cons.mp hb with z | z
        · rw [z, hk6 _ _ gobAt] at e
          rw [← Option.some.inj e, gd] at hv; cases hv
        · obtain ⟨o', e', hn'⟩ := hC.own _ z
          rw [e'] at e
          rw [← Option.some.inj e] at hv
          exact hn' v hv
    · rcases List.mem_cons.mp hb with rfl | hb
      · exact ⟨_, hk6 _ _ gobAt⟩
      · obtain ⟨o', e', _⟩ := hC.own b hb
        exact ⟨o', e'⟩
    · obtain ⟨hb, e⟩ := of_pinsAt hp
      have hlt := (fp3 _ hf).2
      rcases List.mem_cons.mp hb with z | z
      · rw [z] at hlt; exact absurd (Nat.lt_of_lt_of_le hlt (Nat.le_of_succ_le sz4')) (Nat.lt_irrefl _)
      · exact absurd (Nat.lt_of_lt_of_le hlt (Nat.le_trans (Nat.le_of_succ_le sz4') (Nat.le_of_succ_le (hS5 _ z)))) (Nat.lt_irrefl _)
  have Srun : ∀ i H, Step H3 H ow → (∃ o', Envs (kx (X.gen (A.in1.deeper cenv) s3 H3 scope cenv fp)) H (L2.wipe σ (own.map (·.2))) (wipeD δ1 (own.map (·.2))) o' ∧ Own H3 ow o') → (∀ x, src.xs[i]? = some x → J.go i H ∧ ∀ v H'', J.yld i H v H'' → (∀ a u, H a = some u → H'' a = some u) ∧ Rep X.F H'' x v []) ∧ (src.xs.length ≤ i → J.stop i H) := fun i H st ⟨o', E', w'⟩ => by
    have E4 : Envs (kx X) H (L2.wipe σ (own.map (·.2))) (wipeD δ1 (own.map (·.2))) o' := Envs.cv (cv := X.env.code) E' (E3.tabs.step st Ew.ok).2
    obtain ⟨o3, E5, _⟩ := kr st E4
    rw [rest_wipe] at E5
    refine S i H (fun a ha => ?_) (fun a u e hu => ?_) fun p hp => gOk_rep E5 hgo p hp
    · obtain ⟨us, e, how⟩ := hov a ha
      rw [e]
      refine st.keep a _ (st3.keep a _ e (by simp) how.2) (fun hz => nd_split (w2.nd n) a ha ?_) how.2
      have h5 : 0 < ow.count a := List.count_pos_iff.mpr hz
      have h6 := cw a
      exact List.count_pos_iff.mp (show 0 < o1.count a by omega)
    · refine st.keep a u (st3.keep a u e (by simp) hu.nt) (fun hz => ?_) hu.nt
      obtain ⟨us, e2, how⟩ := Ew.own a hz
      rw [st3.keep a u e (by simp) hu.nt] at e2; cases e2; exact how.1 hu
  have Ga : Gat (X.gen (A.in1.deeper cenv) s3 H3 scope cenv fp) (L2.wipe σ (own.map (·.2))) (wipeD δ1 (own.map (·.2))) fp tn H3 ow (h'.objs.size :: Sx) Sx cd stop R0 A.in1 s3.gens.size 0 R0 s6 := by
    refine ⟨by rw [gn6, Array.size_push]; exact Nat.lt_succ_self _, _, by rw [gn6]; exact Array.getElem?_push_size .., fun s'' H'' G'' => ?_⟩
    have seg := seg_gen0 (Xg := X.gen (A.in1.deeper cenv) s3 H3 scope cenv fp) (Ac := A.in1) (cenv := cenv) (iter := iter) (scope := scope) (pos := pos) (qt := qt) (qe := qe) (R0 := R0) rfl rfl rfl rfl rfl hc (by rw [hscp]; exact gs.co) Tn
      (by have := hg (A.in1.deeper cenv) s3 H3 s3.heap.objs.size c' (cellsFrom (s3.heap.objs.size + 1) scope.names (cloFrom X.env.cells scope.names [])) fp (hrm cenv)
          rw [hcenv] at this
          show PG _ tg (TGm ⟨X.F, cenv.code⟩ _ b)
          rw [hcd]; exact this)
      (by have := ht (A.in1.deeper cenv) s3 H3 s3.heap.objs.size c' (cellsFrom (s3.heap.objs.size + 1) scope.names (cloFrom X.env.cells scope.names [])) fp (hrm cenv)
          rw [hcenv] at this
          show PTs _ ifs (TT ⟨X.F, cenv.code⟩ qt mt)
          rw [hcd]; exact this)
      (by have := he (A.in1.deeper cenv) s3 H3 s3.heap.objs.size c' (cellsFrom (s3.heap.objs.size + 1) scope.names (cloFrom X.env.cells scope.names [])) fp (hrm cenv)
          rw [hcenv] at this
          show PE _ elt (T ⟨X.F, cenv.code⟩ qe me)
          rw [hcd]; exact this) nw Srun s'' H'' hd (fun b hb => List.mem_cons_of_mem _ hb) (by rw [Nat.sub_self] at G''; exact G'')
    exact ⟨rfl, seg⟩
  refine gst_of (Ag := A.in1.deeper cenv) (scope := scope) (cenv := cenv) (tn := tn) (g := s3.gens.size) (R0 := R0) I3 (fun b hb => (fp3 b hb).1) E3 cw hod Ew.ok kr hA hdp ndS (fun b hb => ?_) (fun i h h2 t => Tn.keep i h h2 t) R0 [] 0 H3 s6 _ rfl (fun d hd => nomatch hd) (hisG _ (hk6 _ _ gobAt)) G Ga
  have h5 := hS5 b hb
  have h6 : s3.heap.objs.size < b := Nat.lt_of_lt_of_le (Nat.lt_of_succ_le sz4') (Nat.le_of_succ_le h5)
  refine ⟨Nat.le_of_lt h6, by rw [hloc]; exact Nat.ne_of_gt h6, fun x c e z => ?_, fun hf => ?_⟩
  · have := cells x c e
    rw [sz5, z] at this; exact absurd (Nat.lt_of_lt_of_le this h5) (Nat.lt_irrefl _)
  · exact absurd (Nat.lt_trans (fp3 b hf).2 h6) (Nat.lt_irrefl _)
end
end Z


set_option Elab.async false
set_option linter.all false
set_option maxRecDepth 100000
/-! all, any of a generator expression -/
namespace Z
open PySem PySem.Spec PyProof.Rows L2

/-- a plain value's truth -/
def truthS : D → Option Bool
  | .non => some false
  | .bl b => some b
  | .int i => some (i != 0)
  | .str x => some ((x.length : Int) != 0)
  | _ => none
def allT : List D → Option Bool
  | [] => some true
  | d :: r => match truthS d with
    | some true => allT r
    | x => x
def anyT : List D → Option Bool
  | [] => some false
  | d :: r => match truthS d with
    | some false => anyT r
    | x => x
def stopAll (d : D) : Bool := match truthS d with | some true => false | _ => true
def stopAny (d : D) : Bool := match truthS d with | some false => false | _ => true
/-- a generator expression that is walked to its end, or to the first that stops -/
def dGe (vs : List Nat) (ms : DenS) (b : Bnd) (mt : DenT) (me : Den) (stop : D → Bool) : DE → Option (List D × DE) := fun δ => match ms δ with
  | some (src, δ1) => if gOk src.gs δ1 then match dG stop (gx vs b mt me (wipeD δ1 vs)) src.xs with
    | some r => some (r, δ1)
    | none => none
    else none
  | none => none
def dFold (f : List D → Option D) (m : DE → Option (List D × DE)) : Den := fun δ => match m δ with
  | some (r, δ1) => match f r with
    | some d => some (.own d, δ1)
    | none => none
  | none => none
def fAll (r : List D) : Option D := (allT r).map .bl
def fAny (r : List D) : Option D := (anyT r).map .bl
theorem truth_s {M : Program} {w : World} {A : Around} {K : Fw} {H : Hp} {d : D} {x : V} {v : Value} {o : List Addr} {b : Bool} {s : Shared} {E : Value → Shared → Prop} {Q : Bool → Shared → Prop} (h : truthS d = some b) (r : Rep K H d x o) (rx : RelV x v) (hQ : ∀ tk, Q b { s with toks := tk }) : wpAny (model M w) A (truthy v) Q E s := by
  cases d <;> simp only [truthS, reduceCtorEq, Option.some.injEq] at h
  · obtain ⟨rfl, _⟩ := r
    obtain rfl : v = Value.none := rx
    subst h
    exact truthy_none (hQ s.toks)
  · obtain ⟨rfl, _⟩ := r
    obtain rfl : v = Value.bool _ := rx
    subst h
    exact wpAny_truthy_bool (hQ s.toks)
  · obtain ⟨rfl, _⟩ := r
    obtain ⟨t, rfl⟩ := (show ∃ t, v = Value.int _ t from rx)
    subst h
    exact P.truthy_int (hQ s.toks)
  · obtain ⟨rfl, hz, _⟩ := r
    obtain ⟨t, rfl⟩ := (show ∃ t, v = Value.str _ t from rx)
    subst h
    exact P.truthy_str (by have := hz.1; have h2 : sizeLine < 2 ^ 63 := by decide
                           omega) (hQ _)
theorem iter_gen {M : Program} {w : World} {A : Around} {a : Addr} {s : Shared} {E : Value → Shared → Prop} {Q : Value → Shared → Prop} (ty : s.TypeIs (.ref a) "generator") (h : Q (.ref a) s) : wpAny (model M w) A (pyIter (.ref a)) Q E s := by
  refine wpAny_pyIter_slot ty slot_gen_iter (wpAny_call_entry slot_gen_iter ty entry_gen_iter ?_ (args_gen_iter _))
  show wpAny _ _ (ret (.ref a)) _ _ s
  exact wpAny_pure ⟨_, rfl, "generator", _, ty, slot_gen_next.lookup, h⟩
section
variable {X : Cx} {pins : List (Addr × Obj)} {σ : L2.St} {δ : DE} {o : List Addr} {Hx : Hp} {A : Around} {a : Addr}
theorem Back.tok {H : Hp} {s : Shared} (B : Back X pins σ δ o Hx H s) (t : Nat) : Back X pins σ δ o Hx H { s with toks := t } := ⟨B.inv.tok t, B.env, B.step⟩
theorem chg_tok {s : Shared} (t : Nat) : Chg [] s { s with toks := t } := ⟨rfl, rfl, fun _ _ _ e => e, fun b hb => nomatch hb⟩
theorem keeps_none {K : Fw} {gd : List D} {H : Hp} {s : Shared} : Keeps K [] gd H s := fun b hb => nomatch hb
theorem all_loop {cd : Nat → List D} {R : Result → Shared → Prop} {bo : Bool} : ∀ (r : List D) (j : Nat) (H : Hp) (s : Shared), GSt X pins σ δ o Hx A.in1 a stopAll [] cd j r H s → allT r = some bo → (∀ s' H', Back X pins σ δ o Hx H' s' → R (.ok (.ret (.bool bo))) s') →
    codeAny (model X.prog X.w) A (.builtin "all.loop" ⟨[.ref a], []⟩) R s
  | [], j, H, s, g, hb, hR => by
    cases (Option.some.inj hb : true = bo)
    refine codeAny_builtin F.entry_all_loop ?_
    rw [Around.under_plainId F.plain_all_loop _]
    show wpAny _ A.in1 (pyNext (.ref a) >>= _) _ _ s
    refine wpAny_bind (g.2.2 s _ _ (.refl fun b hb => nomatch hb) keeps_none fun s' H' B _ _ => ?_)
    exact wpAny_bind (wpAny_rule (wpAny_pure (hR s' H' B)))
  | d :: r, j, H, s, g, hb, hR => by
    refine codeAny_builtin F.entry_all_loop ?_
    rw [Around.under_plainId F.plain_all_loop _]
    show wpAny _ A.in1 (pyNext (.ref a) >>= _) _ _ s
    refine wpAny_bind (g.2.2 s _ _ (.refl fun b hb => nomatch hb) keeps_none fun v x s' H' rx rep B _ _ gn => ?_)
    simp only [allT] at hb
    cases ht : truthS d with
    | none => rw [ht] at hb; cases hb
    | some bt =>
      rw [ht] at hb
      refine wpAny_bind (wpAny_holding (truth_s ht rep rx fun tk => ?_))
      refine wpAny_bind (wpAny_letGo ?_)
      cases bt with
      | true =>
        simp only [if_true]
        have g2 := gn (by simp [stopAll, ht])
        exact wpAny_pure ⟨plainId_quiet F.plain_all_loop _, all_loop r (j + 1) H' _ (g2.chg (chg_tok tk) (B.tok tk) g2.ty) hb hR⟩
      | false =>
        cases (Option.some.inj hb : false = bo)
        simp only [Bool.false_eq_true, if_false]
        exact wpAny_bind (wpAny_rule (wpAny_pure (hR _ H' (B.tok tk))))
theorem any_loop {cd : Nat → List D} {R : Result → Shared → Prop} {bo : Bool} : ∀ (r : List D) (j : Nat) (H : Hp) (s : Shared), GSt X pins σ δ o Hx A.in1 a stopAny [] cd j r H s → anyT r = some bo → (∀ s' H', Back X pins σ δ o Hx H' s' → R (.ok (.ret (.bool bo))) s') →
    codeAny (model X.prog X.w) A (.builtin "any.loop" ⟨[.ref a], []⟩) R s
  | [], j, H, s, g, hb, hR => by
    cases (Option.some.inj hb : false = bo)
    refine codeAny_builtin F.entry_any_loop ?_
    rw [Around.under_plainId F.plain_any_loop _]
    show wpAny _ A.in1 (pyNext (.ref a) >>= _) _ _ s
    refine wpAny_bind (g.2.2 s _ _ (.refl fun b hb => nomatch hb) keeps_none fun s' H' B _ _ => ?_)
    exact wpAny_bind (wpAny_rule (wpAny_pure (hR s' H' B)))
  | d :: r, j, H, s, g, hb, hR => by
    refine codeAny_builtin F.entry_any_loop ?_
    rw [Around.under_plainId F.plain_any_loop _]
    show wpAny _ A.in1 (pyNext (.ref a) >>= _) _ _ s
    refine wpAny_bind (g.2.2 s _ _ (.refl fun b hb => nomatch hb) keeps_none fun v x s' H' rx rep B _ _ gn => ?_)
    simp only [anyT] at hb
    cases ht : truthS d with
    | none => rw [ht] at hb; cases hb
    | some bt =>
      rw [ht] at hb
      refine wpAny_bind (wpAny_holding (truth_s ht rep rx fun tk => ?_))
      refine wpAny_bind (wpAny_letGo ?_)
      cases bt with
      | false =>
        simp only [Bool.false_eq_true, if_false]
        have g2 := gn (by simp [stopAny, ht])
        exact wpAny_pure ⟨plainId_quiet F.plain_any_loop _, any_loop r (j + 1) H' _ (g2.chg (chg_tok tk) (B.tok tk) g2.ty) hb hR⟩
      | true =>
        cases (Option.some.inj hb : true = bo)
        simp only [if_true]
        exact wpAny_bind (wpAny_rule (wpAny_pure (hR _ H' (B.tok tk))))
end
/-- a judgement of a generator expression that a consumer will walk -/
structure PGx (X : Cx) (k : Nat) (e : Expr) (stop : D → Bool) (m : DE → Option (List D × DE)) : Prop where
  run : ∀ (pins : List (Addr × Obj)) (s : Shared) (σ : L2.St) (H : Hp) (δ : DE) (o : List Addr) (R0 : List D) (δ1 : DE) (Q : Value → Shared → Prop), Inv X pins σ H s → Envs (kx X) H σ δ o → Nd o → m δ = some (R0, δ1) →
    (∀ a s5 Hx o1, Step H Hx o → Envs (kx X) Hx σ δ1 o1 → Own H o o1 → R0.length ≤ sizeLine → GMk X pins σ δ1 o1 Hx k a stop R0 s5 → Q (.ref a) s5) → wpAny (model X.prog X.w) X.A (eval e X.env) Q X.xe s
section
variable {X : Cx} {elt tg iter : Expr} {ifs : List Expr} {scope : Scope} {own : List (Str × Nat)} {pos : Pos} {ms : DenS} {b : Bnd} {mt : DenT} {me : Den} {q qt qe : Bool} {k : Nat} {stop : D → Bool}
theorem z_gen {cc : Addr} (hr : Room (k + 1) X.A) (hcode : X.env.code = .ref cc) (hc : X.calm = true) (hN : X.N.Nodup) (hBM : BMod X.base X.mg) (gs : GSc scope)
    (hi : PI X tg iter (TIm (kx X) q ms)) (ok : BlkOk X.N X.env.scope scope own)
    (hg : ∀ (Ag : Around) (s : Shared) (H : Hp) (C c' : Addr) (cl : List (Str × Addr)) (fp : List Addr), Room k Ag → PG (X.gen Ag s H scope (genEnv scope cl C (.ref c') builtinsNs X.env) fp) tg (TGm ⟨X.F, .ref c'⟩ (kpOut (own.map (·.2))) b))
    (ht : ∀ (Ag : Around) (s : Shared) (H : Hp) (C c' : Addr) (cl : List (Str × Addr)) (fp : List Addr), Room k Ag → PTs (X.gen Ag s H scope (genEnv scope cl C (.ref c') builtinsNs X.env) fp) ifs (TT ⟨X.F, .ref c'⟩ qt mt))
    (he : ∀ (Ag : Around) (s : Shared) (H : Hp) (C c' : Addr) (cl : List (Str × Addr)) (fp : List Addr), Room k Ag → PE (X.gen Ag s H scope (genEnv scope cl C (.ref c') builtinsNs X.env) fp) elt (T ⟨X.F, .ref c'⟩ qe me))
    (hs : ∀ v, genFold iter X.env v = pure v := by intro _; rfl) : PGx X k (.GeneratorExp elt [⟨tg, iter, ifs, 0⟩] scope pos) stop (dGe (own.map (·.2)) ms b mt me stop) := by
  refine ⟨fun pins s σ H δ o R0 δ1 Q I E n hm hQ => ?_⟩
  simp only [dGe] at hm
  cases h1 : ms δ with
  | none => rw [h1] at hm; simp at hm
  | some p =>
    obtain ⟨src, δ2⟩ := p
    rw [h1] at hm; dsimp only at hm
    by_cases hgo : gOk src.gs δ2 = true
    case neg => rw [if_neg hgo] at hm; cases hm
    rw [if_pos hgo] at hm
    cases h2 : dG stop (gx (own.map (·.2)) b mt me (wipeD δ2 (own.map (·.2)))) src.xs with
    | none => rw [h2] at hm; simp at hm
    | some r =>
      rw [h2] at hm
      simp only [Option.some.injEq, Prod.mk.injEq] at hm
      obtain ⟨rfl, rfl⟩ := hm
      exact gen_make hr hcode hc hN hBM gs hi ok hg ht he hs I E n h1 hgo h2 fun a s5 Hx o1 st E1 w1 hl g => hQ a s5 Hx o1 (st.mono Wq_sub) E1 w1 hl g
theorem room_gen {A : Around} (hr : Room (k + 1) A) : ∀ e, Room k (A.in1.in1.deeper e) := fun e => ⟨hr.hd, by have := hr.dp; show A.depth + 1 + 3 * k + 5 < _; omega, by have := hr.un; show A.units + 1 + 1 + 3 + 16 * k + 200 < _; omega⟩
/-- a generator given to a built-in function: what the call is to do -/
theorem z_fold {e : Expr} {m : DE → Option (List D × DE)} {f : List D → Option D} {nm : Str} {bid : String} {p : Pos} (hg : Gl X nm) (hm : X.mg nm = none) (hb : bootBuiltins nm = some (.builtin bid)) (he : PGx X k e stop m)
    (hcall : ∀ (pins : List (Addr × Obj)) (σ : L2.St) (δ1 : DE) (o1 : List Addr) (Hx : Hp) (a : Addr) (R0 : List D) (d : D) (s5 : Shared) (Q : Value → Shared → Prop), Inv X pins σ Hx s5 → R0.length ≤ sizeLine → GMk X pins σ δ1 o1 Hx k a stop R0 s5 → f R0 = some d → (∀ s' H' H'' v x ov, (∃ o', Envs (kx X) H' σ δ1 o' ∧ Own Hx o1 o') → Step Hx H' o1 → Inv X pins σ H'' s' → (∀ a u, H' a = some u → H'' a = some u) → RelV x v → Rep X.F H'' d x ov → Fresh H' ov → Q v s') → wpAny (model X.prog X.w) X.A (call (.builtin bid) [.ref a]) Q X.xe s5)
    (hnm : nm ≠ "__name__" := by decide) (hdb : (nm == ("__debug__" : Str)) = false := by decide) (hst : starEach [e] X.env = (false, eval e X.env) :: starEach [] X.env := by rfl) : PE X (.Call (.Name nm p) [e] [] pos) (T (kx X) false (dFold f m)) := by
  refine ⟨fun pins s σ H Q I h => ?_⟩
  obtain ⟨δ, o, r, δ', E, n, hmm, kq⟩ := h
  simp only [dFold] at hmm
  cases h1 : m δ with
  | none => rw [h1] at hmm; simp at hmm
  | some p1 =>
    obtain ⟨R0, δ1⟩ := p1
    rw [h1] at hmm; dsimp only at hmm
    cases h2 : f R0 with
    | none => rw [h2] at hmm; simp at hmm
    | some d =>
      rw [h2] at hmm
      simp only [Option.some.injEq, Prod.mk.injEq] at hmm
      obtain ⟨rfl, rfl⟩ := hmm
      refine wpAny_Call_Name_kw (ld_blt I hg hm hb ?_ hnm hdb)
      refine PyProof.Rows.callWith_builtin1 ?_ hst (by rfl)
      rw [hst]
      show wpAny _ _ (spliced ((false, eval e X.env) :: backTo pos (starEach [] X.env))) _ _ s
      refine Calls.spliced_cons (he.run pins s σ H δ o R0 δ1 _ I E n h1 fun a s5 Hx o1 st E1 w1 hl g => ?_)
      refine Calls.spliced_nil ?_
      refine hcall pins σ δ1 o1 Hx a R0 d s5 _ g.2.2.1.inv hl g h2 fun s' H' H'' v x ov Be Bs I2 hk rx rep fr => ?_
      obtain ⟨o', E', w'⟩ := Be
      refine ⟨x, H'', I2, rx, kq x H'' o' ov ⟨(st.trans w1 Bs).same hk, E'.same hk, rep, ?_⟩⟩
      exact own_fresh (w1.trans st w') (st.trans w1 Bs) fr E'.dom
theorem z_all {e : Expr} {m : DE → Option (List D × DE)} {p : Pos} (hr : Room (k + 1) X.A) (hg : Gl X "all") (hm : X.mg "all" = none) (he : PGx X k e stopAll m)
    (hst : starEach [e] X.env = (false, eval e X.env) :: starEach [] X.env := by rfl) : PE X (.Call (.Name "all" p) [e] [] pos) (T (kx X) false (dFold fAll m)) := by
  refine z_fold (bid := "all") hg hm (by decide +kernel) he (fun pins σ δ1 o1 Hx a R0 d s5 Q I hl g hf hQ => ?_) (by decide) (by decide) hst
  obtain ⟨ty, _, B5, gg⟩ := g
  simp only [fAll] at hf
  cases hb : allT R0 with
  | none => rw [hb] at hf; cases hf
  | some bo =>
    rw [hb] at hf
    cases (Option.some.inj hf : D.bl bo = d)
    have gst := gg X.A.in1 [] (fun _ => []) s5 hr.hd (by have := hr.dp; show X.A.depth < _; omega) (room_gen hr) I.ok.frames (fun b hb => nomatch hb) (.refl fun b hb => nomatch hb) keeps_none
    refine call_function_tree F.kind_all F.plain_all F.entry_all (F.args_all1 _) ?_
    unfold Builtin.«all»
    refine wpAny_bind (m := oneArg "all" _) (wpAny_pure ?_)
    refine wpAny_bind (iter_gen ty ?_)
    exact wpAny_pure ⟨plainId_quiet F.plain_all_loop _, all_loop (A := X.A) R0 0 Hx s5 gst hb fun s' H' B => hQ s' H' H' _ (.bl bo) [] B.env B.step B.inv (fun _ _ e => e) rfl ⟨rfl, rfl⟩ fresh_nil⟩
theorem z_any {e : Expr} {m : DE → Option (List D × DE)} {p : Pos} (hr : Room (k + 1) X.A) (hg : Gl X "any") (hm : X.mg "any" = none) (he : PGx X k e stopAny m)
    (hst : starEach [e] X.env = (false, eval e X.env) :: starEach [] X.env := by rfl) : PE X (.Call (.Name "any" p) [e] [] pos) (T (kx X) false (dFold fAny m)) := by
  refine z_fold (bid := "any") hg hm (by decide +kernel) he (fun pins σ δ1 o1 Hx a R0 d s5 Q I hl g hf hQ => ?_) (by decide) (by decide) hst
  obtain ⟨ty, _, B5, gg⟩ := g
  simp only [fAny] at hf
  cases hb : anyT R0 with
  | none => rw [hb] at hf; cases hf
  | some bo =>
    rw [hb] at hf
    cases (Option.some.inj hf : D.bl bo = d)
    have gst := gg X.A.in1 [] (fun _ => []) s5 hr.hd (by have := hr.dp; show X.A.depth < _; omega) (room_gen hr) I.ok.frames (fun b hb => nomatch hb) (.refl fun b hb => nomatch hb) keeps_none
    refine call_function_tree F.kind_any F.plain_any F.entry_any (F.args_any1 _) ?_
    unfold Builtin.«any»
    refine wpAny_bind (m := oneArg "any" _) (wpAny_pure ?_)
    refine wpAny_bind (iter_gen ty ?_)
    exact wpAny_pure ⟨plainId_quiet F.plain_any_loop _, any_loop (A := X.A) R0 0 Hx s5 gst hb fun s' H' B => hQ s' H' H' _ (.bl bo) [] B.env B.step B.inv (fun _ _ e => e) rfl ⟨rfl, rfl⟩ fresh_nil⟩
end
end Z


set_option Elab.async false
set_option linter.all false
set_option maxRecDepth 100000
/-! tuple, sum, join of a generator expression -/
namespace Z
open PySem PySem.Spec PyProof.Rows L2
open AutoSeq1 (wpAny_loadPart')

def never (_ : D) : Bool := false
section
variable {X : Cx} {pins : List (Addr × Obj)} {σ : L2.St} {δ : DE} {o : List Addr} {Hx : Hp} {A : Around} {a : Addr}
/-- the consumer's own list changes -/
theorem Back.own {H : Hp} {s : Shared} {h' : Heap} {b : Addr} (B : Back X pins σ δ o Hx H s) (hf : FpOk X pins H b) (k : ∀ c ob, c ≠ b → s.heap.get? c = some ob → h'.get? c = some ob) (t : Nat) : Back X pins σ δ o Hx H { s with heap := h', toks := t } :=
  ⟨B.inv.turned (it := b) k hf.1 hf.2.1 hf.2.2.2.1 hf.2.2.2.2.1 hf.2.2.2.2.2, B.env, B.step⟩
theorem FpOk.at {H H' : Hp} {b : Addr} (h : FpOk X pins H b) (hn : H' b = none) : FpOk X pins H' b := ⟨hn, h.2⟩
theorem extend_loop {R : Result → Shared → Prop} {R0 : List D} {S0 : Addr} {res : Value} (hl : R0.length ≤ sizeLine) (hSa : S0 ≠ a) {Hf : Hp} (hf : FpOk X pins Hf S0) (hR : ∀ s' H' acc c gv, Back X pins σ δ o Hx H' s' → s'.heap.get? S0 = some (lstObj acc c) → Vals gv acc.toList → Reps X.F H' R0 gv [] → H' S0 = none → R (.ok (.ret res)) s') :
    ∀ (r : List D) (j : Nat) (H : Hp) (s : Shared), R0 = R0.take j ++ r → j + r.length = R0.length → GSt X pins σ δ o Hx A.in1 a never [S0] (fun j => R0.take j) j r H s → Keeps X.F [S0] (R0.take j) H s →
    codeAny (model X.prog X.w) A (.builtin "list.extend.loop" ⟨[.ref S0, .ref a, res], []⟩) R s
  | [], j, H, s, hr, hj, g, hk => by
    have hlive : ∀ b ∈ [S0], ∃ ob, s.heap.get? b = some ob ∧ ∀ v, ob.data ≠ .cell v := fun b hb => by
      obtain ⟨acc, c, gv, e, _⟩ := hk b hb
      exact ⟨_, e, fun v z => nomatch z⟩
    refine codeAny_builtin F.entry_extend_loop ?_
    rw [Around.under_plainId F.plain_extend_loop _]
    show wpAny _ A.in1 (pyNext (.ref a) >>= _) _ _ s
    refine wpAny_bind (g.2.2 s _ _ (.refl hlive) hk fun s' H' B sk hk' => ?_)
    obtain ⟨acc, c, gv, e, va, re, hn⟩ := hk' S0 List.mem_cons_self
    rw [List.append_nil] at hr
    exact wpAny_pure (hR s' H' acc c gv B e va (by rw [hr]; exact re) hn)
  | d :: r, j, H, s, hr, hj, g, hk => by
    have hlive : ∀ b ∈ [S0], ∃ ob, s.heap.get? b = some ob ∧ ∀ v, ob.data ≠ .cell v := fun b hb => by
      obtain ⟨acc, c, gv, e, _⟩ := hk b hb
      exact ⟨_, e, fun v z => nomatch z⟩
    refine codeAny_builtin F.entry_extend_loop ?_
    rw [Around.under_plainId F.plain_extend_loop _]
    show wpAny _ A.in1 (pyNext (.ref a) >>= _) _ _ s
    refine wpAny_bind (g.2.2 s _ _ (.refl hlive) hk fun v x s' H' rx rep B sk hk' gn => ?_)
    obtain ⟨acc, c, gv, e, va, re, hn⟩ := hk' S0 List.mem_cons_self
    have hsz : acc.size = j := by
      have h1 := va.length
      have h2 := re.length
      rw [List.length_take, List.length_cons] at *
      have h3 : acc.toList.length = acc.size := by simp
      omega
    rw [List.length_cons] at hj
    have ht : R0.take (j + 1) = R0.take j ++ [d] := by
      have : R0[j]? = some d := by
        rw [hr, List.getElem?_append_right (by rw [List.length_take]; omega), List.length_take, show j - min j R0.length = 0 by omega]; rfl
      rw [List.take_add_one, this]; rfl
    show wpAny _ A.in1 (updateSeq S0 (·.push v) >>= _) _ _ _
    refine wpAny_bind ?_
    have e2 := Heap.get?_update_self (Obj.mapSeq (·.push v)) e rfl
    have kp : ∀ b ob, b ≠ S0 → s'.heap.get? b = some ob → (s'.heap.update S0 (Obj.mapSeq (·.push v))).get? b = some ob := fun b ob hb eb => (Heap.get?_update_other _ _ (Ne.symm hb)).trans eb
    refine wpAny_updateSeq e rfl (wpAny_pure ⟨plainId_quiet F.plain_extend_loop _, ?_⟩) (by rw [hsz]; omega) (by show (acc.push v).size ≤ sizeLine + 1; rw [Array.size_push, hsz]; omega)
    have B2 := B.own ⟨hn, hf.2⟩ kp s'.toks
    have g2 := gn rfl
    have ty2 : Shared.TypeIs { s' with heap := s'.heap.update S0 (Obj.mapSeq (·.push v)) } (.ref a) "generator" := by
      obtain ⟨ob, e, q⟩ := g2.ty
      exact ⟨ob, kp a ob (Ne.symm hSa) e, q⟩
    have ch : Chg [S0] s' { s' with heap := s'.heap.update S0 (Obj.mapSeq (·.push v)) } := ⟨rfl, rfl, fun b ob hb eb => kp b ob (fun z => hb (by rw [z]; exact List.mem_cons_self)) eb, fun b hb => by
      rw [List.mem_singleton.mp hb]
      exact ⟨_, e2, fun v z => nomatch z⟩⟩
    refine extend_loop hl hSa hf hR r (j + 1) H' _ (by rw [ht, List.append_assoc]; exact hr) (by omega) (g2.chg ch B2 ty2) fun b hb => ?_
    rw [List.mem_singleton.mp hb]
    refine ⟨acc.push v, _, gv ++ [x], e2, by rw [Array.toList_push]; exact va.append (.cons rx .nil), ?_, hn⟩
    rw [ht]
    exact re.append (Reps.one rep)
theorem collect_gen {k : Nat} {R0 : List D} {s : Shared} {E : Value → Shared → Prop} {Q : List Value → Shared → Prop} (hh : A.handled = none) (hdp : A.depth < recursionLimit) (hrm : ∀ e, Room k (A.in1.in1.deeper e)) (hfr : A.frames = some X.stack) (hl : R0.length ≤ sizeLine) (g : GMk X pins σ δ o Hx k a never R0 s)
    (hQ : ∀ s' H' acc gv, Back X pins σ δ o Hx H' s' → Vals gv acc → Reps X.F H' R0 gv [] → Q acc s') : wpAny (model X.prog X.w) A (collect (.ref a)) Q E s := by
  obtain ⟨ty, hlt, B5, gg⟩ := g
  have hSa : s.heap.objs.size ≠ a := Nat.ne_of_gt hlt
  have hf : FpOk X pins Hx s.heap.objs.size := B5.inv.fpOk (Nat.le_refl _) (B5.inv.hok.fresh (Nat.le_refl _))
  unfold collect
  refine wpAny_bind (wpAny_runValue (codeAny_builtin F.entry_proto_collect ?_))
  rw [Around.under_plainId F.plain_proto_collect _]
  show wpAny _ A.in1 (newList [] >>= fun l => again (.builtin "list.__iadd__" ⟨[l, .ref a], []⟩)) _ _ s
  refine wpAny_bind (wpAny_newObj_type ?_)
  refine wpAny_pure ⟨plainId_quiet F.plain_list_iadd _, codeAny_builtin F.entry_list_iadd ?_⟩
  rw [Around.under_plainId F.plain_list_iadd _]
  have ty2 : Shared.TypeIs { s with heap := s.heap.push { cls := .type "list", data := .seq ([] : List Value).toArray } } (.ref a) "generator" := by
    obtain ⟨ob, e, q⟩ := ty
    exact ⟨ob, Heap.get?_push_of_some _ e, q⟩
  show wpAny _ A.in1 (Builtin.List.listExtendWith (.ref s.heap.objs.size) (.ref a) (.ref s.heap.objs.size)) _ _ _
  unfold Builtin.List.listExtendWith
  refine wpAny_bind (wpAny_typeOf ty2 ?_)
  have h1 : Builtin.List.listSameRef (.ref s.heap.objs.size) (.ref a) = false := by simp [Builtin.List.listSameRef, hSa]
  have h2 : (Value.type "generator" == Value.type "list") = false := by decide
  have h3 : (Value.type "generator" == Value.type "tuple") = false := by decide
  simp only [h1, h2, h3, Bool.or_false, Bool.false_eq_true, if_false]
  refine wpAny_bind (iter_gen ty2 ?_)
  refine wpAny_bind (wpAny_holding ?_)
  unfold Builtin.List.listLengthHint
  refine wpAny_bind (wpAny_specialOf ty2 F.gen_no_len ?_)
  show wpAny _ A.in1 (specialOf (Value.ref a) (Str.ofString "__length_hint__") >>= _) _ _ _
  refine wpAny_bind (wpAny_specialOf ty2 F.gen_no_hint ?_)
  refine wpAny_pure ?_
  show wpAny _ A.in1 (rule "list.extend.makes-room" >>= fun _ => Builtin.List.listTouch (.ref s.heap.objs.size) >>= fun _ =>
    again (.builtin "list.extend.loop" ⟨[.ref s.heap.objs.size, .ref a, .ref s.heap.objs.size], []⟩)) _ _ _
  refine wpAny_bind (wpAny_rule ?_)
  have hS₁ : (s.heap.push { cls := .type "list", data := .seq ([] : List Value).toArray }).get? s.heap.objs.size = some { cls := .type "list", data := .seq ([] : List Value).toArray } := Heap.get?_push_size _ rfl
  refine wpAny_bind ?_
  show wpAny _ A.in1 (updateSeq s.heap.objs.size (·.push .none) >>= fun _ => updateSeq s.heap.objs.size (·.pop)) _ _ _
  refine wpAny_bind (wpAny_updateSeq hS₁ rfl ?_)
  have hS₂ := Heap.get?_update_self (Obj.mapSeq (·.push Value.none)) hS₁ rfl
  refine wpAny_updateSeq hS₂ rfl ?_
  have hS₃ := Heap.get?_update_self (Obj.mapSeq (·.pop)) hS₂ rfl
  have old : ∀ b ob, s.heap.get? b = some ob → (((s.heap.push { cls := .type "list", data := .seq ([] : List Value).toArray }).update s.heap.objs.size (Obj.mapSeq (·.push Value.none))).update s.heap.objs.size (Obj.mapSeq (·.pop))).get? b = some ob := fun b ob e => by
    have hne : s.heap.objs.size ≠ b := Nat.ne_of_gt (Heap.lt_size e)
    exact (Heap.get?_update_other _ _ hne).trans ((Heap.get?_update_other _ _ hne).trans (Heap.get?_push_of_some _ e))
  have ch : Chg [s.heap.objs.size] s { s with heap := ((s.heap.push { cls := .type "list", data := .seq ([] : List Value).toArray }).update s.heap.objs.size (Obj.mapSeq (·.push Value.none))).update s.heap.objs.size (Obj.mapSeq (·.pop)) } :=
    ⟨rfl, rfl, fun b ob _ e => old b ob e, fun b hb => by rw [List.mem_singleton.mp hb]; exact ⟨_, hS₃, fun v z => nomatch z⟩⟩
  have kp : Keeps X.F [s.heap.objs.size] (R0.take 0) Hx { s with heap := ((s.heap.push { cls := .type "list", data := .seq ([] : List Value).toArray }).update s.heap.objs.size (Obj.mapSeq (·.push Value.none))).update s.heap.objs.size (Obj.mapSeq (·.pop)) } := fun b hb => by
    rw [List.mem_singleton.mp hb]
    exact ⟨#[], _, [], hS₃, .nil, by rw [List.take_zero]; exact ⟨rfl, rfl⟩, hf.1⟩
  have gst := gg A.in1 [s.heap.objs.size] (fun j => R0.take j) _ hh hdp hrm hfr (fun b hb => by rw [List.mem_singleton.mp hb]; exact Nat.le_refl _) ch kp
  refine wpAny_pure ⟨plainId_quiet F.plain_extend_loop _, extend_loop hl hSa hf (fun s' H' acc c gv B e va re hn => ?_) R0 0 Hx _ (by rw [List.take_zero]; rfl) (by omega) gst kp⟩
  show wpAny _ A (load s.heap.objs.size >>= _) _ _ s'
  refine wpAny_bind (wpAny_load e ?_)
  exact wpAny_pure (hQ s' H' acc.toList gv B va re)
theorem tuple_new_gen {k : Nat} {R0 : List D} {s : Shared} {E : Value → Shared → Prop} {Q₁ : Value → Shared → Prop} (hh : A.handled = none) (hdp : A.depth < recursionLimit) (hrm : ∀ e, Room k (A.in1.in1.in1.deeper e)) (hfr : A.frames = some X.stack) (hl : R0.length ≤ sizeLine) (g : GMk X pins σ δ o Hx k a never R0 s)
    (h : ∀ s' H' acc gv, Back X pins σ δ o Hx H' s' → Vals gv acc → Reps X.F H' R0 gv [] → Q₁ (.ref s'.heap.objs.size) { s' with heap := s'.heap.push { cls := .type "tuple", data := .seq acc.toArray } }) :
    codeAny (model X.prog X.w) A (.call (.builtin "tuple.__new__") ⟨[.type "tuple", .ref a], []⟩) (wants Q₁ E) s := by
  refine codeAny_of_tree ?_
  show wpAny _ A.in1 (do checkBuiltinCall "tuple.__new__" ⟨[.type "tuple", .ref a], []⟩; again (.builtin "tuple.__new__" ⟨[.type "tuple", .ref a], []⟩)) _ _ s
  refine wpAny_bind (wpAny_of_eq (F.newCall_tuple_1 _) (wpAny_pure ⟨plainId_quiet F.plain_tuple_new _, codeAny_builtin F.entry_tuple_new ?_⟩))
  rw [Around.under_plainId F.plain_tuple_new _]
  have hsub := sub_tuple_self
  have hinit := init_tuple_lookup
  have hmh := madeHere_tuple
  have hTI := g.1
  wp_walk using wpAny_typeOf hTI, collect_gen (A := A.in1) hh hdp hrm hfr hl g
  intro s' H' acc gv B va re
  show wpAny _ _ (Builtin.Tuple.tupleExact acc.toArray >>= fun v => ret v) _ _ _
  unfold Builtin.Tuple.tupleExact
  refine wpAny_bind (wpAny_newObj_type ?_ (by show acc.toArray.size ≤ sizeLine; rw [List.size_toArray, ← va.length, re.length]; exact hl))
  exact wpAny_pure (h s' H' acc gv B va re)
theorem tuple_gen {k : Nat} {R0 : List D} {s : Shared} {E : Value → Shared → Prop} {Q : Value → Shared → Prop} (hr : Room (k + 1) A) (hfr : A.frames = some X.stack) (hl : R0.length ≤ sizeLine) (g : GMk X pins σ δ o Hx k a never R0 s)
    (hQ : ∀ s' H' acc gv, Back X pins σ δ o Hx H' s' → Vals gv acc → Reps X.F H' R0 gv [] → Q (.ref s'.heap.objs.size) { s' with heap := s'.heap.push { cls := .type "tuple", data := .seq acc.toArray } }) :
    wpAny (model X.prog X.w) A (call (.type "tuple") [.ref a]) Q E s := by
  have hrm : ∀ e, Room k (A.in1.in1.in1.in1.deeper e) := fun e => ⟨hr.hd, by have := hr.dp; show A.depth + 1 + 3 * k + 5 < _; omega, by have := hr.un; show A.units + 1 + 1 + 1 + 1 + 3 + 16 * k + 200 < _; omega⟩
  refine callType_codes (Q₁ := fun obj s₁ => s₁.TypeIs obj "tuple" ∧ Q obj s₁) F.called_tuple (F.typeCall_tuple_1 _) F.entry_object_init
    (tuple_new_gen (A := A.in1) hr.hd (by have := hr.dp; show A.depth < _; omega) hrm hfr hl g fun s' H' acc gv B va re => ⟨⟨_, Heap.get?_push_size _ rfl, rfl⟩, hQ s' H' acc gv B va re⟩) fun obj s₁ h₁ => ?_
  exact ⟨h₁.1, F.args_object_init_2 obj _, object_init_meets F.called_tuple.init.lookup F.called_tuple.made (by decide) X.prog X.w A.in1 _ s₁ ⟨h₁.1, rfl, h₁.2⟩⟩
end
section
variable {X : Cx} {k : Nat}
def fTup (r : List D) : Option D := some (.tup r)
/-- tuple(.. for ..) -/
theorem z_tupleG {e : Expr} {m : DE → Option (List D × DE)} {p pos : Pos} (hr : Room (k + 1) X.A) (hg : Gl X "tuple") (hm : X.mg "tuple" = none) (he : PGx X k e never m)
    (hst : starEach [e] X.env = (false, eval e X.env) :: starEach [] X.env := by rfl) : PE X (.Call (.Name "tuple" p) [e] [] pos) (T (kx X) false (dFold fTup m)) := by
  refine ⟨fun pins s σ H Q I h => ?_⟩
  obtain ⟨δ, o, r, δ', E, n, hmm, kq⟩ := h
  simp only [dFold, fTup] at hmm
  cases h1 : m δ with
  | none => rw [h1] at hmm; simp at hmm
  | some p1 =>
    obtain ⟨R0, δ1⟩ := p1
    rw [h1] at hmm
    simp only [Option.some.injEq, Prod.mk.injEq] at hmm
    obtain ⟨rfl, rfl⟩ := hmm
    refine wpAny_Call_Name_kw (ld_blt I hg hm (by decide +kernel : bootBuiltins "tuple" = some (.type "tuple")) ?_ (by decide) (by decide))
    refine PyProof.Rows.callWith_type1 ?_ hst rfl
    rw [hst]
    show wpAny _ _ (spliced ((false, eval e X.env) :: backTo pos (starEach [] X.env))) _ _ s
    refine Calls.spliced_cons (he.run pins s σ H δ o R0 δ1 _ I E n h1 fun a s5 Hx o1 st E1 w1 hl g => ?_)
    refine Calls.spliced_nil ?_
    refine tuple_gen hr I.ok.frames hl g fun s' H' acc gv B va re => ?_
    have hp : H' s'.heap.objs.size = none := B.inv.hok.fresh (Nat.le_refl _)
    have new : ∀ b ob, s'.heap.get? b = some ob → (s'.heap.push { cls := .type "tuple", data := .seq acc.toArray }).get? b = some ob := fun b ob e => Heap.get?_push_of_some _ e
    have I2 : Inv X pins σ (upd H' s'.heap.objs.size (.tup gv)) { s' with heap := s'.heap.push { cls := .type "tuple", data := .seq acc.toArray } } :=
      B.inv.laid (t' := s'.toks) new (Nat.le_refl _) ⟨by rw [re.length]; exact hl, acc, va, _, Heap.get?_push_size _ rfl, rfl, 0, rfl⟩
    obtain ⟨o', E', w'⟩ := B.env
    refine ⟨.ref s'.heap.objs.size, _, I2, rfl, kq _ _ o' [] ⟨(st.trans w1 B.step).same (new_same hp), E'.same (new_same hp), ⟨_, gv, rfl, .of upd_same, re.same (new_same hp)⟩, ?_⟩⟩
    exact w1.trans st w'
end
end Z


set_option Elab.async false
set_option linter.all false
set_option maxRecDepth 100000
/-! sorted -/
namespace Z
open PySem PySem.Spec PyProof.Rows L2

def isTupN : D → Bool
  | .tup _ => true
  | _ => false
def isPlainS : D → Bool
  | .bl _ => true
  | .int _ => true
  | .str _ => true
  | _ => false
/-- the items may be sorted -/
def sortOk (ds : List D) : Bool := D.nols ds && (ds.all dep && ((ds.all fun x => ds.all fun y => PySem.W.alike (toPy x) (toPy y)) && (ds.all isTupN || ds.all isPlainS)))
def sortD (ds : List D) : List D := ds.mergeSort (PySem.W.dataLe false toPy)
mutual
theorem reads_nol {h : Heap} : ∀ {d : D} {v : Value} {as : List Addr}, d.nol = true → Reads h v (toPy d) as → as = []
  | .non, _, _, _, r => by cases r; rfl
  | .bl _, _, _, _, r => by cases r; rfl
  | .int _, _, _, _, r => by cases r; rfl
  | .str _, _, _, _, r => by cases r; rfl
  | .tup xs, _, _, n, r => by
    cases r with
    | tuple _ _ _ q => exact readsAll_nol (xs := xs) n q
  | .lst _, _, _, n, _ => by simp [D.nol] at n
  | .frz _, _, _, n, _ => by simp [D.nol] at n
  | .dic _ _, _, _, n, _ => by simp [D.nol] at n
  | .obj _ _ _, _, _, n, _ => by simp [D.nol] at n
theorem readsAll_nol {h : Heap} : ∀ {xs : List D} {vs : List Value} {as : List Addr}, D.nols xs = true → ReadsAll h vs (toPys xs) as → as = []
  | [], _, _, _, r => by cases r; rfl
  | x :: xs, _, _, n, r => by
    simp only [D.nols, Bool.and_eq_true] at n
    cases r with
    | cons r1 r2 => rw [reads_nol n.1 r1, readsAll_nol n.2 r2]; rfl
end
section
variable {X : Cx} {pins : List (Addr × Obj)} {σ : L2.St} {H : Hp} {s : Shared}
theorem each_of (I : Inv X pins σ H s) : ∀ {ds : List D} {gv : List V} {acc : List Value}, Vals gv acc → Reps X.F H ds gv [] → D.nols ds = true →
    PySem.W.EachIs (fun v (p : D × V) => RelV p.2 v ∧ Rep X.F H p.1 p.2 []) acc (ds.zip gv) ∧ PySem.W.EachIs (fun v (p : D × V) => Reads s.heap v (toPy p.1) []) acc (ds.zip gv)
  | [], _, _, va, re, _ => by
    obtain ⟨rfl, _⟩ := re
    cases va
    exact ⟨.nil, .nil⟩
  | d :: ds, _, _, va, re, n => by
    obtain ⟨v, vr, o1, o2, rfl, r1, r2, e⟩ := re
    obtain ⟨rfl, rfl⟩ := List.append_eq_nil_iff.mp e.symm
    simp only [D.nols, Bool.and_eq_true] at n
    cases va with
    | cons h1 h2 =>
      obtain ⟨g1, g2⟩ := each_of I h2 r2 n.2
      obtain ⟨as, ra⟩ := Rep.reads I r1 h1 r1.ro
      have := reads_nol n.1 ra
      subst this
      exact ⟨.cons ⟨h1, r1⟩ g1, .cons ra g2⟩
theorem each_imp {α β : Type} {R R' : α → β → Prop} : ∀ {as : List α} {bs : List β}, PySem.W.EachIs R as bs → (∀ a b, R a b → R' a b) → PySem.W.EachIs R' as bs
  | _, _, .nil, _ => .nil
  | _, _, .cons h t, k => .cons (k _ _ h) (each_imp t k)
theorem of_each {K : Fw} {H : Hp} : ∀ {acc : List Value} {ps : List (D × V)}, PySem.W.EachIs (fun v (p : D × V) => RelV p.2 v ∧ Rep K H p.1 p.2 []) acc ps → Vals (ps.map (·.2)) acc ∧ Reps K H (ps.map (·.1)) (ps.map (·.2)) []
  | _, _, .nil => ⟨.nil, rfl, rfl⟩
  | _, _, .cons h t => by
    obtain ⟨g1, g2⟩ := of_each t
    exact ⟨.cons h.1 g1, _, _, [], [], rfl, h.2, g2, rfl⟩
theorem zip_fst : ∀ {ds : List D} {gv : List V}, gv.length = ds.length → (ds.zip gv).map (·.1) = ds
  | [], _, _ => rfl
  | d :: ds, [], h => by simp at h
  | d :: ds, v :: gv, h => by
    simp only [List.zip_cons_cons, List.map_cons]
    rw [zip_fst (by simpa using h)]
/-- what is collected, sorted into a new list -/
theorem sorted_by {A : Around} {v : Value} {E : Value → Shared → Prop} {Q : Value → Shared → Prop} (hu : A.units + 70 < cLine)
    (hcol : wpAny (model X.prog X.w) A.in1 (collect v) (fun acc s1 => ∃ ds H1 gv, sortOk ds = true ∧ ds.length ≤ sizeLine ∧ Inv X pins σ H1 s1 ∧ Vals gv acc ∧ Reps X.F H1 ds gv [] ∧
      ∀ p gv' s2, H1 p = none → Inv X pins σ (upd H1 p (.lst gv')) s2 → Reps X.F H1 (sortD ds) gv' [] → Q (.ref p) s2) E s) : wpAny (model X.prog X.w) A (call (.builtin "sorted") [v]) Q E s := by
  refine Calls.call_function_entry kind_sorted plain_sorted entry_sorted (args_sorted1 _) ?_
  unfold Builtin.«sorted»
  refine wpAny_bind (m := checkCount "sorted" 1 1 _) (wpAny_pure ?_)
  refine wpAny_bind (thn hcol fun acc s1 ⟨ds, H1, gv, hs, hl, I1, va, re, hQ⟩ => ?_)
  simp only [sortOk, Bool.and_eq_true] at hs
  obtain ⟨hn, hdp, hal, hso⟩ := hs
  have hlen : acc.length = ds.length := by rw [← va.length, re.length]
  have hzl : (ds.zip gv).length = ds.length := by rw [List.length_zip, re.length, Nat.min_self]
  refine wpAny_bind (wpAny_newList ?_ (by rw [hlen]; exact hl))
  obtain ⟨e1, e2⟩ := each_of I1 va re hn
  have hoL : (s1.heap.push (seqObj "list" acc.toArray 0)).get? s1.heap.objs.size = some (seqObj "list" acc.toArray 0) := Heap.get?_push_size _ rfl
  have hmem : ∀ p ∈ ds.zip gv, p.1 ∈ ds := fun p hp => (List.of_mem_zip (a := p.1) (b := p.2) hp).1
  simp only [List.all_eq_true] at hal hdp
  have hA : PySem.W.AllAlike ((ds.zip gv).map fun p => toPy p.1) := fun d hd d' hd' => by
    obtain ⟨p, hp, rfl⟩ := List.mem_map.mp hd
    obtain ⟨p', hp', rfl⟩ := List.mem_map.mp hd'
    exact hal _ (hmem p hp) _ (hmem p' hp')
  have hS : PySem.W.SortableM ((ds.zip gv).map fun p => toPy p.1) := by
    rw [Bool.or_eq_true, List.all_eq_true, List.all_eq_true] at hso
    rcases hso with hso | hso
    · have tup : ∀ d ∈ (ds.zip gv).map (fun p => toPy p.1), ∃ xs, d = PyData.tuple xs := fun d hd => by
        obtain ⟨p, hp, rfl⟩ := List.mem_map.mp hd
        have := hso _ (hmem p hp)
        obtain ⟨d0, v0⟩ := p
        dsimp only at this ⊢
        cases d0 <;> simp only [isTupN, Bool.false_eq_true] at this
        exact ⟨_, rfl⟩
      by_cases he : PyData.tuple [] ∈ (ds.zip gv).map (fun p => toPy p.1)
      · exact .inr ⟨tup, he⟩
      · refine .inl (.inl fun d hd => ?_)
        obtain ⟨xs, rfl⟩ := tup d hd
        cases xs with
        | nil => exact absurd hd he
        | cons x r => exact ⟨x, r, rfl⟩
    · refine .inl (.inr fun d hd => ?_)
      obtain ⟨p, hp, rfl⟩ := List.mem_map.mp hd
      have := hso _ (hmem p hp)
      obtain ⟨d0, v0⟩ := p
      dsimp only at this ⊢
      cases d0 <;> simp_all [isPlainS, toPy]
  refine wpAny_bind (wpAny_holding (PySem.W.list_sort_dataM (R := fun v (p : D × V) => RelV p.2 v ∧ Rep X.F H1 p.1 p.2 []) (enc := fun p => toPy p.1) (bs := ds.zip gv) hoL e1 (each_imp e2 fun v p r => ⟨[], Reads.keeps (fun _ _ e => Heap.get?_push_of_some _ e) r, by simp⟩) hA hS (by rw [hzl]; exact hl)
    (fun p hp => by have := dep_le (hdp _ (hmem p hp)); show A.units + 1 + 1 + (toPy p.1).depth < cLine; omega) fun out ho eo => ?_))
  obtain ⟨c, hc⟩ := sortedHeap_at (vs := acc) (out := List.toArray out) hoL
  obtain ⟨v1, r1⟩ := of_each eo
  have hmap : ((ds.zip gv).mergeSort (PySem.W.dataLe false fun p : D × V => toPy p.1)).map (·.1) = sortD ds := by
    have := List.map_mergeSort (r := PySem.W.dataLe false fun p : D × V => toPy p.1) (s := PySem.W.dataLe false toPy) (f := fun p : D × V => p.1) (l := ds.zip gv) (fun a _ b _ => rfl)
    rw [this, zip_fst re.length]; rfl
  rw [hmap] at r1
  have hn1 : H1 s1.heap.objs.size = none := I1.hok.fresh (Nat.le_refl _)
  refine wpAny_pure ⟨_, rfl, hQ s1.heap.objs.size _ _ hn1 ?_ r1⟩
  have old : ∀ b u, s1.heap.get? b = some u → (sortedHeap (s1.heap.push (seqObj "list" acc.toArray 0)) s1.heap.objs.size acc (List.toArray out)).get? b = some u := fun b u e => by
    have hlt := Heap.lt_size e
    rw [sortedHeap_old (Nat.ne_of_lt hlt) (by rw [size_push']; exact Nat.lt_succ_of_lt hlt)]
    exact Heap.get?_push_of_some _ e
  exact I1.laid (t' := s1.toks) old (Nat.le_refl _) ⟨by rw [List.length_map, List.length_mergeSort, hzl]; exact hl, out, c, v1, hc⟩
end
def fSort (r : List D) : Option D := if sortOk r then some (.lst (sortD r)) else none
section
variable {X : Cx} {k : Nat}
/-- sorted(.. for ..) -/
theorem z_sortG {e : Expr} {m : DE → Option (List D × DE)} {p pos : Pos} (hr : Room (k + 1) X.A) (hu : X.A.units + 70 < cLine) (hg : Gl X "sorted") (hm : X.mg "sorted" = none) (he : PGx X k e never m)
    (hst : starEach [e] X.env = (false, eval e X.env) :: starEach [] X.env := by rfl) : PE X (.Call (.Name "sorted" p) [e] [] pos) (T (kx X) false (dFold fSort m)) := by
  refine z_fold (bid := "sorted") hg hm (by decide +kernel) he (fun pins σ δ1 o1 Hx a R0 d s5 Q I hl g hf hQ => ?_) (by decide) (by decide) hst
  simp only [fSort] at hf
  by_cases hs : sortOk R0 = true
  case neg => rw [if_neg hs] at hf; cases hf
  rw [if_pos hs] at hf
  cases (Option.some.inj hf : D.lst (sortD R0) = d)
  refine sorted_by (X := X) (pins := pins) (σ := σ) hu (collect_gen (A := X.A.in1) hr.hd (by have := hr.dp; show X.A.depth < _; omega) (fun e => ⟨hr.hd, by have := hr.dp; show X.A.depth + 1 + 3 * k + 5 < _; omega, by have := hr.un; show X.A.units + 1 + 1 + 1 + 3 + 16 * k + 200 < _; omega⟩) I.ok.frames hl g fun s' H' acc gv B va re => ?_)
  exact ⟨R0, H', gv, hs, hl, B.inv, va, re, fun p gv' s2 hp I2 r2 => hQ s2 H' _ (.ref p) (.ref p) [p] B.env B.step I2 (new_same hp) rfl ⟨p, gv', [], rfl, upd_same, r2.same (new_same hp), rfl⟩ (fresh_one hp)⟩
end
end Z


set_option Elab.async false
set_option linter.all false
set_option maxRecDepth 100000
/-! sorted of a sequence; x += e -/
namespace Z
open PySem PySem.Spec PyProof.Rows L2

def fSort1 : List D → Option D
  | [a] => match itemsD a with
    | some xs => fSort xs
    | none => none
  | _ => none
section
variable {X : Cx}
theorem c_sorted (hu : X.A.units + 70 < cLine) : CallR X (.builtin "sorted") (Pr X.F fSort1) := by
  intro pins s σ H xs us Q I r h
  obtain ⟨a, x, oa, d, rfl, ra, e, k0, k⟩ := one_inv h fun ds d e => by
    cases ds with
    | nil => simp [fSort1] at e
    | cons a ds => cases ds with
      | nil => exact ⟨a, rfl⟩
      | cons b ds => simp [fSort1] at e
  simp only [fSort1] at e
  cases hi : itemsD a with
  | none => rw [hi] at e; simp at e
  | some ys =>
    rw [hi] at e
    simp only [fSort] at e
    by_cases hs : sortOk ys = true
    case neg => rw [if_neg hs] at e; cases e
    rw [if_pos hs] at e
    cases (Option.some.inj e : D.lst (sortD ys) = d)
    have hn : D.nols ys = true := by simp only [sortOk, Bool.and_eq_true] at hs; exact hs.1
    obtain ⟨p, vs, rfl, hq, rs⟩ := seq_items ra hi (D.nols_imms _ hn)
    cases r with
    | cons r1 r2 =>
      cases r2
      cases r1
      have fin : ∀ (its : List Value) (T : String) (ob : Obj) (m : Nat), (T = "list" ∨ T = "tuple") → s.heap.get? p = some ob → ob.cls = .type T → ob.data = .seq its.toArray m → Vals vs its → ys.length ≤ sizeLine → wpAny (model X.prog X.w) X.A (call (.builtin "sorted") [.ref p]) (EP X pins σ Q) X.xe s := fun its T ob m hT e1 e2 e3 rv hl => by
        have hz : its.toArray.size ≤ sizeLine := by rw [List.size_toArray, ← rv.length, rs.length]; exact hl
        refine sorted_by (X := X) (pins := pins) (σ := σ) hu (wpAny_collect_seq p hT e1 e2 e3 (fun h' hk => ?_) hz)
        have I2 := I.kept (t' := s.toks) hk
        refine ⟨ys, H, vs, hs, hl, I2, by simpa using rv, rs, fun q gv' s2 hp I3 r3 => ⟨.ref q, _, I3, rfl, ?_⟩⟩
        exact k (.ref q) _ [q] (new_same hp) ⟨q, gv', [], rfl, upd_same, r3.same (new_same hp), rfl⟩ (fresh_one hp)
      rcases hq with hq | hq
      · obtain ⟨its, rv, hp, hz⟩ := I.list hq
        obtain ⟨ob, n, e1, e2, _, e4⟩ := hp
        exact fin its "list" ob n (.inl rfl) e1 e2 e4 rv (by rw [← rs.length]; exact hz)
      · obtain ⟨its, rv, hp, hz⟩ := I.tuple hq
        obtain ⟨ob, e1, e2, n, e4⟩ := hp
        exact fin its "tuple" ob n (.inr rfl) e1 e2 e4 rv (by rw [← rs.length]; exact hz)
end
/-- x op= e, ints -/
def dAug (i : Nat) (g : Int → Int → Int) (m : Den) : Blk := fun δ => match δ[i]? with
  | some (some (.int a)) => match m δ with
    | some (.own (.int b), δ1) => if i < δ1.length then some (.nx (δ1.set i (some (.int (g a b))))) else none
    | _ => none
  | _ => none
section
variable {X : Cx} {kp : Nat → Bool} {e : Expr} {q : Bool} {m : Den} {pos : Pos}
theorem z_aug {i : Nat} {x : Str} {op : Operator} {g : Int → Int → Int} {pos' : Pos} (hN : X.N.Nodup) (hi : X.N[i]? = some x) (hx : Loc X.env.scope x) (hk : kp i = false) (he : PE X e (T (kx X) q m)) (ho : PIp X op (ipI g)) (hf : X.fn x = true ∨ X.env.scope.names.lookup x = some .local := by first | exact .inl rfl | exact .inr rfl | assumption) :
    PS X (.AugAssign (.Name x pos') op e pos) (TSm (kx X) kp (dAug i g m)) :=
  PS.imp (ps_aug hN hi hx he ho hf) fun D' σ H ⟨δ, o, out, E, n, hm, f⟩ => by
    simp only [dAug] at hm
    cases h1 : δ[i]? with
    | none => rw [h1] at hm; simp at hm
    | some od =>
    cases od with
    | none => rw [h1] at hm; simp at hm
    | some d =>
    cases d <;> rw [h1] at hm <;> simp only [reduceCtorEq] at hm
    rename_i a
    cases h2 : m δ with
    | none => rw [h2] at hm; simp at hm
    | some p =>
    obtain ⟨r, δ1⟩ := p
    rw [h2] at hm
    cases r with
    | «at» _ _ => simp at hm
    | own d =>
    cases d <;> simp only [reduceCtorEq] at hm
    rename_i b
    by_cases hl : i < δ1.length
    case neg => rw [if_neg hl] at hm; cases hm
    rw [if_pos hl] at hm
    cases (Option.some.inj hm)
    obtain ⟨v, oa, o1, ob, hv, rd, _⟩ := E.at h1
    obtain ⟨rfl, _⟩ := rd
    refine ⟨.int a, hv, δ, o, .own (.int b), δ1, E, n, h2, fun w H1 o2 ov P => ?_⟩
    obtain ⟨rfl, rfl⟩ := P.held
    refine ⟨a, b, rfl, rfl, ?_⟩
    obtain ⟨o3, E3, c3⟩ := Envs.set i P.env (show Rep (kx X).K H1 (.int (g a b)) (.int (g a b)) [] from ⟨rfl, rfl⟩) hl
    refine f _ H1 o3 ⟨P.step.mono Wq_sub, E3, (own_right P.own).sub fun a => by have := c3 a; simpa using this, fun j hj => ?_⟩
    rw [List.getElem?_set_ne]
    intro z; subst z; rw [hk] at hj; cases hj
end
end Z


set_option Elab.async false
set_option linter.all false
set_option maxRecDepth 100000
/-! list.extend of a new list -/
namespace Z
open PySem PySem.Spec PyProof.Rows L2

section
variable {X : Cx} {eo e : Expr} {qo qe : Bool} {mo me : Den} {apos cpos : Pos}
end
end Z


set_option Elab.async false
set_option linter.all false
set_option maxRecDepth 100000
set_option maxHeartbeats 4000000
/-! sets of ints and texts that are sorted -/
namespace Z
open PySem PySem.Spec PyProof.Rows L2

def memK (ks : List Key) (j : Key) : Bool := ks.any fun x => decide (x = j)
theorem memK_iff {ks : List Key} {j : Key} : memK ks j = true ↔ j ∈ ks := by simp [memK]
theorem memK_next {ks : List Key} {i : Nat} {z : Key} (h : ks[i]? = some z) (j : Key) : memK (ks.take (i + 1)) j = (memK (ks.take i) j || decide (j = z)) := by
  rw [Bool.eq_iff_iff, Bool.or_eq_true, memK_iff, memK_iff, decide_eq_true_eq, List.take_add_one, h]
  simp
def keyK (e : Int × Value) : Key := match e.2 with
  | .int k _ => .inl k
  | .str x _ => .inr x
  | _ => .inl 0
def GoodK (w : World) (e : Int × Value) : Prop := ∃ k, keyIs k e.2 = true ∧ e.1 = keyH w k
theorem goodK_key {w : World} {e : Int × Value} {k : Key} (h : keyIs k e.2 = true) : keyK e = k := by
  rcases keyIs_shape h with ⟨i, t, rfl, q⟩ | ⟨x, t, rfl, q⟩ <;> (unfold keyK; rw [q])
theorem scan_key {k : Key} {v : Value} (h : keyIs k v = true) : v.scannable = true := by
  rcases keyIs_shape h with ⟨i, t, rfl, rfl⟩ | ⟨x, t, rfl, rfl⟩ <;> rfl
theorem goodK_elems {P : Program} {w : World} {l : List (Int × Value)} (g : ∀ e ∈ l, GoodK w e) : ElemsOf (mixKind P w) l := fun e he => by
  obtain ⟨k, h1, h2⟩ := g e he
  exact ⟨⟨k, h1, h2⟩, scan_key h1⟩
theorem goodK_is {w : World} {e : Int × Value} (g : GoodK w e) (k : Key) : keyIs k e.2 = true ↔ keyK e = k := by
  obtain ⟨k0, h1, h2⟩ := g
  constructor
  · exact goodK_key (w := w)
  · intro z
    rw [goodK_key (w := w) h1] at z
    rw [← z]; exact h1
theorem goodK_mem {w : World} {l : List (Int × Value)} (g : ∀ e ∈ l, GoodK w e) (k : Key) : k ∈ l.map keyK ↔ ∃ e ∈ l, keyIs k e.2 = true := by
  rw [List.mem_map]
  exact ⟨fun ⟨e, he, q⟩ => ⟨e, he, (goodK_is (g e he) k).2 q⟩, fun ⟨e, he, q⟩ => ⟨e, he, (goodK_is (g e he) k).1 q⟩⟩
/-- the set at a holds the keys of S; it can be walked -/
def SetM (w : World) (h : Heap) (a : Addr) (S : Key → Bool) (n : Nat) : Prop :=
  ∃ o es ep t, h.get? a = some o ∧ o.ExactSet ∧ o.data = .set es ep t ∧ (∀ e ∈ es.toList, GoodK w e) ∧ (es.toList.map keyK).Nodup ∧ (∀ k, S k = true ↔ k ∈ es.toList.map keyK) ∧
    es.size < scanBound ∧ t.fits es.size = true ∧ es.size = n ∧ Ris t.place.toList ∧ (w.params.followText "set-order" = true ∨ t.led = true)
theorem SetM.at {w : World} {h h' : Heap} {a : Addr} {S : Key → Bool} {n : Nat} (R : SetM w h a S n) (k : ∀ o, h.get? a = some o → h'.get? a = some o) : SetM w h' a S n := by
  obtain ⟨o, es, ep, t, ho, r⟩ := R
  exact ⟨o, es, ep, t, k o ho, r⟩
theorem SetM.congr {w : World} {h : Heap} {a : Addr} {S S' : Key → Bool} {n : Nat} (R : SetM w h a S n) (e : ∀ k, S' k = S k) : SetM w h a S' n := by
  have q : S' = S := funext e
  rw [q]; exact R
section
variable {P : Program} {w : World} {A : Around} {E : Value → Shared → Prop} {s : Shared} {a : Addr} {S : Key → Bool} {n : Nat}
theorem setM_tail {g : Bool → Sem Unit} (hg : ∀ (b : Bool) (s₁ : Shared) (Q' : Unit → Shared → Prop), Q' () s₁ → wpAny (model P w) A (g b) Q' E s₁)
    {o : Obj} {es : Array (Int × Value)} {ep : Nat} {t : SetTable} (ho : s.heap.get? a = some o) (hex : o.ExactSet) (hd : o.data = .set es ep t)
    {es1 : Array (Int × Value)} {t2 : SetTable} {S' : Key → Bool} (g1 : ∀ e ∈ es1.toList, GoodK w e) (nd1 : (es1.toList.map keyK).Nodup) (m1 : ∀ k, S' k = true ↔ k ∈ es1.toList.map keyK)
    (hb1 : es1.size < scanBound) (hf2 : t2.fits es1.size = true) (hr : Ris t2.place.toList) (hl : w.params.followText "set-order" = true ∨ t2.led = true) {wasDummy : Bool} {R : Option Bool → Shared → Prop}
    (hR : ∀ h', Heap.SameBut a s.heap h' → SetM w h' a S' es1.size → R (some true) { s with heap := h' }) :
    wpAny (model P w) A (do
        storeSet a es1 t2
        if (!wasDummy && t2.tooFull) = true then do
            g (relayAll t2 es1 (SetTable.grown es1.size)).2.2
            storeSet a (relayAll t2 es1 (SetTable.grown es1.size)).1 (relayAll t2 es1 (SetTable.grown es1.size)).2.1
            pure (some true)
          else pure (some true)) R E s := by
  refine wpAny_bind (wpAny_storeSet_of ho hd ?_ (fits_of_scanBound hb1))
  have ho1 := store_at (es' := es1) (t' := t2) ho hd
  have sb1 := Heap.SameBut.update s.heap a (Obj.putSet es1 t2)
  split
  · have pm := relayAll_perm t2 es1 (SetTable.grown es1.size)
    have hf3 := relayAll_fits t2 es1 (SetTable.grown es1.size)
    have hr3 := relayAll_ris t2 es1 (SetTable.grown es1.size)
    have hl3 := relayAll_led t2 es1 (SetTable.grown es1.size)
    generalize relayAll t2 es1 (SetTable.grown es1.size) = Y at pm hf3 hr3 hl3 ⊢
    obtain ⟨es2, t3, gave⟩ := Y
    dsimp only at pm hf3 hr3 hl3 ⊢
    have hsz : es2.size = es1.size := by rw [← Array.length_toList, pm.length_eq, Array.length_toList]
    have hb2 : es2.size < scanBound := by rw [hsz]; exact hb1
    refine wpAny_bind (hg _ _ _ ?_)
    refine wpAny_bind (wpAny_storeSet_of ho1 rfl ?_ (fits_of_scanBound hb2))
    have ho2 := store_at (es' := es2) (t' := t3) ho1 rfl
    refine wpAny_pure (hR _ (sb1.trans (Heap.SameBut.update _ a _)) ?_)
    exact ⟨_, es2, _, t3, ho2, hex, rfl, fun e he => g1 e (pm.mem_iff.mp he), (pm.map keyK).nodup_iff.mpr nd1, fun k => (m1 k).trans (pm.map keyK).mem_iff.symm, hb2, hf3, hsz, hr3,
      hl.imp id fun z => by rw [hl3]; exact z⟩
  · exact wpAny_pure (hR _ sb1 ⟨_, es1, _, t2, ho1, hex, rfl, g1, nd1, m1, hb1, hf2, rfl, hr, hl⟩)
theorem setM_add {k : Key} {v : Value} {Q : Bool → Shared → Prop} (hkey : keyIs k v = true) (R : SetM w s.heap a S n) (room : n + 1 < scanBound)
    (hQ : ∀ h', Heap.SameBut a s.heap h' → SetM w h' a (fun j => S j || decide (j = k)) (if S k = true then n else n + 1) → Q (!S k) { s with heap := h' }) :
    wpAny (model P w) A (setAddHashed a v ((mixKind P w).hash k)) Q E s := by
  obtain ⟨o, es, ep, t, ho, hex, hd, g, nd, hm, hb, hf, hn, hr, hl⟩ := R
  have hkey' : (mixKind P w).is k v = true := hkey
  have hsc : v.scannable = true := scan_key hkey
  have hel : ElemsOf (mixKind P w) es.toList := goodK_elems g
  unfold setAddHashed setAddHashedIn
  refine wpAny_holding (wpAny_bind (wpAny_setState_of ho hd hf ?_))
  dsimp only
  rw [byScan_of hsc hb hel]
  simp only [↓reduceIte]
  unfold setAddByScan
  refine wpAny_bind ?_
  refine wpAny_bind (wpAny_rule ?_)
  refine wpAny_bind (wpAny_setScan_of hkey' ho hd hf hel ?_)
  cases hfi : List.findIdx? (fun e => (mixKind P w).is k e.2) es.toList with
  | some j =>
    dsimp only
    obtain ⟨hj, pj, _⟩ := List.findIdx?_eq_some_iff_getElem.mp hfi
    have hSk : S k = true := (hm k).2 ((goodK_mem g k).2 ⟨es.toList[j], List.getElem_mem hj, pj⟩)
    refine wpAny_pure (wpAny_pure ?_)
    have q := hQ s.heap (Heap.SameBut.refl a s.heap) ⟨o, es, ep, t, ho, hex, hd, g, nd, fun i => by
      rw [Bool.or_eq_true, decide_eq_true_eq, ← hm i]
      exact ⟨fun z => z.elim id (fun e => e ▸ hSk), .inl⟩, hb, hf, by rw [if_pos hSk]; exact hn, hr, hl⟩
    rw [hSk] at q
    exact q
  | none =>
    dsimp only
    have hnk : k ∉ es.toList.map keyK := fun z => by
      obtain ⟨e, he, q⟩ := (goodK_mem g k).1 z
      have c := List.findIdx?_eq_none_iff.mp hfi e he
      rw [show (mixKind P w).is k e.2 = keyIs k e.2 from rfl, q] at c
      cases c
    have hSk : S k = false := by
      cases q : S k with
      | false => rfl
      | true => exact absurd ((hm k).1 q) hnk
    have hgw : ∀ (b : Bool) {s₁ : Shared} {Q' : Unit → Shared → Prop}, Q' () s₁ → wpAny (model P w) A (match b with | true => rule "set.scan.the-table-gave-way" | false => pure ()) Q' E s₁ :=
      fun b s₁ Q' q => by cases b <;> first | exact wpAny_pure q | exact wpAny_rule q
    have pm := layNew_perm t es ((mixKind P w).hash k) v
    have hf1 := layNew_fits t es ((mixKind P w).hash k) v
    have hr1 := layNew_ris t es ((mixKind P w).hash k) v hr
    have hl1 := layNew_led t es ((mixKind P w).hash k) v
    generalize layNew t es ((mixKind P w).hash k) v = Y at pm hf1 hr1 hl1 ⊢
    obtain ⟨es1, t1, wasDummy, gave⟩ := Y
    dsimp only at pm hf1 hr1 hl1 ⊢
    rw [Array.toList_push] at pm
    have pc : es1.toList.Perm (((mixKind P w).hash k, v) :: es.toList) := pm.trans (List.perm_append_singleton _ _)
    have pk : (es1.toList.map keyK).Perm (k :: es.toList.map keyK) := by
      have := pc.map keyK
      rw [List.map_cons, show keyK ((mixKind P w).hash k, v) = k from goodK_key (w := w) (e := ((mixKind P w).hash k, v)) hkey] at this
      exact this
    have g1 : ∀ e ∈ es1.toList, GoodK w e := fun e he => by
      rcases List.mem_cons.mp (pc.mem_iff.mp he) with z | z
      · rw [z]; exact ⟨k, hkey, rfl⟩
      · exact g e z
    have nd1 : (es1.toList.map keyK).Nodup := pk.nodup_iff.mpr (List.nodup_cons.mpr ⟨hnk, nd⟩)
    have m1 : ∀ i, (S i || decide (i = k)) = true ↔ i ∈ es1.toList.map keyK := fun i => by
      rw [Bool.or_eq_true, decide_eq_true_eq, hm i, pk.mem_iff, List.mem_cons]
      exact Or.comm
    have hsz : es1.size = n + 1 := by rw [← Array.length_toList, pc.length_eq, List.length_cons, Array.length_toList, hn]
    have hb1 : es1.size < scanBound := by rw [hsz]; exact room
    have hled : w.params.followText "set-order" = true ∨ t1.led = true := hl.imp id fun z => by rw [hl1]; exact z
    have fin : ∀ h', Heap.SameBut a s.heap h' → SetM w h' a (fun j => S j || decide (j = k)) es1.size → Q true { s with heap := h' } := fun h' sb r => by
      have q := hQ h' sb
      rw [hSk] at q
      rw [hsz] at r
      exact q r
    refine wpAny_bind (hgw _ ?_)
    split
    · refine wpAny_bind ?_
      rw [hashByValue_scannable 8 hsc]
      refine wpAny_pure ?_
      refine setM_tail ?_ ho hex hd g1 nd1 m1 hb1 ?_ ?_ ?_ ?_
      · intro b s₁ Q' q; cases b <;> first | exact wpAny_pure q | exact wpAny_rule q
      · first | (split <;> first | exact hf1 | exact SetTable.fits_plain_off hf1) | exact hf1
      · first | (split <;> exact hr1) | exact hr1
      · first | (split <;> exact hled) | exact hled
      · intro h' sb r; dsimp only; exact wpAny_pure (fin h' sb r)
    · refine wpAny_bind (wpAny_pure ?_)
      simp only [↓reduceIte]
      refine setM_tail ?_ ho hex hd g1 nd1 m1 hb1 hf1 hr1 hled ?_
      · intro b s₁ Q' q; cases b <;> first | exact wpAny_pure q | exact wpAny_rule q
      · intro h' sb r; dsimp only; exact wpAny_pure (fin h' sb r)
theorem setM_new {ks : List Key} {h : Heap} (ho : h.get? a = some { cls := .type "set", dict := none, data := .set #[] 0 (.fresh 0 0 (!w.params.followText "set-order")) }) : SetM w h a (fun j => memK (ks.take 0) j) 0 :=
  ⟨_, #[], 0, _, ho, ⟨rfl, rfl, rfl⟩, rfl, (fun e he => by simp at he), (by simp), (fun k => by simp [memK]), (by decide), (by rfl), rfl, List.Pairwise.nil, by
    show _ ∨ (!w.params.followText "set-order") = true
    cases w.params.followText "set-order"
    · exact .inr rfl
    · exact .inl rfl⟩
theorem setM_loop {I : Addr} {fp wr : List Addr} {G : Array GenState → Array GenState → Prop} {n : Nat} {Pv : Nat → Value → Prop} {St : Nat → Shared → Prop} {R : Result → Shared → Prop}
    (W : WalksS P w A.in1 I fp wr G n Pv St) (S : Addr) (hSf : S ∉ fp) (ks : List Key) (hn : n = ks.length) (hb : ks.length + 1 < scanBound) (hval : ∀ i v, Pv i v → ∃ k, ks[i]? = some k ∧ keyIs k v = true) :
    ∀ (k i : Nat) (s : Shared), n - i = k → i ≤ n → St i s → (∃ c, c ≤ i ∧ SetM w s.heap S (fun j => memK (ks.take i) j) c) →
      (∀ s' c, Moved (S :: wr) G s s' → c ≤ n → SetM w s'.heap S (fun j => memK (ks) j) c → R (.ok (.ret .none)) s') →
      codeAny (model P w) A (.builtin "set.update.loop" ⟨[.ref S, .ref I], []⟩) R s := by
  have hSw : S ∉ wr := fun h => hSf (W.sub _ h)
  have hsub : ∀ b ∈ wr, b ∈ S :: wr := fun b hb => List.mem_cons_of_mem _ hb
  intro k
  induction k with
  | zero =>
    intro i s hk' hi hst ⟨c, hc, hS⟩ hR
    have hin : i = n := by omega
    subst hin
    refine codeAny_builtin F.entry_set_update_loop ?_
    rw [Around.under_plainId F.plain_set_update_loop _]
    show wpAny _ A.in1 (pyNext (.ref I) >>= _) _ _ s
    refine wpAny_bind (W.done s _ _ hst fun s' hm => ?_)
    show wpAny _ A.in1 (ret Value.none) _ _ s'
    have e : ks.take i = ks := List.take_of_length_le (by omega)
    rw [e] at hS
    exact wpAny_pure (hR s' c (hm.mono hsub) hc (hS.at fun o e => hm.heap S o hSw e))
  | succ k ih =>
    intro i s hk' hi hst ⟨c, hc, hS⟩ hR
    have hlt : i < n := by omega
    refine codeAny_builtin F.entry_set_update_loop ?_
    rw [Around.under_plainId F.plain_set_update_loop _]
    show wpAny _ A.in1 (pyNext (.ref I) >>= _) _ _ s
    refine wpAny_bind (W.item i s _ _ hlt hst fun v s' hP hst' hm => ?_)
    obtain ⟨z, hz, hzv⟩ := hval i v hP
    have hS' : SetM w s'.heap S (fun j => memK (ks.take i) j) c := hS.at fun o e => hm.heap S o hSw e
    show wpAny _ A.in1 (holding [v] (setAdd S v) >>= _) _ _ s'
    refine wpAny_bind (wpAny_holding ?_)
    unfold setAdd
    refine wpAny_holding ?_
    refine wpAny_bind ((mixKind P w).pyHash (k := z) hzv ?_)
    refine setM_add (s := { s' with toks := s'.toks + 1 }) hzv hS' (by omega) fun h' hsb hS2 => ?_
    have hS3 : SetM w h' S (fun j => memK (ks.take (i + 1)) j) (if memK (ks.take i) z = true then c else c + 1) := hS2.congr fun j => memK_next hz j
    have hc3 : (if memK (ks.take i) z = true then c else c + 1) ≤ i + 1 := by
      split <;> omega
    refine wpAny_pure ⟨plainId_quiet F.plain_set_update_loop _, ih (i + 1) _ (by omega) hlt (W.frame _ s' _ _ hst' (Nat.le_succ _) fun b hb o e => ?_) ⟨_, hc3, hS3⟩ fun s'' c2 hm'' hc'' hS'' => ?_⟩
    · rw [hsb.2 b (fun h : b = S => hSf (by rw [← h]; exact hb))]; exact e
    · refine hR s'' c2 (Moved.trans W.gtrans ((hm.mono hsub).then_heap (Nat.le_succ _) fun b o hb e => ?_) hm'') hc'' hS''
      rw [hsb.2 b (fun h : b = S => hb (by rw [h]; exact List.mem_cons_self))]; exact e
end
end Z


set_option Elab.async false
set_option linter.all false
set_option maxRecDepth 100000
set_option maxHeartbeats 4000000
/-! set(..) of a sequence of keys; sorted(set(..)) -/
namespace Z
open PySem PySem.Spec PyProof.Rows L2

abbrev setO0 (w : World) : Obj := { cls := .type "set", dict := none, data := .set #[] 0 (.fresh 0 0 (!w.params.followText "set-order")) }
section
variable {P : Program} {w : World} {A : Around} {E : Value → Shared → Prop} {s : Shared}
theorem call_setM_tuple {l : Addr} {items : Array Value} (ks : List Key) {Q : Value → Shared → Prop} (hh : A.handled = none) (hl : s.heap.IsTuple l items) (hisz : items.size = ks.length) (hval : ∀ (i : Nat) (v : Value), items[i]? = some v → ∃ k, ks[i]? = some k ∧ keyIs k v = true) (hb : ks.length + 1 < scanBound)
    (h : ∀ (h' : Heap) (tk c : Nat), SetM w h' s.heap.objs.size (memK ks) c → c ≤ ks.length → (∀ b o, s.heap.get? b = some o → h'.get? b = some o) → Q (.ref s.heap.objs.size) { s with heap := h', toks := tk }) :
    wpAny (model P w) A (call (.type "set") [.ref l]) Q E s := by
  obtain ⟨c, tl, hmro⟩ := F.called_set.mro
  have hmade := F.called_set.made
  have hsub := F.called_set.sub
  refine wpAny_call (codeAny_of_tree ?_)
  show wpAny _ _ (callAny (.type "set") _) _ _ _
  refine wpAny_pure ⟨Code.quiet_builtin _ (by decide +kernel), codeAny_builtin F.entry_type_call ?_⟩
  rw [Around.under_plain (weight_type_call_type "set" [.ref l] []) rfl]
  have h1 := F.called_set.notType
  have h2 := F.called_set.canCreate
  have hct := F.typeCall_set_1 (.ref l)
  repeat (any_goals (first | assumption | wp_step))
  refine codeAny_mono (code_set_led1 (.ref l) (E := E) (Q₁ := fun obj s₁ => obj = .ref s.heap.objs.size ∧ s₁ = { s with heap := s.heap.push (setO0 w) }) ⟨rfl, rfl⟩) fun r s₁ hr => ?_
  cases r with
  | error e => exact hr
  | ok fl =>
    cases fl with
    | ret obj =>
      obtain ⟨rfl, rfl⟩ := hr
      have hS : (s.heap.push (setO0 w)).get? s.heap.objs.size = some (setO0 w) := Heap.get?_push_size _ rfl
      have hT : Shared.TypeIs { s with heap := s.heap.push (setO0 w) } (.ref s.heap.objs.size) "set" := ⟨_, hS, rfl⟩
      have hli := F.called_set.init.lookup
      have hbi := F.called_set.init.bind (.ref s.heap.objs.size)
      repeat (any_goals (first | assumption | wp_step))
      refine codeAny_mono (codeAny_call_builtin (R := wants (fun r s₂ => r = .none ∧ ∃ h' tk c, s₂ = { s with heap := h', toks := tk } ∧ SetM w h' s.heap.objs.size (memK ks) c ∧ c ≤ ks.length ∧
          (∀ b o, s.heap.get? b = some o → h'.get? b = some o)) E) F.called_set.init.plain F.entry_set_init (check_set_init_1 hT ?_)) fun r₂ s₂ hr₂ => ?_
      · obtain ⟨ol, hol, hcl, nl, hdl⟩ := hl
        obtain ⟨ocls, odict, odata, oslots⟩ := ol
        simp only at hcl hdl
        subst hcl; subst hdl
        have hol' : (s.heap.push (setO0 w)).get? l = some { cls := .type "tuple", dict := odict, data := .seq items nl, slots := oslots } := Heap.get?_push_of_some _ hol
        have hsls := F.sub_tuple_set
        have hslf := F.sub_tuple_frozenset
        have hne : (Value.type "tuple" == Value.type "dict") = false := by decide
        have hl1 : (s.heap.push (setO0 w)).IsTuple l items := ⟨_, hol', rfl, nl, rfl⟩
        unfold Builtin.«set.__init__» noKeywords Builtin.Frozenset.updateFrom
        generalize hPI : pyIter = PI
        wp_walk
        subst hPI
        refine wpAny_pyIter_tuple hl1 ?_
        refine wpAny_bind (wpAny_runValue ?_)
        have hlS : l < s.heap.objs.size := Heap.lt_size hol
        have hh3 : A.in1.in1.in1.handled = none := by simp [hh]
        have hneI : l ≠ (s.heap.push (setO0 w)).objs.size := by
          rw [Heap.size_push]; exact Nat.ne_of_lt (Nat.lt_succ_of_lt hlS)
        have hSf : s.heap.objs.size ∉ [(s.heap.push (setO0 w)).objs.size, l] := by
          rw [Heap.size_push]; simp only [List.mem_cons, List.mem_singleton, List.not_mem_nil, or_false, not_or]
          exact ⟨Nat.ne_of_lt (Nat.lt_succ_self _), Nat.ne_of_gt hlS⟩
        refine setM_loop ((Walks.tuple hh3 _ l hneI items).toS) s.heap.objs.size
          hSf ks hisz hb hval (items.size - 0) 0 _ (by omega) (Nat.zero_le _)
          ⟨⟨_, Heap.get?_push_size _ rfl, rfl, rfl⟩, (hl1.push _)⟩ ?hS0 ?hR
        case hS0 =>
          have hget : ((s.heap.push (setO0 w)).push { cls := .type "tuple_iterator", data := .fields #[.ref l, .int 0 0] }).get? s.heap.objs.size = some (setO0 w) := Heap.get?_push_of_some _ hS
          exact ⟨0, Nat.le_refl 0, setM_new hget⟩
        case hR =>
          intro s' c' hm hc' hS'
          obtain ⟨h', g2, d', tk', os'⟩ := s'
          have eg : g2 = s.gens := hm.gens
          have ed : d' = s.drawn := hm.drawn
          have eo : os' = s.os := hm.os
          subst eg; subst ed; subst eo
          show wpAny _ _ _ _ _ _
          refine wpAny_pure ?_
          show wpAny _ _ (ret Value.none) _ _ _
          rw [hisz] at hc'
          refine wpAny_pure ⟨rfl, h', tk', c', rfl, hS', hc', fun b o e => ?_⟩
          have hb0 : b < s.heap.objs.size := Heap.lt_size e
          have hb1 : b ≠ s.heap.objs.size := Nat.ne_of_lt hb0
          have hb2 : b ≠ (s.heap.push (setO0 w)).objs.size := by
            rw [Heap.size_push]; exact Nat.ne_of_lt (Nat.lt_succ_of_lt hb0)
          exact hm.heap b o (by simp only [List.mem_cons, List.mem_singleton, List.not_mem_nil, or_false, not_or]; exact ⟨hb1, hb2⟩) (Heap.get?_push_of_some _ (Heap.get?_push_of_some _ e))
      · cases r₂ with
        | error e => exact hr₂
        | ok fl₂ =>
          cases fl₂ with
          | ret r =>
            obtain ⟨rfl, h', tk, c', rfl, hS', hc', hk'⟩ := hr₂
            repeat (any_goals (first | assumption | wp_step))
            exact h _ _ _ hS' hc' hk'
          | _ => exact hr₂.elim
    | _ => exact hr.elim
theorem call_setM_list {l : Addr} {items : Array Value} (ks : List Key) {Q : Value → Shared → Prop} (hh : A.handled = none) (hl : s.heap.IsList l items) (hisz : items.size = ks.length) (hval : ∀ (i : Nat) (v : Value), items[i]? = some v → ∃ k, ks[i]? = some k ∧ keyIs k v = true) (hb : ks.length + 1 < scanBound)
    (h : ∀ (h' : Heap) (tk c : Nat), SetM w h' s.heap.objs.size (memK ks) c → c ≤ ks.length → (∀ b o, s.heap.get? b = some o → h'.get? b = some o) → Q (.ref s.heap.objs.size) { s with heap := h', toks := tk }) :
    wpAny (model P w) A (call (.type "set") [.ref l]) Q E s := by
  obtain ⟨c, tl, hmro⟩ := F.called_set.mro
  have hmade := F.called_set.made
  have hsub := F.called_set.sub
  refine wpAny_call (codeAny_of_tree ?_)
  show wpAny _ _ (callAny (.type "set") _) _ _ _
  refine wpAny_pure ⟨Code.quiet_builtin _ (by decide +kernel), codeAny_builtin F.entry_type_call ?_⟩
  rw [Around.under_plain (weight_type_call_type "set" [.ref l] []) rfl]
  have h1 := F.called_set.notType
  have h2 := F.called_set.canCreate
  have hct := F.typeCall_set_1 (.ref l)
  repeat (any_goals (first | assumption | wp_step))
  refine codeAny_mono (code_set_led1 (.ref l) (E := E) (Q₁ := fun obj s₁ => obj = .ref s.heap.objs.size ∧ s₁ = { s with heap := s.heap.push (setO0 w) }) ⟨rfl, rfl⟩) fun r s₁ hr => ?_
  cases r with
  | error e => exact hr
  | ok fl =>
    cases fl with
    | ret obj =>
      obtain ⟨rfl, rfl⟩ := hr
      have hS : (s.heap.push (setO0 w)).get? s.heap.objs.size = some (setO0 w) := Heap.get?_push_size _ rfl
      have hT : Shared.TypeIs { s with heap := s.heap.push (setO0 w) } (.ref s.heap.objs.size) "set" := ⟨_, hS, rfl⟩
      have hli := F.called_set.init.lookup
      have hbi := F.called_set.init.bind (.ref s.heap.objs.size)
      repeat (any_goals (first | assumption | wp_step))
      refine codeAny_mono (codeAny_call_builtin (R := wants (fun r s₂ => r = .none ∧ ∃ h' tk c, s₂ = { s with heap := h', toks := tk } ∧ SetM w h' s.heap.objs.size (memK ks) c ∧ c ≤ ks.length ∧
          (∀ b o, s.heap.get? b = some o → h'.get? b = some o)) E) F.called_set.init.plain F.entry_set_init (check_set_init_1 hT ?_)) fun r₂ s₂ hr₂ => ?_
      · obtain ⟨ol, hol, hcl, nl, hdl⟩ := hl
        obtain ⟨ocls, odict, odata, oslots⟩ := ol
        simp only at hcl hdl
        subst hcl; subst hdl
        have hol' : (s.heap.push (setO0 w)).get? l = some { cls := .type "list", dict := odict, data := .seq items nl, slots := oslots } := Heap.get?_push_of_some _ hol
        have hsls := F.sub_list_set
        have hslf := F.sub_list_frozenset
        have hne : (Value.type "list" == Value.type "dict") = false := by decide
        have hl1 : (s.heap.push (setO0 w)).IsList l items := ⟨_, hol', rfl, nl, rfl⟩
        unfold Builtin.«set.__init__» noKeywords Builtin.Frozenset.updateFrom
        generalize hPI : pyIter = PI
        wp_walk
        subst hPI
        refine wpAny_pyIter_list hl1 ?_
        refine wpAny_bind (wpAny_runValue ?_)
        have hlS : l < s.heap.objs.size := Heap.lt_size hol
        have hh3 : A.in1.in1.in1.handled = none := by simp [hh]
        have hneI : l ≠ (s.heap.push (setO0 w)).objs.size := by
          rw [Heap.size_push]; exact Nat.ne_of_lt (Nat.lt_succ_of_lt hlS)
        have hSf : s.heap.objs.size ∉ [(s.heap.push (setO0 w)).objs.size, l] := by
          rw [Heap.size_push]; simp only [List.mem_cons, List.mem_singleton, List.not_mem_nil, or_false, not_or]
          exact ⟨Nat.ne_of_lt (Nat.lt_succ_self _), Nat.ne_of_gt hlS⟩
        refine setM_loop ((Walks.list hh3 _ l hneI items).toS) s.heap.objs.size
          hSf ks hisz hb hval (items.size - 0) 0 _ (by omega) (Nat.zero_le _)
          ⟨⟨_, Heap.get?_push_size _ rfl, rfl, rfl⟩, (hl1.push _)⟩ ?hS0 ?hR
        case hS0 =>
          have hget : ((s.heap.push (setO0 w)).push { cls := .type "list_iterator", data := .fields #[.ref l, .int 0 0] }).get? s.heap.objs.size = some (setO0 w) := Heap.get?_push_of_some _ hS
          exact ⟨0, Nat.le_refl 0, setM_new hget⟩
        case hR =>
          intro s' c' hm hc' hS'
          obtain ⟨h', g2, d', tk', os'⟩ := s'
          have eg : g2 = s.gens := hm.gens
          have ed : d' = s.drawn := hm.drawn
          have eo : os' = s.os := hm.os
          subst eg; subst ed; subst eo
          show wpAny _ _ _ _ _ _
          refine wpAny_pure ?_
          show wpAny _ _ (ret Value.none) _ _ _
          rw [hisz] at hc'
          refine wpAny_pure ⟨rfl, h', tk', c', rfl, hS', hc', fun b o e => ?_⟩
          have hb0 : b < s.heap.objs.size := Heap.lt_size e
          have hb1 : b ≠ s.heap.objs.size := Nat.ne_of_lt hb0
          have hb2 : b ≠ (s.heap.push (setO0 w)).objs.size := by
            rw [Heap.size_push]; exact Nat.ne_of_lt (Nat.lt_succ_of_lt hb0)
          exact hm.heap b o (by simp only [List.mem_cons, List.mem_singleton, List.not_mem_nil, or_false, not_or]; exact ⟨hb1, hb2⟩) (Heap.get?_push_of_some _ (Heap.get?_push_of_some _ e))
      · cases r₂ with
        | error e => exact hr₂
        | ok fl₂ =>
          cases fl₂ with
          | ret r =>
            obtain ⟨rfl, h', tk, c', rfl, hS', hc', hk'⟩ := hr₂
            repeat (any_goals (first | assumption | wp_step))
            exact h _ _ _ hS' hc' hk'
          | _ => exact hr₂.elim
    | _ => exact hr.elim
end
end Z


set_option Elab.async false
set_option linter.all false
set_option maxRecDepth 100000
/-! sorted(set(..)) -/
namespace Z
open PySem PySem.Spec PyProof.Rows L2

def isI : D → Bool
  | .int _ => true
  | _ => false
def isS : D → Bool
  | .str _ => true
  | _ => false
def dKey : D → Key
  | .int i => .inl i
  | .str x => .inr x
  | _ => .inl 0
/-- each once -/
def nubD : List D → List D
  | [] => []
  | x :: xs => if x ∈ xs then nubD xs else x :: nubD xs
theorem mem_nub {x : D} : ∀ {xs : List D}, x ∈ nubD xs ↔ x ∈ xs
  | [] => by simp [nubD]
  | y :: xs => by
    unfold nubD
    by_cases h : y ∈ xs
    · rw [if_pos h, mem_nub, List.mem_cons]
      exact ⟨.inr, fun z => z.elim (fun e => e ▸ h) id⟩
    · rw [if_neg h, List.mem_cons, List.mem_cons, mem_nub]
theorem nub_nodup : ∀ (xs : List D), (nubD xs).Nodup
  | [] => List.nodup_nil
  | y :: xs => by
    unfold nubD
    by_cases h : y ∈ xs
    · rw [if_pos h]; exact nub_nodup xs
    · rw [if_neg h, List.nodup_cons]
      exact ⟨fun z => h (mem_nub.mp z), nub_nodup xs⟩
def keysOk (xs : List D) : Bool := decide (xs.length < 1000) && (xs.all isI || xs.all isS)
theorem sortD_pair (xs : List D) : (sortD xs).Pairwise fun a b => PySem.W.dataLe false toPy a b = true := PySem.W.sort_pairwise (PySem.W.sortLe_total _ _ _) xs
end Z


set_option Elab.async false
set_option linter.all false
set_option maxRecDepth 100000
/-! sorted(set(..)): the rule -/
namespace Z
open PySem PySem.Spec PyProof.Rows L2

theorem keysOk_key {xs : List D} (h : keysOk xs = true) {x : D} (hx : x ∈ xs) : (∃ i, x = .int i) ∨ ∃ z, x = .str z := by
  simp only [keysOk, Bool.and_eq_true, Bool.or_eq_true, List.all_eq_true] at h
  rcases h.2 with h | h
  · have := h x hx
    cases x <;> simp_all [isI]
  · have := h x hx
    cases x <;> simp_all [isS]
theorem dKey_inj {xs : List D} (h : keysOk xs = true) {x y : D} (hx : x ∈ xs) (hy : y ∈ xs) (e : dKey x = dKey y) : x = y := by
  rcases keysOk_key h hx with ⟨i, rfl⟩ | ⟨z, rfl⟩ <;> rcases keysOk_key h hy with ⟨j, rfl⟩ | ⟨u, rfl⟩ <;> simp_all [dKey]
theorem keysOk_alike {xs : List D} (h : (xs.all isI || xs.all isS) = true) : sortOk xs = true := by
  simp only [sortOk, Bool.and_eq_true, Bool.or_eq_true, List.all_eq_true] at h ⊢
  refine ⟨?_, ?_, ?_, ?_⟩
  · rw [D.nols_iff]
    intro x hx
    rcases h with h | h <;> have := h x hx <;> cases x <;> simp_all [isI, isS, D.nol]
  · intro x hx
    rcases h with h | h <;> have := h x hx <;> cases x <;> simp_all [isI, isS, dep, D.dp, toPy, PyData.depth]
  · intro x hx y hy
    rcases h with h | h <;> have := h x hx <;> have := h y hy <;> cases x <;> cases y <;> simp_all [isI, isS, toPy, PySem.W.alike]
  · right
    intro x hx
    rcases h with h | h <;> have := h x hx <;> cases x <;> simp_all [isI, isS, isPlainS]
theorem nub_len : ∀ xs : List D, (nubD xs).length ≤ xs.length
  | [] => Nat.le_refl _
  | x :: xs => by
    unfold nubD
    split
    · exact Nat.le_succ_of_le (nub_len xs)
    · exact Nat.succ_le_succ (nub_len xs)
section
variable {X : Cx} {e : Expr} {q : Bool} {m : Den} {p p2 pos pos2 : Pos}
end
end Z


set_option Elab.async false
set_option linter.all false
set_option maxRecDepth 100000
/-! the head: what the defs' objects are, the tables at the start, the law's call -/
namespace Z
open PySem PySem.Spec PyProof.Rows L2

theorem codeHd_inv {K : PySem.W.Frag} {c P : Addr} (h : PySem.W.codeHdIn K c P = true) : ∃ od vs sl, K.lookup c = some ⟨.type "code", od, .fields vs, sl⟩ ∧ He.tabOf K c = P := by
  unfold PySem.W.codeHdIn at h
  split at h
  · rename_i od vs sl hk
    refine ⟨od, vs, sl, hk, ?_⟩
    unfold He.tabOf
    rw [hk]
    simp only [Bool.and_eq_true] at h
    have h11 := h.1.1.1.1.1
    split at h11
    · rename_i P' e
      show (match vs.getD 11 .none with | .ref P => P | _ => 0) = P
      rw [Array.getD_eq_getD_getElem?, e]
      exact beq_iff_eq.mp h11
    · cases h11
  · cases h
/-- each code object of the fragment is one of these defs' -/
def exTabs (tf : List He.Defn) (K : PySem.W.Frag) : Bool := K.all fun q => match q.2 with
  | ⟨.type c, _, .fields _, _⟩ => c != "code" || (tf.map fun p => (He.cT K p).1).contains q.1
  | _ => true
section
variable {fa : List He.Fa} {fn : List He.DefD} {ts : List He.Tab} {tf : List He.Defn} {w : World} {h : Heap} {K : PySem.W.Frag}
theorem tabs_start (c : exTabs tf K = true) {H : Hp} (hH : ∀ p ∈ tf.map (He.cT K), H p.2 = some (.tbl #[])) : Tabs ⟨⟨K, w⟩, .none⟩ H := by
  refine ⟨fun cc P hc => ?_, fun _ e => by cases e⟩
  obtain ⟨od, vs, sl, hk, ht⟩ := codeHd_inv hc
  have h1 := List.all_eq_true.mp c _ (He.lookup_mem hk)
  simp only [bne_self_eq_false, Bool.false_or, List.contains_iff_mem, List.mem_map] at h1
  obtain ⟨p, hp, e⟩ := h1
  have h2 := hH _ (List.mem_map_of_mem hp)
  have e2 : (He.cT K p).2 = P := by
    rw [← ht, ← e]; rfl
  rw [e2] at h2
  exact .mk P #[] (fun _ => 0) (fun _ => 0) h2 trivial (fun pos cv h => by simp [codeAmong] at h) fun pos cv h => by simp [codeAmong] at h
/-- a def of the top, as the others see it -/
structure Def (K : PySem.W.Frag) (mg : Str → Option Value) (x : Str) (st : Stmt) (ps : List Str) (f : Addr) (fd : FuncData) : Prop where
  fz : FunZ K x (L2.defArgs st) (L2.defBody st) (L2.defScope st) f fd
  kp : PySem.W.keepIn K (.ref f) = true
  g : mg x = some (.ref f)
  b : Binds K fd ps []
theorem funZ_of {qual x : Str} {params : Arguments} {body : List Stmt} {scope : Scope} {dvs : List V} {kws : List (Str × V)} {fd : FuncData} {p : He.Defn} (F : FunD K x qual params body scope dvs kws (He.fAd K p) fd) (hd : PySem.W.codeHdIn K (He.cT K p).1 (He.cT K p).2 = true) : FunZ K qual params body scope (He.fAd K p) fd := by
  obtain ⟨oc, od, dV, kV, doc, pm, an, cdv, ct, osl, rfl, lk, hcd, _, _⟩ := F.ex
  obtain ⟨c, rfl⟩ := He.codeIn_ref hcd
  have e := He.codeOf_eq lk rfl
  rw [show (He.cT K p).1 = c from e] at hd
  exact ⟨⟨x, oc, od, dV, kV, doc, pm, an, ct, osl, c, _, rfl, lk, hcd, hd⟩⟩
abbrev dOf (x : Str) (st : Stmt) : He.DefD := ⟨(x, none), x, x, L2.defArgs st, L2.defBody st, L2.defScope st, [], []⟩
theorem Def.of (X : K.In h) {mg : Str → Option Value} (G : h.Ns mainGlobals mg) (c : He.SaysX fa fn ts tf (exTabs tf) w h K) {x : Str} {st : Stmt} {ps : List Str} (hd : dOf x st ∈ fn) (ht : (x, none) ∈ tf) (hg : He.Fa.glo x ∈ fa)
    (hb : ∀ (kV doc pm : Value) (an : Option Addr) (cdv ct : Value) (us : List Value), us.length = ps.length → bindArgs (PySem.W.fnOf x x (L2.defArgs st) (L2.defBody st) (L2.defScope st) .none kV doc pm an cdv ct) ⟨us, []⟩ = pure (ps.zip us)) :
    ∃ fd, Def K mg x st ps (He.fAd K (x, none)) fd ∧ ∀ (s : Shared) (us : List Value), us.length = ps.length → BindsTo s fd ⟨us, []⟩ (ps.zip us) := by
  obtain ⟨fd, F⟩ := He.SaysD.defs (fa := fa) (fn := fn) c.t.d hd
  exact ⟨fd, ⟨funZ_of F (c.hd _ ht), F.kp, He.glo_ok X G (He.SaysD.facts c.t.d hg), F.bindsN hb⟩, F.bindsA hb⟩
/-- the law's def, given the walk and what its denotation answers -/
theorem lawAt {l : PySem.W.OpenLaw} {n k : Nat} {x : Str} {mg : Str → Option Value} {f : Addr} {fd : FuncData} {m : Fn} (X : K.In h) (c : He.SaysX fa fn ts tf (exTabs tf) w h K) (hne : tf ≠ [])
    (hb : ∀ (s : Shared) (u : Value), BindsTo s fd ⟨[u], []⟩ [(x, u)])
    (F : ∀ base : Heap, K.In base → base.Ns mainGlobals mg → BMod base mg → FnOk l.prog w K mg base CX0 k f fd [x] (spD ⟨K, w⟩ m))
    (hm : ∀ (ns : List Int) (c : List D → D), c = .lst ∨ c = .frz → ns.length ≤ n → (∀ z ∈ ns, Builtin.Int.intBits z ≤ 1048576) → ∃ fs, m [c (ns.map .int)] = some (.bl true, fs)) : LamX.LawAtS l w K CX0 k n x mg f h := by
  refine ⟨fd, tf.map (He.cT K), spD ⟨K, w⟩ m, fun p hp => ?_, fun p hp => ?_, fun p hp => ?_, hb, fun H a ns hl hbt hH hS => ?_, fun base hK hG hT => F base hK hG ?_⟩
  · obtain ⟨q, hq, rfl⟩ := List.mem_map.mp hp
    exact c.empty q hq
  · obtain ⟨q, hq, rfl⟩ := List.mem_map.mp hp
    exact c.out q hq
  · obtain ⟨q, hq, rfl⟩ := List.mem_map.mp hp
    exact PySem.W.codeHd_of_K X (c.hd q hq)
  · have tb := tabs_start (w := w) (K := K) c.more hH
    have ri : ∀ (js : List Int), Reps ⟨K, w⟩ H (js.map D.int) (js.map V.int) [] := fun js => by
      induction js with
      | nil => exact ⟨rfl, rfl⟩
      | cons j js ih => exact ⟨.int j, _, [], [], rfl, ⟨rfl, rfl⟩, ih, rfl⟩
    rcases hS with (hS | hS) | hS
    · obtain ⟨fs, e⟩ := hm ns .lst (.inl rfl) hl hbt
      refine ⟨[.lst (ns.map .int)], [a], .bl true, fs, ⟨.ref a, [], [a], [], rfl, ⟨a, _, [], rfl, hS, ri ns, rfl⟩, ⟨rfl, rfl⟩, rfl⟩, ?_, tb, e, fun v H' ov of_ _ r _ _ => r.1⟩
      intro b
      rw [List.count_cons, List.count_nil]
      split <;> omega
    · obtain ⟨fs, e⟩ := hm ns .frz (.inr rfl) hl hbt
      refine ⟨[.frz (ns.map .int)], [], .bl true, fs, ⟨.ref a, [], [], [], rfl, ⟨a, _, rfl, .inl hS, ri ns, rfl⟩, ⟨rfl, rfl⟩, rfl⟩, ?_, tb, e, fun v H' ov of_ _ r _ _ => r.1⟩
      simp [Nd]
    · obtain ⟨fs, e⟩ := hm ns .frz (.inr rfl) hl hbt
      refine ⟨[.frz (ns.map .int)], [], .bl true, fs, ⟨.ref a, [], [], [], rfl, ⟨a, _, rfl, .inr hS, ri ns, rfl⟩, ⟨rfl, rfl⟩, rfl⟩, ?_, tb, e, fun v H' ov of_ _ r _ _ => r.1⟩
      simp [Nd]
  · cases tf with
    | nil => exact absurd rfl hne
    | cons p tf =>
      have := hT (He.cT K p) (List.mem_cons_self ..)
      obtain ⟨bm, ob, e1, e2, e3, e4, e5, e6, e7, e8⟩ := this.bm
      exact ⟨bm, ob, e1, e2, e5, e6, e7, e8⟩
/-- a deeper place has room for a line's work -/
theorem hu_of {k : Nat} {A : Around} (r : Room k A) : A.units + 70 < cLine := by
  have := r.un; unfold cLine at *; omega
end
end Z


set_option Elab.async false
set_option linter.all false
set_option maxRecDepth 100000
/-! short names for what is printed -/
namespace Z
open PySem PySem.Spec PyProof.Rows L2
theorem h64 {k : Nat} {A : Around} (r : Room k A) : A.units + 64 < cLine := by have := hu_of r; omega
theorem h65 {k : Nat} {A : Around} (r : Room k A) : A.units + 65 < cLine := by have := hu_of r; omega
abbrev fSub : List D → Option D := fI2 fun i j => some (.int (i - j))
abbrev fFdiv : List D → Option D := fI2 fun i j => if j ≠ 0 ∧ j.natAbs < 1073741824 then some (.int (i.fdiv j)) else none
abbrev fMod : List D → Option D := fI2 fun i j => if j ≠ 0 then some (.int (i.fmod j)) else none
abbrev fPow : List D → Option D := fI2 fun i j => if 0 ≤ j ∧ j ≤ 1000000 ∧ i.natAbs < 2 ^ 64 then some (.int (i ^ j.toNat)) else none
abbrev fLt : List D → Option D := fCmp fun a b => ltD a b
abbrev fGt : List D → Option D := fCmp fun a b => ltD b a
abbrev fLe : List D → Option D := fCmp fun a b => !ltD b a
abbrev fGe : List D → Option D := fCmp fun a b => !ltD a b
theorem bb_len : bootBuiltins "len" = some (.builtin "len") := by decide +kernel
theorem bb_isinstance : bootBuiltins "isinstance" = some (.builtin "isinstance") := by decide +kernel
theorem bb_sorted : bootBuiltins "sorted" = some (.builtin "sorted") := by decide +kernel
theorem bb_max : bootBuiltins "max" = some (.builtin "max") := by decide +kernel
theorem bb_int : bootBuiltins "int" = some (.type "int") := by decide +kernel
theorem bb_tuple : bootBuiltins "tuple" = some (.type "tuple") := by decide +kernel
theorem bb_list : bootBuiltins "list" = some (.type "list") := by decide +kernel
theorem bb_str : bootBuiltins "str" = some (.type "str") := by decide +kernel
theorem bb_bool : bootBuiltins "bool" = some (.type "bool") := by decide +kernel
/-- the slots of a list -/
def kpL (l : List Nat) : Nat → Bool := fun i => l.contains i
theorem kpL_sub {a b : List Nat} (h : a.all (b.contains ·) = true) : ∀ i, kpL a i = true → kpL b i = true := fun i hi => by
  unfold kpL at hi ⊢
  exact List.all_eq_true.mp h i (List.contains_iff_mem.mp hi)
/-- a def of which nothing is asked -/
theorem fn_none {P : Program} {w : World} {K : PySem.W.Frag} {mg : Str → Option Value} {base : Heap} {k : Nat} {f : Addr} {fd : FuncData} {ps : List Str} : FnOk P w K mg base CX0 k f fd ps (spD ⟨K, w⟩ fun _ => none) := by
  constructor
  · intro vs H Q E h
    obtain ⟨ds, oA, r, fs, _, _, _, e, _⟩ := h
    cases e
  · intro A outer s H args us vs Q E hr h0 hb hv h
    obtain ⟨ds, oA, r, fs, _, _, _, e, _⟩ := h
    cases e
end Z


set_option Elab.async false
set_option linter.all false
set_option maxRecDepth 100000
/-! plain laws of what the denotations compute by -/
namespace Z
open PySem PySem.Spec PyProof.Rows L2

/-! ### equality, depth -/
mutual
/-- no bool in it: equality is sameness -/
def D.cl : D → Bool
  | .non => true
  | .int _ => true
  | .str _ => true
  | .tup xs => D.cls xs
  | .lst xs => D.cls xs
  | _ => false
def D.cls : List D → Bool
  | [] => true
  | x :: xs => D.cl x && D.cls xs
end
mutual
theorem eqD_cl : ∀ (a b : D), a.cl = true → b.cl = true → (eqD a b = true ↔ a = b)
  | .non, b, _, h => by cases b <;> simp [D.cl] at h <;> simp [eqD, toPy, PyData.eqv]
  | .int i, b, _, h => by cases b <;> simp [D.cl] at h <;> simp [eqD, toPy, PyData.eqv]
  | .str x, b, _, h => by cases b <;> simp [D.cl] at h <;> simp [eqD, toPy, PyData.eqv]
  | .tup xs, b, g, h => by
    cases b <;> simp [D.cl] at h <;> simp [eqD, toPy, PyData.eqv]
    exact eqDs_cl xs _ (by simpa [D.cl] using g) h
  | .lst xs, b, g, h => by
    cases b <;> simp [D.cl] at h <;> simp [eqD, toPy, PyData.eqv]
    exact eqDs_cl xs _ (by simpa [D.cl] using g) h
  | .bl _, _, g, _ => by simp [D.cl] at g
  | .frz _, _, g, _ => by simp [D.cl] at g
  | .dic _ _, _, g, _ => by simp [D.cl] at g
  | .obj _ _ _, _, g, _ => by simp [D.cl] at g
theorem eqDs_cl : ∀ (a b : List D), D.cls a = true → D.cls b = true → (PyData.eqvAll (toPys a) (toPys b) = true ↔ a = b)
  | [], [], _, _ => by simp [toPys, PyData.eqvAll]
  | [], _ :: _, _, _ => by simp [toPys, PyData.eqvAll]
  | _ :: _, [], _, _ => by simp [toPys, PyData.eqvAll]
  | x :: xs, y :: ys, g, h => by
    simp only [D.cls, Bool.and_eq_true] at g h
    have h1 := eqD_cl x y g.1 h.1
    have h2 := eqDs_cl xs ys g.2 h.2
    simp only [toPys, PyData.eqvAll, Bool.and_eq_true, List.cons.injEq]
    exact and_congr h1 h2
end
theorem eqD_eq {a b : D} (ha : a.cl = true) (hb : b.cl = true) : eqD a b = decide (a = b) := by
  rw [Bool.eq_iff_iff, eqD_cl a b ha hb, decide_eq_true_eq]
theorem dep_of {d : D} (h : d.dp ≤ 60) : dep d = true := decide_eq_true h
theorem dep_int (i : Int) : dep (.int i) = true := dep_of (by simp [D.dp])
/-! ### the operators -/
theorem fEq_cl {a b : D} (ha : a.cl = true) (hb : b.cl = true) (da : a.dp ≤ 60) (db : b.dp ≤ 60) : fEq [a, b] = some (.bl (decide (a = b))) := by
  simp only [fEq, dep_of da, dep_of db, Bool.and_self, if_true, eqD_eq ha hb]
theorem fEq_int (i j : Int) : fEq [.int i, .int j] = some (.bl (decide (i = j))) := by
  rw [fEq_cl (by simp [D.cl]) (by simp [D.cl]) (by simp [D.dp]) (by simp [D.dp])]; simp
theorem fEq_str (i j : Str) : fEq [.str i, .str j] = some (.bl (decide (i = j))) := by
  rw [fEq_cl (by simp [D.cl]) (by simp [D.cl]) (by simp [D.dp]) (by simp [D.dp])]; simp
theorem fNe_int (i j : Int) : fNe [.int i, .int j] = some (.bl (decide (i ≠ j))) := by
  simp only [fNe, dep_int, Bool.and_self, if_true, eqD_eq (a := .int i) (b := .int j) (by simp [D.cl]) (by simp [D.cl])]
  simp
theorem cmp_int (i j : Int) : cmpOk (.int i) (.int j) = true := by simp [cmpOk, toPy, PySem.W.alike, dep_int]
theorem ltD_int (i j : Int) : ltD (.int i) (.int j) = decide (i < j) := by
  unfold ltD; exact PySem.W.dataLt_int i j
theorem fLt_int (i j : Int) : fLt [.int i, .int j] = some (.bl (decide (i < j))) := by simp only [fCmp, cmp_int, if_true, ltD_int]
theorem fGt_int (i j : Int) : fGt [.int i, .int j] = some (.bl (decide (j < i))) := by simp only [fCmp, cmp_int, if_true, ltD_int]
theorem not_dec {p q : Prop} [Decidable p] [Decidable q] (h : ¬ p ↔ q) : (!decide p) = decide q := by
  by_cases hp : p
  · have : ¬ q := fun hq => h.mpr hq hp
    simp [hp, this]
  · simp [hp, h.mp hp]
theorem fLe_int (i j : Int) : fLe [.int i, .int j] = some (.bl (decide (i ≤ j))) := by
  simp only [fCmp, cmp_int, if_true, ltD_int]
  exact congrArg (fun b => some (D.bl b)) (not_dec (by omega))
theorem fGe_int (i j : Int) : fGe [.int i, .int j] = some (.bl (decide (j ≤ i))) := by
  simp only [fCmp, cmp_int, if_true, ltD_int]
  exact congrArg (fun b => some (D.bl b)) (not_dec (by omega))
/-! ### loops -/
/-- a for loop that never leaves, by what holds behind each part of its items; gs: the walked lists that must stand -/
theorem dForL_inv {gs : List (Nat × D)} {b : Bnd} {mb : Blk} (J : List D → DE → Prop) : ∀ (xs pre : List D) (δ : DE), (∀ p δ, J p δ → gOk gs δ = true) → (∀ p x q δ, pre ++ xs = p ++ x :: q → J p δ → ∃ δ1 δ2, b x δ = some δ1 ∧ (mb δ1 = some (.nx δ2) ∨ mb δ1 = some (.ct δ2)) ∧ J (p ++ [x]) δ2) →
    J pre δ → ∃ δ', dForL gs b mb xs δ = some (.nx δ') ∧ J (pre ++ xs) δ'
  | [], pre, δ, hg, _, h => ⟨δ, by simp only [dForL, hg _ _ h, if_true], by rw [List.append_nil]; exact h⟩
  | x :: xs, pre, δ, hg, hs, h => by
    obtain ⟨δ1, δ2, e1, e2, h2⟩ := hs pre x xs δ rfl h
    obtain ⟨δ', e3, h3⟩ := dForL_inv J xs (pre ++ [x]) δ2 hg (fun p y q δ e => hs p y q δ (by rw [← e]; simp)) h2
    refine ⟨δ', ?_, by simpa using h3⟩
    simp only [dForL, hg _ _ h, if_true, e1]
    rcases e2 with e2 | e2 <;> rw [e2] <;> exact e3
end Z


set_option Elab.async false
set_option linter.all false
set_option maxRecDepth 100000
/-! enumerate of a list or a tuple -/
namespace Z
open PySem PySem.Spec PyProof.Rows L2

/-- a list (true) or a tuple (false) -/
def SqB (b : Bool) (K : PySem.W.Frag) (H : Hp) (a : Addr) (xs : List V) : Prop := match b with
  | true => SqL K H a xs
  | false => SqT K H a xs
def IsB (b : Bool) (h : Heap) (a : Addr) (its : Array Value) : Prop := match b with
  | true => h.IsList a its
  | false => h.IsTuple a its
def IsBI (b : Bool) (h : Heap) (it a : Addr) (i : Nat) : Prop := match b with
  | true => h.IsListIter it a i
  | false => h.IsTupleIter it a i
def itB (b : Bool) (a : Addr) : Obj := match b with
  | true => { cls := .type "list_iterator", data := .fields #[.ref a, .int 0 0] }
  | false => { cls := .type "tuple_iterator", data := .fields #[.ref a, .int 0 0] }
theorem begins_b (b : Bool) (a : Addr) (its : Array Value) : Begins (.ref a) (itB b a) fun h => IsB b h a its := by
  cases b
  · exact begins_tuple a its
  · exact begins_list a its
theorem isBI_new {b : Bool} {a it : Addr} {h : Heap} (e : h.get? it = some (itB b a)) : IsBI b h it a 0 := by
  cases b
  · exact ⟨_, e, rfl, rfl⟩
  · exact ⟨_, e, rfl, rfl⟩
theorem isBI_at {b : Bool} {a it : Addr} {i : Nat} {h h' : Heap} (s : IsBI b h it a i) (k : ∀ o, h.get? it = some o → h'.get? it = some o) : IsBI b h' it a i := by
  cases b
  · obtain ⟨o, e, c, d⟩ := s; exact ⟨o, k o e, c, d⟩
  · obtain ⟨o, e, c, d⟩ := s; exact ⟨o, k o e, c, d⟩
theorem isBI_obj {b : Bool} {a it : Addr} {i : Nat} {h : Heap} (s : IsBI b h it a i) : ∃ o, h.get? it = some o ∧ ∀ v, o.data ≠ .cell v := by
  cases b
  · obtain ⟨o, e, c, d⟩ := s; exact ⟨o, e, fun v q => by rw [d] at q; cases q⟩
  · obtain ⟨o, e, c, d⟩ := s; exact ⟨o, e, fun v q => by rw [d] at q; cases q⟩
theorem draws_b {P : Program} {w : World} {A : Around} (b : Bool) (hh : A.handled = none) (it a : Addr) (hne : a ≠ it) (its : Array Value) :
    Draws P w A it [it, a] its.size (fun i v => its[i]? = some v) (fun i h => IsBI b h it a i ∧ IsB b h a its) := by
  cases b
  · exact Draws.tuple hh it a hne its
  · exact Draws.list hh it a hne its
theorem drawsEnd_b {P : Program} {w : World} {A : Around} (b : Bool) (hh : A.handled = none) (it a : Addr) (its : Array Value) (i : Nat) (hi : its.size ≤ i) :
    Draws P w A it [it, a] i (fun _ _ => True) (fun j h => j = i ∧ IsBI b h it a i ∧ IsB b h a its) where
  live := fun j h st => by obtain ⟨o, e, _⟩ := isBI_obj st.2.1; exact ⟨o, e⟩
  frame := fun j h h' st hk => by
    refine ⟨st.1, isBI_at st.2.1 fun o e => hk it (by simp) o e, ?_⟩
    have h2 := st.2.2
    cases b
    · obtain ⟨o, e, r⟩ := h2; exact ⟨o, hk a (by simp) o e, r⟩
    · obtain ⟨o, e, r⟩ := h2; exact ⟨o, hk a (by simp) o e, r⟩
  item := fun j s Q E hj st hQ => absurd st.1 (by omega)
  done := fun s Q E st hE => by
    cases b
    · exact wpAny_nextOf_tuple_end hh st.2.1 st.2.2 (by simpa using hi) hE
    · exact wpAny_nextOf_list_end hh st.2.1 st.2.2 (by simpa using hi) hE
section
variable {X : Cx} {pins : List (Addr × Obj)} {σ : L2.St} {H : Hp} {s : Shared}
theorem inv_b {b : Bool} {a : Addr} {xs : List V} (I : Inv X pins σ H s) (h : SqB b X.K H a xs) : ∃ its : List Value, Vals xs its ∧ IsB b s.heap a its.toArray ∧ xs.length ≤ sizeLine := by
  cases b
  · exact I.tuple h
  · obtain ⟨its, r, p, z⟩ := I.list h
    exact ⟨its, r, p.isList, z⟩
theorem inv_b_inj {b : Bool} {a : Addr} {xs ys : List V} (I : Inv X pins σ H s) (h : SqB b X.K H a xs) (h' : SqB b X.K H a ys) : xs = ys := by
  cases b
  · exact I.tuple_inj h h'
  · exact I.list_inj h h'
end
theorem lt_of_isB {b : Bool} {h : Heap} {a : Addr} {its : Array Value} (s : IsB b h a its) : a < h.objs.size := by
  cases b
  · obtain ⟨o, e, _⟩ := s; exact Heap.lt_size e
  · obtain ⟨o, e, _⟩ := s; exact Heap.lt_size e
end Z


set_option Elab.async false
set_option linter.all false
set_option maxRecDepth 100000
/-! enumerate as what is walked -/
namespace Z
open PySem PySem.Spec PyProof.Rows L2
open PySem.AutoSeq1 (wpAny_loadPart')

end Z


set_option Elab.async false
set_option linter.all false
set_option maxRecDepth 100000
/-! for .. in enumerate(a list or a tuple) -/
namespace Z
open PySem PySem.Spec PyProof.Rows L2

section
variable {X : Cx} {e l : Expr} {ta : TA} {p pos tpos : Pos} {elts : List Expr} {kk : Nat} {q : Bool} {ml : Den}
end
end Z


set_option Elab.async false
set_option linter.all false
set_option maxRecDepth 100000
/-! unary minus -/
namespace Z
open PySem PySem.Spec PyProof.Rows L2
section
variable {X : Cx}
end
end Z


set_option Elab.async false
set_option linter.all false
set_option maxRecDepth 100000
/-! zip of two or three lists or tuples -/
namespace Z
open PySem PySem.Spec PyProof.Rows L2
/-- draws up to i at least, whatever is left -/
theorem draws_at {P : Program} {w : World} {A : Around} (b : Bool) (hh : A.handled = none) (it a : Addr) (hne : a ≠ it) (its : Array Value) (i : Nat) :
    ∃ (n : Nat) (Pt : Nat → Value → Prop) (St : Nat → Heap → Prop), Draws P w A it [it, a] n Pt St ∧ i ≤ n ∧ (its.size ≤ i → n = i) ∧ ∀ h, IsBI b h it a i → IsB b h a its → St i h := by
  by_cases hi : its.size ≤ i
  · exact ⟨i, _, _, drawsEnd_b b hh it a its i hi, Nat.le_refl _, fun _ => rfl, fun h h1 h2 => ⟨rfl, h1, h2⟩⟩
  · exact ⟨its.size, _, _, draws_b b hh it a hne its, by omega, fun h => absurd h hi, fun h h1 h2 => ⟨h1, h2⟩⟩
/-- pairs of the items of the lists or tuples at a and b -/
def ItzB (b1 b2 : Bool) (K : PySem.W.Frag) (a1 a2 : Addr) : It :=
  ⟨fun i H => ∃ (xs ys : List V) (x y : V), SqB b1 K H a1 xs ∧ SqB b2 K H a2 ys ∧ xs[i]? = some x ∧ ys[i]? = some y,
   fun i H v H' => ∃ T x y, v = .ref T ∧ H T = none ∧ H' = upd H T (.tup [x, y]) ∧ (∀ xs, SqB b1 K H a1 xs → xs[i]? = some x) ∧ ∀ ys, SqB b2 K H a2 ys → ys[i]? = some y,
   fun i H => ∃ xs ys : List V, SqB b1 K H a1 xs ∧ SqB b2 K H a2 ys ∧ (xs.length ≤ i ∨ ys.length ≤ i)⟩
structure Zs2 (z TI TO i1 i2 a1 a2 : Addr) : Prop where
  s : ZipSep2 z TI TO i1 i2 [i1, a1] [i2, a2]
  n1 : a1 ≠ i1
  n2 : a2 ≠ i2
set_option maxHeartbeats 1000000 in
theorem turn_zipB {P : Program} {w : World} {K : PySem.W.Frag} {elts : List Expr} {kk : Nat} {tpos : Pos} (b1 b2 : Bool) {z TI TO i1 i2 a1 a2 : Addr} (D : Zs2 z TI TO i1 i2 a1 a2) :
    Turn P w K (.Tuple elts kk tpos) (ItzB b1 b2 K a1 a2) [z, TI, TO, i1, i2] z (fun i h => IsZip h z TI TO .none ∧ IsTupOf2 h TI (.ref i1) (.ref i2) ∧ (∃ x y, IsTupOf2 h TO x y) ∧ IsBI b1 h i1 a1 i ∧ IsBI b2 h i2 a2 i) where
  mem := by simp
  obj := fun i h st c hc => by
    obtain ⟨hz, hTI, ⟨x, y, hTO⟩, h1, h2⟩ := st
    have e' : c = z ∨ c = TI ∨ c = TO ∨ c = i1 ∨ c = i2 := by simpa using hc
    rcases e' with q | q | q | q | q
    · rw [q]; exact ⟨_, hz, fun v q => nomatch q⟩
    · rw [q]; exact ⟨_, hTI, fun v q => nomatch q⟩
    · rw [q]; exact ⟨_, hTO, fun v q => nomatch q⟩
    · rw [q]; exact isBI_obj h1
    · rw [q]; exact isBI_obj h2
  keep := fun i h h' st k => by
    obtain ⟨hz, hTI, ⟨x, y, hTO⟩, h1, h2⟩ := st
    exact ⟨k z (by simp) _ hz, k TI (by simp) _ hTI, ⟨x, y, k TO (by simp) _ hTO⟩, isBI_at h1 fun o q => k i1 (by simp) o q, isBI_at h2 fun o q => k i2 (by simp) o q⟩
  item := by
    intro X hP hw hK hc i pins s σ H E I hf st hg
    subst hP hw hK
    obtain ⟨hz, hTI, hTO, h1, h2⟩ := st
    obtain ⟨xs, ys, x, y, hqx, hqy, hx, hy⟩ := hg
    obtain ⟨its, rv, p, _⟩ := inv_b I hqx
    obtain ⟨its2, rv2, p2, _⟩ := inv_b I hqy
    obtain ⟨u, hu, ru⟩ := rv.get hx
    obtain ⟨u2, hu2, ru2⟩ := rv2.get hy
    have l1 := rv.length
    have l2 := rv2.length
    have g1 := (List.getElem?_eq_some_iff.mp hx).1
    have g2 := (List.getElem?_eq_some_iff.mp hy).1
    have hh : X.A.in1.handled = none := I.ok.hd hc
    have G := GoesN.zip2 (elts := elts) (x1 := kk) (pos := tpos) D.s (draws_b (P := X.prog) (w := X.w) (A := X.A.in1) b1 hh i1 a1 D.n1 its.toArray) (draws_b (P := X.prog) (w := X.w) (A := X.A.in1) b2 hh i2 a2 D.n2 its2.toArray)
    refine G.goes i s _ E (by simp; omega) ⟨hz, hTI, hTO, ⟨h1, p⟩, h2, p2⟩ fun v h' tk ⟨T, x', y', ev, hT, hx', hy', hIs⟩ st' hk htk => ?_
    subst ev
    have ex : x' = u := by
      have q : its.toArray[i]? = some u := by simpa using hu
      rw [q] at hx'; exact (Option.some.inj hx').symm
    have ey : y' = u2 := by
      have q : its2.toArray[i]? = some u2 := by simpa using hu2
      rw [q] at hy'; exact (Option.some.inj hy').symm
    subst ex ey
    obtain ⟨hz', hTI', hTO', ⟨h1', _⟩, h2', _⟩ := st'
    obtain ⟨o, ho, hcl, n, hd⟩ := hIs
    have new : ObjOk X.prog X.w (upd H T (.tup [x, y])) h' T (.tup [x, y]) := ⟨by show 2 ≤ sizeLine; decide, [x', y'], .cons ru (.cons ru2 .nil), ⟨o, ho, hcl, n, hd⟩⟩
    have I1 : Inv X pins σ (upd H T (.tup [x, y])) { s with heap := h', toks := tk } := I.turnedNew (ch := [z, TI, TO, i1, i2]) (fun c o hb q => hk c o (fun q' => hb (by
      simp only [List.mem_cons, List.not_mem_nil, or_false] at q' ⊢
      rcases q' with q' | q' | q' | q' <;> simp [q'])) q) hf hT new
    have lts : ∀ c ∈ [z, TI, TO, i1, i2], c < s.heap.objs.size := fun c hcm => by
      have e' : c = z ∨ c = TI ∨ c = TO ∨ c = i1 ∨ c = i2 := by simpa using hcm
      rcases e' with q | q | q | q | q
      · rw [q]; exact Heap.lt_size hz
      · rw [q]; exact Heap.lt_size hTI
      · rw [q]; obtain ⟨_, _, hTO⟩ := hTO; exact Heap.lt_size hTO
      · rw [q]; obtain ⟨_, e, _⟩ := isBI_obj h1; exact Heap.lt_size e
      · rw [q]; obtain ⟨_, e, _⟩ := isBI_obj h2; exact Heap.lt_size e
    refine ⟨.ref T, _, I1, rfl, ⟨T, x, y, rfl, I.hok.fresh hT, rfl, fun l hl => by rw [inv_b_inj I hl hqx]; exact hx, fun l hl => by rw [inv_b_inj I hl hqy]; exact hy⟩, ⟨hz', hTI', hTO', h1', h2'⟩, fun c hcm => ?_⟩
    rw [upd_ne (Nat.ne_of_lt (Nat.lt_of_lt_of_le (lts c hcm) hT))]
    exact (hf c hcm).1
  done := by
    intro X hP hw hK hc i pins s σ H E I hf st hg
    subst hP hw hK
    obtain ⟨hz, hTI, ⟨x0, y0, hTO⟩, h1, h2⟩ := st
    obtain ⟨xs, ys, hqx, hqy, hend⟩ := hg
    obtain ⟨its, rv, p, _⟩ := inv_b I hqx
    obtain ⟨its2, rv2, p2, _⟩ := inv_b I hqy
    have l1 := rv.length
    have l2 := rv2.length
    have hh : X.A.in1.handled = none := I.ok.hd hc
    obtain ⟨n1, P1, S1, D1, le1, en1, st1⟩ := draws_at (P := X.prog) (w := X.w) (A := X.A.in1) b1 hh i1 a1 D.n1 its.toArray i
    obtain ⟨n2, P2, S2, D2, le2, en2, st2⟩ := draws_at (P := X.prog) (w := X.w) (A := X.A.in1) b2 hh i2 a2 D.n2 its2.toArray i
    refine wpAny_pyNext_zipD2_end D.s D1 D2 hz hTI hTO (st1 _ h1 p) (st2 _ h2 p2) le1 le2 ?_ fun h' tk hk => ⟨rfl, I.turnedL (ch := [z, TI, TO, i1, i2]) (fun c o hb q => hk c o (fun q' => hb (by simp [q'])) (fun q' => hb (by simp [q'])) (fun q' => hb (by simp [q'])) (fun q' => hb (by simp [q'])) q) hf⟩
    rcases hend with q | q
    · exact .inl (en1 (by simp; omega)).symm
    · exact .inr (en2 (by simp; omega)).symm
  self := fun A i s Q E st h => wpAny_pyIter_zip st.1 h
end Z


set_option Elab.async false
set_option linter.all false
set_option maxRecDepth 100000
/-! for .. in zip(..) -/
namespace Z
open PySem PySem.Spec PyProof.Rows L2
/-- the items of a list or tuple; whether it is a list; what must stand meanwhile -/
def seqR (δ : DE) : R → Option (List D × Bool × List (Nat × D))
  | .own (.tup xs) => if D.imms xs then some (xs, false, []) else none
  | .own (.lst xs) => if D.imms xs then some (xs, true, []) else none
  | .own (.frz xs) => if D.imms xs then some (xs, true, []) else none
  | .at i [] => match δ[i]? with
    | some (some (.lst xs)) => if D.imms xs then some (xs, true, [(i, .lst xs)]) else none
    | _ => none
  | _ => none
section
variable {K : Fw} {κ : Kx} {H : Hp} {σ : L2.St} {δ : DE} {o : List Addr}
theorem seqR_ok {r : R} {v : V} {ov : List Addr} {xs : List D} {b : Bool} {gs : List (Nat × D)} (E : Envs κ H σ δ o) (h : Held κ.K H σ r v ov) (e : seqR δ r = some (xs, b, gs)) :
    ∃ a, v = .ref a ∧ (∀ c ∈ ov, ∃ u, H c = some u ∧ Ow u) ∧ (∃ vs, SqB b κ.K H a vs ∧ Reps κ.K H xs vs []) ∧
      ∀ H', (∀ c ∈ ov, H' c = H c) → (∀ c u, H c = some u → Sh u → H' c = some u) → (∀ p ∈ gs, ∃ v o, σ[p.1]? = some (some v) ∧ Rep κ.K H' p.2 v o) → ∃ vs, SqB b κ.K H' a vs ∧ Reps κ.K H' xs vs [] := by
  unfold seqR at e
  split at e
  · split at e
    · rename_i hi
      simp only [Option.some.injEq, Prod.mk.injEq] at e
      obtain ⟨rfl, rfl, rfl⟩ := e
      obtain ⟨a, vs, rfl, hq, r⟩ := h
      have := r.imm hi; subst this
      exact ⟨a, rfl, (fun c hc => nomatch hc), ⟨vs, hq, r⟩, fun H' h1 h2 h3 => ⟨vs, (fr_of h1 h2).sqt hq, r.fr (fr_of h1 h2)⟩⟩
    · cases e
  · split at e
    · rename_i hi
      simp only [Option.some.injEq, Prod.mk.injEq] at e
      obtain ⟨rfl, rfl, rfl⟩ := e
      obtain ⟨a, vs, o', rfl, hq, r, rfl⟩ := h
      have := r.imm hi; subst this
      exact ⟨a, rfl, fun c hc => by rw [List.mem_singleton.mp hc]; exact ⟨_, hq, ow_lst⟩, ⟨vs, .of hq, r⟩, fun H' h1 h2 h3 => ⟨vs, .of ((h1 a List.mem_cons_self).trans hq), r.fr ((fr_of h1 h2).sub fun b hb => nomatch hb)⟩⟩
    · cases e
  · split at e
    · rename_i hi
      simp only [Option.some.injEq, Prod.mk.injEq] at e
      obtain ⟨rfl, rfl, rfl⟩ := e
      obtain ⟨a, vs, rfl, hq, r, rfl⟩ := h
      exact ⟨a, rfl, (fun c hc => nomatch hc), ⟨vs, hq.sq, r⟩, fun H' h1 h2 h3 => ⟨vs, ((fr_of h1 h2).fz hq).sq, r.fr (fr_of h1 h2)⟩⟩
    · cases e
  · split at e
    · rename_i hd
      split at e
      · rename_i hi
        simp only [Option.some.injEq, Prod.mk.injEq] at e
        obtain ⟨rfl, rfl, rfl⟩ := e
        obtain ⟨rfl, u, hu, hp⟩ := h
        cases (show v = u from hp)
        obtain ⟨v0, oa, oi, ob, hv0, rd, e0, _, _⟩ := E.at hd
        rw [hu] at hv0; cases hv0
        obtain ⟨a, vs, o', rfl, hq, r, _⟩ := rd
        have := r.imm hi; subst this
        refine ⟨a, rfl, (fun c hc => nomatch hc), ⟨vs, .of hq, r⟩, fun H' h1 h2 h3 => ?_⟩
        obtain ⟨v2, o2, hv2, r2⟩ := h3 _ List.mem_cons_self
        rw [hu] at hv2; cases hv2
        obtain ⟨a2, vs2, o2', e2, hq2, rr2, _⟩ := r2
        cases e2
        have := rr2.imm hi; subst this
        exact ⟨vs2, .of hq2, rr2⟩
      · cases e
    · cases e
  · cases e
end
def zipD : List D → List D → List D
  | x :: xs, y :: ys => .tup [x, y] :: zipD xs ys
  | _, _ => []
theorem zipD_len : ∀ xs ys : List D, (zipD xs ys).length = min xs.length ys.length
  | [], ys => by simp [zipD]
  | _ :: _, [] => by simp [zipD]
  | x :: xs, y :: ys => by simp only [zipD, List.length_cons, zipD_len xs ys]; omega
theorem zipD_get : ∀ (xs ys : List D) (i : Nat) (z : D), (zipD xs ys)[i]? = some z → ∃ x y, xs[i]? = some x ∧ ys[i]? = some y ∧ z = .tup [x, y]
  | [], ys, i, z, h => by simp [zipD] at h
  | _ :: _, [], i, z, h => by simp [zipD] at h
  | x :: xs, y :: ys, 0, z, h => by simp [zipD] at h; exact ⟨x, y, rfl, rfl, h.symm⟩
  | x :: xs, y :: ys, i + 1, z, h => by
    simp only [zipD, List.getElem?_cons_succ] at h ⊢
    exact zipD_get xs ys i z h
def sZip2 (m : DE → Option (List R × DE)) : DenS := fun δ => match m δ with
  | some ([r1, r2], δ') => match seqR δ' r1 with
    | some (xs, _, g1) => match seqR δ' r2 with
      | some (ys, _, g2) => some (⟨zipD xs ys, g1 ++ g2⟩, δ')
      | none => none
    | none => none
  | _ => none
def iZipB (b1 b2 : Bool) (K : PySem.W.Frag) (ta : TA) : TI := fun σ H R => ta σ H fun vs H1 => ∃ a1 a2 xs ys, vs = [.ref a1, .ref a2] ∧ SqB b1 K H1 a1 xs ∧ SqB b2 K H1 a2 ys ∧ R (ItzB b1 b2 K a1 a2) H1
section
variable {X : Cx} {e e2 : Expr} {ta : TA} {p pos tpos : Pos} {elts : List Expr} {kk : Nat} {q : Bool} {ml : DE → Option (List R × DE)}
theorem zs2_new {n a1 a2 : Nat} (h1 : a1 < n) (h2 : a2 < n) : Zs2 (n + 4) (n + 2) (n + 3) n (n + 1) a1 a2 where
  s := by
    constructor
    all_goals try simp only [List.mem_cons, List.not_mem_nil, or_false, ne_eq, true_or]
    all_goals first
      | (intro h; have h : @Eq Nat _ _ := h; omega)
      | (rintro (h | h) <;> (have h : @Eq Nat _ _ := h; omega))
  n1 := fun h => by have h : @Eq Nat _ _ := h; omega
  n2 := fun h => by have h : @Eq Nat _ _ := h; omega
theorem pi_zipB (b1 b2 : Bool) (hg : Gl X "zip") (hm : X.mg "zip" = none) (ha : PA X [e, e2] ta)
    (hs : starEach [e, e2] X.env = (false, eval e X.env) :: starEach [e2] X.env := by rfl) (hpl : (backTo pos (starEach [e2] X.env)).any (·.1) = false := by rfl) :
    PI X (.Tuple elts kk tpos) (.Call (.Name "zip" p) [e, e2] [] pos) (iZipB b1 b2 X.K ta) := by
  refine ⟨fun pins s σ H R I h => ?_⟩
  refine Call_ (ld_blt I hg hm PyProof.Rows.boot_zip (PyProof.Rows.callWith_type1 (thn (ha.run pos pins s σ H _ I h) fun us s1 ⟨vs, H1, I1, r1, q1⟩ => ?_) hs hpl))
  obtain ⟨a1, a2, xs, ys, ex, hqx, hqy, q⟩ := q1
  subst ex
  cases r1 with
  | cons r rr =>
    cases rr with
    | cons r' rr =>
      cases rr
      cases r
      cases r'
      obtain ⟨its, rv, p1, _⟩ := inv_b I1 hqx
      obtain ⟨its2, rv2, p2, _⟩ := inv_b I1 hqy
      have f1 := lt_of_isB p1
      have f2 := lt_of_isB p2
      refine zip_begins2 (begins_b b1 a1 its.toArray) (begins_b b2 a2 its2.toArray) p1 p2 fun h' hz hTI hTO hi1 hi2 hsz hk => wpAny_pyIter_zip hz ?_
      have I2 : Inv X pins σ H1 { s1 with heap := h' } := I1.kept (t' := s1.toks) hk
      refine ⟨s1.heap.objs.size + 4, [s1.heap.objs.size + 4, s1.heap.objs.size + 2, s1.heap.objs.size + 3, s1.heap.objs.size, s1.heap.objs.size + 1], _, _, H1, rfl, I2, turn_zipB b1 b2 (zs2_new f1 f2), ⟨hz, hTI, ⟨_, _, hTO⟩, isBI_new hi1, isBI_new hi2⟩, fun c hc => ?_, q⟩
      have hle : s1.heap.objs.size ≤ c := by
        simp only [List.mem_cons, List.not_mem_nil, or_false] at hc
        rcases hc with h | h | h | h | h <;> (have h : @Eq Nat _ _ := h; rw [h]; show @LE.le Nat _ _ _; omega)
      exact I1.fpOk hle (I1.hok.fresh hle)
theorem src_zip {K : Fw} {H : Hp} {σ : L2.St} {ov : List Addr} {xs ys : List D} {g1 g2 : List (Nat × D)} {a1 a2 : Addr} {b1 b2 : Bool}
    (h1 : ∀ H', (∀ a ∈ ov, H' a = H a) → (∀ a u, H a = some u → Sh u → H' a = some u) → (∀ p ∈ g1, ∃ v o, σ[p.1]? = some (some v) ∧ Rep K H' p.2 v o) → ∃ vs, SqB b1 K H' a1 vs ∧ Reps K H' xs vs [])
    (h2 : ∀ H', (∀ a ∈ ov, H' a = H a) → (∀ a u, H a = some u → Sh u → H' a = some u) → (∀ p ∈ g2, ∃ v o, σ[p.1]? = some (some v) ∧ Rep K H' p.2 v o) → ∃ vs, SqB b2 K H' a2 vs ∧ Reps K H' ys vs []) :
    SrcOk K σ ⟨zipD xs ys, g1 ++ g2⟩ (ItzB b1 b2 K a1 a2) H ov := fun i H' k1 k2 k3 => by
  obtain ⟨vs, hq, r⟩ := h1 H' k1 k2 fun p hp => k3 p (List.mem_append_left _ hp)
  obtain ⟨ws, hq2, r2⟩ := h2 H' k1 k2 fun p hp => k3 p (List.mem_append_right _ hp)
  refine ⟨fun z hz => ?_, fun hl => ⟨vs, ws, hq, hq2, by
    simp only [zipD_len] at hl
    rw [r.length, r2.length]
    omega⟩⟩
  obtain ⟨x, y, hx, hy, rfl⟩ := zipD_get _ _ _ _ hz
  obtain ⟨v, hv, rv⟩ := item_of r hx
  obtain ⟨w, hw, rw2⟩ := item_of r2 hy
  refine ⟨⟨vs, ws, v, w, hq, hq2, hv, hw⟩, fun u H'' hu => ?_⟩
  obtain ⟨T, x', y', rfl, hT, rfl, hx', hy'⟩ := hu
  have ex := hx' vs hq
  rw [hv] at ex; cases ex
  have ey := hy' ws hq2
  rw [hw] at ey; cases ey
  have keep : ∀ c u, H' c = some u → upd H' T (.tup [v, w]) c = some u := fun c u e => by
    rw [upd_ne (ne_of_none e hT)]; exact e
  have fr : Fr0 H' (upd H' T (.tup [v, w])) [] := fr_of (fun a ha => nomatch ha) fun c u e _ => keep c u e
  exact ⟨keep, T, [v, w], rfl, .inl (.inl upd_same), v, [w], [], [], rfl, rv.fr fr, ⟨w, [], [], [], rfl, rw2.fr fr, ⟨rfl, rfl⟩, rfl⟩, rfl⟩
theorem z_zip2 (hg : Gl X "zip") (hm : X.mg "zip" = none) (hl : PA X [e, e2] (TAr (kx X) q ml)) (hs : starEach [e, e2] X.env = (false, eval e X.env) :: starEach [e2] X.env := by rfl) (hpl : (backTo pos (starEach [e2] X.env)).any (·.1) = false := by rfl) :
    PI X (.Tuple elts kk tpos) (.Call (.Name "zip" p) [e, e2] [] pos) (TIm (kx X) q (sZip2 ml)) := ⟨fun pins s σ H R I hw => by
  obtain ⟨δ, o, src, δ', E, n, h, k⟩ := hw
  unfold sZip2 at h
  split at h
  · rename_i r1 r2 δ1 hm1
    split at h
    · rename_i xs b1 g1 hr1
      split at h
      · rename_i ys b2 g2 hr2
        simp only [Option.some.injEq, Prod.mk.injEq] at h
        obtain ⟨rfl, rfl⟩ := h
        refine (PI.ok (pi_zipB b1 b2 hg hm hl hs hpl)).run pins s σ H R I ⟨δ, o, _, _, E, n, hm1, fun vs H1 o1 ov st en hd ow => ?_⟩
        obtain ⟨v1, vr, ov1, ovr, rfl, hd1, hd2, rfl⟩ := hd
        obtain ⟨v2, vr2, ov2, ovr2, rfl, hd2, hd3, rfl⟩ := hd2
        obtain ⟨rfl, rfl⟩ := hd3
        obtain ⟨a1, rfl, l1, ⟨vs1, q1, r1⟩, f1⟩ := seqR_ok en hd1 hr1
        obtain ⟨a2, rfl, l2, ⟨vs2, q2, r2⟩, f2⟩ := seqR_ok en hd2 hr2
        rw [List.append_nil] at ow
        refine ⟨a1, a2, vs1, vs2, rfl, q1, q2, fun hz => k _ H1 o1 (ov1 ++ ov2) st en ow (fun c hc => ?_) (src_zip (fun H' h1 h2 h3 => f1 H' (fun c hc => h1 c (List.mem_append_left _ hc)) h2 h3) (fun H' h1 h2 h3 => f2 H' (fun c hc => h1 c (List.mem_append_right _ hc)) h2 h3)) ?_⟩
        · rcases List.mem_append.mp hc with hc | hc
          · exact l1 c hc
          · exact l2 c hc
        · show (zipD xs ys).length ≤ sizeLine
          rw [zipD_len]
          have : vs1.length ≤ sizeLine := by
            cases b1
            · exact hz.2 _ _ q1
            · exact hz.1 _ _ q1
          have := r1.length
          omega
      · cases h
    · cases h
  · cases h⟩
end
end Z


set_option Elab.async false
set_option linter.all false
set_option maxRecDepth 100000
/-! zip of three -/
namespace Z
open PySem PySem.Spec PyProof.Rows L2
structure Zs3 (z TI TO i1 i2 i3 a1 a2 a3 : Addr) : Prop where
  s : ZipSep3 z TI TO i1 i2 i3 [i1, a1] [i2, a2] [i3, a3]
  n1 : a1 ≠ i1
  n2 : a2 ≠ i2
  n3 : a3 ≠ i3
section
variable {X : Cx} {e e2 e3 : Expr} {ta : TA} {p pos tpos : Pos} {elts : List Expr} {kk : Nat} {q : Bool} {ml : DE → Option (List R × DE)}
end
end Z


set_option Elab.async false
set_option linter.all false
set_option maxRecDepth 100000
/-! methods that change a list of data that cannot be changed -/
namespace Z
open PySem PySem.Spec PyProof.Rows L2
/-- what a method makes of a list and its arguments: the list behind it, the answer -/
abbrev MethD := List D → List D → Option (List D × D)
structure MethR (K : Fw) (r : V → List V → Hp → VK → Prop) (g : MethD) : Prop where
  run : ∀ (l : Addr) (vs us : List V) (H : Hp) (Q : VK) (xs ds xs' : List D) (d : D), D.imms xs = true → D.imms ds = true → g xs ds = some (xs', d) → Reps K H xs vs [] → Reps K H ds us [] → H l = some (.lst vs) →
    (∀ vs' w, Reps K H xs' vs' [] → Rep K H d w [] → Q w (upd H l (.lst vs'))) → r (.ref l) us H Q
section
variable {X : Cx} {eo e : Expr} {es : List Expr} {qo qe : Bool} {mo : Den} {ma : DE → Option (List R × DE)} {g : MethD} {r : V → List V → Hp → VK → Prop} {apos cpos : Pos}
end
/-! ### pop, remove -/
section
variable {X : Cx} {eo e : Expr} {qo qe : Bool} {mo : Den} {ma : DE → Option (List R × DE)} {apos cpos : Pos}
end
end Z


set_option Elab.async false
set_option linter.all false
set_option maxRecDepth 100000
/-! a < b < c -/
namespace Z
open PySem PySem.Spec PyProof.Rows L2
section
variable {κ : Kx} {σ : L2.St} {H : Hp} {Q : VK} {f1 f2 : List D → Option D} {ma mb mc : Den}
end
section
variable {X : Cx} {a b c : Expr} {pos : Pos} {f1 f2 : List D → Option D} {ma mb mc : Den} {op op' : CmpOp}
end
end Z


set_option Elab.async false
set_option linter.all false
set_option maxRecDepth 100000
/-! list.index, list.remove -/
namespace Z
open PySem PySem.Spec PyProof.Rows L2
section
variable {X : Cx} {eo e : Expr} {qo qe : Bool} {mo : Den} {ma : DE → Option (List R × DE)} {apos cpos : Pos}
end
/-! remove: numbers alone -/
section
variable {X : Cx} {eo e : Expr} {qo qe : Bool} {mo : Den} {ma : DE → Option (List R × DE)} {apos cpos : Pos}
end
end Z


set_option Elab.async false
set_option linter.all false
set_option maxRecDepth 100000
/-! len(set(..)) -/
namespace Z
open PySem PySem.Spec PyProof.Rows L2
def dLenSet (m : Den) : Den := fun δ => match m δ with
  | some (r, δ1) => match deref δ1 r with
    | some d => match itemsD d with
      | some xs => if keysOk xs then some (.own (.int ((nubD xs).length : Nat)), δ1) else none
      | none => none
    | none => none
  | none => none
section
variable {X : Cx} {e : Expr} {q : Bool} {m : Den} {p p2 pos pos2 : Pos}
theorem nodup_on {α β : Type} {f : α → β} : ∀ {l : List α}, (∀ x ∈ l, ∀ y ∈ l, f x = f y → x = y) → l.Nodup → (l.map f).Nodup
  | [], _, _ => .nil
  | x :: l, h, n => by
    rw [List.nodup_cons] at n
    rw [List.map_cons, List.nodup_cons]
    refine ⟨fun hm => ?_, nodup_on (fun a ha b hb => h a (List.mem_cons_of_mem _ ha) b (List.mem_cons_of_mem _ hb)) n.2⟩
    obtain ⟨y, hy, e⟩ := List.mem_map.mp hm
    exact n.1 (h y (List.mem_cons_of_mem _ hy) x List.mem_cons_self e ▸ hy)
/-- as many members as different items -/
theorem set_count {xs : List D} {es : List (Int × Value)} (hk : keysOk xs = true) (nd : (es.map keyK).Nodup) (hm : ∀ k, memK (xs.map dKey) k = true ↔ k ∈ es.map keyK) : es.length = (nubD xs).length := by
  have p : (es.map keyK).Perm ((nubD xs).map dKey) := by
    refine (List.perm_ext_iff_of_nodup nd ?_).mpr fun k => ?_
    · exact nodup_on (fun x hx y hy e => dKey_inj hk (mem_nub.mp hx) (mem_nub.mp hy) e) (nub_nodup xs)
    · rw [← hm k, memK_iff, List.mem_map, List.mem_map]
      exact ⟨fun ⟨x, hx, e⟩ => ⟨x, mem_nub.mpr hx, e⟩, fun ⟨x, hx, e⟩ => ⟨x, mem_nub.mp hx, e⟩⟩
  have := p.length_eq
  simpa using this
theorem z_lenSet (hc : X.calm = true) (hg : Gl X "len") (hm : X.mg "len" = none) (hg2 : Gl X "set") (hm2 : X.mg "set" = none) (he : PE X e (T (kx X) q m))
    (hst2 : starEach [e] X.env = (false, eval e X.env) :: starEach [] X.env := by rfl) :
    PE X (.Call (.Name "len" p) [.Call (.Name "set" p2) [e] [] pos2] [] pos) (T (kx X) q (dLenSet m)) := by
  refine ⟨fun pins s σ H Q I h => ?_⟩
  obtain ⟨δ, o, r, δ', E, n, hmm, kq⟩ := h
  simp only [dLenSet] at hmm
  split at hmm
  · rename_i ra δ1 h1
    split at hmm
    · rename_i d h2
      split at hmm
      · rename_i xs h3
        split at hmm
        · rename_i hk
          simp only [Option.some.injEq, Prod.mk.injEq] at hmm
          obtain ⟨rfl, rfl⟩ := hmm
          have hk2 : decide (xs.length < 1000) = true ∧ (xs.all isI || xs.all isS) = true := by
            have := hk
            unfold keysOk at this
            exact Bool.and_eq_true_iff.mp this
          have hlen : xs.length < 1000 := of_decide_eq_true hk2.1
          have himm : D.imms xs = true := by
            have := keysOk_alike hk2.2
            simp only [sortOk, Bool.and_eq_true] at this
            exact D.nols_imms _ this.1
          refine Call_ (ld_blt I hg hm PySem.boot_len ?_)
          refine PyProof.Rows.callWith_builtin1 (PyProof.Rows.args_cons ?_ rfl) rfl rfl
          refine Call_ (ld_blt I hg2 hm2 PyProof.Rows.boot_set ?_)
          refine PyProof.Rows.callWith_type1 (PyProof.Rows.args_cons (thn (he.run pins s σ H (fun v H1 => ∃ o1 ov, Post (kx X) H σ q o ra δ1 v H1 o1 ov) I ⟨δ, o, ra, δ1, E, n, h1, fun v H1 o1 ov P => ⟨o1, ov, P⟩⟩) fun u s1 ⟨v, H1, I1, rv, o1, ov, P⟩ => PyProof.Rows.args_nil ?_) hst2) hst2 rfl
          obtain ⟨od, rd, _⟩ := P.held.deref P.env h2
          obtain ⟨pp, vs, rfl, hq, rs⟩ := seq_items rd h3 himm
          cases rv
          have main : ∀ (h' : Heap) (tk c : Nat), SetM X.w h' s1.heap.objs.size (memK (xs.map dKey)) c → (∀ b o, s1.heap.get? b = some o → h'.get? b = some o) →
              wpAny (model X.prog X.w) X.A (call (.builtin "len") [.ref s1.heap.objs.size]) (EP X pins σ Q) X.xe { s1 with heap := h', toks := tk } := fun h' tk c R hkp => by
            obtain ⟨ob, es, ep, t, ho, hex, hd, g, nd, hmem, hb, hf, hn, hr, hl⟩ := R
            have hcount := set_count hk nd hmem
            have I2 : Inv X pins σ H1 { s1 with heap := h', toks := tk } := I1.kept (t' := tk) hkp
            refine call_len_set ho hex hd hf (by unfold scanBound at hb; omega) ⟨.int ((nubD xs).length : Nat), H1, I2.tok _, ⟨_, by rw [← hcount, Array.length_toList]⟩, ?_⟩
            exact kq _ H1 o1 [] ⟨P.step, P.env, ⟨rfl, rfl⟩, own_right P.own⟩
          have hval : ∀ (its : List Value), Vals vs its → ∀ (i : Nat) (v : Value), its.toArray[i]? = some v → ∃ k, (xs.map dKey)[i]? = some k ∧ keyIs k v = true := fun its rvs i v hv => by
            obtain ⟨w, hw, rw'⟩ := vals_at rvs (show its[i]? = some v by simpa using hv)
            have hil : i < xs.length := by
              have := (List.getElem?_eq_some_iff.mp hw).1
              rw [rs.length] at this; exact this
            obtain ⟨w', hw', rr⟩ := item_of rs (List.getElem?_eq_getElem hil)
            rw [hw] at hw'; cases hw'
            refine ⟨dKey xs[i], by rw [List.getElem?_map, List.getElem?_eq_getElem hil]; rfl, ?_⟩
            rcases keysOk_key hk (List.getElem_mem hil) with ⟨j, e⟩ | ⟨z, e⟩ <;> rw [e] at rr ⊢
            · obtain ⟨rfl, _⟩ := rr
              obtain ⟨t, rfl⟩ := (show ∃ t, v = Value.int j t from rw')
              exact keyIs_int j t
            · obtain ⟨rfl, _⟩ := rr
              obtain ⟨t, rfl⟩ := (show ∃ t, v = Value.str z t from rw')
              exact keyIs_str z t
          have hb : (xs.map dKey).length + 1 < scanBound := by rw [List.length_map]; unfold scanBound; omega
          rcases hq with hq | hq
          · obtain ⟨its, rvs, hp, _⟩ := I1.list hq
            exact call_setM_list (xs.map dKey) (I1.ok.hd hc) (plainL_isList hp) (by rw [List.size_toArray, ← rvs.length, rs.length, List.length_map]) (hval its rvs) hb fun h' tk c R hcl hkp => PyProof.Rows.args_nil (main h' tk c R hkp)
          · obtain ⟨its, rvs, ⟨ob, e1, e2, nn, e4⟩, _⟩ := I1.tuple hq
            exact call_setM_tuple (xs.map dKey) (I1.ok.hd hc) ⟨ob, e1, e2, nn, e4⟩ (by rw [List.size_toArray, ← rvs.length, rs.length, List.length_map]) (hval its rvs) hb fun h' tk c R hcl hkp => PyProof.Rows.args_nil (main h' tk c R hkp)
        · cases hmm
      · cases hmm
    · cases hmm
  · cases hmm
end
end Z


set_option Elab.async false
set_option linter.all false
set_option maxRecDepth 100000
set_option maxHeartbeats 1000000
/-! sets whose members are rows: the table -/
namespace Z
open PySem PySem.Spec PyProof.Rows L2
/-- v is the row k -/
structure NK (h : Heap) (k : NestedKey) (v : Value) : Prop where
  is : NestedIs h k v
  dp : k.depth ≤ 8
  ref : ∃ a, v = .ref a
section
variable {P : Program} {w : World} {A : Around} {E : Value → Shared → Prop} {s : Shared}
theorem nk_at {h h' : Heap} {k : NestedKey} {v : Value} (x : NK h k v) (hk : ∀ a o vs n, h.get? a = some o → o.data = .seq vs n → h'.get? a = some o) : NK h' k v := ⟨NestedIs.at hk _ _ x.is, x.dp, x.ref⟩
theorem nested_mem {h : Heap} : ∀ {ks : List NestedKey} {vs : List Value}, NestedAll h ks vs → ∀ v ∈ vs, ∃ k, NestedIs h k v ∧ k.depth ≤ NestedKey.depthAll ks
  | _, _, .nil, _, hv => nomatch hv
  | _, _, .cons (k := k) (ks := ks) h1 h2, v, hv => by
    rcases List.mem_cons.mp hv with e | hv
    · exact ⟨k, e ▸ h1, Nat.le_max_left _ _⟩
    · obtain ⟨k', g1, g2⟩ := nested_mem h2 v hv
      exact ⟨k', g1, Nat.le_trans g2 (Nat.le_max_right _ _)⟩
theorem ofA_nested : ∀ (n : Nat) (k : NestedKey) (v : Value) {A : Around} {E : Value → Shared → Prop} {Q : Bool → Shared → Prop} {s : Shared}, NestedIs s.heap k v → k.depth ≤ n → Q false s → wpAny (model P w) A (ofAClassStatement n v) Q E s := by
  intro n
  induction n with
  | zero =>
    intro k v A E Q s x hd hq
    cases x with
    | none => exact wpAny_pure hq
    | bool _ => exact wpAny_pure hq
    | int _ _ => exact wpAny_pure hq
    | text _ _ => exact wpAny_pure hq
    | tup _ _ _ _ => simp [NestedKey.depth] at hd
  | succ n ih =>
    intro k v A E Q s x hd hq
    cases x with
    | none => exact wpAny_pure hq
    | bool _ => exact wpAny_pure hq
    | int _ _ => exact wpAny_pure hq
    | text _ _ => exact wpAny_pure hq
    | @tup a o vs m ks ho hc hdt hall =>
      have hT : s.TypeIs (.ref a) "tuple" := ⟨o, ho, hc⟩
      unfold ofAClassStatement
      refine wpAny_bind (wpAny_typeOf hT ?_)
      dsimp only
      rw [show (("tuple" : String) == "tuple") = true from by decide]
      simp only [if_true]
      refine wpAny_bind (wpAny_pure ?_)
      simp only [Bool.not_true, Bool.false_eq_true, if_false]
      try refine wpAny_bind (wpAny_pure ?_)
      refine wpAny_bind (wpAny_seqItems ho hdt ?_)
      dsimp only
      refine wpAny_bind ?_
      show wpAny _ _ (forIn vs _ _) _ _ s
      rw [← Array.forIn_toList]
      have hd2 : NestedKey.depthAll ks ≤ n := by simp only [NestedKey.depth] at hd; omega
      refine wpAny_forIn_list _ (fun left r s' => r.1 = none ∧ s' = s ∧ ∀ u ∈ left, ∃ k', NestedIs s.heap k' u ∧ k'.depth ≤ n) _ ?turn ?fin _ _ ⟨rfl, rfl, fun u hu => by
        obtain ⟨k', g1, g2⟩ := nested_mem hall u hu
        exact ⟨k', g1, Nat.le_trans g2 hd2⟩⟩
      case turn =>
        rintro u left r s' ⟨hr, rfl, hl⟩
        obtain ⟨k', g1, g2⟩ := hl u List.mem_cons_self
        refine wpAny_bind (ih k' u g1 g2 ?_)
        simp only [Bool.false_eq_true, if_false]
        exact wpAny_pure ⟨rfl, rfl, fun z hz => hl z (List.mem_cons_of_mem _ hz)⟩
      case fin =>
        rintro ⟨r1, r2⟩ s' ⟨hr, rfl, _⟩
        simp only at hr
        subst hr
        exact wpAny_pure hq
theorem hashBy_nested : ∀ (n : Nat) (k : NestedKey) (v : Value) {A : Around} {E : Value → Shared → Prop} {Q : Bool → Shared → Prop} {s : Shared}, NestedIs s.heap k v → k.depth ≤ n → (∀ b, Q b s) → wpAny (model P w) A (hashByValue n v) Q E s := by
  intro n
  induction n with
  | zero =>
    intro k v A E Q s x hd hq
    cases x with
    | none => exact wpAny_pure (hq _)
    | bool _ => exact wpAny_pure (hq _)
    | int _ _ => exact wpAny_pure (hq _)
    | text _ _ => exact wpAny_pure (hq _)
    | tup _ _ _ _ => simp [NestedKey.depth] at hd
  | succ n ih =>
    intro k v A E Q s x hd hq
    cases x with
    | none => exact wpAny_pure (hq _)
    | bool _ => exact wpAny_pure (hq _)
    | int _ _ => exact wpAny_pure (hq _)
    | text _ _ => exact wpAny_pure (hq _)
    | @tup a o vs m ks ho hc hdt hall =>
      have hT : s.TypeIs (.ref a) "tuple" := ⟨o, ho, hc⟩
      unfold hashByValue
      refine wpAny_bind (wpAny_specialOf hT F.slot_tuple_hash.lookup ?_)
      show wpAny _ _ (seqItems? (.ref a) >>= _) _ _ s
      refine wpAny_bind (wpAny_seqItems ho hdt ?_)
      refine wpAny_bind ?_
      show wpAny _ _ (forIn vs _ _) _ _ s
      rw [← Array.forIn_toList]
      have hd2 : NestedKey.depthAll ks ≤ n := by simp only [NestedKey.depth] at hd; omega
      refine wpAny_forIn_list _ (fun left r s' => r.1 = none ∧ s' = s ∧ ∀ u ∈ left, ∃ k', NestedIs s.heap k' u ∧ k'.depth ≤ n) _ ?turn ?fin _ _ ⟨rfl, rfl, fun u hu => by
        obtain ⟨k', g1, g2⟩ := nested_mem hall u hu
        exact ⟨k', g1, Nat.le_trans g2 hd2⟩⟩
      case turn =>
        rintro u left r s' ⟨hr, rfl, hl⟩
        obtain ⟨k', g1, g2⟩ := hl u List.mem_cons_self
        refine wpAny_bind (ih k' u g1 g2 fun b => ?_)
        cases b
        · simp only [Bool.not_false, if_true]
          exact wpAny_pure (wpAny_pure (hq _))
        · simp only [Bool.not_true, Bool.false_eq_true, if_false]
          exact wpAny_pure ⟨rfl, rfl, fun z hz => hl z (List.mem_cons_of_mem _ hz)⟩
      case fin =>
        rintro ⟨r1, r2⟩ s' ⟨hr, rfl, _⟩
        simp only at hr
        subst hr
        exact wpAny_pure (hq _)
theorem seen_nested {x : Value} {k : NestedKey} (hx : NK s.heap k x) {ys : List Value} (hy : ∀ y ∈ ys, ∃ k', NK s.heap k' y) {Q : Bool → Shared → Prop} (hq : Q false s) : wpAny (model P w) A (searchCouldBeSeen x ys) Q E s := by
  unfold searchCouldBeSeen
  refine wpAny_bind ?_
  refine wpAny_forIn_list _ (fun left r s' => r.1 = none ∧ s' = s ∧ ∀ u ∈ left, ∃ k', NK s.heap k' u) _ ?turn ?fin _ _ ⟨rfl, rfl, hy⟩
  case turn =>
    rintro u left r s' ⟨hr, rfl, hl⟩
    obtain ⟨k', hu⟩ := hl u List.mem_cons_self
    have next : ∀ z ∈ left, ∃ k', NK s'.heap k' z := fun z hz => hl z (List.mem_cons_of_mem _ hz)
    obtain ⟨a, rfl⟩ := hx.ref
    obtain ⟨b, rfl⟩ := hu.ref
    dsimp only
    split
    · exact wpAny_pure ⟨rfl, rfl, next⟩
    · refine wpAny_bind (quiet_key k _ 8 s' hx.is hx.dp A E _ ?_)
      simp only [Bool.not_true, Bool.false_eq_true, if_false]
      refine wpAny_bind (quiet_key k' _ 8 s' hu.is hu.dp A E _ ?_)
      simp only [Bool.not_true, Bool.false_eq_true, if_false]
      refine wpAny_bind (ofA_nested 8 k _ hx.is hx.dp ?_)
      simp only [Bool.false_eq_true, if_false]
      refine wpAny_bind (ofA_nested 8 k' _ hu.is hu.dp ?_)
      simp only [Bool.false_eq_true, if_false]
      exact wpAny_pure ⟨rfl, rfl, next⟩
  case fin =>
    rintro ⟨r1, r2⟩ s' ⟨hr, rfl, _⟩
    simp only at hr
    subst hr
    exact wpAny_pure hq
/-- what is stored of a member -/
def cellOf (w : World) (p : NestedKey × Value) : Int × Value := (p.1.hash w, p.2)
/-- the set at a has the members L, in the order of its table -/
structure NSet (w : World) (h : Heap) (a : Addr) (L : List (NestedKey × Value)) (es : Array (Int × Value)) (ep : Nat) (t : SetTable) : Prop where
  obj : ∃ o, h.get? a = some o ∧ o.ExactSet ∧ o.data = .set es ep t
  cells : es.toList = L.map (cellOf w)
  tab : TabOk t (L.map fun p => p.1.hash w)
  nodup : (L.map (·.1)).Nodup
  mem : ∀ p ∈ L, NK h p.1 p.2
  led : w.params.followText "set-order" = true ∨ t.led = true
  room : L.length * 5 < t.mask * 3
  few : L.length < 64
variable {a : Addr} {L : List (NestedKey × Value)} {es : Array (Int × Value)} {ep : Nat} {t : SetTable}
theorem NSet.size (S : NSet w s.heap a L es ep t) : es.size = L.length := by rw [← Array.length_toList, S.cells, List.length_map]
theorem fits_of_tab {t : SetTable} {hs : List Int} {n : Nat} (T : TabOk t hs) (hn : n = hs.length) (hl : n ≤ t.mask) : t.fits n = true := by
  have h1 := T.sz
  simp only [SetTable.fits, SetTable.fill, T.dm, Bool.and_eq_true, beq_iff_eq, decide_eq_true_eq, Array.size_empty, Nat.add_zero]
  omega
theorem NSet.fits (S : NSet w s.heap a L es ep t) : t.fits es.size = true := fits_of_tab S.tab (by rw [S.size, List.length_map]) (by rw [S.size]; have := S.room; omega)
theorem NSet.at_ (S : NSet w s.heap a L es ep t) {i : Nat} {p : NestedKey × Value} (h : L[i]? = some p) : es[i]? = some (cellOf w p) := by
  rw [← Array.getElem?_toList, S.cells, List.getElem?_map, h]; rfl
/-- the steps of a search for the hash h -/
abbrev wayP (t : SetTable) (h : Int) (c : Nat) : SetTable.Probe := nth t.mask (runAt t.mask (SetTable.bits h % (t.mask + 1)) (SetTable.bits h)) c
theorem wayP_dummy (t : SetTable) (h : Int) (c : Nat) : (wayP t h c).dummy = none := by
  have go : ∀ (n : Nat) (p : SetTable.Probe), p.dummy = none → (nth t.mask p n).dummy = none := fun n => by
    induction n with
    | zero => exact fun p hp => hp
    | succ n ih => exact fun p hp => ih _ (by unfold adv; split <;> exact hp)
  exact go c _ rfl
theorem wayP_add (t : SetTable) (h : Int) (c q : Nat) : nth t.mask (wayP t h c) q = wayP t h (c + q) := (nth_add t.mask c _ q).symm
/-- a search, from its c-th step: the row k is there, or the K-th step's place is free -/
theorem nset_search (S : NSet w s.heap a L es ep t) {x : Value} {k : NestedKey} (hx : NK s.heap k x) (hu : A.units + 8 < cLine) {K : Nat} (hKf : K < 10 * SetTable.turns t.mask)
    (hK : way t.mask (k.hash w) K ∉ t.place.toList) (hKb : ∀ c, c < K → way t.mask (k.hash w) c ∈ t.place.toList) {Q : SetFound → Shared → Prop}
    (yes : k ∈ L.map (·.1) → Q (.there none) s) (no : k ∉ L.map (·.1) → Q (.free (way t.mask (k.hash w) K) false) s) :
    ∀ (f c : Nat) (from_ : Option SetTable.Probe), from_.getD (t.probeStart (k.hash w)) = wayP t (k.hash w) c → c ≤ K → K < f + c →
      (∀ (i : Nat) (p : NestedKey × Value), L[i]? = some p → p.1 = k → ∃ c', c ≤ c' ∧ c' < K ∧ t.place.toList[i]? = some (way t.mask (k.hash w) c')) →
      wpAny (model P w) A (setSearchFrom a x (k.hash w) true f from_) Q E s := by
  intro f
  induction f with
  | zero => intro c _ _ h1 h2; omega
  | succ f ih =>
    intro c from_ hst hc hf ahead
    obtain ⟨o, ho, hex, hd⟩ := S.obj
    obtain ⟨ax, rfl⟩ := hx.ref
    rw [setSearchFrom_succ]
    refine wpAny_bind (wpAny_setState_of ho hd S.fits ?_)
    dsimp only
    refine wp_if_neg (by unfold SetTable.gaveWay; rw [mask_odd S.tab.mok]; decide) ?_
    try refine wpAny_bind (wpAny_pure ?_)
    generalize hH : (fun i : Nat => (Option.map (fun e : Int × Value => e.1) es[i]?).getD (0 : Int)) = hashAt
    have hashIs : ∀ (i : Nat) (p : NestedKey × Value), L[i]? = some p → hashAt i = p.1.hash w := fun i p hp => by
      rw [← hH]; simp only [S.at_ hp, Option.map_some, Option.getD_some, cellOf]
    have place : ∀ q, (nth t.mask (wayP t (k.hash w) c) q).j = way t.mask (k.hash w) (c + q) := fun q => congrArg SetTable.Probe.j (wayP_add t (k.hash w) c q)
    have G := go_spec t S.tab.ris S.tab.dm hashAt (k.hash w) (10 * SetTable.turns t.mask) (K - c) (wayP t (k.hash w) c) (wayP_dummy _ _ _) (by omega) (fun q hq => by rw [place]; exact hKb _ (by omega)) (by rw [place, show c + (K - c) = K by omega]; exact hK)
    rcases G with ⟨q, i, hq, hi, hh, before, probe⟩ | ⟨before, probe⟩
    · rw [place] at hi
      have pr : t.probe hashAt (k.hash w) (from_.getD (t.probeStart (k.hash w))) = some (.candidate (way t.mask (k.hash w) (c + q)) i (wayP t (k.hash w) (c + (q + 1)))) := by
        rw [hst, ← place, ← wayP_add]; exact probe
      rw [pr]
      dsimp only
      have hil : i < L.length := by
        have h1 := (List.getElem?_eq_some_iff.mp hi).1
        have h2 := S.tab.sz
        rw [List.length_map] at h2
        rw [Array.length_toList, h2] at h1
        exact h1
      obtain ⟨p, hp⟩ : ∃ p, L[i]? = some p := ⟨_, List.getElem?_eq_getElem hil⟩
      have hpm := List.mem_of_getElem? hp
      have hpk := S.mem p hpm
      obtain ⟨ap, hap⟩ := hpk.ref
      have go : wpAny (model P w) A (searchRest a (.ref ax) (k.hash w) true f es t (way t.mask (k.hash w) (c + q)) i (wayP t (k.hash w) (c + (q + 1)))) Q E s := by
        unfold searchRest
        rw [S.at_ hp]
        dsimp only [cellOf]
        rw [hap]
        rw [hap] at hpk
        refine wpAny_bind (wpAny_holding ((nestedKind P w).eqBool (x := p.1) (y := k) hu ⟨hpk.is, hpk.dp⟩ ⟨hx.is, hx.dp⟩ ?_))
        refine wpAny_bind (wpAny_setState_of ho hd S.fits ?_)
        dsimp only
        by_cases e : p.1 = k
        · refine wp_if_pos (by simp [e]) ?_
          exact wpAny_pure (yes (List.mem_map.mpr ⟨p, hpm, e⟩))
        · refine wp_if_neg (by simp [e]) ?_
          try refine wpAny_bind (wpAny_pure ?_)
          rw [sameMem]
          dsimp only
          have live := slot_live S.tab.ris hi
          have cell : es[i]? = some (p.1.hash w, Value.ref ap) := by rw [S.at_ hp]; unfold cellOf; rw [hap]
          simp only [if_true, live, cell]
          refine wpAny_bind (wpAny_isSame_ref_self (wpAny_bind (wpAny_pure ?_)))
          simp only [if_true]
          refine wp_if_neg (by simp [e]) ?_
          refine ih (c + (q + 1)) _ rfl (by omega) (by omega) fun i0 p0 h0 e0 => ?_
          obtain ⟨c', a1, a2, a3⟩ := ahead i0 p0 h0 e0
          refine ⟨c', ?_, a2, a3⟩
          rcases Nat.lt_trichotomy c' (c + q) with z | z | z
          · exact absurd ((hashIs i0 p0 h0).trans (congrArg (NestedKey.hash w) e0)) (before (c' - c) i0 (by omega) (by rw [place, show c + (c' - c) = c' by omega]; exact a3))
          · rw [z] at a3
            have l2 := slot_live S.tab.ris a3
            rw [live] at l2
            injection l2 with l2
            rw [← l2, hp] at h0
            cases h0
            exact absurd e0 e
          · omega
      by_cases hl : t.led = true
      · refine wp_if_neg (by simp [hl]) ?_
        try refine wpAny_bind (wpAny_pure ?_)
        exact go
      · refine wp_if_pos (by simp [hl]) ?_
        refine wpAny_bind (seen_nested hx (fun y hy => ?_) ?_)
        · obtain ⟨e, he, rfl⟩ := List.mem_map.mp hy
          have he2 : e ∈ es.toList := by
            have : e ∈ es ∧ (e.1 == k.hash w) = true := by simpa using he
            simpa using this.1
          rw [S.cells] at he2
          obtain ⟨p2, hp2, rfl⟩ := List.mem_map.mp he2
          exact ⟨p2.1, S.mem p2 hp2⟩
        · refine wp_if_neg (by decide) ?_
          try refine wpAny_bind (wpAny_pure ?_)
          exact go
    · have pr : t.probe hashAt (k.hash w) (from_.getD (t.probeStart (k.hash w))) = some (.empty (way t.mask (k.hash w) K) none) := by
        have : way t.mask (k.hash w) K = (nth t.mask (wayP t (k.hash w) c) (K - c)).j := by rw [place, show c + (K - c) = K by omega]
        rw [hst, this]; exact probe
      rw [pr]
      dsimp only
      refine wpAny_pure (no fun hm => ?_)
      obtain ⟨p0, h0, e0⟩ := List.mem_map.mp hm
      obtain ⟨i0, h00⟩ := List.mem_iff_getElem?.mp h0
      obtain ⟨c', a1, a2, a3⟩ := ahead i0 p0 h00 e0
      exact before (c' - c) i0 (by omega) (by rw [place, show c + (c' - c) = c' by omega]; exact a3) ((hashIs i0 p0 h00).trans (congrArg (NestedKey.hash w) e0))
theorem nset_find (S : NSet w s.heap a L es ep t) {x : Value} {k : NestedKey} (hx : NK s.heap k x) (hu : A.units + 8 < cLine) {Q : SetFound → Shared → Prop} (yes : k ∈ L.map (·.1) → Q (.there none) s)
    (no : ∀ K, k ∉ L.map (·.1) → way t.mask (k.hash w) K ∉ t.place.toList → (∀ c, c < K → way t.mask (k.hash w) c ∈ t.place.toList) → Q (.free (way t.mask (k.hash w) K) false) s) : wpAny (model P w) A (setSearch a x (k.hash w) true) Q E s := by
  obtain ⟨K, hKf, hK, hKb⟩ := S.tab.first (by rw [List.length_map]; have := S.room; omega) (k.hash w)
  have big : K < 100000 := by
    have : 10 * SetTable.turns t.mask ≤ 1420 := by unfold SetTable.turns; rcases S.tab.mok with e | e | e <;> omega
    omega
  unfold setSearch
  refine nset_search S hx hu hKf hK hKb yes (fun hn => no K hn hK hKb) 100000 0 none rfl (Nat.zero_le _) (by omega) fun i p hp e => ?_
  have hi : (L.map fun p => p.1.hash w)[i]? = some (k.hash w) := by rw [List.getElem?_map, hp, ← e]; rfl
  have hil : i < t.place.toList.length := by
    have h1 := (List.getElem?_eq_some_iff.mp hp).1
    have h2 := S.tab.sz
    rw [List.length_map] at h2
    rw [Array.length_toList, h2]; exact h1
  obtain ⟨c, hc, e2⟩ := S.tab.before hK hi (List.getElem?_eq_getElem hil)
  exact ⟨c, Nat.zero_le _, hc, by rw [List.getElem?_eq_getElem hil, e2]⟩
end
end Z


set_option Elab.async false
set_option linter.all false
set_option maxRecDepth 100000
set_option maxHeartbeats 1000000
/-! sets whose members are rows: adding -/
namespace Z
open PySem PySem.Spec PyProof.Rows L2
theorem pick_range {α : Type} (L : List α) : (List.range L.length).filterMap (fun i => L[i]?) = L := by
  have h : ∀ n, n ≤ L.length → (List.range n).filterMap (fun i => L[i]?) = L.take n := fun n => by
    induction n with
    | zero => exact fun _ => rfl
    | succ n ih =>
      intro hn
      rw [List.range_succ, List.filterMap_append, ih (by omega), List.take_add_one, List.getElem?_eq_getElem (show n < L.length by omega)]
      simp [List.filterMap_cons, List.getElem?_eq_getElem (show n < L.length by omega)]
  rw [h _ (Nat.le_refl _), List.take_length]
section
variable {P : Program} {w : World} {A : Around} {E : Value → Shared → Prop} {s : Shared} {a : Addr} {L : List (NestedKey × Value)} {es : Array (Int × Value)} {ep : Nat} {t : SetTable}
theorem cells_get (h : es.toList = L.map (cellOf w)) (i : Nat) : es[i]? = (L[i]?).map (cellOf w) := by rw [← Array.getElem?_toList, h, List.getElem?_map]
/-- the members in another order -/
theorem cells_order (h : es.toList = L.map (cellOf w)) {order : Array Nat} (hp : order.toList.Perm (List.range L.length)) :
    ∃ L2 : List (NestedKey × Value), (order.filterMap (es[·]?)).toList = L2.map (cellOf w) ∧ L2.Perm L ∧ (L2.map fun p => p.1.hash w) = order.toList.map fun i => (es.map (·.1)).getD i 0 := by
  refine ⟨order.toList.filterMap fun i => L[i]?, ?_, ?_, ?_⟩
  · rw [Array.toList_filterMap, List.map_filterMap]
    congr 1
    funext i
    exact cells_get h i
  · have := hp.filterMap fun i => L[i]?
    rwa [pick_range] at this
  · have hin : ∀ i ∈ order.toList, i < L.length := fun i hi => List.mem_range.mp (hp.mem_iff.mp hi)
    generalize order.toList = l at hin
    induction l with
    | nil => rfl
    | cons i l ih =>
      have hi := hin i List.mem_cons_self
      have e1 := List.getElem?_eq_getElem hi
      rw [List.filterMap_cons_some e1, List.map_cons, List.map_cons, ih fun j hj => hin j (List.mem_cons_of_mem _ hj)]
      congr 1
      have e2 : (es.map (·.1))[i]? = some (L[i].1.hash w) := by rw [Array.getElem?_map, cells_get h, e1]; rfl
      rw [Array.getD_eq_getD_getElem?, e2]; rfl
/-- the members still are rows when the set alone has changed -/
theorem nk_but {h h' : Heap} {o : Obj} {k : NestedKey} {v : Value} (x : NK h k v) (ho : h.get? a = some o) (hd : o.data = .set es ep t) (hs : Heap.SameBut a h h') : NK h' k v :=
  nk_at x fun b ob vs n hb hdt => (hs.2 b fun e => by
    rw [e, ho] at hb
    cases hb
    rw [hd] at hdt
    cases hdt).trans hb
theorem nset_relay {o : Obj} (ho : s.heap.get? a = some o) (hex : o.ExactSet) (hd : o.data = .set es ep t) (hc : es.toList = L.map (cellOf w)) (T : TabOk t (L.map fun p => p.1.hash w)) (hfl : L.length ≤ t.mask)
    (nd : (L.map (·.1)).Nodup) (hm : ∀ p ∈ L, NK s.heap p.1 p.2) (led : w.params.followText "set-order" = true ∨ t.led = true) (few : L.length < 64) {big M : Nat} (hw : SetTable.sizeAbove big = M + 1) (hM : MaskOk M) (hr : L.length * 5 < M * 3) {Q : Unit → Shared → Prop}
    (hQ : ∀ h' L' es' ep' t', Heap.SameBut a s.heap h' → NSet w h' a L' es' ep' t' → L'.Perm L → Q () { s with heap := h' }) : wpAny (model P w) A (setRelay a big) Q E s := by
  have hsz : es.size = L.length := by rw [← Array.length_toList, hc, List.length_map]
  have hMl : M ≤ 127 := by rcases hM with e | e | e <;> omega
  obtain ⟨t', order, rel, perm, T', em, el, _, _⟩ := relaid_ok t (hs := es.map (·.1)) (wanted := big) (M := M) (by omega) hM (by rw [Array.size_map, hsz]; omega)
  rw [Array.size_map, hsz] at perm
  obtain ⟨L2, c2, p2, h2⟩ := cells_order hc perm
  rw [← h2] at T'
  have hs2 : (order.filterMap (es[·]?)).size = es.size := by rw [← Array.length_toList, c2, List.length_map, p2.length_eq, hsz]
  rw [setRelay_eq]
  refine wpAny_bind (wpAny_setState_of ho hd (fits_of_tab T (by rw [hsz, List.length_map]) (by omega)) ?_)
  dsimp only
  refine wp_if_neg (by rw [hw, sizeLine_eq]; omega) ?_
  try refine wpAny_bind (wpAny_pure ?_)
  rw [rel]
  dsimp only
  refine wpAny_bind ?_
  refine wp_if_neg (by rw [hs2]; simp) ?_
  try refine wpAny_bind (wpAny_pure ?_)
  refine wpAny_pure ?_
  dsimp only
  refine wpAny_storeSet_of ho hd ?_ (by rw [hs2, hsz, sizeLine_eq]; omega)
  have sb := Heap.SameBut.update s.heap a (Obj.putSet (order.filterMap (es[·]?)) t')
  exact hQ _ L2 _ (ep + 1) t' sb ⟨⟨_, store_at ho hd, ⟨hex.1, hex.2.1, hex.2.2⟩, rfl⟩, c2, T', (p2.map (·.1)).nodup_iff.mpr nd, fun p hp => nk_but (hm p (p2.mem_iff.mp hp)) ho hd sb, by rw [el]; exact led, by rw [p2.length_eq, em]; exact hr, by rw [p2.length_eq]; exact few⟩ p2
theorem nset_add (S : NSet w s.heap a L es ep t) {x : Value} {k : NestedKey} (hx : NK s.heap k x) (hu : A.units + 8 < cLine) (few : L.length + 1 < 64) {Q : Bool → Shared → Prop}
    (hQ : ∀ b h' L' es' ep' t', Heap.SameBut a s.heap h' → NSet w h' a L' es' ep' t' → (k ∈ L.map (·.1) → L' = L) → (k ∉ L.map (·.1) → L'.Perm ((k, x) :: L)) → Q b { s with heap := h' }) : wpAny (model P w) A (setAddHashed a x (k.hash w)) Q E s := by
  obtain ⟨o, ho, hex, hd⟩ := S.obj
  have hsz := S.size
  have room := S.room
  obtain ⟨ax, rfl⟩ := hx.ref
  unfold setAddHashed
  refine wpAny_holding ?_
  rw [show (100000 : Nat) = 99999 + 1 from rfl, setAddHashedIn_succ]
  refine wpAny_bind (wpAny_setState_of ho hd S.fits ?_)
  dsimp only
  refine wp_if_neg (by simp [byScan, Value.scannable]) ?_
  try refine wpAny_bind (wpAny_pure ?_)
  refine wpAny_bind (nset_find S hx hu (fun hin => ?_) fun K hout hK hKb => ?_)
  · exact wpAny_pure (hQ false s.heap L es ep t (Heap.SameBut.refl a s.heap) S (fun _ => rfl) fun z => absurd hin z)
  · dsimp only
    refine wpAny_bind (wpAny_setState_of ho hd S.fits ?_)
    dsimp only
    obtain ⟨q1, q2, q3, q4, q5, _, _, _, q9⟩ := S.tab.put hK hKb
    generalize hpt : t.put (way t.mask (k.hash w) K) = pt at q1 q3 q4 q5 q9 ⊢
    obtain ⟨t1, at_⟩ := pt
    dsimp only at q1 q3 q4 q5 q9 ⊢
    subst q1
    generalize hi : SetTable.below t.place (way t.mask (k.hash w) K) = i at q2 q3 ⊢
    have hil : i ≤ L.length := by rw [List.length_map] at q2; exact q2
    have perm1 : (L.take i ++ (k, Value.ref ax) :: L.drop i).Perm ((k, Value.ref ax) :: L) := by
      have := List.perm_middle (a := (k, Value.ref ax)) (l₁ := L.take i) (l₂ := L.drop i)
      rwa [List.take_append_drop] at this
    have c1 : (SetTable.insertAt es i (k.hash w, Value.ref ax)).toList = (L.take i ++ (k, Value.ref ax) :: L.drop i).map (cellOf w) := by
      rw [SetTable.toList_insertAt, S.cells, List.map_append, List.map_cons, List.map_take, List.map_drop]; rfl
    have T1 : TabOk t1 ((L.take i ++ (k, Value.ref ax) :: L.drop i).map fun p => p.1.hash w) := by
      rw [List.map_append, List.map_cons, List.map_take, List.map_drop]; exact q3
    generalize L.take i ++ (k, Value.ref ax) :: L.drop i = L1 at perm1 c1 T1
    have len1 : L1.length = L.length + 1 := perm1.length_eq
    have nd1 : (L1.map (·.1)).Nodup := (perm1.map (·.1)).nodup_iff.mpr (by rw [List.map_cons]; exact List.nodup_cons.mpr ⟨hout, S.nodup⟩)
    generalize SetTable.insertAt es i (k.hash w, Value.ref ax) = es1 at c1 ⊢
    have size1 : es1.size = L.length + 1 := by rw [← Array.length_toList, c1, List.length_map, len1]
    -- whatever the look at its hash says
    have tail : ∀ b : Bool, wpAny (model P w) A (do
        let t := if b then t1 else { t1 with plain := false }
        storeSet a es1 t
        if !false && t.tooFull then setRelay a (SetTable.grown (es.size + 1))
        return true) Q E s := fun b => by
      obtain ⟨t2, ht2, T2, m2, l2, f2⟩ : ∃ t2, (if b then t1 else { t1 with plain := false }) = t2 ∧ TabOk t2 (L1.map fun p => p.1.hash w) ∧ t2.mask = t.mask ∧ t2.led = t.led ∧ t2.fill = L.length + 1 := by
        cases b
        · exact ⟨_, rfl, ⟨T1.ris, T1.dm, T1.sz, T1.mok, T1.bd, T1.reach⟩, q4, q5, by rw [List.length_map] at q9; exact q9⟩
        · exact ⟨_, rfl, T1, q4, q5, by rw [List.length_map] at q9; exact q9⟩
      simp only [ht2]
      refine wpAny_bind (wpAny_storeSet_of ho hd ?_ (by rw [size1, sizeLine_eq]; omega))
      have sb := Heap.SameBut.update s.heap a (Obj.putSet es1 t2)
      have ho1 := store_at (es' := es1) (t' := t2) ho hd
      generalize s.heap.update a (Obj.putSet es1 t2) = h1 at sb ho1 ⊢
      have m1 : ∀ p ∈ L1, NK h1 p.1 p.2 := fun p hp => by
        rcases List.mem_cons.mp (perm1.mem_iff.mp hp) with e | hp
        · rw [e]; exact nk_but hx ho hd sb
        · exact nk_but (S.mem p hp) ho hd sb
      have led1 : w.params.followText "set-order" = true ∨ t2.led = true := by rw [l2]; exact S.led
      by_cases hf : t2.tooFull = true
      · have full : (L.length + 1) * 5 ≥ t.mask * 3 := by
          have h := hf
          unfold SetTable.tooFull at h
          rw [decide_eq_true_eq, f2, m2] at h
          exact h
        have when : (t.mask = 7 ∧ L.length = 4) ∨ (t.mask = 31 ∧ L.length = 18) := by
          rcases S.tab.mok with e | e | e <;> rw [e] at full room
          · exact .inl ⟨e, by omega⟩
          · exact .inr ⟨e, by omega⟩
          · omega
        first
          | (refine wpAny_bind ?_; refine wp_if_pos (by simp [hf]) ?_)
          | (refine wp_if_pos (by simp [hf]) ?_; refine wpAny_bind ?_)
        rw [hsz]
        have fin : ∀ M, SetTable.sizeAbove (SetTable.grown (L.length + 1)) = M + 1 → MaskOk M → (L.length + 1) * 5 < M * 3 → wpAny (model P w) A (setRelay a (SetTable.grown (L.length + 1))) (fun _ s' => wpAny (model P w) A (pure true) Q E s') E { s with heap := h1 } := fun M g1 g2 g3 =>
          nset_relay (s := { s with heap := h1 }) ho1 ⟨hex.1, hex.2.1, hex.2.2⟩ rfl c1 T2 (by rw [m2, len1]; rcases when with ⟨e, _⟩ | ⟨e, _⟩ <;> omega) nd1 m1 led1 (by omega) g1 g2 (by rw [len1]; exact g3) fun h2 L2 es2 ep2 t3 sb2 S2 pm2 =>
            wpAny_pure (hQ true h2 L2 es2 ep2 t3 (sb.trans sb2) S2 (fun z => absurd z hout) fun _ => pm2.trans perm1)
        rcases when with ⟨_, e⟩ | ⟨_, e⟩
        · exact fin 31 (by rw [e, size_20]) (.inr (.inl rfl)) (by omega)
        · exact fin 127 (by rw [e, size_76]) (.inr (.inr rfl)) (by omega)
      · first
          | refine wp_if_neg (by simp [hf]) ?_
          | (refine wpAny_bind ?_; refine wp_if_neg (by simp [hf]) ?_; refine wpAny_pure ?_)
        refine wpAny_pure (hQ true h1 L1 es1 (ep + 1) t2 sb ⟨⟨_, ho1, ⟨hex.1, hex.2.1, hex.2.2⟩, rfl⟩, c1, T2, nd1, m1, led1, ?_, by omega⟩ (fun z => absurd z hout) fun _ => perm1)
        have h := hf
        unfold SetTable.tooFull at h
        rw [decide_eq_true_eq, f2] at h
        rw [len1]
        omega
    by_cases hp : t1.plain = true
    · first
        | (refine wpAny_bind ?_; refine wp_if_pos hp ?_; exact hashBy_nested 8 k _ hx.is hx.dp fun b => tail b)
        | exact wp_if_pos hp (wpAny_bind (hashBy_nested 8 k _ hx.is hx.dp fun b => tail b))
    · first
        | (refine wpAny_bind ?_; refine wp_if_neg hp ?_; exact wpAny_pure (tail true))
        | exact wp_if_neg hp (wpAny_bind (wpAny_pure (tail true)))
end
end Z


set_option Elab.async false
set_option linter.all false
set_option maxRecDepth 100000
set_option maxHeartbeats 4000000
/-! set(..) of a sequence of rows -/
namespace Z
open PySem PySem.Spec PyProof.Rows L2
mutual
theorem dNK_inj : ∀ (a b : D), a.nol = true → b.nol = true → a.cl = true → b.cl = true → dNK a = dNK b → a = b
  | .non, b, _, hb, _, cb, e => by cases b <;> simp_all [dNK, D.nol, D.cl]
  | .int i, b, _, hb, _, cb, e => by cases b <;> simp_all [dNK, D.nol, D.cl]
  | .str i, b, _, hb, _, cb, e => by cases b <;> simp_all [dNK, D.nol, D.cl]
  | .bl i, b, _, hb, ca, cb, e => by simp [D.cl] at ca
  | .tup xs, b, ha, hb, ca, cb, e => by
    cases b with
    | tup ys =>
      simp only [dNK, NestedKey.tup.injEq] at e
      rw [dNKs_inj xs ys ha hb ca cb e]
    | _ => simp_all [dNK, D.nol, D.cl]
  | .lst _, _, ha, _, _, _, _ => by cases ha
  | .frz _, _, ha, _, _, _, _ => by cases ha
  | .dic _ _, _, ha, _, _, _, _ => by cases ha
  | .obj _ _ _, _, ha, _, _, _, _ => by cases ha
theorem dNKs_inj : ∀ (a b : List D), D.nols a = true → D.nols b = true → D.cls a = true → D.cls b = true → dNKs a = dNKs b → a = b
  | [], [], _, _, _, _, _ => rfl
  | [], _ :: _, _, _, _, _, e => by simp [dNKs] at e
  | _ :: _, [], _, _, _, _, e => by simp [dNKs] at e
  | x :: xs, y :: ys, ha, hb, ca, cb, e => by
    simp only [D.nols, Bool.and_eq_true] at ha hb
    simp only [D.cls, Bool.and_eq_true] at ca cb
    simp only [dNKs, List.cons.injEq] at e
    rw [dNK_inj x y ha.1 hb.1 ca.1 cb.1 e.1, dNKs_inj xs ys ha.2 hb.2 ca.2 cb.2 e.2]
end
mutual
theorem dNK_depth : ∀ (a : D), (dNK a).depth ≤ a.dp
  | .non => by simp [dNK, NestedKey.depth]
  | .int i => by simp [dNK, NestedKey.depth]
  | .str i => by simp [dNK, NestedKey.depth]
  | .bl i => by simp [dNK, NestedKey.depth]
  | .tup xs => by simp only [dNK, NestedKey.depth, D.dp]; have := dNKs_depth xs; omega
  | .lst _ => by simp [dNK, NestedKey.depth]
  | .frz _ => by simp [dNK, NestedKey.depth]
  | .dic _ _ => by simp [dNK, NestedKey.depth]
  | .obj _ _ _ => by simp [dNK, NestedKey.depth]
theorem dNKs_depth : ∀ (a : List D), NestedKey.depthAll (dNKs a) ≤ D.dps a
  | [] => by simp [dNKs, NestedKey.depthAll]
  | x :: xs => by simp only [dNKs, NestedKey.depthAll, D.dps]; have := dNK_depth x; have := dNKs_depth xs; omega
end
mutual
theorem nested_reads {h : Heap} : ∀ (d : D) (u : Value) (as : List Addr), d.nol = true → Reads h u (toPy d) as → NestedIs h (dNK d) u
  | .non, u, as, _, r => by simp only [toPy] at r; cases r; exact .none
  | .int i, u, as, _, r => by simp only [toPy] at r; cases r; exact .int _ _
  | .str i, u, as, _, r => by simp only [toPy] at r; cases r; exact .text _ _
  | .bl i, u, as, _, r => by simp only [toPy] at r; cases r; exact .bool rfl
  | .tup xs, u, as, n, r => by
    simp only [toPy] at r
    cases r with
    | tuple h1 h2 h3 h4 => exact .tup h1 h2 h3 (nested_readsAll xs _ _ n h4)
  | .lst _, _, _, n, _ => by cases n
  | .frz _, _, _, n, _ => by cases n
  | .dic _ _, _, _, n, _ => by cases n
  | .obj _ _ _, _, _, n, _ => by cases n
theorem nested_readsAll {h : Heap} : ∀ (ds : List D) (us : List Value) (as : List Addr), D.nols ds = true → ReadsAll h us (toPys ds) as → NestedAll h (dNKs ds) us
  | [], us, as, _, r => by simp only [toPys] at r; cases r; exact .nil
  | x :: xs, us, as, n, r => by
    simp only [toPys] at r
    simp only [D.nols, Bool.and_eq_true] at n
    cases r with
    | cons h1 h2 => exact .cons (nested_reads x _ _ n.1 h1) (nested_readsAll xs _ _ n.2 h2)
end
/-- of the first i items all are members, and nothing else is -/
structure GotN (ks : List NestedKey) (vs : List Value) (i : Nat) (L : List (NestedKey × Value)) : Prop where
  few : L.length ≤ i
  mem : ∀ k, k ∈ L.map (·.1) ↔ k ∈ ks.take i
  val : ∀ p ∈ L, ∃ j : Nat, ks[j]? = some p.1 ∧ vs[j]? = some p.2
/-- the items are the rows ks -/
def Items (h : Heap) (ks : List NestedKey) (vs : List Value) : Prop := ∀ (j : Nat) k v, ks[j]? = some k → vs[j]? = some v → NK h k v
section
variable {P : Program} {w : World} {A : Around} {E : Value → Shared → Prop} {s : Shared}
theorem items_at {h h' : Heap} {ks : List NestedKey} {vs : List Value} (x : Items h ks vs) (hk : ∀ a o vs n, h.get? a = some o → o.data = .seq vs n → h'.get? a = some o) : Items h' ks vs := fun j k v h1 h2 => nk_at (x j k v h1 h2) hk
theorem nset_keep {h h' : Heap} {a : Addr} {L : List (NestedKey × Value)} {es : Array (Int × Value)} {ep : Nat} {t : SetTable} (S : NSet w h a L es ep t) (ha : ∀ o, h.get? a = some o → h'.get? a = some o) (hk : ∀ a o vs n, h.get? a = some o → o.data = .seq vs n → h'.get? a = some o) : NSet w h' a L es ep t := by
  obtain ⟨o, ho, r⟩ := S.obj
  exact ⟨⟨o, ha o ho, r⟩, S.cells, S.tab, S.nodup, fun p hp => nk_at (S.mem p hp) hk, S.led, S.room, S.few⟩
theorem nset_new {h : Heap} {a : Addr} (ho : h.get? a = some (setO0 w)) : NSet w h a [] #[] 0 (.fresh 0 0 (!w.params.followText "set-order")) where
  obj := ⟨_, ho, ⟨rfl, rfl, rfl⟩, rfl⟩
  cells := rfl
  tab := ⟨List.Pairwise.nil, rfl, rfl, .inl rfl, (fun x hx => nomatch hx), (fun i h j e => by simp at e)⟩
  nodup := List.nodup_nil
  mem := fun p hp => nomatch hp
  led := by
    show _ ∨ (!w.params.followText "set-order") = true
    cases w.params.followText "set-order"
    · exact .inr rfl
    · exact .inl rfl
  room := by show 0 * 5 < 7 * 3; decide
  few := by decide
set_option maxHeartbeats 4000000 in
theorem setN_loop {I : Addr} {fp wr : List Addr} {G : Array GenState → Array GenState → Prop} {n : Nat} {Pv : Nat → Value → Prop} {St : Nat → Shared → Prop} {R : Result → Shared → Prop}
    (W : WalksS P w A.in1 I fp wr G n Pv St) (S : Addr) (hSf : S ∉ fp) (ks : List NestedKey) (vs : List Value) (hn : n = ks.length) (hlv : vs.length = ks.length) (hb : ∀ l : List NestedKey, l.Nodup → (∀ k ∈ l, k ∈ ks) → l.length < 63) (hval : ∀ i v, Pv i v → vs[i]? = some v)
    (hseq : ∀ i s, St i s → ∀ b ∈ wr, ∀ o us m, s.heap.get? b = some o → o.data ≠ .seq us m) (hu : A.in1.units + 8 < cLine) :
    ∀ (k i : Nat) (s : Shared), n - i = k → i ≤ n → St i s → Items s.heap ks vs → (∃ L es ep t, NSet w s.heap S L es ep t ∧ GotN ks vs i L) →
      (∀ s' L es ep t, Moved (S :: wr) G s s' → NSet w s'.heap S L es ep t → GotN ks vs n L → R (.ok (.ret .none)) s') →
      codeAny (model P w) A (.builtin "set.update.loop" ⟨[.ref S, .ref I], []⟩) R s := by
  have hSw : S ∉ wr := fun h => hSf (W.sub _ h)
  have sub : ∀ b ∈ wr, b ∈ S :: wr := fun b hb => List.mem_cons_of_mem _ hb
  intro k
  induction k with
  | zero =>
    intro i s hk' hi hst hit ⟨L, es, ep, t, hS, hG⟩ hR
    have hin : i = n := by omega
    subst hin
    refine codeAny_builtin F.entry_set_update_loop ?_
    rw [Around.under_plainId F.plain_set_update_loop _]
    show wpAny _ A.in1 (pyNext (.ref I) >>= _) _ _ s
    refine wpAny_bind (W.done s _ _ hst fun s' hm => ?_)
    show wpAny _ A.in1 (ret Value.none) _ _ s'
    exact wpAny_pure (hR s' L es ep t (hm.mono sub) (nset_keep hS (fun o e => hm.heap S o hSw e) fun a o us m e hd => hm.heap a o (fun hw => hseq _ s hst a hw o us m e hd) e) hG)
  | succ k ih =>
    intro i s hk' hi hst hit ⟨L, es, ep, t, hS, hG⟩ hR
    have hlt : i < n := by omega
    refine codeAny_builtin F.entry_set_update_loop ?_
    rw [Around.under_plainId F.plain_set_update_loop _]
    show wpAny _ A.in1 (pyNext (.ref I) >>= _) _ _ s
    refine wpAny_bind (W.item i s _ _ hlt hst fun v s' hP hst' hm => ?_)
    have keepS : ∀ a o us m, s.heap.get? a = some o → o.data = .seq us m → s'.heap.get? a = some o := fun a o us m e hd => hm.heap a o (fun hw => hseq _ s hst a hw o us m e hd) e
    have hv := hval i v hP
    obtain ⟨z, hz⟩ : ∃ z, ks[i]? = some z := ⟨_, List.getElem?_eq_getElem (show i < ks.length by omega)⟩
    have hit' := items_at hit keepS
    have hx := hit' i z v hz hv
    have hS' := nset_keep hS (fun o e => hm.heap S o hSw e) keepS
    obtain ⟨av, rfl⟩ := hx.ref
    show wpAny _ A.in1 (holding [Value.ref av] (setAdd S (.ref av)) >>= _) _ _ s'
    refine wpAny_bind (wpAny_holding ?_)
    unfold setAdd
    refine wpAny_holding ?_
    refine wpAny_bind ((nestedKind P w).pyHash (k := z) hu ⟨hx.is, hx.dp⟩ ?_)
    refine nset_add (s := { s' with toks := s'.toks + (nestedKind P w).draws z }) hS' hx hu (by have := hb (L.map (·.1)) hS'.nodup fun k hk => List.mem_of_mem_take ((hG.mem k).mp hk); rw [List.length_map] at this; omega) fun b h' L2 es2 ep2 t2 hsb hS2 old new => ?_
    have hG2 : GotN ks vs (i + 1) L2 := by
      have ht : ks.take (i + 1) = ks.take i ++ [z] := by rw [List.take_add_one, hz]; rfl
      by_cases hin : z ∈ L.map (·.1)
      · rw [old hin]
        refine ⟨Nat.le_succ_of_le hG.few, fun k => ?_, hG.val⟩
        rw [ht, List.mem_append, List.mem_singleton, ← hG.mem k]
        exact ⟨.inl, fun h => h.elim id fun e => e ▸ hin⟩
      · have pm := new hin
        refine ⟨by rw [pm.length_eq]; exact Nat.succ_le_succ hG.few, fun k => ?_, fun p hp => ?_⟩
        · rw [ht, List.mem_append, List.mem_singleton, ← hG.mem k, (pm.map (·.1)).mem_iff, List.map_cons, List.mem_cons]
          exact Or.comm
        · rcases List.mem_cons.mp (pm.mem_iff.mp hp) with e | hp
          · rw [e]; exact ⟨i, hz, hv⟩
          · exact hG.val p hp
    have keepSq : ∀ a o us m, s'.heap.get? a = some o → o.data = .seq us m → h'.get? a = some o := fun a o us m e hd => (hsb.2 a fun h => by
      obtain ⟨oS, hoS, _, hdS⟩ := hS'.obj
      rw [h, hoS] at e
      cases e
      rw [hdS] at hd
      cases hd).trans e
    refine wpAny_pure ⟨plainId_quiet F.plain_set_update_loop _, ih (i + 1) _ (by omega) hlt (W.frame _ s' _ _ hst' (Nat.le_add_right _ _) fun b hb o e => ?_) (items_at hit' keepSq) ⟨L2, es2, ep2, t2, hS2, hG2⟩ fun s'' L3 es3 ep3 t3 hm'' hS'' hG'' => ?_⟩
    · rw [hsb.2 b (fun h : b = S => hSf (by rw [← h]; exact hb))]; exact e
    · refine hR s'' L3 es3 ep3 t3 (Moved.trans W.gtrans ((hm.mono sub).then_heap (Nat.le_add_right _ _) fun b o hb e => ?_) hm'') hS'' hG''
      rw [hsb.2 b (fun h : b = S => hb (by rw [h]; exact List.mem_cons_self))]; exact e
theorem call_setN_tuple {l : Addr} {items : Array Value} (ks : List NestedKey) {Q : Value → Shared → Prop} (hh : A.handled = none) (hun : A.units + 60 < cLine) (hl : s.heap.IsTuple l items) (hisz : items.size = ks.length) (hit : Items s.heap ks items.toList) (hb : ∀ l : List NestedKey, l.Nodup → (∀ k ∈ l, k ∈ ks) → l.length < 63)
    (h : ∀ (h' : Heap) (tk : Nat) L es ep t, NSet w h' s.heap.objs.size L es ep t → GotN ks items.toList ks.length L → (∀ b o, s.heap.get? b = some o → h'.get? b = some o) → Q (.ref s.heap.objs.size) { s with heap := h', toks := tk }) :
    wpAny (model P w) A (call (.type "set") [.ref l]) Q E s := by
  obtain ⟨c, tl, hmro⟩ := F.called_set.mro
  have hmade := F.called_set.made
  have hsub := F.called_set.sub
  refine wpAny_call (codeAny_of_tree ?_)
  show wpAny _ _ (callAny (.type "set") _) _ _ _
  refine wpAny_pure ⟨Code.quiet_builtin _ (by decide +kernel), codeAny_builtin F.entry_type_call ?_⟩
  rw [Around.under_plain (weight_type_call_type "set" [.ref l] []) rfl]
  have h1 := F.called_set.notType
  have h2 := F.called_set.canCreate
  have hct := F.typeCall_set_1 (.ref l)
  repeat (any_goals (first | assumption | wp_step))
  refine codeAny_mono (code_set_led1 (.ref l) (E := E) (Q₁ := fun obj s₁ => obj = .ref s.heap.objs.size ∧ s₁ = { s with heap := s.heap.push (setO0 w) }) ⟨rfl, rfl⟩) fun r s₁ hr => ?_
  cases r with
  | error e => exact hr
  | ok fl =>
    cases fl with
    | ret obj =>
      obtain ⟨rfl, rfl⟩ := hr
      have hS : (s.heap.push (setO0 w)).get? s.heap.objs.size = some (setO0 w) := Heap.get?_push_size _ rfl
      have hT : Shared.TypeIs { s with heap := s.heap.push (setO0 w) } (.ref s.heap.objs.size) "set" := ⟨_, hS, rfl⟩
      have hli := F.called_set.init.lookup
      have hbi := F.called_set.init.bind (.ref s.heap.objs.size)
      repeat (any_goals (first | assumption | wp_step))
      refine codeAny_mono (codeAny_call_builtin (R := wants (fun r s₂ => r = .none ∧ ∃ h' tk L es ep t, s₂ = { s with heap := h', toks := tk } ∧ NSet w h' s.heap.objs.size L es ep t ∧ GotN ks items.toList ks.length L ∧
          (∀ b o, s.heap.get? b = some o → h'.get? b = some o)) E) F.called_set.init.plain F.entry_set_init (check_set_init_1 hT ?_)) fun r₂ s₂ hr₂ => ?_
      · obtain ⟨ol, hol, hcl, nl, hdl⟩ := hl
        obtain ⟨ocls, odict, odata, oslots⟩ := ol
        simp only at hcl hdl
        subst hcl; subst hdl
        have hol' : (s.heap.push (setO0 w)).get? l = some { cls := .type "tuple", dict := odict, data := .seq items nl, slots := oslots } := Heap.get?_push_of_some _ hol
        have hsls := F.sub_tuple_set
        have hslf := F.sub_tuple_frozenset
        have hne : (Value.type "tuple" == Value.type "dict") = false := by decide
        have hl1 : (s.heap.push (setO0 w)).IsTuple l items := ⟨_, hol', rfl, nl, rfl⟩
        unfold Builtin.«set.__init__» noKeywords Builtin.Frozenset.updateFrom
        generalize hPI : pyIter = PI
        wp_walk
        subst hPI
        refine wpAny_pyIter_tuple hl1 ?_
        refine wpAny_bind (wpAny_runValue ?_)
        have hlS : l < s.heap.objs.size := Heap.lt_size hol
        have hh3 : A.in1.in1.in1.handled = none := by simp [hh]
        have hneI : l ≠ (s.heap.push (setO0 w)).objs.size := by
          rw [Heap.size_push]; exact Nat.ne_of_lt (Nat.lt_succ_of_lt hlS)
        have hSf : s.heap.objs.size ∉ [(s.heap.push (setO0 w)).objs.size, l] := by
          rw [Heap.size_push]; simp only [List.mem_cons, List.mem_singleton, List.not_mem_nil, or_false, not_or]
          exact ⟨Nat.ne_of_lt (Nat.lt_succ_self _), Nat.ne_of_gt hlS⟩
        refine setN_loop ((Walks.tuple hh3 _ l hneI items).toS) s.heap.objs.size
          hSf ks items.toList hisz (by rw [Array.length_toList, hisz]) hb (fun i v hv => by simpa using hv) ?hsq (by show A.units + 1 + 1 + 1 + 8 < _; omega) (items.size - 0) 0 _ (by omega) (Nat.zero_le _)
          ⟨⟨_, Heap.get?_push_size _ rfl, rfl, rfl⟩, (hl1.push _)⟩ (items_at hit fun a o us m e _ => Heap.get?_push_of_some _ (Heap.get?_push_of_some _ e)) ?hS0 ?hR
        case hsq =>
          rintro i s2 ⟨⟨o2, g1, _, g2⟩, _⟩ b hb2 o us m e hd2
          rw [List.mem_singleton.mp hb2] at e
          have := e.symm.trans g1
          cases this
          rw [g2] at hd2
          cases hd2
        case hS0 =>
          have hget : ((s.heap.push (setO0 w)).push { cls := .type "tuple_iterator", data := .fields #[.ref l, .int 0 0] }).get? s.heap.objs.size = some (setO0 w) := Heap.get?_push_of_some _ hS
          exact ⟨[], #[], 0, _, nset_new hget, Nat.le_refl 0, fun k => by simp, fun p hp => nomatch hp⟩
        case hR =>
          intro s' L2 es2 ep2 t2 hm hS' hG'
          obtain ⟨h', g2, d', tk', os'⟩ := s'
          have eg : g2 = s.gens := hm.gens
          have ed : d' = s.drawn := hm.drawn
          have eo : os' = s.os := hm.os
          subst eg; subst ed; subst eo
          show wpAny _ _ _ _ _ _
          refine wpAny_pure ?_
          show wpAny _ _ (ret Value.none) _ _ _
          rw [hisz] at hG'
          refine wpAny_pure ⟨rfl, h', tk', L2, es2, ep2, t2, rfl, hS', hG', fun b o e => ?_⟩
          have hb0 : b < s.heap.objs.size := Heap.lt_size e
          have hb1 : b ≠ s.heap.objs.size := Nat.ne_of_lt hb0
          have hb2 : b ≠ (s.heap.push (setO0 w)).objs.size := by
            rw [Heap.size_push]; exact Nat.ne_of_lt (Nat.lt_succ_of_lt hb0)
          exact hm.heap b o (by simp only [List.mem_cons, List.mem_singleton, List.not_mem_nil, or_false, not_or]; exact ⟨hb1, hb2⟩) (Heap.get?_push_of_some _ (Heap.get?_push_of_some _ e))
      · cases r₂ with
        | error e => exact hr₂
        | ok fl₂ =>
          cases fl₂ with
          | ret r =>
            obtain ⟨rfl, h', tk, L2, es2, ep2, t2, rfl, hS', hG', hk'⟩ := hr₂
            repeat (any_goals (first | assumption | wp_step))
            exact h _ _ _ _ _ _ hS' hG' hk'
          | _ => exact hr₂.elim
    | _ => exact hr.elim
theorem call_setN_list {l : Addr} {items : Array Value} (ks : List NestedKey) {Q : Value → Shared → Prop} (hh : A.handled = none) (hun : A.units + 60 < cLine) (hl : s.heap.IsList l items) (hisz : items.size = ks.length) (hit : Items s.heap ks items.toList) (hb : ∀ l : List NestedKey, l.Nodup → (∀ k ∈ l, k ∈ ks) → l.length < 63)
    (h : ∀ (h' : Heap) (tk : Nat) L es ep t, NSet w h' s.heap.objs.size L es ep t → GotN ks items.toList ks.length L → (∀ b o, s.heap.get? b = some o → h'.get? b = some o) → Q (.ref s.heap.objs.size) { s with heap := h', toks := tk }) :
    wpAny (model P w) A (call (.type "set") [.ref l]) Q E s := by
  obtain ⟨c, tl, hmro⟩ := F.called_set.mro
  have hmade := F.called_set.made
  have hsub := F.called_set.sub
  refine wpAny_call (codeAny_of_tree ?_)
  show wpAny _ _ (callAny (.type "set") _) _ _ _
  refine wpAny_pure ⟨Code.quiet_builtin _ (by decide +kernel), codeAny_builtin F.entry_type_call ?_⟩
  rw [Around.under_plain (weight_type_call_type "set" [.ref l] []) rfl]
  have h1 := F.called_set.notType
  have h2 := F.called_set.canCreate
  have hct := F.typeCall_set_1 (.ref l)
  repeat (any_goals (first | assumption | wp_step))
  refine codeAny_mono (code_set_led1 (.ref l) (E := E) (Q₁ := fun obj s₁ => obj = .ref s.heap.objs.size ∧ s₁ = { s with heap := s.heap.push (setO0 w) }) ⟨rfl, rfl⟩) fun r s₁ hr => ?_
  cases r with
  | error e => exact hr
  | ok fl =>
    cases fl with
    | ret obj =>
      obtain ⟨rfl, rfl⟩ := hr
      have hS : (s.heap.push (setO0 w)).get? s.heap.objs.size = some (setO0 w) := Heap.get?_push_size _ rfl
      have hT : Shared.TypeIs { s with heap := s.heap.push (setO0 w) } (.ref s.heap.objs.size) "set" := ⟨_, hS, rfl⟩
      have hli := F.called_set.init.lookup
      have hbi := F.called_set.init.bind (.ref s.heap.objs.size)
      repeat (any_goals (first | assumption | wp_step))
      refine codeAny_mono (codeAny_call_builtin (R := wants (fun r s₂ => r = .none ∧ ∃ h' tk L es ep t, s₂ = { s with heap := h', toks := tk } ∧ NSet w h' s.heap.objs.size L es ep t ∧ GotN ks items.toList ks.length L ∧
          (∀ b o, s.heap.get? b = some o → h'.get? b = some o)) E) F.called_set.init.plain F.entry_set_init (check_set_init_1 hT ?_)) fun r₂ s₂ hr₂ => ?_
      · obtain ⟨ol, hol, hcl, nl, hdl⟩ := hl
        obtain ⟨ocls, odict, odata, oslots⟩ := ol
        simp only at hcl hdl
        subst hcl; subst hdl
        have hol' : (s.heap.push (setO0 w)).get? l = some { cls := .type "list", dict := odict, data := .seq items nl, slots := oslots } := Heap.get?_push_of_some _ hol
        have hsls := F.sub_list_set
        have hslf := F.sub_list_frozenset
        have hne : (Value.type "list" == Value.type "dict") = false := by decide
        have hl1 : (s.heap.push (setO0 w)).IsList l items := ⟨_, hol', rfl, nl, rfl⟩
        unfold Builtin.«set.__init__» noKeywords Builtin.Frozenset.updateFrom
        generalize hPI : pyIter = PI
        wp_walk
        subst hPI
        refine wpAny_pyIter_list hl1 ?_
        refine wpAny_bind (wpAny_runValue ?_)
        have hlS : l < s.heap.objs.size := Heap.lt_size hol
        have hh3 : A.in1.in1.in1.handled = none := by simp [hh]
        have hneI : l ≠ (s.heap.push (setO0 w)).objs.size := by
          rw [Heap.size_push]; exact Nat.ne_of_lt (Nat.lt_succ_of_lt hlS)
        have hSf : s.heap.objs.size ∉ [(s.heap.push (setO0 w)).objs.size, l] := by
          rw [Heap.size_push]; simp only [List.mem_cons, List.mem_singleton, List.not_mem_nil, or_false, not_or]
          exact ⟨Nat.ne_of_lt (Nat.lt_succ_self _), Nat.ne_of_gt hlS⟩
        refine setN_loop ((Walks.list hh3 _ l hneI items).toS) s.heap.objs.size
          hSf ks items.toList hisz (by rw [Array.length_toList, hisz]) hb (fun i v hv => by simpa using hv) ?hsq (by show A.units + 1 + 1 + 1 + 8 < _; omega) (items.size - 0) 0 _ (by omega) (Nat.zero_le _)
          ⟨⟨_, Heap.get?_push_size _ rfl, rfl, rfl⟩, (hl1.push _)⟩ (items_at hit fun a o us m e _ => Heap.get?_push_of_some _ (Heap.get?_push_of_some _ e)) ?hS0 ?hR
        case hsq =>
          rintro i s2 ⟨⟨o2, g1, _, g2⟩, _⟩ b hb2 o us m e hd2
          rw [List.mem_singleton.mp hb2] at e
          have := e.symm.trans g1
          cases this
          rw [g2] at hd2
          cases hd2
        case hS0 =>
          have hget : ((s.heap.push (setO0 w)).push { cls := .type "list_iterator", data := .fields #[.ref l, .int 0 0] }).get? s.heap.objs.size = some (setO0 w) := Heap.get?_push_of_some _ hS
          exact ⟨[], #[], 0, _, nset_new hget, Nat.le_refl 0, fun k => by simp, fun p hp => nomatch hp⟩
        case hR =>
          intro s' L2 es2 ep2 t2 hm hS' hG'
          obtain ⟨h', g2, d', tk', os'⟩ := s'
          have eg : g2 = s.gens := hm.gens
          have ed : d' = s.drawn := hm.drawn
          have eo : os' = s.os := hm.os
          subst eg; subst ed; subst eo
          show wpAny _ _ _ _ _ _
          refine wpAny_pure ?_
          show wpAny _ _ (ret Value.none) _ _ _
          rw [hisz] at hG'
          refine wpAny_pure ⟨rfl, h', tk', L2, es2, ep2, t2, rfl, hS', hG', fun b o e => ?_⟩
          have hb0 : b < s.heap.objs.size := Heap.lt_size e
          have hb1 : b ≠ s.heap.objs.size := Nat.ne_of_lt hb0
          have hb2 : b ≠ (s.heap.push (setO0 w)).objs.size := by
            rw [Heap.size_push]; exact Nat.ne_of_lt (Nat.lt_succ_of_lt hb0)
          exact hm.heap b o (by simp only [List.mem_cons, List.mem_singleton, List.not_mem_nil, or_false, not_or]; exact ⟨hb1, hb2⟩) (Heap.get?_push_of_some _ (Heap.get?_push_of_some _ e))
      · cases r₂ with
        | error e => exact hr₂
        | ok fl₂ =>
          cases fl₂ with
          | ret r =>
            obtain ⟨rfl, h', tk, L2, es2, ep2, t2, rfl, hS', hG', hk'⟩ := hr₂
            repeat (any_goals (first | assumption | wp_step))
            exact h _ _ _ _ _ _ hS' hG' hk'
          | _ => exact hr₂.elim
    | _ => exact hr.elim
end
end Z


set_option Elab.async false
set_option linter.all false
set_option maxRecDepth 100000
set_option maxHeartbeats 1000000
/-! sorted(set(..)), len(set(..)) of rows -/
namespace Z
open PySem PySem.Spec PyProof.Rows L2
def isTup : D → Bool
  | .tup _ => true
  | _ => false
def keyT (d : D) : Bool := isTup d && d.nol && d.cl && decide (d.dp ≤ 8)
/-- few enough, all of them rows -/
def keysT (xs : List D) : Bool := decide ((nubD xs).length < 63) && xs.all keyT
theorem keysT_mem {xs : List D} (h : keysT xs = true) {x : D} (hx : x ∈ xs) : isTup x = true ∧ x.nol = true ∧ x.cl = true ∧ x.dp ≤ 8 := by
  simp only [keysT, Bool.and_eq_true, List.all_eq_true, keyT, decide_eq_true_eq] at h
  obtain ⟨⟨⟨h1, h2⟩, h3⟩, h4⟩ := h.2 x hx
  exact ⟨h1, h2, h3, h4⟩
theorem keysT_len {xs : List D} (h : keysT xs = true) : (nubD xs).length < 63 := by
  simp only [keysT, Bool.and_eq_true, decide_eq_true_eq] at h
  exact h.1
theorem keysT_nols {xs : List D} (h : keysT xs = true) : D.nols xs = true := by
  rw [D.nols_iff]; exact fun x hx => (keysT_mem h hx).2.1
def dLenSetT (m : Den) : Den := fun δ => match m δ with
  | some (r, δ1) => match deref δ1 r with
    | some d => match itemsD d with
      | some xs => if keysT xs then some (.own (.int ((nubD xs).length : Nat)), δ1) else none
      | none => none
    | none => none
  | none => none
theorem GotN.perm {ks : List NestedKey} {vs : List Value} {n : Nat} {L L' : List (NestedKey × Value)} (G : GotN ks vs n L) (p : L'.Perm L) : GotN ks vs n L' :=
  ⟨by rw [p.length_eq]; exact G.few, fun k => by rw [(p.map (·.1)).mem_iff]; exact G.mem k, fun q hq => G.val q (p.mem_iff.mp hq)⟩
/-- the members, as data: just the different items -/
theorem got_data {K : Fw} {H : Hp} {xs : List D} {vs : List V} {us : List Value} {L : List (NestedKey × Value)} (hk : keysT xs = true) (rs : Reps K H xs vs []) (rv : Vals vs us) (G : GotN (xs.map dNK) us (xs.map dNK).length L) (nd : (L.map (·.1)).Nodup) :
    ∃ (ys : List D) (gv : List V), ys.Perm (nubD xs) ∧ Vals gv (L.map (·.2)) ∧ Reps K H ys gv [] ∧ ∀ y ∈ ys, y ∈ xs := by
  have inj : ∀ x ∈ xs, ∀ y ∈ xs, dNK x = dNK y → x = y := fun x hx y hy e => dNK_inj x y (keysT_mem hk hx).2.1 (keysT_mem hk hy).2.1 (keysT_mem hk hx).2.2.1 (keysT_mem hk hy).2.2.1 e
  have key : ∀ l : List (NestedKey × Value), (∀ p ∈ l, p ∈ L) → ∃ (ys : List D) (gv : List V), l.map (·.1) = ys.map dNK ∧ Vals gv (l.map (·.2)) ∧ Reps K H ys gv [] ∧ ∀ y ∈ ys, y ∈ xs := fun l => by
    induction l with
    | nil => exact fun _ => ⟨[], [], rfl, .nil, ⟨rfl, rfl⟩, fun y hy => nomatch hy⟩
    | cons p l ih =>
      intro h
      obtain ⟨ys, gv, e, g1, g2, hy⟩ := ih fun q hq => h q (List.mem_cons_of_mem _ hq)
      obtain ⟨j, h1, h2⟩ := G.val p (h p List.mem_cons_self)
      rw [List.getElem?_map, Option.map_eq_some_iff] at h1
      obtain ⟨x, hx, e2⟩ := h1
      obtain ⟨w, hw, rr⟩ := item_of rs hx
      obtain ⟨v', hv', r'⟩ := rv.get hw
      rw [h2] at hv'; cases hv'
      refine ⟨x :: ys, w :: gv, by rw [List.map_cons, List.map_cons, e, e2], .cons r' g1, ⟨w, gv, [], [], rfl, rr, g2, rfl⟩, fun y hy' => ?_⟩
      rcases List.mem_cons.mp hy' with rfl | hy'
      · exact List.mem_of_getElem? hx
      · exact hy y hy'
  obtain ⟨ys, gv, e, g1, g2, hy⟩ := key L fun _ h => h
  refine ⟨ys, gv, ?_, g1, g2, hy⟩
  rw [e] at nd
  have ndy : ys.Nodup := List.Pairwise.of_map dNK (fun a b hne e => hne (congrArg dNK e)) nd
  refine (List.perm_ext_iff_of_nodup ndy (nub_nodup xs)).mpr fun x => ⟨fun hx => mem_nub.mpr (hy x hx), fun hx => ?_⟩
  have hx := mem_nub.mp hx
  have : dNK x ∈ L.map (·.1) := (G.mem _).mpr (by rw [List.take_length]; exact List.mem_map.mpr ⟨x, hx, rfl⟩)
  rw [e] at this
  obtain ⟨y, hy1, e2⟩ := List.mem_map.mp this
  rw [← inj y (hy y hy1) x hx e2]; exact hy1
theorem nd_le {α : Type} : ∀ (l m : List α), l.Nodup → (∀ x ∈ l, x ∈ m) → l.length ≤ m.length
  | [], _, _, _ => by simp
  | x :: l, m, n, h => by
    obtain ⟨a, b, rfl⟩ := List.append_of_mem (h x List.mem_cons_self)
    obtain ⟨hx, hl⟩ := List.nodup_cons.mp n
    have := nd_le l (a ++ b) hl fun y hy => by
      have h2 := h y (List.mem_cons_of_mem _ hy)
      have hne : y ≠ x := fun e => hx (e ▸ hy)
      simp only [List.mem_append, List.mem_cons] at h2 ⊢
      rcases h2 with h2 | h2 | h2
      · exact .inl h2
      · exact absurd h2 hne
      · exact .inr h2
    simp only [List.length_cons, List.length_append] at this ⊢
    omega
section
variable {X : Cx} {e : Expr} {q : Bool} {m : Den} {p p2 pos pos2 : Pos}
/-- set(e) is made -/
theorem make_setT {pins : List (Addr × Obj)} {s1 : Shared} {σ : L2.St} {H1 : Hp} {xs : List D} {vs : List V} {pp : Addr} (hu : X.A.units + 70 < cLine) (hc : X.calm = true) (I1 : Inv X pins σ H1 s1) (hk : keysT xs = true) (hq : SqL X.K H1 pp vs ∨ SqT X.K H1 pp vs) (rs : Reps X.F H1 xs vs []) {Q : Value → Shared → Prop} {E : Value → Shared → Prop}
    (h : ∀ (h' : Heap) (tk : Nat) (us : List Value) L es ep t, Vals vs us → NSet X.w h' s1.heap.objs.size L es ep t → GotN (xs.map dNK) us (xs.map dNK).length L → (∀ b o, s1.heap.get? b = some o → h'.get? b = some o) → Q (.ref s1.heap.objs.size) { s1 with heap := h', toks := tk }) :
    wpAny (model X.prog X.w) X.A (call (.type "set") [.ref pp]) Q E s1 := by
  have items : ∀ us : List Value, Vals vs us → Items s1.heap (xs.map dNK) us := fun us rv j k v h1 h2 => by
    rw [List.getElem?_map, Option.map_eq_some_iff] at h1
    obtain ⟨x, hx, rfl⟩ := h1
    obtain ⟨t, n1, c1, d1⟩ := keysT_mem hk (List.mem_of_getElem? hx)
    obtain ⟨w, hw, rr⟩ := item_of rs hx
    obtain ⟨v', hv', r'⟩ := rv.get hw
    rw [h2] at hv'; cases hv'
    obtain ⟨as, rd⟩ := rr.reads I1 r' rr.ro
    refine ⟨nested_reads x v as n1 rd, Nat.le_trans (dNK_depth x) d1, ?_⟩
    cases x <;> simp [isTup] at t
    obtain ⟨a, _, rfl, _⟩ := rr
    cases r'
    exact ⟨a, rfl⟩
  have hlen : ∀ l : List NestedKey, l.Nodup → (∀ k ∈ l, k ∈ xs.map dNK) → l.length < 63 := fun l nd hs => by
    have h1 := keysT_len hk
    have h2 : ∀ k ∈ l, k ∈ (nubD xs).map dNK := fun k hk2 => by
      obtain ⟨x, hx, rfl⟩ := List.mem_map.mp (hs k hk2)
      exact List.mem_map.mpr ⟨x, mem_nub.mpr hx, rfl⟩
    have h3 := nd_le l _ nd h2
    rw [List.length_map] at h3
    omega
  rcases hq with hq | hq
  · obtain ⟨its, rvs, hp, _⟩ := I1.list hq
    have hz : its.toArray.size = (xs.map dNK).length := by rw [List.size_toArray, ← rvs.length, rs.length, List.length_map]
    exact call_setN_list (xs.map dNK) (I1.ok.hd hc) (by omega) (plainL_isList hp) hz (items its rvs) hlen fun h' tk L es ep t S G k => h h' tk its L es ep t rvs S G k
  · obtain ⟨its, rvs, ⟨ob, e1, e2, nn, e4⟩, _⟩ := I1.tuple hq
    have hz : its.toArray.size = (xs.map dNK).length := by rw [List.size_toArray, ← rvs.length, rs.length, List.length_map]
    exact call_setN_tuple (xs.map dNK) (I1.ok.hd hc) (by omega) ⟨ob, e1, e2, nn, e4⟩ hz (items its rvs) hlen fun h' tk L es ep t S G k => h h' tk its L es ep t rvs S G k
theorem z_lenSetT (hu : X.A.units + 70 < cLine) (hc : X.calm = true) (hg : Gl X "len") (hm : X.mg "len" = none) (hg2 : Gl X "set") (hm2 : X.mg "set" = none) (he : PE X e (T (kx X) q m))
    (hst2 : starEach [e] X.env = (false, eval e X.env) :: starEach [] X.env := by rfl) :
    PE X (.Call (.Name "len" p) [.Call (.Name "set" p2) [e] [] pos2] [] pos) (T (kx X) q (dLenSetT m)) := by
  refine ⟨fun pins s σ H Q I h => ?_⟩
  obtain ⟨δ, o, r, δ', E, n, hmm, kq⟩ := h
  simp only [dLenSetT] at hmm
  split at hmm
  · rename_i ra δ1 h1
    split at hmm
    · rename_i d h2
      split at hmm
      · rename_i xs h3
        split at hmm
        · rename_i hk
          simp only [Option.some.injEq, Prod.mk.injEq] at hmm
          obtain ⟨rfl, rfl⟩ := hmm
          refine Call_ (ld_blt I hg hm PySem.boot_len ?_)
          refine PyProof.Rows.callWith_builtin1 (PyProof.Rows.args_cons ?_ rfl) rfl rfl
          refine Call_ (ld_blt I hg2 hm2 PyProof.Rows.boot_set ?_)
          refine PyProof.Rows.callWith_type1 (PyProof.Rows.args_cons (thn (he.run pins s σ H (fun v H1 => ∃ o1 ov, Post (kx X) H σ q o ra δ1 v H1 o1 ov) I ⟨δ, o, ra, δ1, E, n, h1, fun v H1 o1 ov P => ⟨o1, ov, P⟩⟩) fun u s1 ⟨v, H1, I1, rv, o1, ov, P⟩ => PyProof.Rows.args_nil ?_) hst2) hst2 rfl
          obtain ⟨od, rd, _⟩ := P.held.deref P.env h2
          obtain ⟨pp, vs, rfl, hq, rs⟩ := seq_items rd h3 (D.nols_imms _ (keysT_nols hk))
          cases rv
          refine make_setT hu hc I1 hk hq rs fun h' tk us L es ep t rvs S G hkp => PyProof.Rows.args_nil ?_
          obtain ⟨ys, gv, pm, e1, e2, _⟩ := got_data hk rs rvs G S.nodup
          obtain ⟨ob, ho, hex, hd⟩ := S.obj
          have hes : es.size = (nubD xs).length := by
            rw [S.size (s := { s1 with heap := h', toks := tk }), ← pm.length_eq, ← e2.length, e1.length, List.length_map]
          have I2 : Inv X pins σ H1 { s1 with heap := h', toks := tk } := I1.kept (t' := tk) hkp
          refine call_len_set ho hex hd (S.fits (s := { s1 with heap := h', toks := tk })) (by have := S.few; have := S.size (s := { s1 with heap := h', toks := tk }); omega) ⟨.int ((nubD xs).length : Nat), H1, I2.tok _, ⟨_, by rw [hes]⟩, ?_⟩
          exact kq _ H1 o1 [] ⟨P.step, P.env, ⟨rfl, rfl⟩, own_right P.own⟩
        · cases hmm
      · cases hmm
    · cases hmm
  · cases hmm
end
end Z


set_option Elab.async false
set_option linter.all false
set_option maxRecDepth 100000
/-! sorted(set(..)), len(set(..)) of numbers, texts or rows -/
namespace Z
open PySem PySem.Spec PyProof.Rows L2
def fLenSet (xs : List D) : Option D := if keysOk xs || keysT xs then some (.int ((nubD xs).length : Nat)) else none
def dLenSetX (m : Den) : Den := fun δ => match m δ with
  | some (r, δ1) => match deref δ1 r with
    | some d => match itemsD d with
      | some xs => match fLenSet xs with
        | some e => some (.own e, δ1)
        | none => none
      | none => none
    | none => none
  | none => none
theorem lenX_cases {m : Den} {δ : DE} {x : R × DE} (h : dLenSetX m δ = some x) : dLenSet m δ = some x ∨ dLenSetT m δ = some x := by
  unfold dLenSetX at h
  split at h
  · rename_i r δ1 h1
    split at h
    · rename_i d h2
      split at h
      · rename_i xs h3
        split at h
        · rename_i e h4
          unfold fLenSet at h4
          split at h4
          · rename_i hk
            cases h4
            rw [Bool.or_eq_true] at hk
            rcases hk with hk | hk
            · exact .inl (by simp only [dLenSet, h1, h2, h3, hk, if_true]; exact h)
            · exact .inr (by simp only [dLenSetT, h1, h2, h3, hk, if_true]; exact h)
          · cases h4
        · cases h
      · cases h
    · cases h
  · cases h
section
variable {X : Cx} {e : Expr} {q : Bool} {m : Den} {p p2 pos pos2 : Pos}
theorem z_lenSetX (hu : X.A.units + 70 < cLine) (hc : X.calm = true) (hg : Gl X "len") (hm : X.mg "len" = none) (hg2 : Gl X "set") (hm2 : X.mg "set" = none) (he : PE X e (T (kx X) q m)) (hst2 : starEach [e] X.env = (false, eval e X.env) :: starEach [] X.env := by rfl) :
    PE X (.Call (.Name "len" p) [.Call (.Name "set" p2) [e] [] pos2] [] pos) (T (kx X) q (dLenSetX m)) := ⟨fun pins s σ H Q I h => by
  obtain ⟨δ, o, r, δ', E, n, hmm, kq⟩ := h
  rcases lenX_cases hmm with h | h
  · exact (z_lenSet hc hg hm hg2 hm2 he hst2).run pins s σ H Q I ⟨δ, o, r, δ', E, n, h, kq⟩
  · exact (z_lenSetT hu hc hg hm hg2 hm2 he hst2).run pins s σ H Q I ⟨δ, o, r, δ', E, n, h, kq⟩⟩
end
end Z


set_option Elab.async false
set_option linter.all false
set_option maxRecDepth 100000
/-! min, max of two data of any kind -/
namespace PySem
open PyProof.Rows
section
variable {prog : Program} {w : World} {A : Around} {E : Value → Shared → Prop} {s : Shared}

theorem call_max_twoH {a b : Value} {Q : Value → Shared → Prop}
    (h : wpAny (model prog w) A.in1 (pyIter (.ref s.heap.objs.size)) (fun it s₂ => ∃ I fp wr G n P St H bt, it = .ref I ∧ WalksS prog w A.in1 I fp wr G n P St ∧ St 0 s₂ ∧ (∀ b ∈ fp, b < s₂.heap.objs.size) ∧ 0 < n ∧
      (∀ b o, H.get? b = some o → b ∉ wr) ∧ (∀ b o, H.get? b = some o → s₂.heap.get? b = some o) ∧ CmpIn prog w A.in1 .Gt H P bt ∧ ∀ v s', P (argBest bt (n - 1)) v → Moved wr G s₂ s' → Q v s') E
      { s with heap := s.heap.push { cls := .type "tuple", data := .seq #[a, b] } }) :
    wpAny (model prog w) A (call (.builtin "max") [a, b]) Q E s := by
  have hname : (toString "max" ++ toString ".loop" : String) = "max.loop" := by decide
  refine call_function_tree F.kind_max F.plain_max F.entry_max (F.args_max2 _ _) ?_
  show wpAny _ A.in1 (Builtin.Builtins.bindParams "max" ["key", "default"] 0 ⟨[], []⟩ >>= _) _ _ s
  refine wpAny_bind (wpAny_of_eq (show Builtin.Builtins.bindParams "max" ["key", "default"] 0 ⟨[], []⟩ = pure [none, none] from rfl) ?_)
  show wpAny _ A.in1 (newTuple [a, b] >>= _) _ _ s
  refine wpAny_bind (wpAny_newObj_type ?_)
  refine wpAny_bind (wpAny_mono h (fun it s₂ h₂ => ?_) fun _ _ e => e)
  obtain ⟨I, fp, wr, G, n, P, St, H, bt, rfl, W, hst, hfp, hn, hw, hkeep, hcmp, hQ⟩ := h₂
  refine wpAny_bind (wpAny_newObj_type ?_)
  have hSf : s₂.heap.objs.size ∉ fp := fun hm => Nat.lt_irrefl _ (hfp _ hm)
  rw [hname]
  refine wpAny_pure ⟨plainId_quiet F.plain_max_loop _, codeAny_max_loop_firstH W H hw bt hcmp s₂.heap.objs.size hSf (fresh_in hkeep) _ hn (fun b o e => Heap.get?_push_of_some _ (hkeep b o e)) (W.frame 0 s₂ _ s₂.toks hst (Nat.le_refl _) fun b _ o e => Heap.get?_push_of_some _ e) (Heap.get?_push_size _ rfl) fun v s' hP hm => ?_⟩
  exact hQ v s' hP (Moved.drop_new (tk := s₂.toks) hm (Nat.le_refl _))
theorem max_two_data {a b : Value} {x y : PyData} {as : List Addr} {Q : Value → Shared → Prop} (hh : A.handled = none) (hr : ReadsAll s.heap [a, b] [x, y] as) (ha : W.AlikeAll [x, y]) (hu : A.units + 1 + PyData.depthAll [x, y] < cLine)
    (h : ∀ (i : Nat) v h' tk bs, [a, b].toArray[i]? = some v → Reads h' v (W.maxD x [y]) bs → (∀ b o, s.heap.get? b = some o → h'.get? b = some o) → Q v { s with heap := h', toks := tk }) :
    wpAny (model prog w) A (call (.builtin "max") [a, b]) Q E s := by
  have hT : (s.heap.push { cls := .type "tuple", data := .seq #[a, b] }).IsTuple s.heap.objs.size #[a, b] := ⟨_, Heap.get?_push_size _ rfl, rfl, 0, rfl⟩
  have hr' : ReadsAll (s.heap.push { cls := .type "tuple", data := .seq #[a, b] }) #[a, b].toList [x, y] as := ReadsAll.keeps (fun b o e => Heap.get?_push_of_some _ e) hr
  refine call_max_twoH (W.iter_tupleW (A := A.in1) (s := { s with heap := s.heap.push { cls := .type "tuple", data := .seq #[a, b] } }) hh hT fun s₂ e Wk st hfp hw hk => ?_)
  refine ⟨_, _, _, _, _, _, _, _, _, rfl, Wk, st, hfp, by simp, hw, hk, W.cmpIn_gt (A := A.in1) hr' ha (by show A.units + 1 + _ < _; exact hu), fun v s' hP m => ?_⟩
  obtain ⟨h', tk, rfl, hk'⟩ := W.moved_old e rfl m
  obtain ⟨bs, r, _, _, _⟩ := W.readsAll_atA hr' _ v hP
  have e2 := (W.argBest_fold (fun a b => W.dataLt b a) PyData.none x [y] 1 (Nat.le_refl _)).2
  have e1 : #[a, b].size - 1 = 1 := rfl
  rw [e1] at r
  exact h _ v h' tk bs hP (W.reads_keeps hk' (by unfold W.maxD; rw [show List.take 1 [y] = [y] from rfl] at e2; rw [← e2]; exact r)) fun b o eb => hk' b o (Heap.get?_push_of_some _ eb)

end
end PySem
namespace Z
open PySem PySem.Spec PyProof.Rows L2

def fMax2X : List D → Option D
  | [a, b] => fMax [a, b]
  | _ => none
theorem c_max2X {X : Cx} (hc : X.calm = true) (hu : X.A.units + 64 < cLine) : CallR X (.builtin "max") (Pr X.F fMax2X) := by
  intro pins s σ H xs us Q I r h
  obtain ⟨ds, o, d, rr, e, k0, k⟩ := pr_end h
  unfold fMax2X at e
  split at e
  · rename_i a b
    simp only [fMax] at e
    split at e
    · rename_i hcm
      cases (Option.some.inj e)
      have hn : D.nols [a, b] = true := by simp only [cmpAll, Bool.and_eq_true] at hcm; exact hcm.1
      obtain ⟨hal, hdp⟩ := cmpAll_alike hcm
      simp only [toPys] at hal hdp
      have rs := rr.imm' (D.nols_imms _ hn)
      have hmn : (maxD a [b]).nol = true := (D.nols_iff _).mp hn _ (maxD_mem a [b])
      obtain ⟨as, g⟩ := Reps.reads I rs r rs.ro
      simp only [toPys] at g
      have hl : xs.length = 2 := rs.length
      obtain ⟨x, y, rfl⟩ : ∃ x y, xs = [x, y] := by
        rcases xs with _ | ⟨x, _ | ⟨y, _ | ⟨_, _⟩⟩⟩
        · cases hl
        · cases hl
        · exact ⟨x, y, rfl⟩
        · cases hl
      have rv := r
      obtain ⟨u, w', rfl, _, _⟩ := vals2 r
      exact max_two_data (I.ok.hd hc) g hal (by omega) fun i v h' tk bs hi hr hk => by
          replace hr : Reads h' v (PySem.W.maxD (toPy a) (toPys [b])) bs := hr
          rw [← maxD_py a [b]] at hr
          obtain ⟨w, rw', rd⟩ := item_eq I rs rv hn hmn (by simpa using hi) hr hk
          exact ⟨w, H, I.kept hk, rw', k0 _ rd⟩
    · cases e
  · cases e

end Z


set_option Elab.async false
set_option linter.all false
set_option maxRecDepth 100000
set_option maxHeartbeats 1000000
/-! comprehensions with two clauses -/
namespace Z
open PySem PySem.Spec PyProof.Rows L2
/-- a list under making at L, and all that is owned -/
structure BS (κ : Kx) (H1 : Hp) (ow : List Addr) (L : Addr) (σ : L2.St) (H' : Hp) (accV : List V) (accD : List D) (oacc : List Addr) (δ : DE) (o : List Addr) : Prop where
  list : H' L = some (.lst accV)
  reps : Reps κ.K H' accD accV oacc
  env : Envs κ H' σ δ o
  step : Step H1 H' ow
  own : Own H1 ow (L :: (oacc ++ o))
section
variable {κ : Kx} {H1 H3 H5 : Hp} {ow : List Addr} {L : Addr} {σ : L2.St} {accV : List V} {accD : List D} {oacc : List Addr} {δ : DE} {o3 : List Addr}
theorem BS.nd (B : BS κ H1 ow L σ H3 accV accD oacc δ o3) (n : Nd ow) : Nd (L :: (oacc ++ o3)) := B.own.nd n
theorem nd_cons {a : Addr} {l : List Addr} (n : Nd (a :: l)) : a ∉ l ∧ Nd l :=
  ⟨fun h => by have := n a; rw [List.count_cons_self] at this; have := List.count_pos_iff.mpr h; omega, fun b => by have := n b; have : l.count b ≤ (a :: l).count b := List.count_le_count_cons; omega⟩
/-- a step of the names' own -/
theorem BS.stay (B : BS κ H1 ow L σ H3 accV accD oacc δ o3) (n : Nd ow) {ov5 o5 : List Addr} (st : Step H3 H5 o3) (w : Own H3 o3 (ov5 ++ o5)) :
    H5 L = some (.lst accV) ∧ Reps κ.K H5 accD accV oacc ∧ Step H1 H5 ow ∧ Own H1 ow (L :: (oacc ++ (ov5 ++ o5))) := by
  obtain ⟨hL, nn⟩ := nd_cons (B.nd n)
  have hLo : L ∉ o3 := fun h => hL (List.mem_append_right _ h)
  refine ⟨st.keep L _ B.list hLo (fun _ z => nomatch z), B.reps.step st B.env.ok (nd_split nn), B.step.trans (B.own.sub fun a => ?_) st, fun a => ?_⟩
  · rw [List.count_cons, List.count_append]; omega
  · have g1 := B.own a
    have g2 := w a
    simp only [List.count_cons, List.count_append] at g1 g2 ⊢
    rcases g2 with g2 | ⟨z, g2⟩
    · rcases g1 with g1 | ⟨z1, g1⟩
      · left; omega
      · right; exact ⟨z1, by omega⟩
    · have h1 : oacc.count a = 0 := List.count_eq_zero.mpr fun hm => by
        obtain ⟨vs, e, how⟩ := B.reps.own a hm
        rw [z] at e; cases e
      have h2 : (L == a) = false := by
        rw [beq_eq_false_iff_ne]
        intro e
        have e : @Eq Nat L a := e
        rw [← e, B.list] at z; cases z
      rw [h2]
      right; exact ⟨B.step.dom a z, by simp; omega⟩
/-- one more at its end -/
theorem BS.push {y : V} {d : D} {oy o5 : List Addr} {δ5 : DE} (n : Nd ow) (g1 : H5 L = some (.lst accV)) (g2 : Reps κ.K H5 accD accV oacc) (g3 : Step H1 H5 ow) (g4 : Own H1 ow (L :: (oacc ++ (oy ++ o5)))) (rd : Rep κ.K H5 d y oy) (E : Envs κ H5 σ δ5 o5) (hL : H1 L = none ∨ L ∈ ow) :
    BS κ H1 ow L σ (upd H5 L (.lst (accV ++ [y]))) (accV ++ [y]) (accD ++ [d]) (oacc ++ oy) δ5 o5 := by
  obtain ⟨hLn, nn⟩ := nd_cons (g4.nd n)
  have wr : Step H5 (upd H5 L (.lst (accV ++ [y]))) [L] := Step.write g1 List.mem_cons_self
  have fr6 : ∀ (l : List Addr), L ∉ l → Fr H5 (upd H5 L (.lst (accV ++ [y]))) l := fun l hl => ⟨fun a ha => upd_ne (fun e => hl (e ▸ ha)), fun a w e hw => by
    have : a ≠ L := fun z => by rw [z, g1] at e; cases e; exact hw
    rw [upd_ne this]; exact e, wr.tab⟩
  have hDo : L ∉ oacc ++ oy := fun hm => hLn (by
    rcases List.mem_append.mp hm with z | z
    · exact List.mem_append_left _ z
    · exact List.mem_append_right _ (List.mem_append_left _ z))
  have hD6 : L ∉ o5 := fun z => hLn (List.mem_append_right _ (List.mem_append_right _ z))
  refine ⟨upd_same, (g2.append (Reps.one rd)).fr (fr6 _ hDo), E.fr (fr6 _ hD6), ⟨fun a u e hn hu => ?_, fun a e => ?_, fun P g => wr.tab P (g3.tab P g)⟩, g4.sub fun a => ?_⟩
  · have : a ≠ L := fun z => by
      rcases hL with hL | hL
      · rw [z, hL] at e; cases e
      · rw [z] at hn; exact hn hL
    rw [upd_ne this]; exact g3.keep a u e hn hu
  · by_cases z : a = L
    · rw [z, upd_same] at e; cases e
    · rw [upd_ne z] at e; exact g3.dom a e
  · simp only [List.count_cons, List.count_append]; omega
/-- the names' own in another stead -/
theorem BS.wipe (B : BS κ H1 ow L σ H3 accV accD oacc δ o3) (vs : List Nat) : ∃ o4, BS κ H1 ow L (L2.wipe σ vs) H3 accV accD oacc (wipeD δ vs) o4 := by
  obtain ⟨o4, E, c⟩ := B.env.wipe vs
  exact ⟨o4, B.list, B.reps, E, B.step, B.own.sub fun a => by have := c a; simp only [List.count_cons, List.count_append]; omega⟩
/-- told from further back -/
theorem BS.back {Hb : Hp} {ob : List Addr} (B : BS κ Hb ob L σ H3 accV accD oacc δ o3) (s : Step H1 Hb ow) (w : Own H1 ow ob) : BS κ H1 ow L σ H3 accV accD oacc δ o3 :=
  ⟨B.list, B.reps, B.env, s.trans w B.step, w.trans s B.own⟩
end
/-- turn after turn -/
def dLp (gs : List (Nat × D)) (vs : List Nat) (b : Bnd) (el : DE → Option (List D × DE)) : List D → DE → Option (List D × DE)
  | [], δ => if gOk gs δ then some ([], δ) else none
  | x :: xs, δ => if gOk gs δ then match b x δ with
    | some δ1 => match el δ1 with
      | some (ds, δ2) => match dLp gs vs b el xs (wipeD δ2 vs) with
        | some (es, δ3) => some (ds ++ es, δ3)
        | none => none
      | none => none
    | none => none
    else none
def BodyOk (κ : Kx) (vs : List Nat) (L : Addr) (el : DE → Option (List D × DE)) (Body : L2.St → Hp → (Hp → Prop) → Prop) : Prop :=
  ∀ {H1 : Hp} {ow : List Addr} {σ3 : L2.St} {H3 : Hp} {accV : List V} {accD : List D} {oacc : List Addr} {δ3 : DE} {o3 : List Addr} {ds : List D} {δ4 : DE} {Nx : Hp → Prop}, Nd ow → (H1 L = none ∨ L ∈ ow) →
    BS κ H1 ow L σ3 H3 accV accD oacc δ3 o3 → el δ3 = some (ds, δ4) → accD.length + ds.length < sizeLine →
    (∀ {H4 : Hp} {σ4 : L2.St} {accV' : List V} {oacc' o4 : List Addr}, L2.wipe σ4 vs = L2.wipe σ3 vs → BS κ H1 ow L σ4 H4 accV' (accD ++ ds) oacc' δ4 o4 → Nx H4) → Body σ3 H3 Nx
theorem loop_ok {κ : Kx} {vs : List Nat} {L : Addr} {el : DE → Option (List D × DE)} {Body : L2.St → Hp → (Hp → Prop) → Prop} (BO : BodyOk κ vs L el Body) {b : Bnd} {src : Src} {σ : L2.St} {J : It} {Hb : Hp} {ob ovb : List Addr} {accV0 : List V} {accD0 : List D} {oacc0 o0 : List Addr} {δ0 δe : DE} {ds : List D}
    (nb : Nd ob) (hL : L ∈ ob) (S : SrcOk κ.K σ src J Hb ovb) (hov : ∀ a ∈ ovb, ∃ u, Hb a = some u ∧ Ow u) (apart : ∀ a ∈ ovb, a ∉ ob) (hk : ∀ p ∈ src.gs, p.1 ∉ vs) (B0 : BS κ Hb ob L (L2.wipe σ vs) Hb accV0 accD0 oacc0 δ0 o0) (shb : ∀ a ∈ ob, ∃ u, Hb a = some u ∧ ¬ Sh u)
    (run : dLp src.gs vs b el src.xs δ0 = some (ds, δe)) (hl : accD0.length + ds.length < sizeLine) :
    ∃ W : Nat → Nat → Hp → Prop, (∃ m, W 0 m Hb) ∧ ∀ i m H, W i m H → (J.stop i H ∧ ∃ accV oacc o, BS κ Hb ob L (L2.wipe σ vs) H accV (accD0 ++ ds) oacc δe o) ∨
      (J.go i H ∧ ∃ Nx : Hp → Prop, (∀ H', Nx H' → ∃ m', m' < m ∧ W (i + 1) m' H') ∧ ∀ x H', J.yld i H x H' → TGm κ (kpOut vs) b x (L2.wipe σ vs) H' fun σ2 H2 => L2.wipe σ2 vs = L2.wipe σ vs ∧ Body σ2 H2 Nx) := by
  refine ⟨fun i m H' => m + i = src.xs.length ∧ ∃ accV accD oacc δ2 o2 rest, BS κ Hb ob L (L2.wipe σ vs) H' accV accD oacc δ2 o2 ∧ dLp src.gs vs b el (src.xs.drop i) δ2 = some (rest, δe) ∧ accD ++ rest = accD0 ++ ds,
    ⟨src.xs.length, rfl, accV0, accD0, oacc0, δ0, o0, ds, B0, run, rfl⟩, fun i m H' hW => ?_⟩
  obtain ⟨hmi, accV, accD, oacc, δ2, o2, rest, B, h3, hds⟩ := hW
  have pin : ∀ a ∈ ovb, H' a = Hb a := fun a ha => by
    obtain ⟨u, e, how⟩ := hov a ha
    rw [e]
    exact B.step.keep a _ e (apart a ha) how.2
  have shr : ∀ a u, Hb a = some u → Sh u → H' a = some u := fun a u e hu => B.step.keep a u e (fun z => by
    obtain ⟨u2, e2, n2⟩ := shb a z
    rw [e] at e2; cases e2; exact n2 hu) hu.nt
  have gk : gOk src.gs δ2 = true → ∀ p ∈ src.gs, ∃ v o, σ[p.1]? = some (some v) ∧ Rep κ.K H' p.2 v o := fun hg p hp => by
    obtain ⟨v, o, hv, r⟩ := gOk_rep B.env hg p hp
    exact ⟨v, o, by rw [← wipe_get (σ := σ) (hk p hp)]; exact hv, r⟩
  by_cases hi : i < src.xs.length
  · have hx : src.xs[i]? = some src.xs[i] := List.getElem?_eq_getElem hi
    rw [List.drop_eq_getElem_cons hi] at h3
    simp only [dLp] at h3
    by_cases hg : gOk src.gs δ2 = true
    case neg => rw [if_neg hg] at h3; cases h3
    rw [if_pos hg] at h3
    obtain ⟨go, _⟩ := S i H' pin shr (gk hg)
    obtain ⟨go, yl⟩ := go _ hx
    cases h4 : b src.xs[i] δ2 with
    | none => rw [h4] at h3; simp at h3
    | some δ3 =>
      rw [h4] at h3; dsimp only at h3
      cases h5 : el δ3 with
      | none => rw [h5] at h3; simp at h3
      | some p5 =>
        obtain ⟨es, δ4⟩ := p5
        rw [h5] at h3; dsimp only at h3
        cases h6 : dLp src.gs vs b el (src.xs.drop (i + 1)) (wipeD δ4 vs) with
        | none => rw [h6] at h3; simp at h3
        | some p6 =>
          obtain ⟨fs, δ5⟩ := p6
          rw [h6] at h3
          simp only [Option.some.injEq, Prod.mk.injEq] at h3
          obtain ⟨rfl, rfl⟩ := h3
          refine .inr ⟨go, fun H6 => ∃ accV' oacc' δ6 o6, BS κ Hb ob L (L2.wipe σ vs) H6 accV' (accD ++ es) oacc' δ6 o6 ∧ dLp src.gs vs b el (src.xs.drop (i + 1)) δ6 = some (fs, δ5), fun H6 ⟨accV', oacc', δ6, o6, B6, e6⟩ => ⟨m - 1, by omega, by omega, accV', accD ++ es, oacc', δ6, o6, fs, B6, e6, by rw [List.append_assoc]; exact hds⟩, fun v H3 hy => ?_⟩
          obtain ⟨sm, rv⟩ := yl v H3 hy
          refine ⟨δ2, o2, src.xs[i], [], δ3, B.env.same sm, rv, h4, fun σ3 o3 E3 c3 k3 => ?_⟩
          have hw3 : L2.wipe σ3 vs = L2.wipe σ vs := by
            rw [← wipe_wipe σ vs]
            exact wipe_same k3.2 fun j hj => k3.1 j (by simpa [kpOut] using hj)
          refine ⟨hw3, ?_⟩
          have B3 : BS κ Hb ob L σ3 H3 accV accD oacc δ3 o3 := ⟨sm _ _ B.list, B.reps.same sm, E3, B.step.same sm, B.own.sub fun a => by have := c3 a; simp only [List.count_nil] at this; simp only [List.count_cons, List.count_append]; omega⟩
          have hle : accD.length + es.length < sizeLine := by
            have := congrArg List.length hds
            simp only [List.length_append] at this; omega
          refine BO nb (.inr hL) B3 h5 hle fun {H4 σ4 accV' oacc' o4} hw4 B4 => ?_
          obtain ⟨o6, B6⟩ := B4.wipe vs
          rw [hw4, hw3] at B6
          exact ⟨accV', oacc', _, o6, B6, h6⟩
  · have hd : src.xs.drop i = [] := List.drop_eq_nil_of_le (by omega)
    rw [hd] at h3
    simp only [dLp] at h3
    by_cases hg : gOk src.gs δ2 = true
    case neg => rw [if_neg hg] at h3; cases h3
    rw [if_pos hg] at h3
    simp only [Option.some.injEq, Prod.mk.injEq] at h3
    obtain ⟨rfl, rfl⟩ := h3
    rw [List.append_nil] at hds
    subst hds
    exact .inl ⟨(S i H' pin shr (gk hg)).2 (by omega), accV, oacc, o2, B⟩
/-! the innermost -/
/-! a loop in it -/
/-! the whole -/
section
variable {X : Cx} {elt tg iter tg1 iter1 : Expr} {ifs ifs1 : List Expr} {q qt q1 qt1 qe : Bool} {ms ms1 : DenS} {b b1 : Bnd} {mt mt1 : DenT} {me : Den} {vs vs1 : List Nat}
end
end Z


set_option Elab.async false
set_option linter.all false
set_option maxRecDepth 100000
/-! a name's list, taken away from it -/
namespace Z
open PySem PySem.Spec PyProof.Rows L2
def dTake (i : Nat) : Den := fun δ => match δ[i]? with
  | some (some d) => if d.imm then some (.own d, δ) else some (.own d, δ.set i none)
  | _ => none
theorem z_take {X : Cx} (i : Nat) {x : Str} {pos : Pos} (hN : X.N[i]? = some x := by rfl) (hv : Vis X.env.scope x := by first | exact Or.inl rfl | exact Or.inr (Or.inl rfl) | exact Or.inr (Or.inr rfl)) (hd : (x == ("__debug__" : Str)) = false := by decide)
    (hcd : (x == ("__classdict__" : Str)) = false := by decide) : PE X (.Name x pos) (T (kx X) false (dTake i)) := by
  refine PE.imp (pe_var hN hv hd hcd) fun σ H Q h => ?_
  obtain ⟨δ, o, r, δ', E, n, hm, q⟩ := h
  simp only [dTake] at hm
  cases hi : δ[i]? with
  | none => rw [hi] at hm; simp at hm
  | some x =>
    cases x with
    | none => rw [hi] at hm; simp at hm
    | some d =>
      rw [hi] at hm
      obtain ⟨v, oa, o1, ob, e1, r1, rfl, _, kn⟩ := E.at hi
      refine ⟨v, e1, ?_⟩
      by_cases hd : d.imm = true
      · simp only [hd, if_true, Option.some.injEq, Prod.mk.injEq] at hm
        obtain ⟨rfl, rfl⟩ := hm
        have := r1.imm hd
        subst this
        exact q v H _ [] ⟨Step.refl _ _, E, r1, own_nil⟩
      · simp only [hd, if_false, Option.some.injEq, Prod.mk.injEq, Bool.false_eq_true] at hm
        obtain ⟨rfl, rfl⟩ := hm
        exact q v H (oa ++ ob) o1 ⟨Step.refl _ _, kn H Fr.rfl, r1, fun a => .inl (by simp only [List.count_append]; omega)⟩
end Z


set_option Elab.async false
set_option linter.all false
set_option maxRecDepth 100000
set_option maxHeartbeats 1000000
/-! x[::-1] -/
namespace PyProof.Rows
open PySem
section
variable {prog : Program} {w : World} {A : Around} {E : Value → Shared → Prop} {s : Shared}
end
end PyProof.Rows
namespace Z
open PySem PySem.Spec PyProof.Rows L2
def RevR (X : Cx) (r : V → Hp → VK → Prop) : Prop :=
  ∀ (pins : List (Addr × Obj)) (s : Shared) (σ : L2.St) (H : Hp) (x : V) (v vk : Value) (sl : Addr) (Q : VK), Inv X pins σ H s → L2.RelV x v → s.heap.IsSliceOf sl .none .none vk → IsPart vk (some (-1)) → r x H Q →
    ∃ T id, typeLookup (.type T) "__getitem__" = pure (some (.builtin id)) ∧ s.TypeIs v T ∧ wpAny (model X.prog X.w) X.A (getItem v (.ref sl)) (EP X pins σ Q) X.xe s
section
variable {X : Cx} {e st : Expr} {te : TE} {p2 pos : Pos}
theorem RevR.or {r r' : V → Hp → VK → Prop} (h : RevR X r) (h' : RevR X r') : RevR X (fun x H Q => r x H Q ∨ r' x H Q) := by
  intro pins s σ H x v vk sl Q I rx hs pk q
  rcases q with q | q
  · exact h pins s σ H x v vk sl Q I rx hs pk q
  · exact h' pins s σ H x v vk sl Q I rx hs pk q
end
end Z


set_option Elab.async false
set_option linter.all false
set_option maxRecDepth 100000
/-! lambdas as keys: the code object, the function, its call -/
namespace Z
open PySem PySem.Spec PyProof.Rows L2

section
variable {X : Cx} {pins : List (Addr × Obj)} {σ : L2.St} {H : Hp} {s : Shared}
/-- a lambda as a value: the function's object f, whose code object has a name -/
structure LamAt (X : Cx) (params : Arguments) (body : Expr) (scope : Scope) (f : Addr) (h : Heap) : Prop where
  ex : ∃ (fd : FuncData) (pm ctv : Value) (c' : Addr) (oc : Obj) (vs : Array Value), h.get? f = some { cls := .type "function", data := .func fd } ∧ fd = PySem.W.kla_fn "<lambda>" (X.env.qual ++ "<lambda>") params body scope (cloFrom X.env.cells scope.names []) pm (.ref c') ctv ∧
    h.get? c' = some oc ∧ oc.data = .fields vs ∧ 1 < vs.size
theorem LamAt.keeps {params : Arguments} {body : Expr} {scope : Scope} {f : Addr} {h h' : Heap} (l : LamAt X params body scope f h) (k : ∀ b o, h.get? b = some o → h'.get? b = some o) : LamAt X params body scope f h' := by
  obtain ⟨fd, pm, ctv, c', oc, vs, e1, e2, e3, e4, e5⟩ := l
  exact ⟨fd, pm, ctv, c', oc, vs, k _ _ e1, e2, k _ _ e3, e4, e5⟩
end
end Z
namespace Z
open PySem PySem.Spec PyProof.Rows L2

/-- a lambda's frame, called with u -/
structure LF (X : Cx) (scope : Scope) (s0 s : Shared) (env : Env) (v : Str) (u : Value) : Prop where
  sc : env.scope = scope
  kind : scope.kind = .function
  vl : scope.names.lookup v = some .local
  ns : ∃ m, s.heap.Ns env.locals m ∧ m v = some u
  glob : env.globals = mainGlobals
  blt : env.builtins = builtinsNs
  cells : env.cells = cloFrom X.env.cells scope.names []
  keep : ∀ b o, s0.heap.get? b = some o → s.heap.get? b = some o
theorem LF.keeps {X : Cx} {scope : Scope} {s0 s : Shared} {env : Env} {v : Str} {u : Value} {h' : Heap} {tk : Nat} (l : LF X scope s0 s env v u) (k : ∀ b o, s.heap.get? b = some o → h'.get? b = some o) : LF X scope s0 { s with heap := h', toks := tk } env v u :=
  ⟨l.sc, l.kind, l.vl, let ⟨m, a, b⟩ := l.ns; ⟨m, a.keeps k, b⟩, l.glob, l.blt, l.cells, fun b o e => k b o (l.keep b o e)⟩
section
variable {X : Cx} {scope : Scope} {v : Str}
end
end Z

namespace Z
open PySem PySem.Spec PyProof.Rows L2
section
variable {prog : Program} {w : World} {A : Around} {R : Result → Shared → Prop} {s : Shared}
end
/-- the names of a lambda with one parameter -/
structure LamSc (X : Cx) (scope : Scope) (v : Str) : Prop where
  kind : scope.kind = .function
  co : scope.isCoroutine = false
  gen : scope.isGenerator = false
  cell : ∀ y ∈ scope.names, y.2 ≠ .cell
  vl : scope.names.lookup v = some .local
  free : ∀ y ∈ scope.names, y.2 = .free → X.env.scope.names.lookup y.1 = some .cell ∨ X.env.scope.names.lookup y.1 = some .free
theorem LamSc.has {X : Cx} {scope : Scope} {v : Str} (L : LamSc X scope v) (ok : X.Ok) : ∀ y ∈ scope.names, y.2 = .free → ∃ c, X.env.cells.lookup y.1 = some c := fun y hy e => by
  rcases L.free y hy e with k | k
  · exact ok.has _ (.inl k)
  · exact ok.has _ (.inr k)
section
variable {X : Cx} {pins : List (Addr × Obj)} {σ : L2.St} {H : Hp} {s0 s : Shared}
end
end Z


set_option Elab.async false
set_option linter.all false
set_option maxRecDepth 100000
/-! sorted(xs, key=lambda v: ..) of a list -/
namespace Z
open PySem PySem.Spec PyProof.Rows L2

section
variable {X : Cx}
end
section
variable {X : Cx} {scope : Scope} {v : Str}
end
end Z


set_option Elab.async false
set_option linter.all false
set_option maxRecDepth 100000
/-! sum of a list, of a tuple, of a generator expression -/
namespace Z
open PySem PySem.Spec PyProof.Rows L2

section
variable {prog : Program} {w : World} {A : Around} {E : Value → Shared → Prop} {s : Shared} {l : Addr}
end
section
variable {X : Cx}
end
section
variable {X : Cx} {pins : List (Addr × Obj)} {σ : L2.St} {δ : DE} {o : List Addr} {Hx : Hp} {A : Around} {a : Addr}
end
end Z


set_option Elab.async false
set_option linter.all false
set_option maxRecDepth 100000
/-! sum of a generator expression -/
namespace Z
open PySem PySem.Spec PyProof.Rows L2
section
variable {X : Cx} {k : Nat}
end
end Z


set_option Elab.async false
set_option linter.all false
set_option maxRecDepth 100000
/-! a < b < c as a test; x, y = a, b -/
namespace Z
open PySem PySem.Spec PyProof.Rows L2
section
variable {X : Cx} {a b c : Expr} {pos : Pos} {f1 f2 : List D → Option D} {ma mb mc : Den} {op op' : CmpOp}
end
section
variable {X : Cx} {kp : Nat → Bool} {pos : Pos} {q : Bool} {m : DE → Option (List R × DE)}
end
end Z


set_option Elab.async false
set_option linter.all false
set_option maxRecDepth 100000
/-! min, max of a generator expression that hands out ints -/
namespace Z
open PySem PySem.Spec PyProof.Rows L2
section
variable {X : Cx} {pins : List (Addr × Obj)} {σ : L2.St} {δ : DE} {o : List Addr} {Hx : Hp} {A : Around} {a : Addr}
end
section
variable {X : Cx} {k : Nat}
end

section
variable {X : Cx} {pins : List (Addr × Obj)} {σ : L2.St} {δ : DE} {o : List Addr} {Hx : Hp} {A : Around} {a : Addr}
end
section
variable {X : Cx} {k : Nat}
end
end Z


set_option Elab.async false
set_option linter.all false
set_option maxRecDepth 100000
/-! lambdas as keys: names from outside, subscripts -/
namespace Z
open PySem PySem.Spec PyProof.Rows L2
section
variable {X : Cx} {scope : Scope} {v : Str}
end
end Z


set_option Elab.async false
set_option linter.all false
set_option maxRecDepth 100000
/-! sorted(range(n), key=lambda v: ..) -/
namespace Z
open PySem PySem.Spec PyProof.Rows L2
section
variable {prog : Program} {w : World} {A : Around} {s : Shared} {E : Value → Shared → Prop}
end
section
variable {X : Cx}
end
end Z


set_option Elab.async false
set_option linter.all false
set_option maxRecDepth 100000
/-! list.count of ints -/
namespace Z
open PySem PySem.Spec PyProof.Rows L2
section
variable {X : Cx} {eo e : Expr} {qo qe : Bool} {mo : Den} {ma : DE → Option (List R × DE)} {apos cpos : Pos}
end
end Z


set_option Elab.async false
set_option linter.all false
set_option maxRecDepth 100000
/-! generator expressions with two clauses: phases, the consumer's side -/
namespace Z
open PySem PySem.Spec PyProof.Rows L2
/-- where a generator's frame stands: its names, its data, its iterators' objects and how these are -/
structure Ph where
  σ : L2.St
  δ : DE
  fp : List Addr
  tn : Heap → Prop
  ex : Hp → Prop
structure PhOk (σw : L2.St) (δw : DE) (vs : List Nat) (P : Ph) : Prop where
  wσ : L2.wipe P.σ vs = σw
  wδ : wipeD P.δ vs = δw
  len : P.σ.length = σw.length
  keep : ∀ h h', P.tn h → (∀ b ∈ P.fp, ∀ o, h.get? b = some o → h'.get? b = some o) → P.tn h'
structure GInvP (Xg : Cx) (σw : L2.St) (δw : DE) (vs : List Nat) (P : Ph) (H1 : Hp) (ow : List Addr) (L : List Addr) (S : List Addr) (gd : List D) (pins : List (Addr × Obj)) (H : Hp) (s : Shared) : Prop where
  ok : PhOk σw δw vs P
  inv : Inv Xg pins P.σ H s
  trn : P.tn s.heap
  xt : P.ex H
  nof : ∀ b ∈ P.fp, H b = none
  env : ∃ o', Envs (kx Xg) H P.σ P.δ o' ∧ Own H1 ow o'
  step : Step H1 H ow
  live : ∀ b ∈ L, ∃ o, s.heap.get? b = some o
  apart : ∀ p ∈ pins, p.1 ∉ P.fp
  held : Keeps Xg.F S gd H s
theorem GInvP.fin {Xg : Cx} {σw : L2.St} {δw : DE} {vs : List Nat} {P : Ph} {H1 : Hp} {ow L S : List Addr} {gd : List D} {pins : List (Addr × Obj)} {H : Hp} {s : Shared} (G : GInvP Xg σw δw vs P H1 ow L S gd pins H s) : GEnd Xg σw δw H1 ow S gd pins H s := by
  refine ⟨G.inv.weak G.ok.len.symm fun j v e => ?_, ?_, G.step, G.held⟩
  · rw [← G.ok.wσ] at e
    exact (wipe_some e).1
  · obtain ⟨o', E', w'⟩ := G.env
    obtain ⟨o6, E6, c6⟩ := E'.wipe vs
    rw [G.ok.wσ, G.ok.wδ] at E6
    exact ⟨o6, E6, w'.sub c6⟩
section
variable {Xg : Cx} {σw : L2.St} {δw : DE} {P : Ph} {H1 : Hp} {ow L Sc : List Addr} {vs : List Nat} {cd : Nat → List D} {gd : List D} {stop : D → Bool} {R0 : List D}

theorem GInvP.gens {pins : List (Addr × Obj)} {H : Hp} {s : Shared} (G : GInvP Xg σw δw vs P H1 ow L Sc gd pins H s) {g : Array GenState} (h : AllBare g) : GInvP Xg σw δw vs P H1 ow L Sc gd pins H { s with gens := g } :=
  ⟨G.ok, G.inv.gens h, G.trn, G.xt, G.nof, G.env, G.step, G.live, G.apart, G.held⟩
theorem GInvP.pin {H : Hp} {s₀ s : Shared} (G : GInvP Xg σw δw vs P H1 ow L Sc gd (pinsAt L s₀.heap) H s) (hL : ∀ b ∈ L, ∃ o, s₀.heap.get? b = some o) : pinsAt L s.heap = pinsAt L s₀.heap := pinsAt_eq fun b hb => by
  obtain ⟨o, e⟩ := hL b hb
  exact ⟨o, e, (G.inv.pin (b, o) (List.mem_append_right _ (mem_pinsAt hb e))).1⟩
theorem GInvP.at {H : Hp} {s₀ s : Shared} {b : Addr} {o : Obj} (G : GInvP Xg σw δw vs P H1 ow L Sc gd (pinsAt L s₀.heap) H s) (hb : b ∈ L) (e : s₀.heap.get? b = some o) : s.heap.get? b = some o := (G.inv.pin (b, o) (List.mem_append_right _ (mem_pinsAt hb e))).1
end
end Z


set_option Elab.async false
set_option linter.all false
set_option maxRecDepth 100000
/-! generator expressions with two clauses: what a consumer sees -/
namespace Z
open PySem PySem.Spec PyProof.Rows L2
section
variable {X : Cx} {pins : List (Addr × Obj)} {σ : L2.St} {δ1 : DE} {o1 ow od : List Addr} {Hx : Hp} {sB : Shared} {vs : List Nat} {scope : Scope} {cenv : Env} {fp : List Addr} {stop : D → Bool} {S : List Addr} {cd : Nat → List D} {gd : List D} {A Ag : Around} {a g : Addr}
end
end Z


set_option Elab.async false
set_option linter.all false
set_option maxRecDepth 100000
/-! generator expressions with two clauses: the code, where it runs -/
namespace Z
open PySem PySem.Spec PyProof.Rows L2
end Z


set_option Elab.async false
set_option linter.all false
set_option maxRecDepth 100000
/-! generator expressions with two clauses: the inner loop's turns -/
namespace Z
open PySem PySem.Spec PyProof.Rows L2
section
variable {Xg : Cx} {σw σ8 : L2.St} {δw δi : DE} {fpO fp1 : List Addr} {tnO : Heap → Prop} {tn1 : Nat → Heap → Prop} {H1 Hb : Hp} {ow ob L Sc : List Addr} {vs vs1 : List Nat} {cd : Nat → List D} {stop : D → Bool} {R0 : List D} {Ac : Around} {cenv : Env} {elt t0 i0 t1 i1 : Expr} {ifs0 ifs1 : List Expr} {scope : Scope} {pos : Pos} {it it1 : Addr} {J1 : It} {xs1 : List D} {b1 : Bnd} {mt1 : DenT} {me : Den} {qt qe : Bool} {k0 : Result → Sem PySem.Fin} {lv : List Value} {p0 : Pos}
end
end Z


set_option Elab.async false
set_option linter.all false
set_option maxRecDepth 100000
/-! generator expressions with two clauses: the outer loop, begun -/
namespace Z
open PySem PySem.Spec PyProof.Rows L2
/-- the names let go: the outer loop's phase -/
theorem GInvP.wiped {Xg : Cx} {σw : L2.St} {δw : DE} {vs : List Nat} {P : Ph} {H1 : Hp} {ow L S : List Addr} {gd : List D} {pins : List (Addr × Obj)} {H : Hp} {s : Shared} (G : GInvP Xg σw δw vs P H1 ow L S gd pins H s) (hw : L2.wipe σw vs = σw) (hd : wipeD δw vs = δw) : GInvP Xg σw δw vs ⟨σw, δw, P.fp, P.tn, fun _ => True⟩ H1 ow L S gd pins H s := by
  have F := G.fin
  exact ⟨⟨hw, hd, rfl, G.ok.keep⟩, F.inv, G.trn, trivial, G.nof, F.env, F.step, G.live, G.apart, F.held⟩
end Z


set_option Elab.async false
set_option linter.all false
set_option maxRecDepth 100000
/-! generator expressions with two clauses: the outer loop's turns -/
namespace Z
open PySem PySem.Spec PyProof.Rows L2
section
variable {Xg : Cx} {σ : L2.St} {δw : DE} {fp : List Addr} {tn : Nat → Heap → Prop} {H1 : Hp} {ow L Sc : List Addr} {vs vs1 : List Nat} {cd : Nat → List D} {stop : D → Bool} {R0 : List D} {Ac : Around} {cenv : Env} {elt t0 i0 t1 i1 : Expr} {ifs0 ifs1 : List Expr} {scope : Scope} {pos : Pos} {it : Addr} {J : It} {xs : List D} {b b1 : Bnd} {mt mt1 : DenT} {ms1 : DenS} {me : Den} {qt q1 qt1 qe : Bool}
end
end Z


set_option Elab.async false
set_option linter.all false
set_option maxRecDepth 100000
/-! generator expressions with two clauses: begun, made -/
namespace Z
open PySem PySem.Spec PyProof.Rows L2
section
variable {Xg : Cx} {σ : L2.St} {δw : DE} {fp : List Addr} {tn : Nat → Heap → Prop} {H1 : Hp} {ow L Sc : List Addr} {vs vs1 : List Nat} {cd : Nat → List D} {stop : D → Bool} {R0 : List D} {Ac : Around} {cenv : Env} {elt t0 i0 t1 i1 : Expr} {ifs0 ifs1 : List Expr} {scope : Scope} {pos : Pos} {it : Addr} {J : It} {xs : List D} {b b1 : Bnd} {mt mt1 : DenT} {ms1 : DenS} {me : Den} {qt q1 qt1 qe : Bool}
end
section
variable {X : Cx} {pins : List (Addr × Obj)} {σ : L2.St} {H : Hp} {s : Shared} {elt tg iter t1 i1 : Expr} {ifs ifs1 : List Expr} {scope : Scope} {own : List (Str × Nat)} {pos : Pos} {ms ms1 : DenS} {b b1 : Bnd} {mt mt1 : DenT} {me : Den} {q qt q1 qt1 qe : Bool} {vs1 : List Nat} {k : Nat} {stop : D → Bool}
end
end Z


set_option Elab.async false
set_option linter.all false
set_option maxRecDepth 100000
/-! all, any, and others of a generator expression with two clauses -/
namespace Z
open PySem PySem.Spec PyProof.Rows L2
/-- a judgement of a generator expression that a consumer will walk; nothing is told of its length -/
structure PGy (X : Cx) (k : Nat) (e : Expr) (stop : D → Bool) (m : DE → Option (List D × DE)) : Prop where
  run : ∀ (pins : List (Addr × Obj)) (s : Shared) (σ : L2.St) (H : Hp) (δ : DE) (o : List Addr) (R0 : List D) (δ1 : DE) (Q : Value → Shared → Prop), Inv X pins σ H s → Envs (kx X) H σ δ o → Nd o → m δ = some (R0, δ1) →
    (∀ a s5 Hx o1, Step H Hx o → Envs (kx X) Hx σ δ1 o1 → Own H o o1 → GMk X pins σ δ1 o1 Hx k a stop R0 s5 → Q (.ref a) s5) → wpAny (model X.prog X.w) X.A (eval e X.env) Q X.xe s
section
variable {X : Cx} {elt tg iter t1 i1 : Expr} {ifs ifs1 : List Expr} {scope : Scope} {own : List (Str × Nat)} {pos : Pos} {ms ms1 : DenS} {b b1 : Bnd} {mt mt1 : DenT} {me : Den} {q qt q1 qt1 qe : Bool} {vs1 : List Nat} {k : Nat} {stop : D → Bool}
end
end Z


set_option Elab.async false
set_option linter.all false
set_option maxRecDepth 100000
/-! dicts: what stands at an address -/
namespace Z
open PySem PySem.Spec PyProof.Rows L2
def keyA : D → Bool
  | .int _ => true
  | .str _ => true
  | _ => false
def kA : D → L2.Key
  | .int i => .inl i
  | .str x => .inr x
  | _ => .inl 0
/-- keys of one kind -/
def famOk (ks : List D) : Bool := ks.all keyT || ks.all keyA
section
variable {κ : Type} [DecidableEq κ] {K : Fw} {H : Hp}
end
section
variable {X : Cx} {pins : List (Addr × Obj)} {σ : L2.St} {H : Hp} {s : Shared}
/-- the dict at a, in the heap, of one or the other kind; the key k is of that kind -/
inductive DV (X : Cx) (s : Shared) (a : Addr) (k : D) (ks : List D) (kvs vvs : List V) : Prop
  | t (xs : List (NestedKey × Addr × Value)) (hk : ∀ x ∈ k :: ks, keyT x = true) (d : s.heap.DictOfH (nestedKind X.prog X.w) a xs) (k1 : xs.map (·.1) = ks.map dNK) (k2 : kvs = xs.map (fun x => V.ref x.2.1)) (v : Vals vvs (xs.map (·.2.2)))
  | a (ps : List (L2.Key × Value)) (hk : ∀ x ∈ k :: ks, keyA x = true) (d : s.heap.DictOf (mixKind X.prog X.w) a ps) (k1 : ps.map (·.1) = ks.map kA) (v : Vals vvs (ps.map (·.2)))
end
end Z


set_option Elab.async false
set_option linter.all false
set_option maxRecDepth 100000
/-! dicts: d[k], k in d, len(d) -/
namespace Z
open PySem PySem.Spec PyProof.Rows L2
section
variable {X : Cx}
end
end Z


set_option Elab.async false
set_option linter.all false
set_option maxRecDepth 100000
/-! dicts: {}, {k: v}, d[k] = v -/
namespace Z
open PySem PySem.Spec PyProof.Rows L2
section
variable {X : Cx} {pins : List (Addr × Obj)} {σ : L2.St} {H : Hp} {s : Shared}
end
end Z


set_option Elab.async false
set_option linter.all false
set_option maxRecDepth 100000
/-! dicts: the rules for what makes and changes them -/
namespace Z
open PySem PySem.Spec PyProof.Rows L2
section
variable {X : Cx}
end
end Z


set_option Elab.async false
set_option linter.all false
set_option maxRecDepth 100000
/-! dicts: {k: v} -/
namespace Z
open PySem PySem.Spec PyProof.Rows L2
section
variable {X : Cx}
end
end Z


set_option Elab.async false
set_option linter.all false
set_option maxRecDepth 100000
/-! dicts: sorted(d) -/
namespace Z
open PySem PySem.Spec PyProof.Rows L2
section
variable {X : Cx}
end
theorem z_defF {P : Program} {w : World} {K : PySem.W.Frag} {mg : Str → Option Value} {base : Heap} {qual : Str} {params : Arguments} {body : List Stmt} {scope : Scope} {f : Addr} {fd : FuncData} {N ps : List Str} {k : Nat} {kp : Nat → Bool} {m : Blk} (F : FunZ K qual params body scope f fd) (S : FnScope N ps scope)
    (hb : ∀ (cc : Addr) (A : Around) (outer : List Env) (s : Shared) (H : Hp) (E : XK), Room k (A.deeper (envOfC qual scope s.heap.objs.size f (.ref cc))) → PSs (cxOf CX0 P w K mg base N qual scope f (.ref cc) A outer s H E).nox body (TSm ⟨⟨K, w⟩, .ref cc⟩ kp m)) :
    FnOk P w K mg base CX0 (k + 1) f fd ps (spD ⟨K, w⟩ (dFn N.length ps.length kp m)) := z_def (K := ⟨K, w⟩) F S hb
end Z


set_option Elab.async false
set_option linter.all false
set_option maxRecDepth 100000
set_option maxHeartbeats 4000000
/-! row * number -/
namespace Z
open PySem PySem.Spec PyProof.Rows L2
section
variable {X : Cx}
end
end Z


set_option Elab.async false
set_option linter.all false
set_option maxRecDepth 100000
/-! list.count of data -/
namespace Z
open PySem PySem.Spec PyProof.Rows L2
section
variable {X : Cx} {eo e : Expr} {qo qe : Bool} {mo : Den} {ma : DE → Option (List R × DE)} {apos cpos : Pos}
end
end Z


set_option Elab.async false
set_option linter.all false
set_option maxRecDepth 100000
/-! a new list that nobody will change -/
namespace Z
open PySem PySem.Spec PyProof.Rows L2
section
variable {X : Cx} {e : Expr} {q : Bool} {m : Den}
end
end Z


set_option Elab.async false
set_option linter.all false
set_option maxRecDepth 100000
set_option maxHeartbeats 4000000
/-! lists of both kinds, one behind the other; not of any value -/
namespace Z
open PySem PySem.Spec PyProof.Rows L2
section
variable {X : Cx}
end
section
variable {X : Cx} {a : Expr} {q : Bool} {m : Den} {pos : Pos}
end
end Z


set_option Elab.async false
set_option linter.all false
set_option maxRecDepth 100000
/-! list(range(n)) -/
namespace Z
open PySem PySem.Spec PyProof.Rows L2
section
variable {X : Cx} {a : Expr} {q : Bool} {m : Den} {p p2 pos pos2 : Pos}
end
end Z


set_option Elab.async false
set_option linter.all false
set_option maxRecDepth 100000
/-! a statement that is not reached; and, or by the truth of values -/
namespace Z
open PySem PySem.Spec PyProof.Rows L2
section
variable {X : Cx} {a b c : Expr} {rest : List Expr} {q qa qb qc : Bool} {m ma' mb' : Den} {pos : Pos}
end
end Z


set_option Elab.async false
set_option linter.all false
set_option maxRecDepth 100000
/-! min, max of a generator expression that hands out data of one kind -/
namespace Z
open PySem PySem.Spec PyProof.Rows L2

section
variable {X : Cx} {pins : List (Addr × Obj)} {σ : L2.St} {δ : DE} {o : List Addr} {Hx : Hp} {A : Around} {a : Addr}
end
section
variable {X : Cx} {k : Nat}
end

section
variable {X : Cx} {pins : List (Addr × Obj)} {σ : L2.St} {δ : DE} {o : List Addr} {Hx : Hp} {A : Around} {a : Addr}
end
section
variable {X : Cx} {k : Nat}
end
end Z


set_option Elab.async false
set_option linter.all false
set_option maxRecDepth 100000
/-! list.remove of data -/
namespace Z
open PySem PySem.Spec PyProof.Rows L2
section
variable {X : Cx} {eo e : Expr} {qo qe : Bool} {mo : Den} {ma : DE → Option (List R × DE)} {apos cpos : Pos}
end
end Z


set_option Elab.async false
set_option linter.all false
set_option maxRecDepth 100000
/-! names at the top that stand for a text or a number -/
namespace Z
open PySem PySem.Spec PyProof.Rows L2
section
variable {X : Cx} {x z : Str} {i : Int} {pos : Pos}
end
end Z


set_option Elab.async false
set_option linter.all false
set_option maxRecDepth 100000
/-! ranges that go down by one -/
namespace Z
open PySem PySem.Spec PyProof.Rows L2
section
variable {X : Cx} {tg a b c : Expr} {q : Bool} {m : DE → Option (List R × DE)} {p pos : Pos}
end
end Z


set_option Elab.async false
set_option linter.all false
set_option maxRecDepth 100000
/-! ''.join of a list of texts -/
namespace Z
open PySem PySem.Spec PyProof.Rows L2
section
variable {X : Cx} {e : Expr} {q : Bool} {m : Den} {s : Str} {j : Option Str} {p2 apos pos : Pos}
end
end Z


set_option Elab.async false
set_option linter.all false
set_option maxRecDepth 100000
/-! index, count of texts -/
namespace Z
open PySem PySem.Spec PyProof.Rows L2
section
variable {X : Cx} {eo e : Expr} {qo qe : Bool} {mo me : Den} {f : Str → Str → Option D}
end
end Z


set_option Elab.async false
set_option linter.all false
set_option maxRecDepth 100000
/-! enumerate of a text -/
namespace Z
open PySem PySem.Spec PyProof.Rows L2
section
variable {X : Cx} {e l : Expr} {ta : TA} {p pos tpos : Pos} {elts : List Expr} {kk : Nat} {q : Bool} {ml : Den}
end
end Z


set_option Elab.async false
set_option linter.all false
set_option maxRecDepth 100000
/-! ''.join of a generator expression -/
namespace Z
open PySem PySem.Spec PyProof.Rows L2
open PySem.Builtin PySem.Builtin.Str
section
variable {X : Cx} {pins : List (Addr × Obj)} {σ : L2.St} {δ : DE} {o : List Addr} {Hx : Hp} {A : Around} {a : Addr}
end
section
variable {X : Cx} {k : Nat}
end
end Z


set_option Elab.async false
set_option linter.all false
set_option maxRecDepth 100000
/-! x += a text -/
namespace Z
open PySem PySem.Spec PyProof.Rows L2
section
variable {X : Cx} {kp : Nat → Bool} {e : Expr} {q : Bool} {m : Den} {pos : Pos}
end
end Z


set_option Elab.async false
set_option linter.all false
set_option maxRecDepth 100000
set_option maxHeartbeats 4000000
/-! set of a text -/
namespace Z
open PySem PySem.Spec PyProof.Rows L2
section
variable {P : Program} {w : World} {A : Around} {E : Value → Shared → Prop} {s : Shared}
end
end Z


set_option Elab.async false
set_option linter.all false
set_option maxRecDepth 100000
set_option maxHeartbeats 1000000
/-! sorted(set(a text)) -/
namespace Z
open PySem PySem.Spec PyProof.Rows L2
section
variable {X : Cx} {e : Expr} {q : Bool} {m : Den} {p p2 pos pos2 : Pos}
end
end Z


set_option Elab.async false
set_option linter.all false
set_option maxRecDepth 100000
/-! dicts: list(d) -/
namespace Z
open PySem PySem.Spec PyProof.Rows L2
section
variable {X : Cx}
end
end Z


set_option Elab.async false
set_option linter.all false
set_option maxRecDepth 100000
/-! dicts: d.get(k) of a name -/
namespace Z
open PySem PySem.Spec PyProof.Rows L2
section
variable {X : Cx} {pins : List (Addr × Obj)} {σ : L2.St} {H : Hp}
end
end Z


set_option Elab.async false
set_option linter.all false
set_option maxRecDepth 100000
/-! list of a text -/
namespace Z
open PySem PySem.Spec PyProof.Rows L2
section
variable {X : Cx}
end
end Z


set_option Elab.async false
set_option linter.all false
set_option maxRecDepth 100000
/-! a text, so many times -/
namespace Z
open PySem PySem.Spec PyProof.Rows L2
section
variable {X : Cx}
end
end Z


set_option Elab.async false
set_option linter.all false
set_option maxRecDepth 100000
/-! objects of classes: fields read and set -/
namespace Z
open PySem PySem.Spec PyProof.Rows L2
section
variable {X : Cx} {e : Expr} {q : Bool} {m : Den} {pos : Pos} {cn f : Str}
end
section
variable {κ : Kx} {H : Hp} {σ : L2.St}
end
section
variable {X : Cx} {o value : Expr} {qo q : Bool} {mo me : Den} {pos pos' : Pos} {cn f : Str} {kp : Nat → Bool}
end
end Z


set_option Elab.async false
set_option linter.all false
set_option maxRecDepth 100000
/-! objects of classes: methods, new ones -/
namespace Z
open PySem PySem.Spec PyProof.Rows L2
section
variable {X : Cx} {o e : Expr} {es : List Expr} {qo q : Bool} {mo : Den} {mr : DE → Option (List R × DE)} {m : Fn} {k : Nat} {f : Addr} {fd : FuncData} {ps : List Str} {cn mn x : Str} {p pos apos : Pos}
end
end Z


set_option Elab.async false
set_option linter.all false
set_option maxRecDepth 100000
/-! d[k] = v where the dict stands some items down -/
namespace Z
open PySem PySem.Spec PyProof.Rows L2
section
variable {X : Cx}
end
end Z


set_option Elab.async false
set_option linter.all false
set_option maxRecDepth 100000
/-! the head: methods -/
namespace Z
open PySem PySem.Spec PyProof.Rows L2
/-- a method, as the others see it -/
structure MDef (K : PySem.W.Frag) (C m q : Str) (st : Stmt) (ps : List Str) (f : Addr) (fd : FuncData) : Prop where
  fz : FunZ K q (L2.defArgs st) (L2.defBody st) (L2.defScope st) f fd
  mt : Meth K (He.ga K C) m f
  b : Binds K fd ps []
abbrev mOf (C m q : Str) (st : Stmt) : He.DefD := ⟨(C, some m), m, q, L2.defArgs st, L2.defBody st, L2.defScope st, [], []⟩
section
variable {fa : List He.Fa} {fn : List He.DefD} {ts : List He.Tab} {tf : List He.Defn} {w : World} {h : Heap} {K : PySem.W.Frag}
theorem MDef.of (X : K.In h) (c : He.SaysX fa fn ts tf (exTabs tf) w h K) {C m q : Str} {st : Stmt} {ps : List Str} (hd : mOf C m q st ∈ fn) (ht : (C, some m) ∈ tf) (hg : He.Fa.meth C m ∈ fa)
    (hb : ∀ (kV doc pm : Value) (an : Option Addr) (cdv ct : Value) (us : List Value), us.length = ps.length → bindArgs (PySem.W.fnOf m q (L2.defArgs st) (L2.defBody st) (L2.defScope st) .none kV doc pm an cdv ct) ⟨us, []⟩ = pure (ps.zip us)) :
    ∃ fd, MDef K C m q st ps (He.ma K (He.ga K C) m) fd := by
  obtain ⟨fd, F⟩ := He.SaysD.defs (fa := fa) (fn := fn) c.t.d hd
  exact ⟨fd, ⟨funZ_of F (c.hd _ ht), He.meth_ok (He.SaysD.facts c.t.d hg), F.bindsN hb⟩⟩
end
end Z


set_option Elab.async false
set_option linter.all false
set_option maxRecDepth 100000
/-! min(list, key=lambda ..): the loop -/
namespace Z
open PySem PySem.Spec PyProof.Rows L2
mutual
/-- a datum without lists and dicts stays while the tuples stay -/
theorem reads_cls {h h' : Heap} (k : ∀ b o, h.get? b = some o → o.cls = .type "tuple" → h'.get? b = some o) : ∀ {v : Value} {d : PyData} {as : List Addr}, Reads h v d as → as = [] → Reads h' v d as
  | _, _, _, .none, _ => .none
  | _, _, _, .bool b, _ => .bool b
  | _, _, _, .int i t, _ => .int i t
  | _, _, _, .str x t, _ => .str x t
  | _, _, _, .list _ _ _ _, e => nomatch e
  | _, _, _, .tuple h1 h2 h3 h4, e => .tuple (k _ _ h1 h2) h2 h3 (readsAll_cls k h4 e)
  | _, _, _, .dict _ _ _ _ _, e => nomatch e
theorem readsAll_cls {h h' : Heap} (k : ∀ b o, h.get? b = some o → o.cls = .type "tuple" → h'.get? b = some o) : ∀ {v : List Value} {d : List PyData} {as : List Addr}, ReadsAll h v d as → as = [] → ReadsAll h' v d as
  | _, _, _, .nil, _ => .nil
  | _, _, _, .cons r1 r2, e => by
    obtain ⟨e1, e2⟩ := List.append_eq_nil_iff.mp e
    exact .cons (reads_cls k r1 e1) (readsAll_cls k r2 e2)
end
/-- s has all that s0 has -/
structure Lk (s0 s : Shared) : Prop where
  keep : ∀ b o, s0.heap.get? b = some o → s.heap.get? b = some o
  gens : s.gens = s0.gens
  drawn : s.drawn = s0.drawn
  os : s.os = s0.os
theorem Lk.eq {s0 s : Shared} (h : Lk s0 s) : s = { s0 with heap := s.heap, toks := s.toks } := by
  obtain ⟨_, g, d, o⟩ := h
  obtain ⟨hp, gg, dd, tk, oo⟩ := s
  simp only at g d o
  subst g d o
  rfl
theorem Lk.heap {s0 s : Shared} (h : Lk s0 s) {g : Heap} {tk : Nat} (k : ∀ b o, s0.heap.get? b = some o → g.get? b = some o) : Lk s0 { s with heap := g, toks := tk } := ⟨k, h.gens, h.drawn, h.os⟩
section
variable {P : Program} {w : World} {A : Around} {R : Result → Shared → Prop} {s0 : Shared} {f l it SL : Addr} {vs : Array Value} {K : Nat → PyData}
structure KOk (P : Program) (w : World) (A : Around) (s0 : Shared) (f l it SL : Addr) (vs : Array Value) (K : Nat → PyData) : Prop where
  hh : A.handled = none
  ne1 : l ≠ it
  ne2 : it ≠ SL
  ne3 : l ≠ SL
  hold : ∀ b o, s0.heap.get? b = some o → b ≠ it ∧ b ≠ SL
  turn : ∀ i v s, vs[i]? = some v → Lk s0 s → wpAny (model P w) A (call (.ref f) [v]) (PySem.W.KeyPure (K i) s) (fun _ _ => False) s
  al : ∀ i j, i < vs.size → j < vs.size → PySem.W.alike (K i) (K j) = true
  nn : ∀ i, i < vs.size → K i ≠ .none
  dp : ∀ i, i < vs.size → (K i).depth ≤ 60
  hu : A.units + 61 < cLine
end
end Z


set_option Elab.async false
set_option linter.all false
set_option maxRecDepth 100000
/-! min(xs, key=lambda v: ..) of a list -/
namespace Z
open PySem PySem.Spec PyProof.Rows L2
section
variable {X : Cx}
end
end Z


set_option Elab.async false
set_option linter.all false
set_option maxRecDepth 100000
set_option maxHeartbeats 2000000
/-! zip of four: what the builtin does -/
namespace Z
open PySem PySem.Spec PyProof.Rows L2
abbrev IsTupOf4 (h : Heap) (T : Addr) (a1 a2 a3 a4 : Value) : Prop := h.get? T = some { cls := .type "tuple", data := .seq #[a1, a2, a3, a4] }
structure ZipSep4 (z TI TO i1 i2 i3 i4 : Addr) (fp1 fp2 fp3 fp4 : List Addr) : Prop where
  TIz : TI ≠ z
  TOz : TO ≠ z
  TITO : TI ≠ TO
  TIi1 : TI ≠ i1
  mem1 : i1 ∈ fp1
  zf1 : z ∉ fp1
  Tf1 : TO ∉ fp1
  TIi2 : TI ≠ i2
  mem2 : i2 ∈ fp2
  zf2 : z ∉ fp2
  Tf2 : TO ∉ fp2
  TIi3 : TI ≠ i3
  mem3 : i3 ∈ fp3
  zf3 : z ∉ fp3
  Tf3 : TO ∉ fp3
  TIi4 : TI ≠ i4
  mem4 : i4 ∈ fp4
  zf4 : z ∉ fp4
  Tf4 : TO ∉ fp4
  sep1_2 : i1 ∉ fp2
  sep1_3 : i1 ∉ fp3
  sep1_4 : i1 ∉ fp4
  sep2_1 : i2 ∉ fp1
  sep2_3 : i2 ∉ fp3
  sep2_4 : i2 ∉ fp4
  sep3_1 : i3 ∉ fp1
  sep3_2 : i3 ∉ fp2
  sep3_4 : i3 ∉ fp4
  sep4_1 : i4 ∉ fp1
  sep4_2 : i4 ∉ fp2
  sep4_3 : i4 ∉ fp3
section
variable {prog : Program} {w : World} {A : Around} {E : Value → Shared → Prop} {s : Shared} {z TI TO i1 i2 i3 i4 : Addr} {fp1 fp2 fp3 fp4 : List Addr} {n1 n2 n3 n4 i : Nat} {P1 P2 P3 P4 : Nat → Value → Prop} {St1 St2 St3 St4 : Nat → Heap → Prop} {a1 a2 a3 a4 : Value}
theorem ZipSep4.zi1 (D : ZipSep4 z TI TO i1 i2 i3 i4 fp1 fp2 fp3 fp4) : z ≠ i1 := fun e => D.zf1 (by rw [e]; exact D.mem1)
theorem ZipSep4.Ti1 (D : ZipSep4 z TI TO i1 i2 i3 i4 fp1 fp2 fp3 fp4) : TO ≠ i1 := fun e => D.Tf1 (by rw [e]; exact D.mem1)
theorem ZipSep4.zi2 (D : ZipSep4 z TI TO i1 i2 i3 i4 fp1 fp2 fp3 fp4) : z ≠ i2 := fun e => D.zf2 (by rw [e]; exact D.mem2)
theorem ZipSep4.Ti2 (D : ZipSep4 z TI TO i1 i2 i3 i4 fp1 fp2 fp3 fp4) : TO ≠ i2 := fun e => D.Tf2 (by rw [e]; exact D.mem2)
theorem ZipSep4.zi3 (D : ZipSep4 z TI TO i1 i2 i3 i4 fp1 fp2 fp3 fp4) : z ≠ i3 := fun e => D.zf3 (by rw [e]; exact D.mem3)
theorem ZipSep4.Ti3 (D : ZipSep4 z TI TO i1 i2 i3 i4 fp1 fp2 fp3 fp4) : TO ≠ i3 := fun e => D.Tf3 (by rw [e]; exact D.mem3)
theorem ZipSep4.zi4 (D : ZipSep4 z TI TO i1 i2 i3 i4 fp1 fp2 fp3 fp4) : z ≠ i4 := fun e => D.zf4 (by rw [e]; exact D.mem4)
theorem ZipSep4.Ti4 (D : ZipSep4 z TI TO i1 i2 i3 i4 fp1 fp2 fp3 fp4) : TO ≠ i4 := fun e => D.Tf4 (by rw [e]; exact D.mem4)
theorem updateSeq_IsTupOf4 {T : Addr} {x : Value} {k : Nat} {Q : Unit → Shared → Prop} (hT : IsTupOf4 s.heap T a1 a2 a3 a4)
    (h : ∀ h', h'.get? T = some { cls := .type "tuple", data := .seq ((#[a1, a2, a3, a4] : Array Value).setIfInBounds k x) } → Heap.SameBut T s.heap h' → Q () { s with heap := h' }) :
    wpAny (model prog w) A (updateSeq T (·.setIfInBounds k x)) Q E s := by
  refine wpAny_updateSeq hT rfl (h _ ?_ (Heap.SameBut.update ..))
  rw [Heap.get?_update_self _ hT rfl]
  simp [Obj.mapSeq]
theorem zipD4_next_item {Q : Value → Shared → Prop} (S : ZipSep4 z TI TO i1 i2 i3 i4 fp1 fp2 fp3 fp4) (D1 : Draws prog w A i1 fp1 n1 P1 St1) (D2 : Draws prog w A i2 fp2 n2 P2 St2) (D3 : Draws prog w A i3 fp3 n3 P3 St3) (D4 : Draws prog w A i4 fp4 n4 P4 St4)
    (hz : IsZip s.heap z TI TO .none) (hTI : IsTupOf4 s.heap TI (.ref i1) (.ref i2) (.ref i3) (.ref i4)) (hTO : IsTupOf4 s.heap TO a1 a2 a3 a4) (st1 : St1 i s.heap) (st2 : St2 i s.heap) (st3 : St3 i s.heap) (st4 : St4 i s.heap) (hlt1 : i < n1) (hlt2 : i < n2) (hlt3 : i < n3) (hlt4 : i < n4)
    (hQ : ∀ x1 x2 x3 x4 h' tk, P1 i x1 → P2 i x2 → P3 i x3 → P4 i x4 → IsZip h' z TI TO (rawInt s.heap.objs.size) → IsTupOf4 h' TO x1 x2 x3 x4 → St1 (i + 1) h' → St2 (i + 1) h' → St3 (i + 1) h' → St4 (i + 1) h' → IsTupOf4 h' s.heap.objs.size x1 x2 x3 x4 → h'.objs.size = s.heap.objs.size + 1 →
      (∀ c o, c ≠ z → c ≠ TO → c ≠ i1 → c ≠ i2 → c ≠ i3 → c ≠ i4 → s.heap.get? c = some o → h'.get? c = some o) → Q (.ref s.heap.objs.size) { s with heap := h', toks := tk }) :
    wpAny (model prog w) A (Builtin.«zip.__next__» ⟨[.ref z], []⟩) (fun fin s' => ∃ v, fin = .done (.ret v) ∧ Q v s') E s := by
  obtain ⟨hp, g, d, tk0, os⟩ := s
  show wpAny _ _ (field (.ref z) 2 >>= _) _ _ _
  refine wpAny_bind (wpAny_field hz rfl (x := .bool false) rfl ?_)
  show wpAny _ _ (field (.ref z) 3 >>= _) _ _ _
  refine wpAny_bind (wpAny_field hz rfl (x := .ref TI) rfl ?_)
  refine wpAny_bind (wpAny_seqItems hTI rfl ?_)
  show wpAny _ _ (Builtin.SmallTypes.ownedTupleIsFree (.ref z) >>= _) _ _ _
  refine wpAny_bind ?_
  unfold Builtin.SmallTypes.ownedTupleIsFree
  refine wpAny_bind (wpAny_field hz rfl (x := .none) rfl (wpAny_pure ?_))
  simp only [if_true]
  refine wpAny_bind (wpAny_rule ?_)
  refine wpAny_bind (wpAny_field hz rfl (x := .ref TO) rfl ?_)
  refine wpAny_bind (wpAny_setField_rec hz (by simp) fun g0 hz0 hs0 => ?_)
  replace hz0 : IsZip g0 z TI TO .ellipsis := hz0
  replace hs0 : Heap.SameBut z hp g0 := hs0
  refine wpAny_bind ?_
  simp only [List.zipIdx_cons, List.zipIdx_nil, List.forIn_cons, List.forIn_nil]
  refine wpAny_bind (wpAny_bind (wpAny_onRaise ?_))
  show wpAny _ _ (Builtin.SmallTypes.nextOf (.ref i1) >>= _) _ _ ⟨g0, g, d, tk0, os⟩
  refine wpAny_bind (D1.item i _ _ _ hlt1 (D1.over st1 hs0 S.zf1) fun x1 p1 tk1 hx1 sn1 hp1 => wpAny_pure ?_)
  replace hp1 : Heap.SameBut i1 g0 p1 := hp1
  have hU1 : IsTupOf4 p1 TO a1 a2 a3 a4 := hp1.extBut _ _ S.Ti1 (hs0.extBut _ _ S.TOz hTO)
  refine wpAny_bind (wpAny_seqItems (s := ⟨p1, g, d, tk1, os⟩) hU1 rfl ?_)
  refine wpAny_bind (updateSeq_IsTupOf4 (s := ⟨p1, g, d, tk1, os⟩) hU1 fun g1 hT1 hs1 => ?_)
  replace hT1 : IsTupOf4 g1 TO x1 a2 a3 a4 := hT1
  replace hs1 : Heap.SameBut TO p1 g1 := hs1
  refine wpAny_bind (wpAny_letGo (wpAny_pure ?_))
  refine wpAny_bind (wpAny_bind (wpAny_onRaise ?_))
  show wpAny _ _ (Builtin.SmallTypes.nextOf (.ref i2) >>= _) _ _ ⟨g1, g, d, tk1, os⟩
  refine wpAny_bind (D2.item i _ _ _ hlt2 (D2.over (D2.over (D2.over st2 hs0 S.zf2) hp1 S.sep1_2) hs1 S.Tf2) fun x2 p2 tk2 hx2 sn2 hp2 => wpAny_pure ?_)
  replace hp2 : Heap.SameBut i2 g1 p2 := hp2
  have hU2 : IsTupOf4 p2 TO x1 a2 a3 a4 := hp2.extBut _ _ S.Ti2 hT1
  refine wpAny_bind (wpAny_seqItems (s := ⟨p2, g, d, tk2, os⟩) hU2 rfl ?_)
  refine wpAny_bind (updateSeq_IsTupOf4 (s := ⟨p2, g, d, tk2, os⟩) hU2 fun g2 hT2 hs2 => ?_)
  replace hT2 : IsTupOf4 g2 TO x1 x2 a3 a4 := hT2
  replace hs2 : Heap.SameBut TO p2 g2 := hs2
  refine wpAny_bind (wpAny_letGo (wpAny_pure ?_))
  refine wpAny_bind (wpAny_bind (wpAny_onRaise ?_))
  show wpAny _ _ (Builtin.SmallTypes.nextOf (.ref i3) >>= _) _ _ ⟨g2, g, d, tk2, os⟩
  refine wpAny_bind (D3.item i _ _ _ hlt3 (D3.over (D3.over (D3.over (D3.over (D3.over st3 hs0 S.zf3) hp1 S.sep1_3) hs1 S.Tf3) hp2 S.sep2_3) hs2 S.Tf3) fun x3 p3 tk3 hx3 sn3 hp3 => wpAny_pure ?_)
  replace hp3 : Heap.SameBut i3 g2 p3 := hp3
  have hU3 : IsTupOf4 p3 TO x1 x2 a3 a4 := hp3.extBut _ _ S.Ti3 hT2
  refine wpAny_bind (wpAny_seqItems (s := ⟨p3, g, d, tk3, os⟩) hU3 rfl ?_)
  refine wpAny_bind (updateSeq_IsTupOf4 (s := ⟨p3, g, d, tk3, os⟩) hU3 fun g3 hT3 hs3 => ?_)
  replace hT3 : IsTupOf4 g3 TO x1 x2 x3 a4 := hT3
  replace hs3 : Heap.SameBut TO p3 g3 := hs3
  refine wpAny_bind (wpAny_letGo (wpAny_pure ?_))
  refine wpAny_bind (wpAny_bind (wpAny_onRaise ?_))
  show wpAny _ _ (Builtin.SmallTypes.nextOf (.ref i4) >>= _) _ _ ⟨g3, g, d, tk3, os⟩
  refine wpAny_bind (D4.item i _ _ _ hlt4 (D4.over (D4.over (D4.over (D4.over (D4.over (D4.over (D4.over st4 hs0 S.zf4) hp1 S.sep1_4) hs1 S.Tf4) hp2 S.sep2_4) hs2 S.Tf4) hp3 S.sep3_4) hs3 S.Tf4) fun x4 p4 tk4 hx4 sn4 hp4 => wpAny_pure ?_)
  replace hp4 : Heap.SameBut i4 g3 p4 := hp4
  have hU4 : IsTupOf4 p4 TO x1 x2 x3 a4 := hp4.extBut _ _ S.Ti4 hT3
  refine wpAny_bind (wpAny_seqItems (s := ⟨p4, g, d, tk4, os⟩) hU4 rfl ?_)
  refine wpAny_bind (updateSeq_IsTupOf4 (s := ⟨p4, g, d, tk4, os⟩) hU4 fun g4 hT4 hs4 => ?_)
  replace hT4 : IsTupOf4 g4 TO x1 x2 x3 x4 := hT4
  replace hs4 : Heap.SameBut TO p4 g4 := hs4
  refine wpAny_bind (wpAny_letGo (wpAny_pure (wpAny_pure ?_)))
  refine wpAny_bind (wpAny_seqItems (s := ⟨g4, g, d, tk4, os⟩) hT4 rfl ?_)
  refine wpAny_bind (wpAny_newTuple ?_)
  have hsz : g4.objs.size = hp.objs.size := by rw [hs4.1, hp4.1, hs3.1, hp3.1, hs2.1, hp2.1, hs1.1, hp1.1, hs0.1]
  have hzz : IsZip g4 z TI TO .ellipsis := (hs4.extBut _ _ S.TOz.symm (hp4.extBut _ _ S.zi4 (hs3.extBut _ _ S.TOz.symm (hp3.extBut _ _ S.zi3 (hs2.extBut _ _ S.TOz.symm (hp2.extBut _ _ S.zi2 (hs1.extBut _ _ S.TOz.symm (hp1.extBut _ _ S.zi1 hz0))))))))
  have hkk : ∀ c o, c ≠ z → c ≠ TO → c ≠ i1 → c ≠ i2 → c ≠ i3 → c ≠ i4 → hp.get? c = some o → g4.get? c = some o := fun c o cz cT c1 c2 c3 c4 e => (hs4.extBut _ _ cT (hp4.extBut _ _ c4 (hs3.extBut _ _ cT (hp3.extBut _ _ c3 (hs2.extBut _ _ cT (hp2.extBut _ _ c2 (hs1.extBut _ _ cT (hp1.extBut _ _ c1 (hs0.extBut _ _ cz e)))))))))
  have hj1 : St1 (i + 1) g4 := D1.over (D1.over (D1.over (D1.over (D1.over (D1.over (D1.over sn1 hs1 S.Tf1) hp2 S.sep2_1) hs2 S.Tf1) hp3 S.sep3_1) hs3 S.Tf1) hp4 S.sep4_1) hs4 S.Tf1
  have hj2 : St2 (i + 1) g4 := D2.over (D2.over (D2.over (D2.over (D2.over sn2 hs2 S.Tf2) hp3 S.sep3_2) hs3 S.Tf2) hp4 S.sep4_2) hs4 S.Tf2
  have hj3 : St3 (i + 1) g4 := D3.over (D3.over (D3.over sn3 hs3 S.Tf3) hp4 S.sep4_3) hs4 S.Tf3
  have hj4 : St4 (i + 1) g4 := D4.over sn4 hs4 S.Tf4
  have hzlt : z < g4.objs.size := Heap.lt_size hzz
  show wpAny _ _ (Builtin.SmallTypes.ownedTupleHandOut (.ref z) (.ref g4.objs.size) >>= _) _ _ ⟨g4.push { cls := .type "tuple", data := .seq #[x1, x2, x3, x4] }, g, d, tk4, os⟩
  refine wpAny_bind ?_
  unfold Builtin.SmallTypes.ownedTupleHandOut
  have hz₆ : IsZip (g4.push { cls := .type "tuple", data := .seq #[x1, x2, x3, x4] }) z TI TO .ellipsis := Heap.get?_push_of_some _ hzz
  refine wpAny_bind (wpAny_setField_rec hz₆ (by simp) fun h₇ hz₇ hs₇ => ?_)
  replace hz₇ : IsZip h₇ z TI TO (rawInt g4.objs.size) := hz₇
  refine wpAny_setField_rec hz₇ (by simp) fun h₈ hz₈ hs₈ => ?_
  replace hz₈ : IsZip h₈ z TI TO (rawInt g4.objs.size) := hz₈
  replace hs₇ : Heap.SameBut z (g4.push { cls := .type "tuple", data := .seq #[x1, x2, x3, x4] }) h₇ := hs₇
  replace hs₈ : Heap.SameBut z h₇ h₈ := hs₈
  have up : ∀ c o, c ≠ z → g4.get? c = some o → h₈.get? c = some o := fun c o c1 e => hs₈.extBut _ _ c1 (hs₇.extBut _ _ c1 (Heap.get?_push_of_some _ e))
  have hT₈ : IsTupOf4 h₈ g4.objs.size x1 x2 x3 x4 := hs₈.extBut _ _ (Nat.ne_of_gt hzlt) (hs₇.extBut _ _ (Nat.ne_of_gt hzlt) (Heap.get?_push_size _ rfl))
  have hz8 : h₈.objs.size = g4.objs.size + 1 := by rw [hs₈.1, hs₇.1, Heap.size_push]
  rw [hsz] at hz₈ hT₈ hz8
  refine wpAny_pure ⟨_, rfl, ?_⟩
  show Q (.ref g4.objs.size) ⟨h₈, g, d, tk4, os⟩
  rw [hsz]
  exact hQ x1 x2 x3 x4 h₈ tk4 hx1 hx2 hx3 hx4 hz₈ (up _ _ S.TOz hT4) (D1.frame _ _ _ hj1 fun b hb o e => up b o (fun q => S.zf1 (q ▸ hb)) e) (D2.frame _ _ _ hj2 fun b hb o e => up b o (fun q => S.zf2 (q ▸ hb)) e) (D3.frame _ _ _ hj3 fun b hb o e => up b o (fun q => S.zf3 (q ▸ hb)) e) (D4.frame _ _ _ hj4 fun b hb o e => up b o (fun q => S.zf4 (q ▸ hb)) e) hT₈ hz8 fun c o cz cT c1 c2 c3 c4 e => up c o cz (hkk c o cz cT c1 c2 c3 c4 e)
theorem zipD4_next_end {Q : PySem.Fin → Shared → Prop} (S : ZipSep4 z TI TO i1 i2 i3 i4 fp1 fp2 fp3 fp4) (D1 : Draws prog w A i1 fp1 n1 P1 St1) (D2 : Draws prog w A i2 fp2 n2 P2 St2) (D3 : Draws prog w A i3 fp3 n3 P3 St3) (D4 : Draws prog w A i4 fp4 n4 P4 St4)
    (hz : IsZip s.heap z TI TO .none) (hTI : IsTupOf4 s.heap TI (.ref i1) (.ref i2) (.ref i3) (.ref i4)) (hTO : IsTupOf4 s.heap TO a1 a2 a3 a4) (st1 : St1 i s.heap) (st2 : St2 i s.heap) (st3 : St3 i s.heap) (st4 : St4 i s.heap) (hle1 : i ≤ n1) (hle2 : i ≤ n2) (hle3 : i ≤ n3) (hle4 : i ≤ n4) (hend : i = n1 ∨ i = n2 ∨ i = n3 ∨ i = n4)
    (hE : ∀ h' tk e, (∀ c o, c ≠ z → c ≠ TO → c ≠ i1 → c ≠ i2 → c ≠ i3 → c ≠ i4 → s.heap.get? c = some o → h'.get? c = some o) → (∃ o, h'.get? e = some o ∧ o.cls = .type "StopIteration") → E (.ref e) { s with heap := h', toks := tk }) :
    wpAny (model prog w) A (Builtin.«zip.__next__» ⟨[.ref z], []⟩) Q E s := by
  obtain ⟨hp, g, d, tk0, os⟩ := s
  show wpAny _ _ (field (.ref z) 2 >>= _) _ _ _
  refine wpAny_bind (wpAny_field hz rfl (x := .bool false) rfl ?_)
  show wpAny _ _ (field (.ref z) 3 >>= _) _ _ _
  refine wpAny_bind (wpAny_field hz rfl (x := .ref TI) rfl ?_)
  refine wpAny_bind (wpAny_seqItems hTI rfl ?_)
  show wpAny _ _ (Builtin.SmallTypes.ownedTupleIsFree (.ref z) >>= _) _ _ _
  refine wpAny_bind ?_
  unfold Builtin.SmallTypes.ownedTupleIsFree
  refine wpAny_bind (wpAny_field hz rfl (x := .none) rfl (wpAny_pure ?_))
  simp only [if_true]
  refine wpAny_bind (wpAny_rule ?_)
  refine wpAny_bind (wpAny_field hz rfl (x := .ref TO) rfl ?_)
  refine wpAny_bind (wpAny_setField_rec hz (by simp) fun g0 hz0 hs0 => ?_)
  replace hz0 : IsZip g0 z TI TO .ellipsis := hz0
  replace hs0 : Heap.SameBut z hp g0 := hs0
  refine wpAny_bind ?_
  simp only [List.zipIdx_cons, List.zipIdx_nil, List.forIn_cons, List.forIn_nil]
  refine wpAny_bind (wpAny_bind (wpAny_onRaise ?_))
  show wpAny _ _ (Builtin.SmallTypes.nextOf (.ref i1) >>= _) _ _ ⟨g0, g, d, tk0, os⟩
  by_cases hlt1 : i < n1
  · refine wpAny_bind (D1.item i _ _ _ hlt1 (D1.over st1 hs0 S.zf1) fun x1 p1 tk1 hx1 sn1 hp1 => wpAny_pure ?_)
    replace hp1 : Heap.SameBut i1 g0 p1 := hp1
    have hU1 : IsTupOf4 p1 TO a1 a2 a3 a4 := hp1.extBut _ _ S.Ti1 (hs0.extBut _ _ S.TOz hTO)
    refine wpAny_bind (wpAny_seqItems (s := ⟨p1, g, d, tk1, os⟩) hU1 rfl ?_)
    refine wpAny_bind (updateSeq_IsTupOf4 (s := ⟨p1, g, d, tk1, os⟩) hU1 fun g1 hT1 hs1 => ?_)
    replace hT1 : IsTupOf4 g1 TO x1 a2 a3 a4 := hT1
    replace hs1 : Heap.SameBut TO p1 g1 := hs1
    refine wpAny_bind (wpAny_letGo (wpAny_pure ?_))
    refine wpAny_bind (wpAny_bind (wpAny_onRaise ?_))
    show wpAny _ _ (Builtin.SmallTypes.nextOf (.ref i2) >>= _) _ _ ⟨g1, g, d, tk1, os⟩
    by_cases hlt2 : i < n2
    · refine wpAny_bind (D2.item i _ _ _ hlt2 (D2.over (D2.over (D2.over st2 hs0 S.zf2) hp1 S.sep1_2) hs1 S.Tf2) fun x2 p2 tk2 hx2 sn2 hp2 => wpAny_pure ?_)
      replace hp2 : Heap.SameBut i2 g1 p2 := hp2
      have hU2 : IsTupOf4 p2 TO x1 a2 a3 a4 := hp2.extBut _ _ S.Ti2 hT1
      refine wpAny_bind (wpAny_seqItems (s := ⟨p2, g, d, tk2, os⟩) hU2 rfl ?_)
      refine wpAny_bind (updateSeq_IsTupOf4 (s := ⟨p2, g, d, tk2, os⟩) hU2 fun g2 hT2 hs2 => ?_)
      replace hT2 : IsTupOf4 g2 TO x1 x2 a3 a4 := hT2
      replace hs2 : Heap.SameBut TO p2 g2 := hs2
      refine wpAny_bind (wpAny_letGo (wpAny_pure ?_))
      refine wpAny_bind (wpAny_bind (wpAny_onRaise ?_))
      show wpAny _ _ (Builtin.SmallTypes.nextOf (.ref i3) >>= _) _ _ ⟨g2, g, d, tk2, os⟩
      by_cases hlt3 : i < n3
      · refine wpAny_bind (D3.item i _ _ _ hlt3 (D3.over (D3.over (D3.over (D3.over (D3.over st3 hs0 S.zf3) hp1 S.sep1_3) hs1 S.Tf3) hp2 S.sep2_3) hs2 S.Tf3) fun x3 p3 tk3 hx3 sn3 hp3 => wpAny_pure ?_)
        replace hp3 : Heap.SameBut i3 g2 p3 := hp3
        have hU3 : IsTupOf4 p3 TO x1 x2 a3 a4 := hp3.extBut _ _ S.Ti3 hT2
        refine wpAny_bind (wpAny_seqItems (s := ⟨p3, g, d, tk3, os⟩) hU3 rfl ?_)
        refine wpAny_bind (updateSeq_IsTupOf4 (s := ⟨p3, g, d, tk3, os⟩) hU3 fun g3 hT3 hs3 => ?_)
        replace hT3 : IsTupOf4 g3 TO x1 x2 x3 a4 := hT3
        replace hs3 : Heap.SameBut TO p3 g3 := hs3
        refine wpAny_bind (wpAny_letGo (wpAny_pure ?_))
        refine wpAny_bind (wpAny_bind (wpAny_onRaise ?_))
        show wpAny _ _ (Builtin.SmallTypes.nextOf (.ref i4) >>= _) _ _ ⟨g3, g, d, tk3, os⟩
        have hi4 : i = n4 := by omega
        refine wpAny_bind (D4.done ⟨g3, g, d, tk3, os⟩ _ _ (by rw [← hi4]; exact (D4.over (D4.over (D4.over (D4.over (D4.over (D4.over (D4.over st4 hs0 S.zf4) hp1 S.sep1_4) hs1 S.Tf4) hp2 S.sep2_4) hs2 S.Tf4) hp3 S.sep3_4) hs3 S.Tf4)) fun q e hq he => ?_)
        replace hq : Heap.ExtBut i4 g3 q := hq
        obtain ⟨oe, hoe, hce⟩ := he
        replace hoe : q.get? e = some oe := hoe
        have hzq : IsZip q z TI TO .ellipsis := hq _ _ S.zi4 (hs3.extBut _ _ S.TOz.symm (hp3.extBut _ _ S.zi3 (hs2.extBut _ _ S.TOz.symm (hp2.extBut _ _ S.zi2 (hs1.extBut _ _ S.TOz.symm (hp1.extBut _ _ S.zi1 hz0))))))
        have hez : e ≠ z := fun x => by subst x; rw [hzq] at hoe; cases hoe; simp at hce
        refine wpAny_setField_rec (s := ⟨q, g, d, tk3, os⟩) hzq (by simp) fun q' _ hq' => ?_
        replace hq' : Heap.SameBut z q q' := hq'
        exact hE q' tk3 e (fun c o cz cT c1 c2 c3 c4 x => hq'.extBut _ _ cz (hq _ _ c4 (hs3.extBut _ _ cT (hp3.extBut _ _ c3 (hs2.extBut _ _ cT (hp2.extBut _ _ c2 (hs1.extBut _ _ cT (hp1.extBut _ _ c1 (hs0.extBut _ _ cz x))))))))) ⟨oe, hq'.extBut _ _ hez hoe, hce⟩
      · have hi3 : i = n3 := by omega
        refine wpAny_bind (D3.done ⟨g2, g, d, tk2, os⟩ _ _ (by rw [← hi3]; exact (D3.over (D3.over (D3.over (D3.over (D3.over st3 hs0 S.zf3) hp1 S.sep1_3) hs1 S.Tf3) hp2 S.sep2_3) hs2 S.Tf3)) fun q e hq he => ?_)
        replace hq : Heap.ExtBut i3 g2 q := hq
        obtain ⟨oe, hoe, hce⟩ := he
        replace hoe : q.get? e = some oe := hoe
        have hzq : IsZip q z TI TO .ellipsis := hq _ _ S.zi3 (hs2.extBut _ _ S.TOz.symm (hp2.extBut _ _ S.zi2 (hs1.extBut _ _ S.TOz.symm (hp1.extBut _ _ S.zi1 hz0))))
        have hez : e ≠ z := fun x => by subst x; rw [hzq] at hoe; cases hoe; simp at hce
        refine wpAny_setField_rec (s := ⟨q, g, d, tk2, os⟩) hzq (by simp) fun q' _ hq' => ?_
        replace hq' : Heap.SameBut z q q' := hq'
        exact hE q' tk2 e (fun c o cz cT c1 c2 c3 c4 x => hq'.extBut _ _ cz (hq _ _ c3 (hs2.extBut _ _ cT (hp2.extBut _ _ c2 (hs1.extBut _ _ cT (hp1.extBut _ _ c1 (hs0.extBut _ _ cz x))))))) ⟨oe, hq'.extBut _ _ hez hoe, hce⟩
    · have hi2 : i = n2 := by omega
      refine wpAny_bind (D2.done ⟨g1, g, d, tk1, os⟩ _ _ (by rw [← hi2]; exact (D2.over (D2.over (D2.over st2 hs0 S.zf2) hp1 S.sep1_2) hs1 S.Tf2)) fun q e hq he => ?_)
      replace hq : Heap.ExtBut i2 g1 q := hq
      obtain ⟨oe, hoe, hce⟩ := he
      replace hoe : q.get? e = some oe := hoe
      have hzq : IsZip q z TI TO .ellipsis := hq _ _ S.zi2 (hs1.extBut _ _ S.TOz.symm (hp1.extBut _ _ S.zi1 hz0))
      have hez : e ≠ z := fun x => by subst x; rw [hzq] at hoe; cases hoe; simp at hce
      refine wpAny_setField_rec (s := ⟨q, g, d, tk1, os⟩) hzq (by simp) fun q' _ hq' => ?_
      replace hq' : Heap.SameBut z q q' := hq'
      exact hE q' tk1 e (fun c o cz cT c1 c2 c3 c4 x => hq'.extBut _ _ cz (hq _ _ c2 (hs1.extBut _ _ cT (hp1.extBut _ _ c1 (hs0.extBut _ _ cz x))))) ⟨oe, hq'.extBut _ _ hez hoe, hce⟩
  · have hi1 : i = n1 := by omega
    refine wpAny_bind (D1.done ⟨g0, g, d, tk0, os⟩ _ _ (by rw [← hi1]; exact (D1.over st1 hs0 S.zf1)) fun q e hq he => ?_)
    replace hq : Heap.ExtBut i1 g0 q := hq
    obtain ⟨oe, hoe, hce⟩ := he
    replace hoe : q.get? e = some oe := hoe
    have hzq : IsZip q z TI TO .ellipsis := hq _ _ S.zi1 hz0
    have hez : e ≠ z := fun x => by subst x; rw [hzq] at hoe; cases hoe; simp at hce
    refine wpAny_setField_rec (s := ⟨q, g, d, tk0, os⟩) hzq (by simp) fun q' _ hq' => ?_
    replace hq' : Heap.SameBut z q q' := hq'
    exact hE q' tk0 e (fun c o cz cT c1 c2 c3 c4 x => hq'.extBut _ _ cz (hq _ _ c1 (hs0.extBut _ _ cz x))) ⟨oe, hq'.extBut _ _ hez hoe, hce⟩
theorem wpAny_pyNext_zipD4_item {Q : Option Value → Shared → Prop} (S : ZipSep4 z TI TO i1 i2 i3 i4 fp1 fp2 fp3 fp4) (D1 : Draws prog w A.in1 i1 fp1 n1 P1 St1) (D2 : Draws prog w A.in1 i2 fp2 n2 P2 St2) (D3 : Draws prog w A.in1 i3 fp3 n3 P3 St3) (D4 : Draws prog w A.in1 i4 fp4 n4 P4 St4)
    (hz : IsZip s.heap z TI TO .none) (hTI : IsTupOf4 s.heap TI (.ref i1) (.ref i2) (.ref i3) (.ref i4)) (hTO : IsTupOf4 s.heap TO a1 a2 a3 a4) (st1 : St1 i s.heap) (st2 : St2 i s.heap) (st3 : St3 i s.heap) (st4 : St4 i s.heap) (hlt1 : i < n1) (hlt2 : i < n2) (hlt3 : i < n3) (hlt4 : i < n4)
    (hQ : ∀ x1 x2 x3 x4 h' tk, P1 i x1 → P2 i x2 → P3 i x3 → P4 i x4 → IsZip h' z TI TO (rawInt s.heap.objs.size) → IsTupOf4 h' TO x1 x2 x3 x4 → St1 (i + 1) h' → St2 (i + 1) h' → St3 (i + 1) h' → St4 (i + 1) h' → IsTupOf4 h' s.heap.objs.size x1 x2 x3 x4 → h'.objs.size = s.heap.objs.size + 1 →
      (∀ c o, c ≠ z → c ≠ TO → c ≠ i1 → c ≠ i2 → c ≠ i3 → c ≠ i4 → s.heap.get? c = some o → h'.get? c = some o) → Q (some (.ref s.heap.objs.size)) { s with heap := h', toks := tk }) :
    wpAny (model prog w) A (pyNext (.ref z)) Q E s := by
  have hT : s.TypeIs (.ref z) "zip" := ⟨_, hz, rfl⟩
  unfold pyNext
  exact wpAny_bind (wpAny_attempt (wpAny_callSpecial?_slot (name := Str.ofString "__next__") hT F.slot_zip_next
    (wpAny_call_entry F.slot_zip_next hT F.entry_zip_next
      (zipD4_next_item S D1 D2 D3 D4 hz hTI hTO st1 st2 st3 st4 hlt1 hlt2 hlt3 hlt4 fun x1 x2 x3 x4 h' tk y1 y2 y3 y4 b1 b2 e1 e2 e3 e4 b5 b6 b7 => wpAny_pure (hQ x1 x2 x3 x4 h' tk y1 y2 y3 y4 b1 b2 e1 e2 e3 e4 b5 b6 b7)) (F.args_zip_next_1 _))))
theorem wpAny_pyNext_zipD4_end {Q : Option Value → Shared → Prop} (S : ZipSep4 z TI TO i1 i2 i3 i4 fp1 fp2 fp3 fp4) (D1 : Draws prog w A.in1 i1 fp1 n1 P1 St1) (D2 : Draws prog w A.in1 i2 fp2 n2 P2 St2) (D3 : Draws prog w A.in1 i3 fp3 n3 P3 St3) (D4 : Draws prog w A.in1 i4 fp4 n4 P4 St4)
    (hz : IsZip s.heap z TI TO .none) (hTI : IsTupOf4 s.heap TI (.ref i1) (.ref i2) (.ref i3) (.ref i4)) (hTO : IsTupOf4 s.heap TO a1 a2 a3 a4) (st1 : St1 i s.heap) (st2 : St2 i s.heap) (st3 : St3 i s.heap) (st4 : St4 i s.heap) (hle1 : i ≤ n1) (hle2 : i ≤ n2) (hle3 : i ≤ n3) (hle4 : i ≤ n4) (hend : i = n1 ∨ i = n2 ∨ i = n3 ∨ i = n4)
    (hQ : ∀ h' tk, (∀ c o, c ≠ z → c ≠ TO → c ≠ i1 → c ≠ i2 → c ≠ i3 → c ≠ i4 → s.heap.get? c = some o → h'.get? c = some o) → Q none { s with heap := h', toks := tk }) : wpAny (model prog w) A (pyNext (.ref z)) Q E s := by
  have hT : s.TypeIs (.ref z) "zip" := ⟨_, hz, rfl⟩
  unfold pyNext
  refine wpAny_bind (wpAny_attempt (wpAny_callSpecial?_slot (name := Str.ofString "__next__") hT F.slot_zip_next
    (wpAny_call_entry F.slot_zip_next hT F.entry_zip_next (zipD4_next_end S D1 D2 D3 D4 hz hTI hTO st1 st2 st3 st4 hle1 hle2 hle3 hle4 hend fun h' tk e hk he => ?_) (F.args_zip_next_1 _))))
  obtain ⟨o, ho, hc⟩ := he
  refine wpAny_bind (wpAny_isInstance (T := "StopIteration") (b := true) ⟨o, ho, hc⟩ isSubtype_stop ?_)
  exact wpAny_pure (hQ _ _ hk)
theorem WalksT.zipD4 (S : ZipSep4 z TI TO i1 i2 i3 i4 fp1 fp2 fp3 fp4) (D1 : Draws prog w A.in1 i1 fp1 n1 P1 St1) (D2 : Draws prog w A.in1 i2 fp2 n2 P2 St2) (D3 : Draws prog w A.in1 i3 fp3 n3 P3 St3) (D4 : Draws prog w A.in1 i4 fp4 n4 P4 St4) :
    WalksT prog w A z (z :: TI :: TO :: (fp1 ++ fp2 ++ fp3 ++ fp4)) [z, TO, i1, i2, i3, i4] (min (min (min n1 n2) n3) n4)
      (fun i vals => ∃ x1 x2 x3 x4, P1 i x1 ∧ P2 i x2 ∧ P3 i x3 ∧ P4 i x4 ∧ vals = #[x1, x2, x3, x4])
      (fun i h => IsZip h z TI TO .none ∧ IsTupOf4 h TI (.ref i1) (.ref i2) (.ref i3) (.ref i4) ∧ (∃ a1 a2 a3 a4, IsTupOf4 h TO a1 a2 a3 a4) ∧ St1 i h ∧ St2 i h ∧ St3 i h ∧ St4 i h)
      (fun i T h => IsZip h z TI TO (rawInt T) ∧ IsTupOf4 h TI (.ref i1) (.ref i2) (.ref i3) (.ref i4) ∧ (∃ a1 a2 a3 a4, IsTupOf4 h TO a1 a2 a3 a4) ∧ St1 (i + 1) h ∧ St2 (i + 1) h ∧ St3 (i + 1) h ∧ St4 (i + 1) h ∧ T ≠ z ∧ T ≠ TO ∧ T ≠ i1 ∧ T ≠ i2 ∧ T ≠ i3 ∧ T ≠ i4) where
  sub := fun c hc => by
    have hc' : c = z ∨ c = TO ∨ c = i1 ∨ c = i2 ∨ c = i3 ∨ c = i4 := by simpa using hc
    rcases hc' with rfl | rfl | rfl | rfl | rfl | rfl
    · exact List.mem_cons_self ..
    · exact List.mem_cons_of_mem _ (List.mem_cons_of_mem _ (List.mem_cons_self ..))
    · exact (List.mem_cons_of_mem _ (List.mem_cons_of_mem _ (List.mem_cons_of_mem _ (List.mem_append_left _ (List.mem_append_left _ (List.mem_append_left _ S.mem1))))))
    · exact (List.mem_cons_of_mem _ (List.mem_cons_of_mem _ (List.mem_cons_of_mem _ (List.mem_append_left _ (List.mem_append_left _ (List.mem_append_right _ S.mem2))))))
    · exact (List.mem_cons_of_mem _ (List.mem_cons_of_mem _ (List.mem_cons_of_mem _ (List.mem_append_left _ (List.mem_append_right _ S.mem3)))))
    · exact (List.mem_cons_of_mem _ (List.mem_cons_of_mem _ (List.mem_cons_of_mem _ (List.mem_append_right _ S.mem4))))
  frame := fun i h h' hst hk => by
    obtain ⟨hz, hTI, ⟨a1, a2, a3, a4, hTO⟩, st1, st2, st3, st4⟩ := hst
    exact ⟨hk z (List.mem_cons_self ..) _ hz, hk TI (List.mem_cons_of_mem _ (List.mem_cons_self ..)) _ hTI, ⟨a1, a2, a3, a4, hk TO (List.mem_cons_of_mem _ (List.mem_cons_of_mem _ (List.mem_cons_self ..))) _ hTO⟩,
      D1.frame _ _ _ st1 fun b hb o e => hk b (List.mem_cons_of_mem _ (List.mem_cons_of_mem _ (List.mem_cons_of_mem _ (List.mem_append_left _ (List.mem_append_left _ (List.mem_append_left _ hb)))))) o e, D2.frame _ _ _ st2 fun b hb o e => hk b (List.mem_cons_of_mem _ (List.mem_cons_of_mem _ (List.mem_cons_of_mem _ (List.mem_append_left _ (List.mem_append_left _ (List.mem_append_right _ hb)))))) o e, D3.frame _ _ _ st3 fun b hb o e => hk b (List.mem_cons_of_mem _ (List.mem_cons_of_mem _ (List.mem_cons_of_mem _ (List.mem_append_left _ (List.mem_append_right _ hb))))) o e, D4.frame _ _ _ st4 fun b hb o e => hk b (List.mem_cons_of_mem _ (List.mem_cons_of_mem _ (List.mem_cons_of_mem _ (List.mem_append_right _ hb)))) o e⟩
  item := fun i s Q E hi hst hQ => by
    obtain ⟨hz, hTI, ⟨a1, a2, a3, a4, hTO⟩, st1, st2, st3, st4⟩ := hst
    have hi1 : i < n1 := by omega
    have hi2 : i < n2 := by omega
    have hi3 : i < n3 := by omega
    have hi4 : i < n4 := by omega
    refine wpAny_pyNext_zipD4_item S D1 D2 D3 D4 hz hTI hTO st1 st2 st3 st4 hi1 hi2 hi3 hi4 fun x1 x2 x3 x4 h' tk y1 y2 y3 y4 b1 b2 e1 e2 e3 e4 b5 b6 hk => ?_
    have lt : ∀ {c o}, s.heap.get? c = some o → s.heap.objs.size ≠ c := fun e => Nat.ne_of_gt (Heap.lt_size e)
    have l1 : s.heap.objs.size ≠ i1 := by obtain ⟨_, e⟩ := D1.live _ _ st1; exact lt e
    have l2 : s.heap.objs.size ≠ i2 := by obtain ⟨_, e⟩ := D2.live _ _ st2; exact lt e
    have l3 : s.heap.objs.size ≠ i3 := by obtain ⟨_, e⟩ := D3.live _ _ st3; exact lt e
    have l4 : s.heap.objs.size ≠ i4 := by obtain ⟨_, e⟩ := D4.live _ _ st4; exact lt e
    exact hQ s.heap.objs.size #[x1, x2, x3, x4] h' tk ⟨x1, x2, x3, x4, y1, y2, y3, y4, rfl⟩ (Nat.le_refl _) ⟨_, b5, rfl, _, rfl⟩
      ⟨b1, hk _ _ S.TIz S.TITO S.TIi1 S.TIi2 S.TIi3 S.TIi4 hTI, ⟨_, _, _, _, b2⟩, e1, e2, e3, e4, lt hz, lt hTO, l1, l2, l3, l4⟩
      fun c o hc e => hk c o (fun x => hc (by simp [x])) (fun x => hc (by simp [x])) (fun x => hc (by simp [x])) (fun x => hc (by simp [x])) (fun x => hc (by simp [x])) (fun x => hc (by simp [x])) e
  go := fun elts k pos i T s Q E hm hQ => by
    obtain ⟨hz, hTI, ⟨a1, a2, a3, a4, hTO⟩, st1, st2, st3, st4, _⟩ := hm
    refine wpAny_letOwnedTupleGo_zip hz fun h' hz' hs' => hQ h' ⟨hz', hs'.extBut _ _ S.TIz hTI, ⟨a1, a2, a3, a4, hs'.extBut _ _ S.TOz hTO⟩, D1.over st1 hs' S.zf1, D2.over st2 hs' S.zf2, D3.over st3 hs' S.zf3, D4.over st4 hs' S.zf4⟩ fun c o hc e => hs'.extBut _ _ (fun x => hc (by simp [x])) e
  apart := fun i T h hm hT => by
    obtain ⟨_, _, _, _, _, _, _, tz, tT, t1, t2, t3, t4⟩ := hm
    have hT' : T = z ∨ T = TO ∨ T = i1 ∨ T = i2 ∨ T = i3 ∨ T = i4 := by simpa using hT
    rcases hT' with e | e | e | e | e | e
    · exact tz e
    · exact tT e
    · exact t1 e
    · exact t2 e
    · exact t3 e
    · exact t4 e
  done := fun s Q E hst hQ => by
    obtain ⟨hz, hTI, ⟨a1, a2, a3, a4, hTO⟩, st1, st2, st3, st4⟩ := hst
    exact wpAny_pyNext_zipD4_end S D1 D2 D3 D4 hz hTI hTO st1 st2 st3 st4 (by omega) (by omega) (by omega) (by omega) (by omega) fun h' tk hk => hQ h' tk fun c o hc e =>
      hk c o (fun x => hc (by simp [x])) (fun x => hc (by simp [x])) (fun x => hc (by simp [x])) (fun x => hc (by simp [x])) (fun x => hc (by simp [x])) (fun x => hc (by simp [x])) e
  self := fun i s Q E hst hQ => wpAny_pyIter_zip hst.1 hQ
theorem GoesN.zip4 {elts : List Expr} {kx : Nat} {pos : Pos} (S : ZipSep4 z TI TO i1 i2 i3 i4 fp1 fp2 fp3 fp4) (D1 : Draws prog w A.in1 i1 fp1 n1 P1 St1) (D2 : Draws prog w A.in1 i2 fp2 n2 P2 St2) (D3 : Draws prog w A.in1 i3 fp3 n3 P3 St3) (D4 : Draws prog w A.in1 i4 fp4 n4 P4 St4) :
    GoesN prog w A (.Tuple elts kx pos) z (z :: TI :: TO :: (fp1 ++ fp2 ++ fp3 ++ fp4)) [z, TO, i1, i2, i3, i4] (min (min (min n1 n2) n3) n4) (fun i h₀ v h => ∃ T x1 x2 x3 x4, v = .ref T ∧ h₀.objs.size ≤ T ∧ P1 i x1 ∧ P2 i x2 ∧ P3 i x3 ∧ P4 i x4 ∧ h.IsTuple T #[x1, x2, x3, x4])
      (fun i h => IsZip h z TI TO .none ∧ IsTupOf4 h TI (.ref i1) (.ref i2) (.ref i3) (.ref i4) ∧ (∃ a1 a2 a3 a4, IsTupOf4 h TO a1 a2 a3 a4) ∧ St1 i h ∧ St2 i h ∧ St3 i h ∧ St4 i h) :=
  (GoesN.ofWalksT (WalksT.zipD4 S D1 D2 D3 D4)).mono fun i h₀ v h _ ⟨T, vals, ev, hn, ⟨x1, x2, x3, x4, y1, y2, y3, y4, evs⟩, hT⟩ => ⟨T, x1, x2, x3, x4, ev, hn, y1, y2, y3, y4, evs ▸ hT⟩
end
abbrev gzT4 (h : Heap) (o1 o2 o3 o4 : Obj) : Heap := ((((h.push o1).push o2).push o3).push o4).push { cls := .type "tuple", data := .seq #[.ref h.objs.size, .ref (h.push o1).objs.size, .ref ((h.push o1).push o2).objs.size, .ref (((h.push o1).push o2).push o3).objs.size] }
abbrev gzO4 (h : Heap) (o1 o2 o3 o4 : Obj) : Heap := (gzT4 h o1 o2 o3 o4).push { cls := .type "tuple", data := .seq #[.none, .none, .none, .none] }
abbrev gzZ4 (h : Heap) (o1 o2 o3 o4 : Obj) : Heap := (gzO4 h o1 o2 o3 o4).push { cls := .type "zip", data := .fields #[.none, .bool false, .bool false, .ref ((((h.push o1).push o2).push o3).push o4).objs.size, .ref (gzT4 h o1 o2 o3 o4).objs.size] }
theorem tc_zip4 (a b c e : Value) : checkTypeCall "zip" ⟨[a, b, c, e], []⟩ = pure () := by kernel_rfl
theorem nc_zip4 (a b c e : Value) : checkBuiltinCall "zip.__new__" ⟨[.type "zip", a, b, c, e], []⟩ = pure () := by kernel_rfl
theorem ao_init5 (obj a b c e : Value) : argsOk "object.__init__" ⟨[obj, a, b, c, e], []⟩ := by unfold argsOk; kernel_rfl
theorem meets_zip_newB4 {v1 v2 v3 v4 : Value} {o1 o2 o3 o4 : Obj} {H1 H2 H3 H4 : Heap → Prop} (B1 : Begins v1 o1 H1) (B2 : Begins v2 o2 H2) (B3 : Begins v3 o3 H3) (B4 : Begins v4 o4 H4) :
    Meets (Builtin.«zip.__new__» ⟨[.type "zip", v1, v2, v3, v4], []⟩) (fun _ R s => (H1 s.heap ∧ H2 s.heap ∧ H3 s.heap ∧ H4 s.heap) ∧
      R (.ok (.ret (.ref (gzO4 s.heap o1 o2 o3 o4).objs.size))) { s with heap := gzZ4 s.heap o1 o2 o3 o4 }) :=
  .of_wp fun prog w A R s h => by
    obtain ⟨hp, g, d, tk, os⟩ := s; obtain ⟨⟨h1, h2, h3, h4⟩, h⟩ := h
    have hsub := sub_zip
    have q1 : ∀ {A' : Around} {E : Value → Shared → Prop} {Q : Value → Shared → Prop}, Q (.ref hp.objs.size) ⟨(hp.push o1), g, d, tk, os⟩ → wpAny (model prog w) A' (pyIter v1) Q E ⟨hp, g, d, tk, os⟩ :=
      fun q => B1.iter prog w _ _ ⟨hp, g, d, tk, os⟩ _ (B1.keeps _ _ h1 fun b o' e => e) q
    have q2 : ∀ {A' : Around} {E : Value → Shared → Prop} {Q : Value → Shared → Prop}, Q (.ref (hp.push o1).objs.size) ⟨((hp.push o1).push o2), g, d, tk, os⟩ → wpAny (model prog w) A' (pyIter v2) Q E ⟨(hp.push o1), g, d, tk, os⟩ :=
      fun q => B2.iter prog w _ _ ⟨(hp.push o1), g, d, tk, os⟩ _ (B2.keeps _ _ h2 fun b o' e => (Heap.get?_push_of_some _ e)) q
    have q3 : ∀ {A' : Around} {E : Value → Shared → Prop} {Q : Value → Shared → Prop}, Q (.ref ((hp.push o1).push o2).objs.size) ⟨(((hp.push o1).push o2).push o3), g, d, tk, os⟩ → wpAny (model prog w) A' (pyIter v3) Q E ⟨((hp.push o1).push o2), g, d, tk, os⟩ :=
      fun q => B3.iter prog w _ _ ⟨((hp.push o1).push o2), g, d, tk, os⟩ _ (B3.keeps _ _ h3 fun b o' e => (Heap.get?_push_of_some _ (Heap.get?_push_of_some _ e))) q
    have q4 : ∀ {A' : Around} {E : Value → Shared → Prop} {Q : Value → Shared → Prop}, Q (.ref (((hp.push o1).push o2).push o3).objs.size) ⟨((((hp.push o1).push o2).push o3).push o4), g, d, tk, os⟩ → wpAny (model prog w) A' (pyIter v4) Q E ⟨(((hp.push o1).push o2).push o3), g, d, tk, os⟩ :=
      fun q => B4.iter prog w _ _ ⟨(((hp.push o1).push o2).push o3), g, d, tk, os⟩ _ (B4.keeps _ _ h4 fun b o' e => (Heap.get?_push_of_some _ (Heap.get?_push_of_some _ (Heap.get?_push_of_some _ e)))) q
    wp_walk using q1, q2, q3, q4
    exact ⟨_, rfl, h⟩
section
variable {prog : Program} {w : World} {A : Around} {E : Value → Shared → Prop} {s : Shared}
theorem zip_begins4 {v1 v2 v3 v4 : Value} {o1 o2 o3 o4 : Obj} {H1 H2 H3 H4 : Heap → Prop} {Q : Value → Shared → Prop} (B1 : Begins v1 o1 H1) (B2 : Begins v2 o2 H2) (B3 : Begins v3 o3 H3) (B4 : Begins v4 o4 H4) (h1 : H1 s.heap) (h2 : H2 s.heap) (h3 : H3 s.heap) (h4 : H4 s.heap)
    (h : ∀ h', IsZip h' (s.heap.objs.size + 6) (s.heap.objs.size + 4) (s.heap.objs.size + 5) .none → IsTupOf4 h' (s.heap.objs.size + 4) (.ref s.heap.objs.size) (.ref (s.heap.objs.size + 1)) (.ref (s.heap.objs.size + 2)) (.ref (s.heap.objs.size + 3)) →
      IsTupOf4 h' (s.heap.objs.size + 5) .none .none .none .none → h'.get? s.heap.objs.size = some o1 → h'.get? (s.heap.objs.size + 1) = some o2 → h'.get? (s.heap.objs.size + 2) = some o3 → h'.get? (s.heap.objs.size + 3) = some o4 → h'.objs.size = s.heap.objs.size + 7 →
      (∀ c o, s.heap.get? c = some o → h'.get? c = some o) → Q (.ref (s.heap.objs.size + 6)) { s with heap := h' }) :
    wpAny (model prog w) A (call (.type "zip") [v1, v2, v3, v4]) Q E s := by
  refine callType_new F.called_zip (by decide) (tc_zip4 _ _ _ _) (nc_zip4 _ _ _ _) (fun obj => ao_init5 obj _ _ _ _) F.entry_zip_new
    (meets_zip_newB4 B1 B2 B3 B4) ⟨⟨h1, h2, h3, h4⟩, ?_⟩
  have z1 : (s.heap.push o1).objs.size = s.heap.objs.size + 1 := by rw [Heap.size_push]
  have z2 : ((s.heap.push o1).push o2).objs.size = s.heap.objs.size + 2 := by rw [Heap.size_push, z1]
  have z3 : (((s.heap.push o1).push o2).push o3).objs.size = s.heap.objs.size + 3 := by rw [Heap.size_push, z2]
  have z4 : ((((s.heap.push o1).push o2).push o3).push o4).objs.size = s.heap.objs.size + 4 := by rw [Heap.size_push, z3]
  have zT : (gzT4 s.heap o1 o2 o3 o4).objs.size = s.heap.objs.size + 5 := by rw [Heap.size_push, z4]
  have zO : (gzO4 s.heap o1 o2 o3 o4).objs.size = s.heap.objs.size + 6 := by rw [Heap.size_push, zT]
  have zZ : (gzZ4 s.heap o1 o2 o3 o4).objs.size = s.heap.objs.size + 7 := by rw [Heap.size_push, zO]
  have gZ : (gzZ4 s.heap o1 o2 o3 o4).get? (gzO4 s.heap o1 o2 o3 o4).objs.size = some { cls := .type "zip", data := .fields #[.none, .bool false, .bool false, .ref ((((s.heap.push o1).push o2).push o3).push o4).objs.size, .ref (gzT4 s.heap o1 o2 o3 o4).objs.size] } := Heap.get?_push_size _ rfl
  have gO : (gzZ4 s.heap o1 o2 o3 o4).get? (gzT4 s.heap o1 o2 o3 o4).objs.size = some { cls := .type "tuple", data := .seq #[.none, .none, .none, .none] } := Heap.get?_push_of_some _ (Heap.get?_push_size _ rfl)
  have gT : (gzZ4 s.heap o1 o2 o3 o4).get? ((((s.heap.push o1).push o2).push o3).push o4).objs.size = some { cls := .type "tuple", data := .seq #[.ref s.heap.objs.size, .ref (s.heap.push o1).objs.size, .ref ((s.heap.push o1).push o2).objs.size, .ref (((s.heap.push o1).push o2).push o3).objs.size] } := Heap.get?_push_of_some _ (Heap.get?_push_of_some _ (Heap.get?_push_size _ rfl))
  have g1 : (gzZ4 s.heap o1 o2 o3 o4).get? s.heap.objs.size = some o1 := (Heap.get?_push_of_some _ (Heap.get?_push_of_some _ (Heap.get?_push_of_some _ (Heap.get?_push_of_some _ (Heap.get?_push_of_some _ (Heap.get?_push_of_some _ (Heap.get?_push_size _ B1.free)))))))
  have g2 : (gzZ4 s.heap o1 o2 o3 o4).get? (s.heap.push o1).objs.size = some o2 := (Heap.get?_push_of_some _ (Heap.get?_push_of_some _ (Heap.get?_push_of_some _ (Heap.get?_push_of_some _ (Heap.get?_push_of_some _ (Heap.get?_push_size _ B2.free))))))
  have g3 : (gzZ4 s.heap o1 o2 o3 o4).get? ((s.heap.push o1).push o2).objs.size = some o3 := (Heap.get?_push_of_some _ (Heap.get?_push_of_some _ (Heap.get?_push_of_some _ (Heap.get?_push_of_some _ (Heap.get?_push_size _ B3.free)))))
  have g4 : (gzZ4 s.heap o1 o2 o3 o4).get? (((s.heap.push o1).push o2).push o3).objs.size = some o4 := (Heap.get?_push_of_some _ (Heap.get?_push_of_some _ (Heap.get?_push_of_some _ (Heap.get?_push_size _ B4.free))))
  rw [zO, zT, z4] at gZ
  rw [zT] at gO
  rw [z4, z3, z2, z1] at gT
  rw [z1] at g2
  rw [z2] at g3
  rw [z3] at g4
  show _ ∧ _
  rw [zO]
  exact ⟨⟨_, gZ, rfl⟩, h _ gZ gT gO g1 g2 g3 g4 zZ fun c o e => (Heap.get?_push_of_some _ (Heap.get?_push_of_some _ (Heap.get?_push_of_some _ (Heap.get?_push_of_some _ (Heap.get?_push_of_some _ (Heap.get?_push_of_some _ (Heap.get?_push_of_some _ e)))))))⟩
end
end Z


set_option Elab.async false
set_option linter.all false
set_option maxRecDepth 100000
/-! zip of four -/
namespace Z
open PySem PySem.Spec PyProof.Rows L2
def ItzB4 (b1 b2 b3 b4 : Bool) (K : PySem.W.Frag) (a1 a2 a3 a4 : Addr) : It :=
  ⟨fun i H => ∃ (xs ys zs us : List V) (x y z u : V), SqB b1 K H a1 xs ∧ SqB b2 K H a2 ys ∧ SqB b3 K H a3 zs ∧ SqB b4 K H a4 us ∧ xs[i]? = some x ∧ ys[i]? = some y ∧ zs[i]? = some z ∧ us[i]? = some u,
   fun i H v H' => ∃ T x y z u, v = .ref T ∧ H T = none ∧ H' = upd H T (.tup [x, y, z, u]) ∧ (∀ xs, SqB b1 K H a1 xs → xs[i]? = some x) ∧ (∀ ys, SqB b2 K H a2 ys → ys[i]? = some y) ∧ (∀ zs, SqB b3 K H a3 zs → zs[i]? = some z) ∧ ∀ us, SqB b4 K H a4 us → us[i]? = some u,
   fun i H => ∃ xs ys zs us : List V, SqB b1 K H a1 xs ∧ SqB b2 K H a2 ys ∧ SqB b3 K H a3 zs ∧ SqB b4 K H a4 us ∧ (xs.length ≤ i ∨ ys.length ≤ i ∨ zs.length ≤ i ∨ us.length ≤ i)⟩
structure Zs4 (z TI TO i1 i2 i3 i4 a1 a2 a3 a4 : Addr) : Prop where
  s : ZipSep4 z TI TO i1 i2 i3 i4 [i1, a1] [i2, a2] [i3, a3] [i4, a4]
  n1 : a1 ≠ i1
  n2 : a2 ≠ i2
  n3 : a3 ≠ i3
  n4 : a4 ≠ i4
theorem zs4_new {n a1 a2 a3 a4 : Nat} (h1 : a1 < n) (h2 : a2 < n) (h3 : a3 < n) (h4 : a4 < n) : Zs4 (n + 6) (n + 4) (n + 5) n (n + 1) (n + 2) (n + 3) a1 a2 a3 a4 where
  s := by
    constructor
    all_goals try simp only [List.mem_cons, List.not_mem_nil, or_false, ne_eq, true_or]
    all_goals first
      | (intro h; have h : @Eq Nat _ _ := h; omega)
      | (rintro (h | h) <;> (have h : @Eq Nat _ _ := h; omega))
  n1 := fun h => by have h : @Eq Nat _ _ := h; omega
  n2 := fun h => by have h : @Eq Nat _ _ := h; omega
  n3 := fun h => by have h : @Eq Nat _ _ := h; omega
  n4 := fun h => by have h : @Eq Nat _ _ := h; omega
set_option maxHeartbeats 2000000 in
theorem turn_zipB4 {P : Program} {w : World} {K : PySem.W.Frag} {elts : List Expr} {kk : Nat} {tpos : Pos} (b1 b2 b3 b4 : Bool) {z TI TO i1 i2 i3 i4 a1 a2 a3 a4 : Addr} (D : Zs4 z TI TO i1 i2 i3 i4 a1 a2 a3 a4) :
    Turn P w K (.Tuple elts kk tpos) (ItzB4 b1 b2 b3 b4 K a1 a2 a3 a4) [z, TI, TO, i1, i2, i3, i4] z (fun i h => IsZip h z TI TO .none ∧ IsTupOf4 h TI (.ref i1) (.ref i2) (.ref i3) (.ref i4) ∧ (∃ x y u u4, IsTupOf4 h TO x y u u4) ∧ IsBI b1 h i1 a1 i ∧ IsBI b2 h i2 a2 i ∧ IsBI b3 h i3 a3 i ∧ IsBI b4 h i4 a4 i) where
  mem := by simp
  obj := fun i h st c hc => by
    obtain ⟨hz, hTI, ⟨x, y, u, u4, hTO⟩, h1, h2, h3, h4⟩ := st
    have e' : c = z ∨ c = TI ∨ c = TO ∨ c = i1 ∨ c = i2 ∨ c = i3 ∨ c = i4 := by simpa using hc
    rcases e' with q | q | q | q | q | q | q
    · rw [q]; exact ⟨_, hz, fun v q => nomatch q⟩
    · rw [q]; exact ⟨_, hTI, fun v q => nomatch q⟩
    · rw [q]; exact ⟨_, hTO, fun v q => nomatch q⟩
    · rw [q]; exact isBI_obj h1
    · rw [q]; exact isBI_obj h2
    · rw [q]; exact isBI_obj h3
    · rw [q]; exact isBI_obj h4
  keep := fun i h h' st k => by
    obtain ⟨hz, hTI, ⟨x, y, u, u4, hTO⟩, h1, h2, h3, h4⟩ := st
    exact ⟨k z (by simp) _ hz, k TI (by simp) _ hTI, ⟨x, y, u, u4, k TO (by simp) _ hTO⟩, isBI_at h1 fun o q => k i1 (by simp) o q, isBI_at h2 fun o q => k i2 (by simp) o q, isBI_at h3 fun o q => k i3 (by simp) o q, isBI_at h4 fun o q => k i4 (by simp) o q⟩
  item := by
    intro X hP hw hK hc i pins s σ H E I hf st hg
    subst hP hw hK
    obtain ⟨hz, hTI, hTO, h1, h2, h3, h4⟩ := st
    obtain ⟨xs, ys, zs, us, x, y, v3, v4, hqx, hqy, hqz, hqu, hx, hy, hv3, hv4⟩ := hg
    obtain ⟨its, rv, p, _⟩ := inv_b I hqx
    obtain ⟨its2, rv2, p2, _⟩ := inv_b I hqy
    obtain ⟨its3, rv3, p3, _⟩ := inv_b I hqz
    obtain ⟨its4, rv4, p4, _⟩ := inv_b I hqu
    obtain ⟨u, hu, ru⟩ := rv.get hx
    obtain ⟨u2, hu2, ru2⟩ := rv2.get hy
    obtain ⟨u3, hu3, ru3⟩ := rv3.get hv3
    obtain ⟨u4, hu4, ru4⟩ := rv4.get hv4
    have l1 := rv.length
    have l2 := rv2.length
    have l3 := rv3.length
    have l4 := rv4.length
    have g1 := (List.getElem?_eq_some_iff.mp hx).1
    have g2 := (List.getElem?_eq_some_iff.mp hy).1
    have g3 := (List.getElem?_eq_some_iff.mp hv3).1
    have g4 := (List.getElem?_eq_some_iff.mp hv4).1
    have hh : X.A.in1.handled = none := I.ok.hd hc
    have G := GoesN.zip4 (elts := elts) (kx := kk) (pos := tpos) D.s (draws_b (P := X.prog) (w := X.w) (A := X.A.in1) b1 hh i1 a1 D.n1 its.toArray) (draws_b (P := X.prog) (w := X.w) (A := X.A.in1) b2 hh i2 a2 D.n2 its2.toArray) (draws_b (P := X.prog) (w := X.w) (A := X.A.in1) b3 hh i3 a3 D.n3 its3.toArray) (draws_b (P := X.prog) (w := X.w) (A := X.A.in1) b4 hh i4 a4 D.n4 its4.toArray)
    refine G.goes i s _ E (by simp; omega) ⟨hz, hTI, hTO, ⟨h1, p⟩, ⟨h2, p2⟩, ⟨h3, p3⟩, h4, p4⟩ fun v h' tk ⟨T, x', y', z', w', ev, hT, hx', hy', hz', hw', hIs⟩ st' hk htk => ?_
    subst ev
    have ex : x' = u := by
      have q : its.toArray[i]? = some u := by simpa using hu
      rw [q] at hx'; exact (Option.some.inj hx').symm
    have ey : y' = u2 := by
      have q : its2.toArray[i]? = some u2 := by simpa using hu2
      rw [q] at hy'; exact (Option.some.inj hy').symm
    have ez : z' = u3 := by
      have q : its3.toArray[i]? = some u3 := by simpa using hu3
      rw [q] at hz'; exact (Option.some.inj hz').symm
    have ew : w' = u4 := by
      have q : its4.toArray[i]? = some u4 := by simpa using hu4
      rw [q] at hw'; exact (Option.some.inj hw').symm
    subst ex ey ez ew
    obtain ⟨hz1, hTI', hTO', ⟨h1', _⟩, ⟨h2', _⟩, ⟨h3', _⟩, h4', _⟩ := st'
    obtain ⟨o, ho, hcl, n, hd⟩ := hIs
    have new : ObjOk X.prog X.w (upd H T (.tup [x, y, v3, v4])) h' T (.tup [x, y, v3, v4]) := ⟨by show 4 ≤ sizeLine; decide, [x', y', z', w'], .cons ru (.cons ru2 (.cons ru3 (.cons ru4 .nil))), ⟨o, ho, hcl, n, hd⟩⟩
    have I1 : Inv X pins σ (upd H T (.tup [x, y, v3, v4])) { s with heap := h', toks := tk } := I.turnedNew (ch := [z, TI, TO, i1, i2, i3, i4]) (fun c o hb q => hk c o (fun q' => hb (by
      simp only [List.mem_cons, List.not_mem_nil, or_false] at q' ⊢
      rcases q' with q' | q' | q' | q' | q' | q' <;> simp [q'])) q) hf hT new
    have lts : ∀ c ∈ [z, TI, TO, i1, i2, i3, i4], c < s.heap.objs.size := fun c hcm => by
      have e' : c = z ∨ c = TI ∨ c = TO ∨ c = i1 ∨ c = i2 ∨ c = i3 ∨ c = i4 := by simpa using hcm
      rcases e' with q | q | q | q | q | q | q
      · rw [q]; exact Heap.lt_size hz
      · rw [q]; exact Heap.lt_size hTI
      · rw [q]; obtain ⟨_, _, _, _, hTO⟩ := hTO; exact Heap.lt_size hTO
      · rw [q]; obtain ⟨_, e, _⟩ := isBI_obj h1; exact Heap.lt_size e
      · rw [q]; obtain ⟨_, e, _⟩ := isBI_obj h2; exact Heap.lt_size e
      · rw [q]; obtain ⟨_, e, _⟩ := isBI_obj h3; exact Heap.lt_size e
      · rw [q]; obtain ⟨_, e, _⟩ := isBI_obj h4; exact Heap.lt_size e
    refine ⟨.ref T, _, I1, rfl, ⟨T, x, y, v3, v4, rfl, I.hok.fresh hT, rfl, fun l hl => by rw [inv_b_inj I hl hqx]; exact hx, fun l hl => by rw [inv_b_inj I hl hqy]; exact hy, fun l hl => by rw [inv_b_inj I hl hqz]; exact hv3, fun l hl => by rw [inv_b_inj I hl hqu]; exact hv4⟩, ⟨hz1, hTI', hTO', h1', h2', h3', h4'⟩, fun c hcm => ?_⟩
    rw [upd_ne (Nat.ne_of_lt (Nat.lt_of_lt_of_le (lts c hcm) hT))]
    exact (hf c hcm).1
  done := by
    intro X hP hw hK hc i pins s σ H E I hf st hg
    subst hP hw hK
    obtain ⟨hz, hTI, ⟨x0, y0, z0, w0, hTO⟩, h1, h2, h3, h4⟩ := st
    obtain ⟨xs, ys, zs, us, hqx, hqy, hqz, hqu, hend⟩ := hg
    obtain ⟨its, rv, p, _⟩ := inv_b I hqx
    obtain ⟨its2, rv2, p2, _⟩ := inv_b I hqy
    obtain ⟨its3, rv3, p3, _⟩ := inv_b I hqz
    obtain ⟨its4, rv4, p4, _⟩ := inv_b I hqu
    have l1 := rv.length
    have l2 := rv2.length
    have l3 := rv3.length
    have l4 := rv4.length
    have hh : X.A.in1.handled = none := I.ok.hd hc
    obtain ⟨n1, P1, S1, D1, le1, en1, st1⟩ := draws_at (P := X.prog) (w := X.w) (A := X.A.in1) b1 hh i1 a1 D.n1 its.toArray i
    obtain ⟨n2, P2, S2, D2, le2, en2, st2⟩ := draws_at (P := X.prog) (w := X.w) (A := X.A.in1) b2 hh i2 a2 D.n2 its2.toArray i
    obtain ⟨n3, P3, S3, D3, le3, en3, st3⟩ := draws_at (P := X.prog) (w := X.w) (A := X.A.in1) b3 hh i3 a3 D.n3 its3.toArray i
    obtain ⟨n4, P4, S4, D4, le4, en4, st4⟩ := draws_at (P := X.prog) (w := X.w) (A := X.A.in1) b4 hh i4 a4 D.n4 its4.toArray i
    refine wpAny_pyNext_zipD4_end D.s D1 D2 D3 D4 hz hTI hTO (st1 _ h1 p) (st2 _ h2 p2) (st3 _ h3 p3) (st4 _ h4 p4) le1 le2 le3 le4 ?_ fun h' tk hk => ⟨rfl, I.turnedL (ch := [z, TI, TO, i1, i2, i3, i4]) (fun c o hb q => hk c o (fun q' => hb (by simp [q'])) (fun q' => hb (by simp [q'])) (fun q' => hb (by simp [q'])) (fun q' => hb (by simp [q'])) (fun q' => hb (by simp [q'])) (fun q' => hb (by simp [q'])) q) hf⟩
    rcases hend with q | q | q | q
    · exact .inl (en1 (by simp; omega)).symm
    · exact .inr (.inl (en2 (by simp; omega)).symm)
    · exact .inr (.inr (.inl (en3 (by simp; omega)).symm))
    · exact .inr (.inr (.inr (en4 (by simp; omega)).symm))
  self := fun A i s Q E st h => wpAny_pyIter_zip st.1 h
def zipD4 : List D → List D → List D → List D → List D
  | x :: xs, y :: ys, z :: zs, u :: us => .tup [x, y, z, u] :: zipD4 xs ys zs us
  | _, _, _, _ => []
theorem zipD4_len : ∀ xs ys zs us : List D, (zipD4 xs ys zs us).length = min xs.length (min ys.length (min zs.length us.length))
  | [], ys, zs, us => by simp [zipD4]
  | _ :: _, [], zs, us => by simp [zipD4]
  | _ :: _, _ :: _, [], us => by simp [zipD4]
  | _ :: _, _ :: _, _ :: _, [] => by simp [zipD4]
  | x :: xs, y :: ys, z :: zs, u :: us => by simp only [zipD4, List.length_cons, zipD4_len xs ys zs us]; omega
theorem zipD4_get : ∀ (xs ys zs us : List D) (i : Nat) (w : D), (zipD4 xs ys zs us)[i]? = some w → ∃ x y z u, xs[i]? = some x ∧ ys[i]? = some y ∧ zs[i]? = some z ∧ us[i]? = some u ∧ w = .tup [x, y, z, u]
  | [], ys, zs, us, i, w, h => by simp [zipD4] at h
  | _ :: _, [], zs, us, i, w, h => by simp [zipD4] at h
  | _ :: _, _ :: _, [], us, i, w, h => by simp [zipD4] at h
  | _ :: _, _ :: _, _ :: _, [], i, w, h => by simp [zipD4] at h
  | x :: xs, y :: ys, z :: zs, u :: us, 0, w, h => by simp [zipD4] at h; exact ⟨x, y, z, u, rfl, rfl, rfl, rfl, h.symm⟩
  | x :: xs, y :: ys, z :: zs, u :: us, i + 1, w, h => by
    simp only [zipD4, List.getElem?_cons_succ] at h ⊢
    exact zipD4_get xs ys zs us i w h
def sZip4 (m : DE → Option (List R × DE)) : DenS := fun δ => match m δ with
  | some ([r1, r2, r3, r4], δ') => match seqR δ' r1 with
    | some (xs, _, g1) => match seqR δ' r2 with
      | some (ys, _, g2) => match seqR δ' r3 with
        | some (zs, _, g3) => match seqR δ' r4 with
          | some (us, _, g4) => some (⟨zipD4 xs ys zs us, g1 ++ (g2 ++ (g3 ++ g4))⟩, δ')
          | none => none
        | none => none
      | none => none
    | none => none
  | _ => none
def iZipB4 (b1 b2 b3 b4 : Bool) (K : PySem.W.Frag) (ta : TA) : TI := fun σ H R => ta σ H fun vs H1 => ∃ a1 a2 a3 a4 xs ys zs us, vs = [.ref a1, .ref a2, .ref a3, .ref a4] ∧ SqB b1 K H1 a1 xs ∧ SqB b2 K H1 a2 ys ∧ SqB b3 K H1 a3 zs ∧ SqB b4 K H1 a4 us ∧ R (ItzB4 b1 b2 b3 b4 K a1 a2 a3 a4) H1
section
variable {X : Cx} {e e2 e3 e4 : Expr} {ta : TA} {p pos tpos : Pos} {elts : List Expr} {kk : Nat} {q : Bool} {ml : DE → Option (List R × DE)}
theorem pi_zipB4 (b1 b2 b3 b4 : Bool) (hg : Gl X "zip") (hm : X.mg "zip" = none) (ha : PA X [e, e2, e3, e4] ta)
    (hs : starEach [e, e2, e3, e4] X.env = (false, eval e X.env) :: starEach [e2, e3, e4] X.env := by rfl) (hpl : (backTo pos (starEach [e2, e3, e4] X.env)).any (·.1) = false := by rfl) :
    PI X (.Tuple elts kk tpos) (.Call (.Name "zip" p) [e, e2, e3, e4] [] pos) (iZipB4 b1 b2 b3 b4 X.K ta) := by
  refine ⟨fun pins s σ H R I h => ?_⟩
  refine Call_ (ld_blt I hg hm PyProof.Rows.boot_zip (PyProof.Rows.callWith_type1 (thn (ha.run pos pins s σ H _ I h) fun us s1 ⟨vs, H1, I1, r1, q1⟩ => ?_) hs hpl))
  obtain ⟨a1, a2, a3, a4, xs, ys, zs, us, ex, hqx, hqy, hqz, hqu, q⟩ := q1
  subst ex
  cases r1 with
  | cons r rr =>
    cases rr with
    | cons r' rr =>
      cases rr with
      | cons r'' rr =>
        cases rr with
        | cons r3 rr =>
        cases rr
        cases r
        cases r'
        cases r''
        cases r3
        obtain ⟨its, rv, p1, _⟩ := inv_b I1 hqx
        obtain ⟨its2, rv2, p2, _⟩ := inv_b I1 hqy
        obtain ⟨its3, rv3, p3, _⟩ := inv_b I1 hqz
        obtain ⟨its4, rv4, p4, _⟩ := inv_b I1 hqu
        have f1 := lt_of_isB p1
        have f2 := lt_of_isB p2
        have f3 := lt_of_isB p3
        have f4 := lt_of_isB p4
        refine zip_begins4 (begins_b b1 a1 its.toArray) (begins_b b2 a2 its2.toArray) (begins_b b3 a3 its3.toArray) (begins_b b4 a4 its4.toArray) p1 p2 p3 p4 fun h' hz hTI hTO hi1 hi2 hi3 hi4 hsz hk => wpAny_pyIter_zip hz ?_
        have I2 : Inv X pins σ H1 { s1 with heap := h' } := I1.kept (t' := s1.toks) hk
        refine ⟨s1.heap.objs.size + 6, [s1.heap.objs.size + 6, s1.heap.objs.size + 4, s1.heap.objs.size + 5, s1.heap.objs.size, s1.heap.objs.size + 1, s1.heap.objs.size + 2, s1.heap.objs.size + 3], _, _, H1, rfl, I2, turn_zipB4 b1 b2 b3 b4 (zs4_new f1 f2 f3 f4), ⟨hz, hTI, ⟨_, _, _, _, hTO⟩, isBI_new hi1, isBI_new hi2, isBI_new hi3, isBI_new hi4⟩, fun c hc => ?_, q⟩
        have hle : s1.heap.objs.size ≤ c := by
          simp only [List.mem_cons, List.not_mem_nil, or_false] at hc
          rcases hc with h | h | h | h | h | h | h <;> (have h : @Eq Nat _ _ := h; rw [h]; show @LE.le Nat _ _ _; omega)
        exact I1.fpOk hle (I1.hok.fresh hle)
theorem src_zip4 {K : Fw} {H : Hp} {σ : L2.St} {ov : List Addr} {xs ys zs us : List D} {g1 g2 g3 g4 : List (Nat × D)} {a1 a2 a3 a4 : Addr} {b1 b2 b3 b4 : Bool}
    (h1 : ∀ H', (∀ a ∈ ov, H' a = H a) → (∀ a u, H a = some u → Sh u → H' a = some u) → (∀ p ∈ g1, ∃ v o, σ[p.1]? = some (some v) ∧ Rep K H' p.2 v o) → ∃ vs, SqB b1 K H' a1 vs ∧ Reps K H' xs vs [])
    (h2 : ∀ H', (∀ a ∈ ov, H' a = H a) → (∀ a u, H a = some u → Sh u → H' a = some u) → (∀ p ∈ g2, ∃ v o, σ[p.1]? = some (some v) ∧ Rep K H' p.2 v o) → ∃ vs, SqB b2 K H' a2 vs ∧ Reps K H' ys vs [])
    (h3 : ∀ H', (∀ a ∈ ov, H' a = H a) → (∀ a u, H a = some u → Sh u → H' a = some u) → (∀ p ∈ g3, ∃ v o, σ[p.1]? = some (some v) ∧ Rep K H' p.2 v o) → ∃ vs, SqB b3 K H' a3 vs ∧ Reps K H' zs vs [])
    (h4 : ∀ H', (∀ a ∈ ov, H' a = H a) → (∀ a u, H a = some u → Sh u → H' a = some u) → (∀ p ∈ g4, ∃ v o, σ[p.1]? = some (some v) ∧ Rep K H' p.2 v o) → ∃ vs, SqB b4 K H' a4 vs ∧ Reps K H' us vs []) :
    SrcOk K σ ⟨zipD4 xs ys zs us, g1 ++ (g2 ++ (g3 ++ g4))⟩ (ItzB4 b1 b2 b3 b4 K a1 a2 a3 a4) H ov := fun i H' k1 k2 k3 => by
  obtain ⟨vs, hq, r⟩ := h1 H' k1 k2 fun p hp => k3 p (List.mem_append_left _ hp)
  obtain ⟨ws, hq2, r2⟩ := h2 H' k1 k2 fun p hp => k3 p (List.mem_append_right _ (List.mem_append_left _ hp))
  obtain ⟨us', hq3, r3⟩ := h3 H' k1 k2 fun p hp => k3 p (List.mem_append_right _ (List.mem_append_right _ (List.mem_append_left _ hp)))
  obtain ⟨ts, hq4, r4⟩ := h4 H' k1 k2 fun p hp => k3 p (List.mem_append_right _ (List.mem_append_right _ (List.mem_append_right _ hp)))
  refine ⟨fun z hz => ?_, fun hl => ⟨vs, ws, us', ts, hq, hq2, hq3, hq4, by
    simp only [zipD4_len] at hl
    rw [r.length, r2.length, r3.length, r4.length]
    omega⟩⟩
  obtain ⟨x, y, z, w4, hx, hy, hz2, hw4, rfl⟩ := zipD4_get _ _ _ _ _ _ hz
  obtain ⟨v, hv, rv⟩ := item_of r hx
  obtain ⟨w, hw, rw2⟩ := item_of r2 hy
  obtain ⟨u, hu, rw3⟩ := item_of r3 hz2
  obtain ⟨t, ht, rw4⟩ := item_of r4 hw4
  refine ⟨⟨vs, ws, us', ts, v, w, u, t, hq, hq2, hq3, hq4, hv, hw, hu, ht⟩, fun uu H'' huu => ?_⟩
  obtain ⟨T, x', y', z', t', rfl, hT, rfl, hx', hy', hz', ht'⟩ := huu
  have ex := hx' vs hq
  rw [hv] at ex; cases ex
  have ey := hy' ws hq2
  rw [hw] at ey; cases ey
  have ez := hz' us' hq3
  rw [hu] at ez; cases ez
  have et := ht' ts hq4
  rw [ht] at et; cases et
  have keep : ∀ c q, H' c = some q → upd H' T (.tup [v, w, u, t]) c = some q := fun c q e => by
    rw [upd_ne (ne_of_none e hT)]; exact e
  have fr : Fr0 H' (upd H' T (.tup [v, w, u, t])) [] := fr_of (fun a ha => nomatch ha) fun c u e _ => keep c u e
  exact ⟨keep, T, [v, w, u, t], rfl, .inl (.inl upd_same), v, [w, u, t], [], [], rfl, rv.fr fr, ⟨w, [u, t], [], [], rfl, rw2.fr fr, ⟨u, [t], [], [], rfl, rw3.fr fr, ⟨t, [], [], [], rfl, rw4.fr fr, ⟨rfl, rfl⟩, rfl⟩, rfl⟩, rfl⟩, rfl⟩
theorem z_zip4 (hg : Gl X "zip") (hm : X.mg "zip" = none) (hl : PA X [e, e2, e3, e4] (TAr (kx X) q ml)) (hs : starEach [e, e2, e3, e4] X.env = (false, eval e X.env) :: starEach [e2, e3, e4] X.env := by rfl) (hpl : (backTo pos (starEach [e2, e3, e4] X.env)).any (·.1) = false := by rfl) :
    PI X (.Tuple elts kk tpos) (.Call (.Name "zip" p) [e, e2, e3, e4] [] pos) (TIm (kx X) q (sZip4 ml)) := ⟨fun pins s σ H R I hw => by
  obtain ⟨δ, o, src, δ', E, n, h, k⟩ := hw
  unfold sZip4 at h
  split at h
  case h_2 => cases h
  rename_i r1 r2 r3 r4 δ1 hm1
  split at h
  case h_2 => cases h
  rename_i xs b1 g1 hr1
  split at h
  case h_2 => cases h
  rename_i ys b2 g2 hr2
  split at h
  case h_2 => cases h
  rename_i zs b3 g3 hr3
  split at h
  case h_2 => cases h
  rename_i us b4 g4 hr4
  simp only [Option.some.injEq, Prod.mk.injEq] at h
  obtain ⟨rfl, rfl⟩ := h
  refine (PI.ok (pi_zipB4 b1 b2 b3 b4 hg hm hl hs hpl)).run pins s σ H R I ⟨δ, o, _, _, E, n, hm1, fun vs H1 o1 ov st en hd ow => ?_⟩
  obtain ⟨v1, vr, ov1, ovr, rfl, hd1, hd2, rfl⟩ := hd
  obtain ⟨v2, vr2, ov2, ovr2, rfl, hd2, hd3, rfl⟩ := hd2
  obtain ⟨v3, vr3, ov3, ovr3, rfl, hd3, hd4, rfl⟩ := hd3
  obtain ⟨v4, vr4, ov4, ovr4, rfl, hd4, hd5, rfl⟩ := hd4
  obtain ⟨rfl, rfl⟩ := hd5
  obtain ⟨a1, rfl, l1, ⟨vs1, q1, r1⟩, f1⟩ := seqR_ok en hd1 hr1
  obtain ⟨a2, rfl, l2, ⟨vs2, q2, r2⟩, f2⟩ := seqR_ok en hd2 hr2
  obtain ⟨a3, rfl, l3, ⟨vs3, q3, r3⟩, f3⟩ := seqR_ok en hd3 hr3
  obtain ⟨a4, rfl, l4, ⟨vs4, q4, r4⟩, f4⟩ := seqR_ok en hd4 hr4
  rw [List.append_nil] at ow
  refine ⟨a1, a2, a3, a4, vs1, vs2, vs3, vs4, rfl, q1, q2, q3, q4, fun hz => k _ H1 o1 (ov1 ++ (ov2 ++ (ov3 ++ ov4))) st en ow (fun c hc => ?_) (src_zip4 (fun H' h1 h2 h3 => f1 H' (fun c hc => h1 c (List.mem_append_left _ hc)) h2 h3) (fun H' h1 h2 h3 => f2 H' (fun c hc => h1 c (List.mem_append_right _ (List.mem_append_left _ hc))) h2 h3) (fun H' h1 h2 h3 => f3 H' (fun c hc => h1 c (List.mem_append_right _ (List.mem_append_right _ (List.mem_append_left _ hc)))) h2 h3) (fun H' h1 h2 h3 => f4 H' (fun c hc => h1 c (List.mem_append_right _ (List.mem_append_right _ (List.mem_append_right _ hc)))) h2 h3)) ?_⟩
  · rcases List.mem_append.mp hc with hc | hc
    · exact l1 c hc
    · rcases List.mem_append.mp hc with hc | hc
      · exact l2 c hc
      · rcases List.mem_append.mp hc with hc | hc
        · exact l3 c hc
        · exact l4 c hc
  · show (zipD4 xs ys zs us).length ≤ sizeLine
    rw [zipD4_len]
    have : vs1.length ≤ sizeLine := by
      cases b1
      · exact hz.2 _ _ q1
      · exact hz.1 _ _ q1
    have := r1.length
    omega⟩
end
end Z


set_option Elab.async false
set_option linter.all false
set_option maxRecDepth 100000
/-! from denotations to typed functions: what is known of an environment -/
namespace Y
open PySem PySem.Spec PyProof.Rows L2 Z
/-- what is known of a name's place -/
inductive Sl where
  | any | is (d : D)
structure Agr (A : List Sl) (δ : DE) : Prop where
  len : δ.length = A.length
  get : ∀ (i : Nat) (d : D), A[i]? = some (.is d) → δ[i]? = some (some d)
theorem Agr.set {A : List Sl} {δ : DE} (h : Agr A δ) (i : Nat) (d : D) : Agr (A.set i (.is d)) (δ.set i (some d)) where
  len := by simp [h.len]
  get j e hj := by
    rw [List.getElem?_set] at hj ⊢
    by_cases hij : i = j
    · subst hij
      rw [if_pos rfl] at hj ⊢
      by_cases hl : i < A.length
      · rw [if_pos hl] at hj
        rw [if_pos (by rw [h.len]; exact hl)]
        injection hj with hj; injection hj with hj; rw [hj]
      · rw [if_neg hl] at hj; cases hj
    · rw [if_neg hij] at hj ⊢
      exact h.get j e hj
theorem Agr.setAny {A : List Sl} {δ : DE} (h : Agr A δ) (i : Nat) (x : Option D) : Agr (A.set i .any) (δ.set i x) where
  len := by simp [h.len]
  get j e hj := by
    rw [List.getElem?_set] at hj ⊢
    by_cases hij : i = j
    · subst hij
      rw [if_pos rfl] at hj
      by_cases hl : i < A.length
      · rw [if_pos hl] at hj; cases hj
      · rw [if_neg hl] at hj; cases hj
    · rw [if_neg hij] at hj ⊢
      exact h.get j e hj
/-- less is known -/
inductive Le : List Sl → List Sl → Prop
  | nil : Le [] []
  | any {s : Sl} {A B : List Sl} : Le A B → Le (s :: A) (.any :: B)
  | eq {s : Sl} {A B : List Sl} : Le A B → Le (s :: A) (s :: B)
theorem Le.refl : ∀ A : List Sl, Le A A
  | [] => .nil
  | _ :: A => .eq (Le.refl A)
theorem Le.len {A B : List Sl} (h : Le A B) : A.length = B.length := by induction h <;> simp_all
theorem Le.get {A B : List Sl} (h : Le A B) : ∀ (i : Nat) (d : D), B[i]? = some (.is d) → A[i]? = some (.is d) := by
  induction h with
  | nil => intro i d e; cases e
  | any h ih => intro i d e; cases i with
    | zero => simp at e
    | succ i => exact ih i d e
  | eq h ih => intro i d e; cases i with
    | zero => exact e
    | succ i => exact ih i d e
theorem Agr.le {A B : List Sl} {δ : DE} (h : Agr A δ) (l : Le A B) : Agr B δ := ⟨h.len.trans l.len, fun i d e => h.get i d (l.get i d e)⟩
def setSl (A : List Sl) : List Nat → List Sl
  | [] => A
  | v :: vs => (setSl A vs).set v .any
theorem Agr.wipe {A : List Sl} {δ : DE} (h : Agr A δ) : ∀ vs : List Nat, Agr (setSl A vs) (wipeD δ vs)
  | [] => h
  | v :: vs => (Agr.wipe h vs).setAny v none

/-! ### expressions -/
/-- whatever else stands there: x comes out, and A' is known behind; p: nothing is changed -/
def RX {α : Type} (p : Bool) (A : List Sl) (m : DE → Option (α × DE)) (x : α) (A' : List Sl) : Prop := ∀ δ, Agr A δ → ∃ δ', m δ = some (x, δ') ∧ Agr A' δ' ∧ (p = true → δ' = δ)
abbrev RV (p : Bool) (A : List Sl) (m : Den) (r : R) (A' : List Sl) : Prop := RX p A m r A'
abbrev RA (p : Bool) (A : List Sl) (m : DE → Option (List R × DE)) (rs : List R) (A' : List Sl) : Prop := RX p A m rs A'
abbrev RT (p : Bool) (A : List Sl) (m : DenT) (b : Bool) (A' : List Sl) : Prop := RX p A m b A'
abbrev RS (p : Bool) (A : List Sl) (m : DenS) (s : Src) (A' : List Sl) : Prop := RX p A m s A'
def Drf (A : List Sl) (r : R) (d : D) : Prop := ∀ δ, Agr A δ → deref δ r = some d
def Drfs (A : List Sl) (rs : List R) (ds : List D) : Prop := ∀ δ, Agr A δ → derefs δ rs = some ds
theorem pp {p1 p2 : Bool} {δ δ1 δ2 : DE} (h1 : p1 = true → δ1 = δ) (h2 : p2 = true → δ2 = δ1) (h : (p1 && p2) = true) : δ2 = δ := by
  simp only [Bool.and_eq_true] at h
  rw [h2 h.2, h1 h.1]
section
variable {p p1 p2 p3 : Bool} {A A1 A2 A3 : List Sl} {m ma mb mc : Den} {r ra rb : R} {rs : List R} {d e : D} {ds : List D} {q : Bool}
theorem drf_own : Drf A (.own d) d := fun _ _ => rfl
theorem drf_at {i : Nat} (h : A[i]? = some (.is d)) : Drf A (.at i []) d := fun δ a => by
  simp only [deref, a.get i d h, getP]
theorem drfs_nil : Drfs A [] [] := fun _ _ => rfl
theorem drfs_cons (h : Drf A r d) (t : Drfs A rs ds) : Drfs A (r :: rs) (d :: ds) := fun δ a => by
  simp only [derefs, h δ a, t δ a]
theorem r_var {i : Nat} (h : A[i]? = some (.is d)) (g : d.imm = true) : RV true A (dVar i) (.own d) A := fun δ a => ⟨δ, by simp only [dVar, a.get i d h, g, if_true], a, fun _ => rfl⟩
theorem r_varM {i : Nat} (h : A[i]? = some (.is d)) (g : d.imm = false) : RV true A (dVar i) (.at i []) A := fun δ a => ⟨δ, by simp only [dVar, a.get i d h, g]; rfl, a, fun _ => rfl⟩
theorem r_c : RV true A (dC d) (.own d) A := fun δ a => ⟨δ, rfl, a, fun _ => rfl⟩
theorem r_anil : RA true A dANil [] A := fun δ a => ⟨δ, rfl, a, fun _ => rfl⟩
theorem r_acons {mr : DE → Option (List R × DE)} (h : RV p1 A m r A1) (t : RA p2 A1 mr rs A2) (s : (r.short || q) = true) : RA (p1 && p2) A (dACons q m mr) (r :: rs) A2 := fun δ a => by
  obtain ⟨δ1, e1, a1, u1⟩ := h δ a
  obtain ⟨δ2, e2, a2, u2⟩ := t δ1 a1
  exact ⟨δ2, by simp only [dACons, e1, e2, s, if_true], a2, pp u1 u2⟩
theorem r_call {f : List D → Option D} {mr : DE → Option (List R × DE)} (t : RA p A mr rs A1) (g : Drfs A1 rs ds) (h : f ds = some d) : RV p A (dCall f mr) (.own d) A1 := fun δ a => by
  obtain ⟨δ1, e1, a1, u1⟩ := t δ a
  exact ⟨δ1, by simp only [dCall, e1, g δ1 a1, h], a1, u1⟩
theorem r_tup {mr : DE → Option (List R × DE)} (t : RA p A mr rs A1) (g : owns rs = some ds) (h : ds.length ≤ 1000) : RV p A (dTup mr) (.own (.tup ds)) A1 := fun δ a => by
  obtain ⟨δ1, e1, a1, u1⟩ := t δ a
  exact ⟨δ1, by simp only [dTup, e1, g, h, if_true], a1, u1⟩
theorem r_lst {mr : DE → Option (List R × DE)} (t : RA p A mr rs A1) (g : owns rs = some ds) (h : ds.length ≤ 1000) : RV p A (dLst mr) (.own (.lst ds)) A1 := fun δ a => by
  obtain ⟨δ1, e1, a1, u1⟩ := t δ a
  exact ⟨δ1, by simp only [dLst, e1, g, h, if_true], a1, u1⟩
theorem r_sub {i : Int} (h : RV p1 A ma ra A1) (t : RV p2 A1 mb rb A2) (s : (ra.short || q) = true) (g : Drf A2 ra d) (g2 : Drf A2 rb (.int i)) (u : subR ra d i = some r) : RV (p1 && p2) A (dSub q ma mb) r A2 := fun δ a => by
  obtain ⟨δ1, e1, a1, u1⟩ := h δ a
  obtain ⟨δ2, e2, a2, u2⟩ := t δ1 a1
  exact ⟨δ2, by simp only [dSub, e1, e2, s, g δ2 a2, g2 δ2 a2, u, if_true], a2, pp u1 u2⟩
theorem r_andV {x y : Bool} (h : RV p1 A ma (.own (.bl x)) A) (h1 : x = true → RV p2 A mb (.own (.bl y)) A) : RV (p1 && p2) A (dAndV ma mb) (.own (.bl (x && y))) A := fun δ a => by
  obtain ⟨δ1, e1, a1, u1⟩ := h δ a
  cases x with
  | true =>
    obtain ⟨δ2, e2, a2, u2⟩ := h1 rfl δ1 a1
    exact ⟨δ2, by simp only [dAndV, e1, e2, Bool.true_and], a2, pp u1 u2⟩
  | false => exact ⟨δ1, by simp only [dAndV, e1, Bool.false_and], a1, fun h => by simp only [Bool.and_eq_true] at h; exact u1 h.1⟩
theorem r_orV {x y : Bool} (h : RV p1 A ma (.own (.bl x)) A) (h1 : x = false → RV p2 A mb (.own (.bl y)) A) : RV (p1 && p2) A (dOrV ma mb) (.own (.bl (x || y))) A := fun δ a => by
  obtain ⟨δ1, e1, a1, u1⟩ := h δ a
  cases x with
  | false =>
    obtain ⟨δ2, e2, a2, u2⟩ := h1 rfl δ1 a1
    exact ⟨δ2, by simp only [dOrV, e1, e2, Bool.false_or], a2, pp u1 u2⟩
  | true => exact ⟨δ1, by simp only [dOrV, e1, Bool.true_or], a1, fun h => by simp only [Bool.and_eq_true] at h; exact u1 h.1⟩
theorem r_notV {x : Bool} (h : RV p A ma (.own (.bl x)) A1) : RV p A (dNotV ma) (.own (.bl (!x))) A1 := fun δ a => by
  obtain ⟨δ1, e1, a1, u1⟩ := h δ a
  exact ⟨δ1, by simp only [dNotV, e1], a1, u1⟩
/-! tests -/
theorem r_tv {b : Bool} (h : RV p A m r A1) (g : Drf A1 r d) (t : truthD d = some b) : RT p A (dTv m) b A1 := fun δ a => by
  obtain ⟨δ1, e1, a1, u1⟩ := h δ a
  exact ⟨δ1, by simp only [dTv, e1, g δ1 a1, t], a1, u1⟩
theorem r_tb {b : Bool} (h : RV p A m (.own (.bl b)) A1) : RT p A (dTb m) b A1 := fun δ a => by
  obtain ⟨δ1, e1, a1, u1⟩ := h δ a
  exact ⟨δ1, by simp only [dTb, e1], a1, u1⟩
theorem r_and {ta tb : DenT} {x y : Bool} (h : RT p1 A ta x A) (h1 : x = true → RT p2 A tb y A) : RT (p1 && p2) A (dAnd ta tb) (x && y) A := fun δ a => by
  obtain ⟨δ1, e1, a1, u1⟩ := h δ a
  cases x with
  | true =>
    obtain ⟨δ2, e2, a2, u2⟩ := h1 rfl δ1 a1
    exact ⟨δ2, by simp only [dAnd, e1, e2, Bool.true_and], a2, pp u1 u2⟩
  | false => exact ⟨δ1, by simp only [dAnd, e1, Bool.false_and], a1, fun h => by simp only [Bool.and_eq_true] at h; exact u1 h.1⟩
theorem r_or {ta tb : DenT} {x y : Bool} (h : RT p1 A ta x A) (h1 : x = false → RT p2 A tb y A) : RT (p1 && p2) A (dOr ta tb) (x || y) A := fun δ a => by
  obtain ⟨δ1, e1, a1, u1⟩ := h δ a
  cases x with
  | false =>
    obtain ⟨δ2, e2, a2, u2⟩ := h1 rfl δ1 a1
    exact ⟨δ2, by simp only [dOr, e1, e2, Bool.false_or], a2, pp u1 u2⟩
  | true => exact ⟨δ1, by simp only [dOr, e1, Bool.true_or], a1, fun h => by simp only [Bool.and_eq_true] at h; exact u1 h.1⟩
theorem r_not {ta : DenT} {x : Bool} (h : RT p A ta x A1) : RT p A (dNot ta) (!x) A1 := fun δ a => by
  obtain ⟨δ1, e1, a1, u1⟩ := h δ a
  exact ⟨δ1, by simp only [dNot, e1], a1, u1⟩
theorem r_yes : RT true A dYes true A := fun δ a => ⟨δ, rfl, a, fun _ => rfl⟩
/-! a call of a def -/
inductive Puts : Bool → List Sl → List R → List (Option D) → List Sl → Prop
  | nil {A : List Sl} : Puts true A [] [] A
  | own {p : Bool} {A A2 : List Sl} {d : D} {f : Option D} {rs : List R} {fs : List (Option D)} : Puts p A rs fs A2 → Puts p A (.own d :: rs) (f :: fs) A2
  | same {p : Bool} {A A2 : List Sl} {i : Nat} {d : D} {rs : List R} {fs : List (Option D)} : A[i]? = some (.is d) → Puts p (A.set i .any) rs fs A2 → Puts p A (.at i [] :: rs) (some d :: fs) (A2.set i (.is d))
  | pth {p : Bool} {A A2 : List Sl} {i : Nat} {l : List Nat} {d e d' : D} {rs : List R} {fs : List (Option D)} : A[i]? = some (.is d) → Puts p (A.set i .any) rs fs A2 → setP l d e = some d' → Puts false A (.at i l :: rs) (some e :: fs) (A2.set i (.is d'))
theorem Puts.ok {rs : List R} {fs : List (Option D)} (h : Puts p A rs fs A2) : ∀ δ, Agr A δ → ∃ δ2, puts δ rs fs = some δ2 ∧ Agr A2 δ2 ∧ (p = true → δ2 = δ) := by
  induction h with
  | nil => exact fun δ a => ⟨δ, rfl, a, fun _ => rfl⟩
  | own h ih =>
      intro δ a
      obtain ⟨δ2, e, a2, u⟩ := ih δ a
      exact ⟨δ2, by simp only [puts, e], a2, u⟩
  | @same p A A2 i d rs fs h1 h2 ih =>
      intro δ a
      obtain ⟨δ2, e, a2, u⟩ := ih (δ.set _ none) (a.setAny _ none)
      refine ⟨δ2.set i (some d), by simp only [puts, a.get _ _ h1, e, setP], a2.set _ _, fun hp => ?_⟩
      rw [u hp, List.set_set]
      have := a.get _ _ h1
      apply List.ext_getElem?
      intro j
      rw [List.getElem?_set]
      by_cases hij : i = j
      · subst hij
        have hl : i < δ.length := (List.getElem?_eq_some_iff.mp this).1
        rw [if_pos rfl, if_pos hl, this]
      · rw [if_neg hij]
  | pth h1 h2 h3 ih =>
      intro δ a
      obtain ⟨δ2, e, a2, u⟩ := ih (δ.set _ none) (a.setAny _ none)
      exact ⟨δ2.set _ (some _), by simp only [puts, a.get _ _ h1, e, h3], a2.set _ _, fun h => by cases h⟩
theorem r_user {f : Fn} {mr : DE → Option (List R × DE)} {fs : List (Option D)} (t : RA p1 A mr rs A1) (ro : rootsOk rs = true) (g : Drfs A1 rs ds) (h : f ds = some (d, fs)) (pu : Puts p2 A1 rs fs A2) : RV (p1 && p2) A (dUser f mr) (.own d) A2 := fun δ a => by
  obtain ⟨δ1, e1, a1, u1⟩ := t δ a
  obtain ⟨δ2, e2, a2, u2⟩ := pu.ok δ1 a1
  exact ⟨δ2, by simp only [dUser, e1, ro, if_true, g δ1 a1, h, e2], a2, pp u1 u2⟩
theorem RX.weak {α : Type} {m : DE → Option (α × DE)} {x : α} (h : RX p A m x A1) (l : Le A1 A2) : RX p A m x A2 := fun δ a => by
  obtain ⟨δ1, e1, a1, u⟩ := h δ a
  exact ⟨δ1, e1, a1.le l, u⟩
end
/-! ### blocks -/
/-- how a block with ends of all kinds ends -/
inductive Res (β ρ : Type) where
  | nx (b : β) | bk (b : β) | ct (b : β) | rt (r : ρ)
  deriving DecidableEq
def RB {τ : Type} (A : List Sl) (m : Blk) (n : Option τ) (S : τ → Out → Prop) : Prop := ∀ t, n = some t → ∀ δ, Agr A δ → ∃ out, m δ = some out ∧ S t out
def Nx {β : Type} (A : β → List Sl) : β → Out → Prop := fun b out => ∃ δ, out = .nx δ ∧ Agr (A b) δ
def Rt {ρ : Type} (er : ρ → D) (A : ρ → List Sl) : ρ → Out → Prop := fun r out => ∃ δ, out = .rt (er r) δ ∧ Agr (A r) δ
def Rs {β ρ : Type} (A : β → List Sl) (T : ρ → Out → Prop) : Res β ρ → Out → Prop
  | .nx b, out => ∃ δ, out = .nx δ ∧ Agr (A b) δ
  | .bk b, out => ∃ δ, out = .bk δ ∧ Agr (A b) δ
  | .ct b, out => ∃ δ, out = .ct δ ∧ Agr (A b) δ
  | .rt r, out => T r out ∧ ∃ d δ, out = .rt d δ
/-- behind a value that may not be -/
def bnd {α β : Type} : Option α → (α → Option β) → Option β
  | none, _ => none
  | some a, f => f a
@[simp] theorem bnd_some {α β : Type} (a : α) (f : α → Option β) : bnd (some a) f = f a := rfl
@[simp] theorem bnd_none {α β : Type} (f : α → Option β) : bnd none f = none := rfl
/-- a name for a value -/
def lv {α β : Type} (a : α) (f : α → β) : β := f a
section
variable {p p1 p2 p3 : Bool} {τ β ρ α : Type} {A A1 A2 A3 : List Sl} {m ma mb rest : Blk} {S : τ → Out → Prop} {t : τ} {n : Option τ} {me : Den} {d : D} {r : R}
theorem bnd_eq {x : Option α} {f : α → Option β} {y : β} (h : bnd x f = some y) : ∃ a, x = some a ∧ f a = some y := by
  cases x with
  | none => cases h
  | some a => exact ⟨a, rfl, h⟩
theorem k_bnd {x : Option α} {f : α → Option τ} (h : ∀ a, x = some a → RB A m (f a) S) : RB A m (bnd x f) S := fun t e => by
  obtain ⟨a, h1, h2⟩ := bnd_eq e
  exact h a h1 t h2
theorem dSeq_dNx (m : Blk) : dSeq m dNx = m := by
  funext δ
  unfold dSeq
  cases e : m δ with
  | none => rfl
  | some o => cases o <;> rfl
theorem k_last (h : RB A (dSeq m dNx) n S) : RB A m n S := by rwa [dSeq_dNx] at h
theorem k_nil (h : RB A rest n S) : RB A (dSeq dNx rest) n S := h
theorem dSeq_assoc (a b c : Blk) : dSeq (dSeq a b) c = dSeq a (dSeq b c) := by
  funext δ
  simp only [dSeq]
  cases e : a δ with
  | none => rfl
  | some o => cases o <;> rfl
theorem k_assoc (h : RB A (dSeq ma (dSeq mb rest)) n S) : RB A (dSeq (dSeq ma mb) rest) n S := by rwa [dSeq_assoc]
theorem k_nx (h : ∀ δ, Agr A δ → S t (.nx δ)) : RB A dNx (some t) S := fun t' e δ a => by
  cases (Option.some.inj e)
  exact ⟨_, rfl, h δ a⟩
theorem k_ret {kp : Nat → Bool} (h : RV p A me (.own d) A1) (g : ∀ δ, Agr A1 δ → S t (.rt d δ)) : RB A (dSeq (dRet kp me) rest) (some t) S := fun t' e δ a => by
  cases (Option.some.inj e)
  obtain ⟨δ1, e1, a1, _⟩ := h δ a
  exact ⟨_, by simp only [dSeq, dRet, e1], g δ1 a1⟩
theorem k_asg {i : Nat} (h : RV p A me (.own d) A1) (hi : i < A1.length) (g : RB (A1.set i (.is d)) rest n S) : RB A (dSeq (dAsg (bName i) me) rest) n S := fun t' e δ a => by
  obtain ⟨δ1, e1, a1, _⟩ := h δ a
  have hl : i < δ1.length := by rw [a1.len]; exact hi
  simp only [dSeq, dAsg, e1, bName, hl, if_true]
  exact g t' e _ (a1.set i d)
/-- names for what a target takes -/
def Bd (vs : List Nat) (A : List Sl) (b : Bnd) (d : D) (A' : List Sl) : Prop := ∀ δ, Agr A δ → ∃ δ', b d δ = some δ' ∧ Agr A' δ' ∧ δ'.length = δ.length ∧ ∀ i, i ∉ vs → δ'[i]? = δ[i]?
def Bds (vs : List Nat) (A : List Sl) (b : Bnds) (d : List D) (A' : List Sl) : Prop := ∀ δ, Agr A δ → ∃ δ', b d δ = some δ' ∧ Agr A' δ' ∧ δ'.length = δ.length ∧ ∀ i, i ∉ vs → δ'[i]? = δ[i]?
theorem b_name {i : Nat} (hi : i < A.length) : Bd [i] A (bName i) d (A.set i (.is d)) := fun δ a =>
  ⟨δ.set i (some d), by simp only [bName, (show i < δ.length by rw [a.len]; exact hi), if_true], a.set i d, by simp, fun j hj => by rw [List.getElem?_set_ne (fun e => hj (by simp [e]))]⟩
theorem b_nil : Bds [] A bNil [] A := fun δ a => ⟨δ, rfl, a, rfl, fun _ _ => rfl⟩
theorem b_cons {vs vt : List Nat} {b : Bnd} {bs : Bnds} {ds : List D} (h : Bd vs A b d A1) (g : Bds vt A1 bs ds A2) : Bds (vs ++ vt) A (bCons b bs) (d :: ds) A2 := fun δ a => by
  obtain ⟨δ1, e1, a1, l1, k1⟩ := h δ a
  obtain ⟨δ2, e2, a2, l2, k2⟩ := g δ1 a1
  exact ⟨δ2, by simp only [bCons, e1, e2], a2, l2.trans l1, fun i hi => by
    simp only [List.mem_append, not_or] at hi
    rw [k2 i hi.2, k1 i hi.1]⟩
theorem b_tup {vs : List Nat} {k : Nat} {bs : Bnds} {ds : List D} (g : Bds vs A bs ds A1) (hl : ds.length = k) : Bd vs A (bTup k bs) (.tup ds) A1 := fun δ a => by
  obtain ⟨δ1, e1, a1, l1, k1⟩ := g δ a
  exact ⟨δ1, by simp only [bTup, hl, if_true, e1], a1, l1, k1⟩
theorem k_asgT {vs : List Nat} {b : Bnd} (h : RV p A me (.own d) A1) (hb : Bd vs A1 b d A2) (g : RB A2 rest n S) : RB A (dSeq (dAsg b me) rest) n S := fun t' e δ a => by
  obtain ⟨δ1, e1, a1, _⟩ := h δ a
  obtain ⟨δ2, e2, a2, _⟩ := hb δ1 a1
  simp only [dSeq, dAsg, e1, e2]
  exact g t' e _ a2
theorem k_expr (h : RV p A me r A1) (g : RB A1 rest n S) : RB A (dSeq (dDrop me) rest) n S := fun t' e δ a => by
  obtain ⟨δ1, e1, a1, _⟩ := h δ a
  simp only [dSeq, dDrop, e1]
  exact g t' e _ a1
theorem mutD_root {δ : DE} {i : Nat} {xs xs' : List D} {f : List D → Option (List D)} (h : δ[i]? = some (some (.lst xs))) (e : f xs = some xs') : mutD δ (.at i []) f = some (δ.set i (some (.lst xs'))) := by
  simp only [mutD, h, getP, e, setP]
theorem isLst_root {δ : DE} {i : Nat} {xs : List D} (h : δ[i]? = some (some (.lst xs))) : isLst δ (.at i []) = true := by
  simp only [isLst, deref, h, getP]
/-- append to a list that a name holds -/
theorem r_append {i : Nat} {mo : Den} {xs : List D} {q : Bool} (ho : RV p1 A mo (.at i []) A1) (g1 : A1[i]? = some (.is (.lst xs))) (h : RV p2 A1 me (.own d) A2) (g : A2[i]? = some (.is (.lst xs))) (hl : xs.length < 1000000) :
    RV false A (dAppend q mo me) (.own .non) (A2.set i (.is (.lst (xs ++ [d])))) := fun δ a => by
  obtain ⟨δ1, e1, a1, _⟩ := ho δ a
  obtain ⟨δ2, e2, a2, _⟩ := h δ1 a1
  refine ⟨_, ?_, a2.set i _, fun h => by cases h⟩
  simp only [dAppend, e1, e2, R.short, Bool.true_or, isLst_root (a1.get _ _ g1), Bool.and_self, if_true]
  rw [mutD_root (a2.get _ _ g) (xs' := xs ++ [d]) (by simp only [hl, if_true])]
theorem k_aug {i : Nat} {f : Int → Int → Int} {x y : Int} (g : A[i]? = some (.is (.int x))) (h : RV p A me (.own (.int y)) A1) (hi : i < A1.length) (c : RB (A1.set i (.is (.int (f x y)))) rest n S) : RB A (dSeq (dAug i f me) rest) n S := fun t' e δ a => by
  obtain ⟨δ1, e1, a1, _⟩ := h δ a
  have hl : i < δ1.length := by rw [a1.len]; exact hi
  simp only [dSeq, dAug, a.get _ _ g, e1, hl, if_true]
  exact c t' e _ (a1.set i _)
/-- both ways go on -/
theorem k_ifJ {c : DenT} {b : Bool} {na nb : Option β} {A' : β → List Sl} {k : β → Option τ} (h : RT p A c b A1) (h1 : b = true → RB A1 ma na (Nx A')) (h2 : b = false → RB A1 mb nb (Nx A')) (g : ∀ x, RB (A' x) rest (k x) S) :
    RB A (dSeq (dIf c ma mb) rest) (bnd (if b = true then na else nb) k) S := fun t' e δ a => by
  obtain ⟨δ1, e1, a1, _⟩ := h δ a
  obtain ⟨x, h3, h4⟩ := bnd_eq e
  cases b with
  | true =>
    obtain ⟨out, e2, δ2, rfl, a2⟩ := h1 rfl x h3 δ1 a1
    simp only [dSeq, dIf, e1, e2]
    exact g x t' h4 _ a2
  | false =>
    obtain ⟨out, e2, δ2, rfl, a2⟩ := h2 rfl x h3 δ1 a1
    simp only [dSeq, dIf, e1, e2]
    exact g x t' h4 _ a2
/-- both ways with what follows -/
theorem k_if {c : DenT} {b : Bool} {na nb : Option τ} (h : RT p A c b A1) (h1 : b = true → RB A1 (dSeq ma rest) na S) (h2 : b = false → RB A1 (dSeq mb rest) nb S) :
    RB A (dSeq (dIf c ma mb) rest) (if b = true then na else nb) S := fun t' e δ a => by
  obtain ⟨δ1, e1, a1, _⟩ := h δ a
  cases b with
  | true =>
    obtain ⟨out, e2, s⟩ := h1 rfl t' e δ1 a1
    refine ⟨out, ?_, s⟩
    simp only [dSeq, dIf, e1] at e2 ⊢
    exact e2
  | false =>
    obtain ⟨out, e2, s⟩ := h2 rfl t' e δ1 a1
    refine ⟨out, ?_, s⟩
    simp only [dSeq, dIf, e1] at e2 ⊢
    exact e2
end
end Y


set_option Elab.async false
set_option linter.all false
set_option maxRecDepth 100000
/-! loops, blocks in brackets -/
namespace Y
open PySem PySem.Spec PyProof.Rows L2 Z
def forN {α β : Type} (f : α → β → Option β) : List α → β → Option β
  | [], b => some b
  | x :: xs, b => match f x b with
    | some b' => forN f xs b'
    | none => none
def forR {α β ρ : Type} (f : α → β → Option (Res β ρ)) : List α → β → Option (Res β ρ)
  | [], b => some (.nx b)
  | x :: xs, b => match f x b with
    | some (.nx b') => forR f xs b'
    | some (.ct b') => forR f xs b'
    | some (.bk b') => some (.nx b')
    | some (.rt r) => some (.rt r)
    | none => none
def whileR {β ρ : Type} (c : β → Option Bool) (f : β → Option (Res β ρ)) : Nat → β → Option (Res β ρ)
  | 0, _ => none
  | n + 1, b => match c b with
    | some true => match f b with
      | some (.nx b') => whileR c f n b'
      | some (.ct b') => whileR c f n b'
      | some (.bk b') => some (.nx b')
      | some (.rt r) => some (.rt r)
      | none => none
    | some false => some (.nx b)
    | none => none
def onR {β ρ τ : Type} (j : ρ → Option τ) (k : β → Option τ) : Res β ρ → Option τ
  | .nx b => k b
  | .rt r => j r
  | _ => none
def lcO {α β : Type} (t : α → Option Bool) (e : α → Option β) : List α → Option (List β)
  | [] => some []
  | x :: xs => match t x with
    | some true => match e x with
      | some y => match lcO t e xs with
        | some ys => some (y :: ys)
        | none => none
      | none => none
    | some false => lcO t e xs
    | none => none
def lcS {α β σ : Type} (t : α → σ → Option (Bool × σ)) (e : α → σ → Option (β × σ)) : List α → σ → Option (List β × σ)
  | [], s => some ([], s)
  | x :: xs, s => match t x s with
    | some (true, s1) => match e x s1 with
      | some (y, s2) => match lcS t e xs s2 with
        | some (ys, s3) => some (y :: ys, s3)
        | none => none
      | none => none
    | some (false, s1) => lcS t e xs s1
    | none => none
def allO {α : Type} (t e : α → Option Bool) : List α → Option Bool
  | [] => some true
  | x :: xs => match t x with
    | some true => match e x with
      | some true => allO t e xs
      | some false => some false
      | none => none
    | some false => allO t e xs
    | none => none
def anyO {α : Type} (t e : α → Option Bool) : List α → Option Bool
  | [] => some false
  | x :: xs => match t x with
    | some true => match e x with
      | some false => anyO t e xs
      | some true => some true
      | none => none
    | some false => anyO t e xs
    | none => none
/-- the guards of a loop stand -/
def Gd (A : List Sl) (gs : List (Nat × D)) : Prop := ∀ δ, Agr A δ → gOk gs δ = true
theorem gd_nil {A : List Sl} : Gd A [] := fun _ _ => rfl
theorem gd_cons {A : List Sl} {i : Nat} {d : D} {gs : List (Nat × D)} (h : A[i]? = some (.is d)) (g : Gd A gs) : Gd A ((i, d) :: gs) := fun δ a => by
  simp only [gOk, a.get i d h, decide_true, g δ a, Bool.and_self]
section
variable {p p1 p2 p3 : Bool} {α β σ τ ρ : Type} {A A1 A2 A3 : List Sl} {m ma mb rest : Blk} {S : τ → Out → Prop} {n : Option τ} {me : Den} {mt : DenT} {ms : DenS} {bd : Bnd} {kp : Nat → Bool} {gs : List (Nat × D)} {A0 : β → List Sl}
theorem dForL_N {vs : List Nat} {e : α → D} {f : α → β → Option β} (hg : ∀ b, Gd (A0 b) gs) {B : α → β → List Sl} (hb : ∀ x b, Bd vs (A0 b) bd (e x) (B x b)) (hm : ∀ x b, RB (B x b) mb (f x b) (Nx A0)) :
    ∀ (xs : List α) (b b' : β), forN f xs b = some b' → ∀ δ, Agr (A0 b) δ → ∃ δ', dForL gs bd mb (xs.map e) δ = some (.nx δ') ∧ Agr (A0 b') δ'
  | [], b, b', h, δ, a => by
    cases (Option.some.inj h)
    exact ⟨δ, by simp only [List.map_nil, dForL, hg b δ a, if_true], a⟩
  | x :: xs, b, b', h, δ, a => by
    simp only [forN] at h
    cases h1 : f x b with
    | none => rw [h1] at h; cases h
    | some b1 =>
      rw [h1] at h
      obtain ⟨δ1, e1, a1, _⟩ := hb x b δ a
      obtain ⟨out, e2, δ2, rfl, a2⟩ := hm x b b1 h1 δ1 a1
      obtain ⟨δ3, e3, a3⟩ := dForL_N hg hb hm xs b1 b' h δ2 a2
      exact ⟨δ3, by simp only [List.map_cons, dForL, hg b δ a, if_true, e1, e2, e3], a3⟩
theorem k_forN {vs : List Nat} {xs : List α} {e : α → D} {f : α → β → Option β} {b0 : β} {B : α → β → List Sl} {k : β → Option τ} (A0 : β → List Sl) (hs : RS p A ms ⟨xs.map e, gs⟩ A1) (l : Le A1 (A0 b0)) (hk : gsIn kp gs = true) (hg : ∀ b, Gd (A0 b) gs)
    (hb : ∀ x b, Bd vs (A0 b) bd (e x) (B x b)) (hm : ∀ x b, RB (B x b) mb (f x b) (Nx A0)) (hr : ∀ b, RB (A0 b) rest (k b) S) : RB A (dSeq (dFor kp ms bd mb) rest) (bnd (forN f xs b0) k) S := fun t e δ a => by
  obtain ⟨b, h1, h2⟩ := bnd_eq e
  obtain ⟨δ1, e1, a1, _⟩ := hs δ a
  obtain ⟨δ2, e2, a2⟩ := dForL_N hg hb hm xs b0 b h1 δ1 (a1.le l)
  simp only [dSeq, dFor, e1, hk, if_true, e2]
  exact hr b t h2 δ2 a2
theorem dForL_R {vs : List Nat} {e : α → D} {f : α → β → Option (Res β ρ)} {T : ρ → Out → Prop} (hg : ∀ b, Gd (A0 b) gs) {B : α → β → List Sl} (hb : ∀ x b, Bd vs (A0 b) bd (e x) (B x b)) (hm : ∀ x b, RB (B x b) mb (f x b) (Rs A0 T)) :
    ∀ (xs : List α) (b : β) (r : Res β ρ), forR f xs b = some r → ∀ δ, Agr (A0 b) δ → ∃ out, dForL gs bd mb (xs.map e) δ = some out ∧ match r with | .nx b' => ∃ δ', out = .nx δ' ∧ Agr (A0 b') δ' | .rt r => T r out ∧ ∃ d δ, out = .rt d δ | _ => False
  | [], b, b', h, δ, a => by
    cases (Option.some.inj h)
    exact ⟨_, by simp only [List.map_nil, dForL, hg b δ a, if_true], δ, rfl, a⟩
  | x :: xs, b, b', h, δ, a => by
    simp only [forR] at h
    cases h1 : f x b with
    | none => rw [h1] at h; cases h
    | some b1 =>
      rw [h1] at h
      obtain ⟨δ1, e1, a1, _⟩ := hb x b δ a
      obtain ⟨out, e2, s⟩ := hm x b b1 h1 δ1 a1
      cases b1 with
      | nx b1 =>
        obtain ⟨δ2, rfl, a2⟩ := s
        obtain ⟨o3, e3, a3⟩ := dForL_R hg hb hm xs b1 b' h δ2 a2
        exact ⟨o3, by simp only [List.map_cons, dForL, hg b δ a, if_true, e1, e2, e3], a3⟩
      | ct b1 =>
        obtain ⟨δ2, rfl, a2⟩ := s
        obtain ⟨o3, e3, a3⟩ := dForL_R hg hb hm xs b1 b' h δ2 a2
        exact ⟨o3, by simp only [List.map_cons, dForL, hg b δ a, if_true, e1, e2, e3], a3⟩
      | bk b1 =>
        obtain ⟨δ2, rfl, a2⟩ := s
        cases (Option.some.inj h)
        exact ⟨.nx δ2, by simp only [List.map_cons, dForL, hg b δ a, if_true, e1, e2], δ2, rfl, a2⟩
      | rt r1 =>
        cases (Option.some.inj h)
        obtain ⟨s1, d, δ2, rfl⟩ := s
        exact ⟨_, by simp only [List.map_cons, dForL, hg b δ a, if_true, e1, e2], s1, d, δ2, rfl⟩
theorem k_forR {vs : List Nat} {xs : List α} {e : α → D} {f : α → β → Option (Res β ρ)} {b0 : β} {B : α → β → List Sl} {k : β → Option τ} {j : ρ → Option τ} (T : ρ → Out → Prop) (A0 : β → List Sl) (hs : RS p A ms ⟨xs.map e, gs⟩ A1) (l : Le A1 (A0 b0)) (hk : gsIn kp gs = true) (hg : ∀ b, Gd (A0 b) gs)
    (hb : ∀ x b, Bd vs (A0 b) bd (e x) (B x b)) (hm : ∀ x b, RB (B x b) mb (f x b) (Rs A0 T)) (hj : ∀ r t out, j r = some t → T r out → (∃ d δ, out = .rt d δ) → S t out) (hr : ∀ b, RB (A0 b) rest (k b) S) : RB A (dSeq (dFor kp ms bd mb) rest) (bnd (forR f xs b0) (onR j k)) S := fun t e δ a => by
  obtain ⟨b, h1, h2⟩ := bnd_eq e
  obtain ⟨δ1, e1, a1, _⟩ := hs δ a
  obtain ⟨o2, e2, a2⟩ := dForL_R hg hb hm xs b0 b h1 δ1 (a1.le l)
  simp only [dSeq, dFor, e1, hk, if_true, e2]
  cases b with
  | nx b =>
    obtain ⟨δ2, rfl, a2⟩ := a2
    exact hr b t h2 δ2 a2
  | rt r =>
    obtain ⟨s, d, δ2, rfl⟩ := a2
    exact ⟨_, rfl, hj r t _ h2 s ⟨d, δ2, rfl⟩⟩
  | bk b => exact a2.elim
  | ct b => exact a2.elim
theorem dWhile_R {c : β → Option Bool} {f : β → Option (Res β ρ)} {T : ρ → Out → Prop} (hc : ∀ b v, c b = some v → RT p (A0 b) mt v (A0 b)) (hm : ∀ b, c b = some true → RB (A0 b) mb (f b) (Rs A0 T)) :
    ∀ (n : Nat) (b : β) (r : Res β ρ), whileR c f n b = some r → ∀ δ, Agr (A0 b) δ → ∃ out, dWhile mt mb n δ = some out ∧ match r with | .nx b' => ∃ δ', out = .nx δ' ∧ Agr (A0 b') δ' | .rt r => T r out ∧ ∃ d δ, out = .rt d δ | _ => False
  | 0, b, b', h, δ, a => by cases h
  | n + 1, b, b', h, δ, a => by
    simp only [whileR] at h
    cases h0 : c b with
    | none => rw [h0] at h; cases h
    | some v =>
      rw [h0] at h
      obtain ⟨δ1, e1, a1, _⟩ := hc b v h0 δ a
      cases v with
      | false =>
        cases (Option.some.inj h)
        exact ⟨_, by simp only [dWhile, e1], δ1, rfl, a1⟩
      | true =>
        cases h1 : f b with
        | none => rw [h1] at h; cases h
        | some b1 =>
          rw [h1] at h
          obtain ⟨out, e2, s⟩ := hm b h0 b1 h1 δ1 a1
          cases b1 with
          | nx b1 =>
            obtain ⟨δ2, rfl, a2⟩ := s
            obtain ⟨o3, e3, a3⟩ := dWhile_R hc hm n b1 b' h δ2 a2
            exact ⟨o3, by simp only [dWhile, e1, e2, e3], a3⟩
          | ct b1 =>
            obtain ⟨δ2, rfl, a2⟩ := s
            obtain ⟨o3, e3, a3⟩ := dWhile_R hc hm n b1 b' h δ2 a2
            exact ⟨o3, by simp only [dWhile, e1, e2, e3], a3⟩
          | bk b1 =>
            obtain ⟨δ2, rfl, a2⟩ := s
            cases (Option.some.inj h)
            exact ⟨.nx δ2, by simp only [dWhile, e1, e2], δ2, rfl, a2⟩
          | rt r1 =>
            cases (Option.some.inj h)
            obtain ⟨s1, d, δ2, rfl⟩ := s
            exact ⟨_, by simp only [dWhile, e1, e2], s1, d, δ2, rfl⟩
theorem k_whileR {c : β → Option Bool} {f : β → Option (Res β ρ)} {b0 : β} {k : β → Option τ} {j : ρ → Option τ} {w : Nat} (T : ρ → Out → Prop) (A0 : β → List Sl) (l : Le A (A0 b0)) (hc : ∀ b v, c b = some v → RT p (A0 b) mt v (A0 b)) (hm : ∀ b, c b = some true → RB (A0 b) mb (f b) (Rs A0 T))
    (hj : ∀ r t out, j r = some t → T r out → (∃ d δ, out = .rt d δ) → S t out) (hr : ∀ b, RB (A0 b) rest (k b) S) : RB A (dSeq (dWhile mt mb w) rest) (bnd (whileR c f w b0) (onR j k)) S := fun t e δ a => by
  obtain ⟨b, h1, h2⟩ := bnd_eq e
  obtain ⟨o2, e2, a2⟩ := dWhile_R hc hm w b0 b h1 δ (a.le l)
  simp only [dSeq, e2]
  cases b with
  | nx b =>
    obtain ⟨δ2, rfl, a2⟩ := a2
    exact hr b t h2 δ2 a2
  | rt r =>
    obtain ⟨s, d, δ2, rfl⟩ := a2
    exact ⟨_, rfl, hj r t _ h2 s ⟨d, δ2, rfl⟩⟩
  | bk b => exact a2.elim
  | ct b => exact a2.elim
/-! leaves -/
theorem nx_le {b : β} (l : Le A (A0 b)) : ∀ δ, Agr A δ → Nx A0 b (.nx δ) := fun δ a => ⟨δ, rfl, a.le l⟩
theorem rs_nx {T : ρ → Out → Prop} {b : β} (l : Le A (A0 b)) : ∀ δ, Agr A δ → Rs A0 T (.nx b) (.nx δ) := fun δ a => ⟨δ, rfl, a.le l⟩
theorem rs_rt {T : ρ → Out → Prop} {r : ρ} {d : D} (h : ∀ δ, Agr A δ → T r (.rt d δ)) : ∀ δ, Agr A δ → Rs A0 T (.rt r) (.rt d δ) := fun δ a => ⟨h δ a, d, δ, rfl⟩
theorem rt_le {er : ρ → D} {Ar : ρ → List Sl} {r : ρ} (l : Le A (Ar r)) : ∀ δ, Agr A δ → Rt er Ar r (.rt (er r) δ) := fun δ a => ⟨δ, rfl, a.le l⟩
theorem j_some {T : ρ → Out → Prop} : ∀ r t out, (some r : Option ρ) = some t → T r out → (∃ d δ, out = .rt d δ) → T t out := fun r t out e h _ => by cases e; exact h
theorem j_rs {T : ρ → Out → Prop} : ∀ r t out, (some (.rt r) : Option (Res β ρ)) = some t → T r out → (∃ d δ, out = .rt d δ) → Rs A0 T t out := fun r t out e h g => by cases e; exact ⟨h, g⟩
/-! blocks in brackets -/
theorem restD_len (δ0 : DE) : ∀ (vs : List Nat) (δ2 : DE), (restD δ0 δ2 vs).length = δ2.length
  | [], _ => rfl
  | v :: vs, δ2 => by rw [restD, restD_len δ0 vs, List.length_set]
theorem restD_get (δ0 : DE) : ∀ (vs : List Nat) (δ2 : DE) (i : Nat), i ∉ vs → (restD δ0 δ2 vs)[i]? = δ2[i]?
  | [], _, _, _ => rfl
  | v :: vs, δ2, i, h => by
    simp only [List.mem_cons, not_or] at h
    rw [restD, restD_get δ0 vs _ i h.2, List.getElem?_set_ne (Ne.symm h.1)]
theorem setSl_get {A : List Sl} : ∀ {vs : List Nat} {i : Nat} {d : D}, (setSl A vs)[i]? = some (.is d) → i ∉ vs
  | [], _, _, _ => by simp
  | v :: vs, i, d, h => by
    rw [setSl, List.getElem?_set] at h
    by_cases hv : v = i
    · rw [if_pos hv] at h
      split at h <;> cases h
    · rw [if_neg hv] at h
      simp only [List.mem_cons, not_or]
      exact ⟨Ne.symm hv, setSl_get h⟩
theorem Agr.rst {A : List Sl} {vs : List Nat} {δ2 : DE} (h : Agr (setSl A vs) δ2) (δ0 : DE) : Agr (setSl A vs) (restD δ0 δ2 vs) :=
  ⟨by rw [restD_len]; exact h.len, fun i d e => by rw [restD_get δ0 vs δ2 i (setSl_get e)]; exact h.get i d e⟩
theorem wipe_get2 : ∀ {vs : List Nat} {δ : DE} {i : Nat}, i ∈ vs → i < δ.length → (wipeD δ vs)[i]? = some none
  | v :: vs, δ, i, h, hl => by
    rw [wipeD, List.getElem?_set]
    by_cases hv : v = i
    · rw [if_pos hv, if_pos (by rw [wipeD_len]; omega)]
    · rw [if_neg hv]
      rcases List.mem_cons.mp h with h | h
      · exact absurd h.symm hv
      · exact wipe_get2 h hl
theorem wipe_get3 : ∀ {vs : List Nat} {δ : DE} {i : Nat}, i ∉ vs → (wipeD δ vs)[i]? = δ[i]?
  | [], _, _, _ => rfl
  | v :: vs, δ, i, h => by
    simp only [List.mem_cons, not_or] at h
    rw [wipeD, List.getElem?_set_ne (Ne.symm h.1), wipe_get3 h.2]
/-- what changes only the block's own names is as before when they are wiped -/
theorem wipe_eq {vs : List Nat} {δ δ' : DE} (hl : δ'.length = δ.length) (h : ∀ i, i ∉ vs → δ'[i]? = δ[i]?) : wipeD δ' vs = wipeD δ vs := by
  apply List.ext_getElem?
  intro i
  by_cases hv : i ∈ vs
  · by_cases hi : i < δ.length
    · rw [wipe_get2 hv hi, wipe_get2 hv (by omega)]
    · rw [List.getElem?_eq_none (by rw [wipeD_len]; omega), List.getElem?_eq_none (by rw [wipeD_len]; omega)]
  · rw [wipe_get3 hv, wipe_get3 hv, h i hv]
theorem dLcL_S {vs vb : List Nat} {B : α → σ → List Sl} {B1 : α → σ → List Sl} {A0 : σ → List Sl} {ex : α → D} {g : β → D} {t : α → σ → Option (Bool × σ)} {e : α → σ → Option (β × σ)} (hg : ∀ s, Gd (setSl (A0 s) vs) gs) (hb : ∀ x s, Bd vb (setSl (A0 s) vs) bd (ex x) (B x s))
    (ht : ∀ x s v s', t x s = some (v, s') → RT p1 (B x s) mt v (B1 x s')) (he : ∀ x s y s', e x s = some (y, s') → RV p2 (B1 x s) me (.own (g y)) (B1 x s')) (hw : ∀ x s, Le (setSl (B1 x s) vs) (setSl (A0 s) vs)) :
    ∀ (xs : List α) (s : σ) (ys : List β) (s' : σ), lcS t e xs s = some (ys, s') → ∀ δ, Agr (setSl (A0 s) vs) δ → ∃ δ', dLcL gs vs bd mt me (xs.map ex) δ = some (ys.map g, δ') ∧ Agr (setSl (A0 s') vs) δ'
  | [], s, ys, s', h, δ, a => by
    cases (Option.some.inj h)
    exact ⟨δ, by simp only [List.map_nil, dLcL, hg s δ a, if_true], a⟩
  | x :: xs, s, ys, s', h, δ, a => by
    simp only [lcS] at h
    obtain ⟨δ1, e1, a1, _⟩ := hb x s δ a
    cases h1 : t x s with
    | none => rw [h1] at h; cases h
    | some q =>
      obtain ⟨v, s1⟩ := q
      rw [h1] at h
      obtain ⟨δ2, e2, a2, _⟩ := ht x s v s1 h1 δ1 a1
      cases v with
      | false =>
        obtain ⟨δ3, e3, a3⟩ := dLcL_S hg hb ht he hw xs s1 ys s' h _ ((a2.wipe vs).le (hw x s1))
        exact ⟨δ3, by simp only [List.map_cons, dLcL, hg s δ a, if_true, e1, e2, e3], a3⟩
      | true =>
        simp only at h
        cases h3 : e x s1 with
        | none => rw [h3] at h; cases h
        | some q =>
          obtain ⟨y, s2⟩ := q
          rw [h3] at h
          obtain ⟨δ4, e4, a4, _⟩ := he x s1 y s2 h3 δ2 a2
          cases h5 : lcS t e xs s2 with
          | none => simp only [h5] at h; cases h
          | some q =>
            obtain ⟨zs, s3⟩ := q
            simp only [h5] at h
            cases (Option.some.inj h)
            obtain ⟨δ3, e3, a3⟩ := dLcL_S hg hb ht he hw xs s2 _ _ h5 _ ((a4.wipe vs).le (hw x s2))
            exact ⟨δ3, by simp only [List.map_cons, dLcL, hg s δ a, if_true, e1, e2, e4, e3], a3⟩
/-- with effects -/
theorem r_lcS {vs vb : List Nat} {xs : List α} {ys : List β} {s s' : σ} {ex : α → D} {g : β → D} {t : α → σ → Option (Bool × σ)} {e : α → σ → Option (β × σ)} {B B1 : α → σ → List Sl} (A0 : σ → List Sl) (hs : RS p A ms ⟨xs.map ex, gs⟩ (A0 s)) (hk : gsIn (kpOut vs) gs = true) (h : lcS t e xs s = some (ys, s')) (hg : ∀ s, Gd (setSl (A0 s) vs) gs)
    (hb : ∀ x s, Bd vb (setSl (A0 s) vs) bd (ex x) (B x s)) (ht : ∀ x s v s', t x s = some (v, s') → RT p1 (B x s) mt v (B1 x s')) (he : ∀ x s y s', e x s = some (y, s') → RV p2 (B1 x s) me (.own (g y)) (B1 x s')) (hw : ∀ x s, Le (setSl (B1 x s) vs) (setSl (A0 s) vs)) :
    RV false A (dLc vs ms bd mt me) (.own (.lst (ys.map g))) (setSl (A0 s') vs) := fun δ a => by
  obtain ⟨δ1, e1, a1, _⟩ := hs δ a
  obtain ⟨δ2, e2, a2⟩ := dLcL_S hg hb ht he hw xs s ys s' h _ (a1.wipe vs)
  exact ⟨_, by simp only [dLc, e1, hk, if_true, e2], a2.rst δ1, fun h => by cases h⟩
end
end Y


set_option Elab.async false
set_option linter.all false
set_option maxRecDepth 100000
/-! blocks in brackets without effects, generators -/
namespace Y
open PySem PySem.Spec PyProof.Rows L2 Z
section
variable {p p1 p2 p3 : Bool} {α β σ τ ρ : Type} {A A1 A2 A3 : List Sl} {me : Den} {mt : DenT} {ms : DenS} {bd : Bnd} {gs : List (Nat × D)}
theorem restD_wipe (δ0 : DE) : ∀ vs : List Nat, restD δ0 (wipeD δ0 vs) vs = δ0
  | [] => rfl
  | v :: vs => by
    rw [restD, wipeD, List.set_set]
    cases h : (wipeD δ0 vs)[v]? with
    | none =>
      have hl := List.getElem?_eq_none_iff.mp h
      simp only [h]
      rw [List.set_eq_of_length_le hl]
      exact restD_wipe δ0 vs
    | some x =>
      obtain ⟨hl, hx⟩ := List.getElem?_eq_some_iff.mp h
      simp only [h]
      have e : (wipeD δ0 vs).set v x = wipeD δ0 vs := by rw [← hx]; exact List.set_getElem_self hl
      rw [e]
      exact restD_wipe δ0 vs
theorem wipe_idem (vs : List Nat) (δ : DE) : wipeD (wipeD δ vs) vs = wipeD δ vs := wipe_eq (wipeD_len δ vs) fun i hi => wipe_get3 hi
/-- one item: what the test and the element do in the wiped environment -/
structure El {vs vb : List Nat} (A : List Sl) (bd : Bnd) (mt : DenT) (me : Den) (ex : α → D) (g : β → D) (t : α → Option Bool) (e : α → Option β) (B : α → List Sl) : Prop where
  fb : ∀ x, Bd vb (setSl A vs) bd (ex x) (B x)
  ft : ∀ x v, t x = some v → RT true (B x) mt v (B x)
  fe : ∀ x y, t x = some true → e x = some y → RV true (B x) me (.own (g y)) (B x)
  fs : ∀ i ∈ vb, i ∈ vs
theorem El.run {vs vb : List Nat} {ex : α → D} {g : β → D} {t : α → Option Bool} {e : α → Option β} {B : α → List Sl} (E : El (vs := vs) (vb := vb) A bd mt me ex g t e B) {δw : DE} (a : Agr (setSl A vs) δw) (hw : wipeD δw vs = δw) (x : α) :
    ∃ δ1, bd (ex x) δw = some δ1 ∧ wipeD δ1 vs = δw ∧ (∀ v, t x = some v → mt δ1 = some (v, δ1)) ∧ (∀ y, t x = some true → e x = some y → me δ1 = some (.own (g y), δ1)) := by
  obtain ⟨δ1, e1, a1, l1, k1⟩ := E.fb x δw a
  refine ⟨δ1, e1, ?_, fun v hv => ?_, fun y hv hy => ?_⟩
  · rw [wipe_eq (δ := δw) (vs := vs) l1 fun i hi => k1 i fun h => hi (E.fs i h), hw]
  · obtain ⟨δ2, e2, a2, u⟩ := E.ft x v hv δ1 a1
    rw [u rfl] at e2; exact e2
  · obtain ⟨δ2, e2, a2, u⟩ := E.fe x y hv hy δ1 a1
    rw [u rfl] at e2; exact e2
theorem dLcL_O {vs vb : List Nat} {ex : α → D} {g : β → D} {t : α → Option Bool} {e : α → Option β} {B : α → List Sl} (E : El (vs := vs) (vb := vb) A bd mt me ex g t e B) {δw : DE} (a : Agr (setSl A vs) δw) (hw : wipeD δw vs = δw) (hg : gOk gs δw = true) :
    ∀ (xs : List α) (ys : List β), lcO t e xs = some ys → dLcL gs vs bd mt me (xs.map ex) δw = some (ys.map g, δw)
  | [], ys, h => by
    cases (Option.some.inj h)
    simp only [List.map_nil, dLcL, hg, if_true]
  | x :: xs, ys, h => by
    obtain ⟨δ1, e1, w1, t1, m1⟩ := E.run a hw x
    simp only [lcO] at h
    cases h1 : t x with
    | none => rw [h1] at h; cases h
    | some v =>
      rw [h1] at h
      cases v with
      | false =>
        have ih := dLcL_O E a hw hg xs ys h
        simp only [List.map_cons, dLcL, hg, if_true, e1, t1 _ h1, w1, ih]
      | true =>
        cases h2 : e x with
        | none => simp only [h2] at h; cases h
        | some y =>
          simp only [h2] at h
          cases h3 : lcO t e xs with
          | none => simp only [h3] at h; cases h
          | some zs =>
            simp only [h3] at h
            cases (Option.some.inj h)
            have ih := dLcL_O E a hw hg xs zs h3
            simp only [List.map_cons, dLcL, hg, if_true, e1, t1 _ h1, m1 _ h1 h2, w1, ih]
theorem r_lcO {vs vb : List Nat} {xs : List α} {ys : List β} {ex : α → D} {g : β → D} {t : α → Option Bool} {e : α → Option β} {B : α → List Sl} (hs : RS p A ms ⟨xs.map ex, gs⟩ A1) (hk : gsIn (kpOut vs) gs = true) (hg : Gd (setSl A1 vs) gs) (E : El (vs := vs) (vb := vb) A1 bd mt me ex g t e B) (h : lcO t e xs = some ys) :
    RV p A (dLc vs ms bd mt me) (.own (.lst (ys.map g))) A1 := fun δ a => by
  obtain ⟨δ1, e1, a1, u⟩ := hs δ a
  have := dLcL_O E (a1.wipe vs) (wipe_idem vs δ1) (hg _ (a1.wipe vs)) xs ys h
  exact ⟨δ1, by simp only [dLc, e1, hk, if_true, this, restD_wipe], a1, u⟩
theorem dG_never {vs vb : List Nat} {ex : α → D} {g : β → D} {t : α → Option Bool} {e : α → Option β} {B : α → List Sl} (E : El (vs := vs) (vb := vb) A bd mt me ex g t e B) {δw : DE} (a : Agr (setSl A vs) δw) (hw : wipeD δw vs = δw) (hi : ∀ y, (g y).imm = true) :
    ∀ (xs : List α) (ys : List β), lcO t e xs = some ys → dG never (gx vs bd mt me δw) (xs.map ex) = some (ys.map g)
  | [], ys, h => by
    cases (Option.some.inj h)
    rfl
  | x :: xs, ys, h => by
    obtain ⟨δ1, e1, w1, t1, m1⟩ := E.run a hw x
    simp only [lcO] at h
    cases h1 : t x with
    | none => rw [h1] at h; cases h
    | some v =>
      rw [h1] at h
      cases v with
      | false =>
        have ih := dG_never E a hw hi xs ys h
        simp only [List.map_cons, dG, gx, e1, t1 _ h1, w1, if_true, ih]
      | true =>
        cases h2 : e x with
        | none => simp only [h2] at h; cases h
        | some y =>
          simp only [h2] at h
          cases h3 : lcO t e xs with
          | none => simp only [h3] at h; cases h
          | some zs =>
            simp only [h3] at h
            cases (Option.some.inj h)
            have ih := dG_never E a hw hi xs zs h3
            simp only [List.map_cons, dG, gx, e1, t1 _ h1, m1 _ h1 h2, w1, hi, and_self, if_true, never, ih]; rfl
theorem dG_all {vs vb : List Nat} {ex : α → D} {t e : α → Option Bool} {B : α → List Sl} (E : El (vs := vs) (vb := vb) A bd mt me ex D.bl t e B) {δw : DE} (a : Agr (setSl A vs) δw) (hw : wipeD δw vs = δw) :
    ∀ (xs : List α) (v : Bool), allO t e xs = some v → ∃ R, dG stopAll (gx vs bd mt me δw) (xs.map ex) = some R ∧ allT R = some v
  | [], v, h => by
    cases (Option.some.inj h)
    exact ⟨[], rfl, rfl⟩
  | x :: xs, w, h => by
    obtain ⟨δ1, e1, w1, t1, m1⟩ := E.run a hw x
    simp only [allO] at h
    cases h1 : t x with
    | none => rw [h1] at h; cases h
    | some v =>
      rw [h1] at h
      cases v with
      | false =>
        obtain ⟨R, ih, g⟩ := dG_all E a hw xs w h
        exact ⟨R, by simp only [List.map_cons, dG, gx, e1, t1 _ h1, w1, if_true, ih], g⟩
      | true =>
        cases h2 : e x with
        | none => simp only [h2] at h; cases h
        | some y =>
          simp only [h2] at h
          cases y with
          | false =>
            cases (Option.some.inj h)
            exact ⟨[.bl false], by simp only [List.map_cons, dG, gx, e1, t1 _ h1, m1 _ h1 h2, w1, D.imm, and_self, if_true, stopAll, truthS], rfl⟩
          | true =>
            obtain ⟨R, ih, g⟩ := dG_all E a hw xs w h
            exact ⟨.bl true :: R, by simp only [List.map_cons, dG, gx, e1, t1 _ h1, m1 _ h1 h2, w1, D.imm, and_self, if_true, stopAll, truthS, ih]; rfl, by simp only [allT, truthS, g]⟩
theorem dG_any {vs vb : List Nat} {ex : α → D} {t e : α → Option Bool} {B : α → List Sl} (E : El (vs := vs) (vb := vb) A bd mt me ex D.bl t e B) {δw : DE} (a : Agr (setSl A vs) δw) (hw : wipeD δw vs = δw) :
    ∀ (xs : List α) (v : Bool), anyO t e xs = some v → ∃ R, dG stopAny (gx vs bd mt me δw) (xs.map ex) = some R ∧ anyT R = some v
  | [], v, h => by
    cases (Option.some.inj h)
    exact ⟨[], rfl, rfl⟩
  | x :: xs, w, h => by
    obtain ⟨δ1, e1, w1, t1, m1⟩ := E.run a hw x
    simp only [anyO] at h
    cases h1 : t x with
    | none => rw [h1] at h; cases h
    | some v =>
      rw [h1] at h
      cases v with
      | false =>
        obtain ⟨R, ih, g⟩ := dG_any E a hw xs w h
        exact ⟨R, by simp only [List.map_cons, dG, gx, e1, t1 _ h1, w1, if_true, ih], g⟩
      | true =>
        cases h2 : e x with
        | none => simp only [h2] at h; cases h
        | some y =>
          simp only [h2] at h
          cases y with
          | true =>
            cases (Option.some.inj h)
            exact ⟨[.bl true], by simp only [List.map_cons, dG, gx, e1, t1 _ h1, m1 _ h1 h2, w1, D.imm, and_self, if_true, stopAny, truthS], rfl⟩
          | false =>
            obtain ⟨R, ih, g⟩ := dG_any E a hw xs w h
            exact ⟨.bl false :: R, by simp only [List.map_cons, dG, gx, e1, t1 _ h1, m1 _ h1 h2, w1, D.imm, and_self, if_true, stopAny, truthS, ih]; rfl, by simp only [anyT, truthS, g]⟩
theorem gOk_wipe {vs : List Nat} {δ : DE} : ∀ {gs : List (Nat × D)}, gOk gs (wipeD δ vs) = true → gOk gs δ = true
  | [], _ => rfl
  | (i, d) :: gs, h => by
    simp only [gOk, Bool.and_eq_true, decide_eq_true_eq] at h ⊢
    refine ⟨?_, gOk_wipe h.2⟩
    by_cases hv : i ∈ vs
    · by_cases hl : i < δ.length
      · rw [wipe_get2 hv hl] at h; cases h.1
      · rw [List.getElem?_eq_none (by rw [wipeD_len]; omega)] at h; cases h.1
    · rw [wipe_get3 hv] at h; exact h.1
/-- a generator, walked to its end -/
theorem r_fold {f : List D → Option D} {vs vb : List Nat} {xs : List α} {ys : List β} {d : D} {ex : α → D} {g : β → D} {t : α → Option Bool} {e : α → Option β} {B : α → List Sl} (hs : RS p A ms ⟨xs.map ex, gs⟩ A1) (hg : Gd (setSl A1 vs) gs) (E : El (vs := vs) (vb := vb) A1 bd mt me ex g t e B)
    (hi : ∀ y, (g y).imm = true) (h : lcO t e xs = some ys) (hf : f (ys.map g) = some d) : RV p A (dFold f (dGe vs ms bd mt me never)) (.own d) A1 := fun δ a => by
  obtain ⟨δ1, e1, a1, u⟩ := hs δ a
  have := dG_never E (a1.wipe vs) (wipe_idem vs δ1) hi xs ys h
  exact ⟨δ1, by simp only [dFold, dGe, e1, gOk_wipe (hg _ (a1.wipe vs)), if_true, this, hf], a1, u⟩
theorem r_all {vs vb : List Nat} {xs : List α} {v : Bool} {ex : α → D} {t e : α → Option Bool} {B : α → List Sl} (hs : RS p A ms ⟨xs.map ex, gs⟩ A1) (hg : Gd (setSl A1 vs) gs) (E : El (vs := vs) (vb := vb) A1 bd mt me ex D.bl t e B) (h : allO t e xs = some v) :
    RV p A (dFold fAll (dGe vs ms bd mt me stopAll)) (.own (.bl v)) A1 := fun δ a => by
  obtain ⟨δ1, e1, a1, u⟩ := hs δ a
  obtain ⟨R, e2, e3⟩ := dG_all E (a1.wipe vs) (wipe_idem vs δ1) xs v h
  exact ⟨δ1, by simp only [dFold, dGe, e1, gOk_wipe (hg _ (a1.wipe vs)), if_true, e2, fAll, e3, Option.map_some], a1, u⟩
theorem r_any {vs vb : List Nat} {xs : List α} {v : Bool} {ex : α → D} {t e : α → Option Bool} {B : α → List Sl} (hs : RS p A ms ⟨xs.map ex, gs⟩ A1) (hg : Gd (setSl A1 vs) gs) (E : El (vs := vs) (vb := vb) A1 bd mt me ex D.bl t e B) (h : anyO t e xs = some v) :
    RV p A (dFold fAny (dGe vs ms bd mt me stopAny)) (.own (.bl v)) A1 := fun δ a => by
  obtain ⟨δ1, e1, a1, u⟩ := hs δ a
  obtain ⟨R, e2, e3⟩ := dG_any E (a1.wipe vs) (wipe_idem vs δ1) xs v h
  exact ⟨δ1, by simp only [dFold, dGe, e1, gOk_wipe (hg _ (a1.wipe vs)), if_true, e2, fAny, e3, Option.map_some], a1, u⟩
end
end Y


set_option Elab.async false
set_option linter.all false
set_option maxRecDepth 100000
/-! typed values and what the operators make of them -/
namespace Y
open PySem PySem.Spec PyProof.Rows L2 Z
/-- values of a kind as data that cannot be changed -/
structure Enc (α : Type) where
  enc : α → D
  eq : ∀ a b, eqD (enc a) (enc b) = true ↔ a = b
  imm : ∀ a, (enc a).imm = true
  dp : Nat
  hdp : ∀ a, (enc a).dp ≤ dp
  nn : Bool
  hnn : nn = true → ∀ a, enc a ≠ .non
  al : Bool
  hal : al = true → ∀ a b, PySem.W.alike (toPy (enc a)) (toPy (enc b)) = true
  nol : al = true → ∀ a, (enc a).nol = true
  tk : Bool
  htk : tk = true → ∀ a, isTupN (enc a) = true
  pl : Bool
  hpl : pl = true → ∀ a, isPlainS (enc a) = true
/-- rows of values of kinds that are known -/
structure Rw (α : Type) where
  row : α → List D
  len : Nat
  hlen : ∀ a, (row a).length = len
  eq : ∀ a b, PyData.eqvAll (toPys (row a)) (toPys (row b)) = true ↔ a = b
  imm : ∀ a, D.imms (row a) = true
  dp : Nat
  hdp : ∀ a, D.dps (row a) ≤ dp
  al : Bool
  hal : al = true → ∀ a b, PySem.W.alikeAll (toPys (row a)) (toPys (row b)) = true
  nol : al = true → ∀ a, D.nols (row a) = true
  tag : Option Str := none
  htag : ∀ s, tag = some s → ∀ a, ∃ r, row a = .str s :: r := by intro s h; cases h
def Ei : Enc Int where
  enc := .int
  eq a b := by simp [eqD, toPy, PyData.eqv]
  imm _ := rfl
  nol _ _ := rfl
  dp := 0
  hdp _ := by simp [D.dp]
  nn := true
  hnn _ a h := by cases h
  al := true
  hal _ a b := by simp [toPy, PySem.W.alike]
  tk := false
  htk h := by cases h
  pl := true
  hpl _ _ := rfl
def Eb : Enc Bool where
  enc := .bl
  eq a b := by simp [eqD, toPy, PyData.eqv]
  imm _ := rfl
  nol _ _ := rfl
  dp := 0
  hdp _ := by simp [D.dp]
  nn := true
  hnn _ a h := by cases h
  al := true
  hal _ a b := by simp [toPy, PySem.W.alike]
  tk := false
  htk h := by cases h
  pl := true
  hpl _ _ := rfl
def Es : Enc Str where
  enc := .str
  eq a b := by simp [eqD, toPy, PyData.eqv]
  imm _ := rfl
  nol _ _ := rfl
  dp := 0
  hdp _ := by simp [D.dp]
  nn := true
  hnn _ a h := by cases h
  al := true
  hal _ a b := by simp [toPy, PySem.W.alike]
  tk := false
  htk h := by cases h
  pl := true
  hpl _ _ := rfl
def Eu : Enc Unit where
  enc _ := .non
  eq a b := by simp [eqD, toPy, PyData.eqv]
  imm _ := rfl
  nol _ _ := rfl
  dp := 0
  hdp _ := by simp [D.dp]
  nn := false
  hnn h := by cases h
  al := true
  hal _ a b := by simp [toPy, PySem.W.alike]
  tk := false
  htk h := by cases h
  pl := false
  hpl h := by cases h
theorem eqv_non_l {d : D} (n : d.imm = true) (h : eqD .non d = true) : d = .non := by cases d <;> simp_all [eqD, toPy, PyData.eqv, D.imm]
theorem eqv_non_r {d : D} (n : d.imm = true) (h : eqD d .non = true) : d = .non := by cases d <;> simp_all [eqD, toPy, PyData.eqv, D.imm]
/-- a value or None -/
def Eo {α : Type} (E : Enc α) (h : E.nn = true) : Enc (Option α) where
  enc o := match o with
    | some a => E.enc a
    | none => .non
  eq a b := by
    cases a with
    | none => cases b with
      | none => simp [eqD, toPy, PyData.eqv]
      | some b => simp only [reduceCtorEq, iff_false]; exact fun e => E.hnn h b (eqv_non_l (E.imm b) e)
    | some a => cases b with
      | none => simp only [reduceCtorEq, iff_false]; exact fun e => E.hnn h a (eqv_non_r (E.imm a) e)
      | some b => simp only [Option.some.injEq]; exact E.eq a b
  imm a := by cases a with
    | none => rfl
    | some a => exact E.imm a
  nol h := by cases h
  dp := E.dp
  hdp a := by cases a with
    | none => simp [D.dp]
    | some a => exact E.hdp a
  nn := false
  hnn h := by cases h
  al := false
  hal h := by cases h
  tk := false
  htk h := by cases h
  pl := false
  hpl h := by cases h
section
variable {α β : Type} (E : Enc α)
theorem map_eqv : ∀ (a b : List α), PyData.eqvAll (toPys (a.map E.enc)) (toPys (b.map E.enc)) = true ↔ a = b
  | [], [] => by simp [toPys, PyData.eqvAll]
  | [], _ :: _ => by simp [toPys, PyData.eqvAll]
  | _ :: _, [] => by simp [toPys, PyData.eqvAll]
  | x :: xs, y :: ys => by
    simp only [List.map_cons, toPys, PyData.eqvAll, Bool.and_eq_true, List.cons.injEq]
    exact and_congr (E.eq x y) (map_eqv xs ys)
theorem map_imms : ∀ (a : List α), D.imms (a.map E.enc) = true
  | [] => rfl
  | x :: xs => by simp only [List.map_cons, D.imms, E.imm x, map_imms xs, Bool.and_self]
theorem map_nols (ha : E.al = true) : ∀ (a : List α), D.nols (a.map E.enc) = true
  | [] => rfl
  | x :: xs => by simp only [List.map_cons, D.nols, E.nol ha x, map_nols ha xs, Bool.and_self]
theorem map_dps : ∀ (a : List α), D.dps (a.map E.enc) ≤ E.dp
  | [] => by simp [D.dps]
  | x :: xs => by
    simp only [List.map_cons, D.dps]
    have := E.hdp x
    have := map_dps xs
    omega
theorem map_alike (h : E.al = true) : ∀ (a b : List α), PySem.W.alikeAll (toPys (a.map E.enc)) (toPys (b.map E.enc)) = true
  | [], _ => by simp [toPys, PySem.W.alikeAll]
  | _ :: _, [] => by simp [toPys, PySem.W.alikeAll]
  | x :: xs, y :: ys => by
    simp only [List.map_cons, toPys, PySem.W.alikeAll, E.hal h x y, map_alike h xs ys, Bool.and_self]
/-- rows of any length, of one kind -/
def Et : Enc (List α) where
  enc xs := .tup (xs.map E.enc)
  eq a b := by simp only [eqD, toPy, PyData.eqv]; exact map_eqv E a b
  imm a := map_imms E a
  nol ha a := map_nols E ha a
  dp := E.dp + 1
  hdp a := by simp only [D.dp]; have := map_dps E a; omega
  nn := true
  hnn _ a h := by cases h
  al := E.al
  hal h a b := by simp only [toPy, PySem.W.alike]; exact map_alike E h a b
  tk := true
  htk _ _ := rfl
  pl := false
  hpl h := by cases h
def R1 : Rw α where
  row a := [E.enc a]
  len := 1
  hlen _ := rfl
  eq a b := by simp only [toPys, PyData.eqvAll, Bool.and_true]; exact E.eq a b
  imm a := by simp only [D.imms, E.imm a, Bool.and_self]
  nol ha a := by simp only [D.nols, E.nol ha a, Bool.and_self]
  dp := E.dp
  hdp a := by simp only [D.dps]; have := E.hdp a; omega
  al := E.al
  hal h a b := by simp only [toPys, PySem.W.alikeAll, E.hal h a b, Bool.and_self]
def Rc (F : Rw β) : Rw (α × β) where
  row a := E.enc a.1 :: F.row a.2
  len := F.len + 1
  hlen a := by simp only [List.length_cons, F.hlen]
  eq a b := by
    obtain ⟨a1, a2⟩ := a
    obtain ⟨b1, b2⟩ := b
    simp only [toPys, PyData.eqvAll, Bool.and_eq_true, Prod.mk.injEq]
    exact and_congr (E.eq a1 b1) (F.eq a2 b2)
  imm a := by simp only [D.imms, E.imm, F.imm, Bool.and_self]
  nol h a := by
    simp only [Bool.and_eq_true] at h
    simp only [D.nols, E.nol h.1, F.nol h.2, Bool.and_self]
  dp := max E.dp F.dp
  hdp a := by simp only [D.dps]; have := E.hdp a.1; have := F.hdp a.2; omega
  al := E.al && F.al
  hal h a b := by
    simp only [Bool.and_eq_true] at h
    simp only [toPys, PySem.W.alikeAll, E.hal h.1, F.hal h.2, Bool.and_self]
end
/-- a row as a tuple -/
def Er {α : Type} (F : Rw α) (h : (F.len != 0) = true := by rfl) : Enc α where
  enc a := .tup (F.row a)
  eq a b := by simp only [eqD, toPy, PyData.eqv]; exact F.eq a b
  imm a := F.imm a
  nol h a := F.nol h a
  dp := F.dp + 1
  hdp a := by simp only [D.dp]; have := F.hdp a; omega
  nn := true
  hnn _ a h := by cases h
  al := F.al
  hal h a b := by simp only [toPy, PySem.W.alike]; exact F.hal h a b
  tk := true
  htk _ a := by
    have := F.hlen a
    cases e : F.row a with
    | nil => rw [e] at this; simp at this; rw [← this] at h; simp at h
    | cons x xs => rfl
  pl := false
  hpl h := by cases h
/-! ### operators -/
section
variable {α β : Type} (E : Enc α) {n : Nat}
theorem enc_dep (a : α) (h : Nat.ble E.dp 59 = true) : dep (E.enc a) = true := dep_of (by have := E.hdp a; have := Nat.le_of_ble_eq_true h; omega)
theorem encs_dep (xs : List α) (h : Nat.ble E.dp 59 = true) : D.dps (xs.map E.enc) + 1 ≤ 60 := by have := map_dps E xs; have := Nat.le_of_ble_eq_true h; omega
theorem eqD_enc [DecidableEq α] (a b : α) : eqD (E.enc a) (E.enc b) = decide (a = b) := by
  rw [Bool.eq_iff_iff, E.eq, decide_eq_true_eq]
variable [DecidableEq α]
theorem f_eq (a b : α) (h : Nat.ble E.dp 59 = true) : fEq [E.enc a, E.enc b] = some (.bl (decide (a = b))) := by
  simp only [fEq, enc_dep E _ h, Bool.and_self, if_true, eqD_enc]
theorem f_ne (a b : α) (h : Nat.ble E.dp 59 = true) : fNe [E.enc a, E.enc b] = some (.bl (!decide (a = b))) := by
  simp only [fNe, enc_dep E _ h, Bool.and_self, if_true, eqD_enc]
theorem lst_eqD (xs ys : List α) : eqD (.lst (xs.map E.enc)) (.lst (ys.map E.enc)) = decide (xs = ys) := by
  rw [Bool.eq_iff_iff, decide_eq_true_eq]
  simp only [eqD, toPy, PyData.eqv]; exact map_eqv E xs ys
theorem f_neL (xs ys : List α) (h : Nat.ble E.dp 59 = true) : fNe [.lst (xs.map E.enc), .lst (ys.map E.enc)] = some (.bl (!decide (xs = ys))) := by
  have e1 : ∀ xs : List α, dep (.lst (xs.map E.enc)) = true := fun xs => dep_of (by simp only [D.dp]; exact encs_dep E xs h)
  simp only [fNe, e1, Bool.and_self, if_true, lst_eqD]
theorem any_enc (xs : List α) (a : α) : anyEq (xs.map E.enc) (E.enc a) = decide (a ∈ xs) := by
  rw [Bool.eq_iff_iff, decide_eq_true_eq]
  unfold anyEq
  rw [List.any_map, List.any_eq_true]
  exact ⟨fun ⟨y, hy, e⟩ => by rw [← (E.eq y a).mp e]; exact hy, fun hm => ⟨a, hm, (E.eq a a).mpr rfl⟩⟩
theorem f_ninL (a : α) (xs : List α) (h : Nat.ble E.dp 58 = true) : fNotIn [E.enc a, .lst (xs.map E.enc)] = some (.bl (!decide (a ∈ xs))) := by
  have h2 : Nat.ble E.dp 59 = true := by have := Nat.le_of_ble_eq_true h; exact Nat.ble_eq_true_of_le (by omega)
  simp only [fNotIn, enc_dep E _ h2, dep_of (d := .lst (xs.map E.enc)) (by simp only [D.dp]; exact encs_dep E xs h2), Bool.and_self, if_true, any_enc]
omit [DecidableEq α]
theorem f_isN (h : E.nn = true) (a : Option α) : fIs [(Eo E h).enc a, .non] = some (.bl a.isNone) := by
  cases a with
  | none => rfl
  | some a =>
    show fIs [E.enc a, .non] = _
    have := E.hnn h a
    cases e : E.enc a <;> simp_all [fIs, isNone]
/-! numbers -/
theorem f_add (i j : Int) : fAdd [.int i, .int j] = some (.int (i + j)) := rfl
theorem f_sub (i j : Int) : fSub [.int i, .int j] = some (.int (i - j)) := rfl
def mulO (i j : Int) : Option Int := if -(2 ^ 64) < i ∧ i < 2 ^ 64 ∨ -(2 ^ 64) < j ∧ j < 2 ^ 64 then some (i * j) else none
theorem f_mul {i j k : Int} (h : mulO i j = some k) : fMul [.int i, .int j] = some (.int k) := by
  unfold mulO at h
  split at h
  · cases h; simp only [fMul]; rw [if_pos (by assumption)]
  · cases h
theorem f_intB (b : Bool) : fInt [.bl b] = some (.int (if b then 1 else 0)) := rfl
theorem f_lt (i j : Int) : fLt [.int i, .int j] = some (.bl (decide (i < j))) := fLt_int i j
theorem f_gt (i j : Int) : fGt [.int i, .int j] = some (.bl (decide (j < i))) := fGt_int i j
theorem f_ge (i j : Int) : fGe [.int i, .int j] = some (.bl (decide (j ≤ i))) := fGe_int i j
/-! order of other values -/
def Enc.lt (a b : α) : Bool := ltD (E.enc a) (E.enc b)
theorem enc_cmp (a b : α) (h : Nat.ble E.dp 59 = true) (ha : E.al = true) (hn : E.nn = true) : cmpOk (E.enc a) (E.enc b) = true := by
  simp only [cmpOk, E.hal ha, enc_dep E _ h, Bool.and_self, Bool.true_and]
  have := E.nol ha a
  have := E.hnn hn a
  cases e : E.enc a <;> simp_all [D.nol]
theorem lt_int (i j : Int) : Ei.lt i j = decide (i < j) := ltD_int i j
theorem lt_irrefl (a : α) : E.lt a a = false := lex_irrefl _
theorem lt_trans {a b c : α} (h1 : E.lt a b = true) (h2 : E.lt b c = true) : E.lt a c = true := lex_trans _ _ _ h1 h2
/-! rows -/
theorem f_lenT (xs : List α) : fLen [.tup (xs.map E.enc)] = some (.int xs.length) := by simp only [fLen, lenD, List.length_map]
theorem f_lenL (xs : List α) : fLen [.lst (xs.map E.enc)] = some (.int xs.length) := by simp only [fLen, lenD, List.length_map]
theorem atI_map (xs : List α) (i : Int) : L2.atI (xs.map E.enc) i = (L2.atI xs i).map E.enc := by
  simp only [L2.atI, List.length_map]
  cases ixN xs.length i with
  | none => rfl
  | some j => simp only [Option.bind_some, List.getElem?_map]
theorem s_T {r : R} {xs : List α} {i : Int} {v : α} (h : L2.atI xs i = some v) : subR r (.tup (xs.map E.enc)) i = some (.own (E.enc v)) := by
  simp only [subR, subD, atI_map, h, Option.map_some, E.imm v, if_true]
theorem s_L {r : R} {xs : List α} {i : Int} {v : α} (h : L2.atI xs i = some v) : subR r (.lst (xs.map E.enc)) i = some (.own (E.enc v)) := by
  simp only [subR, subD, atI_map, h, Option.map_some, E.imm v, if_true]
/-- a place of a row that is known -/
theorem s_R {r : R} {ds : List D} {i : Int} {d : D} (h : L2.atI ds i = some d) (g : d.imm = true) : subR r (.tup ds) i = some (.own d) := by
  simp only [subR, subD, h, g, if_true]
theorem f_tuple (xs : List α) : fTuple [.lst (xs.map E.enc)] = some (.tup (xs.map E.enc)) := by simp only [fTuple, map_imms, if_true]
theorem f_list (xs : List α) : fList [.tup (xs.map E.enc)] = some (.lst (xs.map E.enc)) := by simp only [fList, map_imms, if_true]
theorem t_B (b : Bool) : truthD (.bl b) = some b := rfl
/-- rows behind one another, as long as can be -/
def catO (xs ys : List α) : Option (List α) := if xs.length + ys.length ≤ 1000000 then some (xs ++ ys) else none
def pushO (xs : List α) (y : α) : Option (List α) := if xs.length < 1000000 then some (xs ++ [y]) else none
theorem push_eq {xs zs : List α} {y : α} (h : pushO xs y = some zs) : xs.length < 1000000 ∧ zs = xs ++ [y] := by
  unfold pushO at h
  split at h
  · cases h; exact ⟨by assumption, rfl⟩
  · cases h
def setO (xs : List α) (i : Int) (y : α) : Option (List α) := match ixN xs.length i with
  | some j => some (xs.set j y)
  | none => none
def repO (xs : List α) (n : Int) : Option (List α) := if -1000000 ≤ n ∧ n ≤ 1000000 ∧ xs.length * n.toNat ≤ 1000000 then some (List.replicate n.toNat xs).flatten else none
/-! items -/
def rngN (lo : Int) (n : Nat) : List Int := (List.range n).map fun (k : Nat) => lo + (k : Int)
theorem rng_map (lo : Int) (n : Nat) : rangeD lo n = (rngN lo n).map Ei.enc := by
  simp only [rangeD, rngN, List.map_map]; rfl
def rngO (lo hi : Int) : Option (List Int) := if -1000000 ≤ lo ∧ lo ≤ 1000000 ∧ -1000000 ≤ hi ∧ hi ≤ 1000000 then some (rngN lo (hi - lo).toNat) else none
section
variable {p : Bool} {A A1 : List Sl} {m : Den} {mr : DE → Option (List R × DE)}
theorem i_rng1 {hi : Int} {zs : List Int} (h : RA p A mr [.own (.int hi)] A1) (e : rngO 0 hi = some zs) : RS p A (sRange mr) ⟨zs.map Ei.enc, []⟩ A1 := fun δ a => by
  obtain ⟨δ1, e1, a1, u⟩ := h δ a
  unfold rngO at e
  split at e
  · rename_i hh
    cases e
    refine ⟨δ1, ?_, a1, u⟩
    simp only [sRange, e1]
    rw [if_pos hh.2.2, rng_map, Int.sub_zero]
  · cases e
theorem i_T {xs : List α} (h : RV p A m (.own (.tup (xs.map E.enc))) A1) : RS p A (sSeq m) ⟨xs.map E.enc, []⟩ A1 := fun δ a => by
  obtain ⟨δ1, e1, a1, u⟩ := h δ a
  exact ⟨δ1, by simp only [sSeq, e1, map_imms, if_true], a1, u⟩
theorem i_V {xs : List α} {i : Nat} (h : RV p A m (.at i []) A1) (g : A1[i]? = some (.is (.lst (xs.map E.enc)))) : RS p A (sSeq m) ⟨xs.map E.enc, [(i, .lst (xs.map E.enc))]⟩ A1 := fun δ a => by
  obtain ⟨δ1, e1, a1, u⟩ := h δ a
  exact ⟨δ1, by simp only [sSeq, e1, a1.get _ _ g, map_imms, if_true], a1, u⟩
end
/-! sorting -/
def Enc.sort (xs : List α) : List α := xs.mergeSort fun a b => PySem.W.dataLe false toPy (E.enc a) (E.enc b)
theorem sort_map (xs : List α) : sortD (xs.map E.enc) = (E.sort xs).map E.enc := by
  unfold sortD Enc.sort
  exact (List.map_mergeSort (f := E.enc) (r := fun a b => PySem.W.dataLe false toPy (E.enc a) (E.enc b)) (s := PySem.W.dataLe false toPy) (fun a _ b _ => rfl)).symm
theorem all_map (q : D → Bool) (h : ∀ a, q (E.enc a) = true) : ∀ xs : List α, (xs.map E.enc).all q = true := fun xs => by
  rw [List.all_map, List.all_eq_true]; exact fun a _ => h a
def nub [DecidableEq α] : List α → List α
  | [] => []
  | x :: xs => if x ∈ xs then nub xs else x :: nub xs
theorem enc_inj (a b : α) (h : E.enc a = E.enc b) : a = b := (E.eq a b).mp (by rw [h]; exact (E.eq b b).mpr rfl)
theorem mem_enc (a : α) (xs : List α) : E.enc a ∈ xs.map E.enc ↔ a ∈ xs :=
  ⟨fun h => by obtain ⟨b, hb, e⟩ := List.mem_map.mp h; rw [← enc_inj E b a e]; exact hb, fun h => List.mem_map.mpr ⟨a, h, rfl⟩⟩
theorem nub_map [DecidableEq α] : ∀ xs : List α, nubD (xs.map E.enc) = (nub xs).map E.enc
  | [] => rfl
  | x :: xs => by
    simp only [List.map_cons, nubD, nub, mem_enc, nub_map xs]
    split <;> simp
/-! least and greatest -/
theorem maxD_map (x : α) : ∀ xs : List α, maxD (E.enc x) (xs.map E.enc) = E.enc (xs.foldl (fun a y => if E.lt a y then y else a) x) := by
  intro xs
  unfold maxD
  induction xs generalizing x with
  | nil => rfl
  | cons y ys ih =>
    simp only [List.map_cons, List.foldl_cons]
    rw [← ih]
    congr 1
    unfold Enc.lt
    split <;> rfl
theorem cmpAll_map (xs : List α) (h : Nat.ble E.dp 59 = true) (ha : E.al = true) (hn : E.nn = true) : cmpAll (xs.map E.enc) = true := by
  unfold cmpAll
  simp only [map_nols E ha, Bool.true_and]
  exact all_map E _ (fun a => all_map E _ (fun b => enc_cmp E a b h ha hn) xs) xs
end
end Y


set_option Elab.async false
set_option linter.all false
set_option maxRecDepth 100000
set_option maxHeartbeats 1000000
/-! what all laws share: the box of digits, drawing, sameness -/
namespace Y
open PySem PySem.Spec PyProof.Rows L2 Z
def m_law_cell : Blk :=
    (dSeq (dIf (dTb (dCall fLt (d2 true (dVar 1) (dCall fLen (dACons true (dVar 0) dANil)))))
    (dRet (kpL [0, 1]) (dSub true (dVar 0) (dVar 1)))
    dNx)
    (dRet (kpL [0, 1]) (dC (.int 0))))
def d_law_cell : Fn := dFn 2 2 (kpL [0, 1]) m_law_cell
def l_law_digits_1 : Blk :=
    (dIf (dTb (dCall fGt (d2 true (dVar 5) (dC (.int 0)))))
    (dSeq (dDrop (dAppend true (dVar 3) (dCall fMod (d2 true (dCall fInt (dACons true (dVar 5) dANil)) (dC (.int 1000))))))
    (dAsg (bName 5) (dCall fFdiv (d2 true (dVar 5) (dC (.int 1000))))))
    dNx)
def l_law_digits_2 : Blk :=
    (dSeq (dAsg (bName 7) (dCall fMod (d2 true (dCall fInt (dACons true (dCall fAdd (d2 true (dCall fAdd (d2 true (dCall fMul (d2 true (dVar 7) (dC (.int 16807)))) (dCall fMul (d2 true (dC (.int 7)) (dVar 6))))) (dC (.int 1)))) dANil)) (dC (.int 2147483647)))))
    (dDrop (dAppend true (dVar 3) (dCall fMod (d2 true (dCall fInt (dACons true (dCall fFdiv (d2 true (dVar 7) (dC (.int 997)))) dANil)) (dC (.int 1000)))))))
def l_law_digits_3 : Blk :=
    (dSeq (dAsg (bName 5) (dUser d_law_cell (dACons true (dVar 0) (dACons true (dVar 4) dANil))))
    (dSeq (dIf (dTb (dCall fLt (d2 true (dVar 5) (dC (.int 0)))))
    (dAsg (bName 5) (dCall fSub (d2 true (dC (.int 1)) (dCall fMul (d2 true (dC (.int 2)) (dVar 5))))))
    dNx)
    (dIf (dTb (dCall fGe (d2 true (dVar 5) (dCall fPow (d2 true (dC (.int 10)) (dC (.int 18)))))))
    (dFor (kpL [0, 1, 2, 3, 4, 7]) (sRange (dACons true (dC (.int 60)) dANil)) (bName 6)
    l_law_digits_1)
    (dSeq (dAsg (bName 7) (dCall fMod (d2 true (dCall fInt (dACons true (dCall fAdd (d2 true (dCall fAdd (d2 true (dCall fMul (d2 true (dVar 5) (dC (.int 48271)))) (dCall fMul (d2 true (dVar 4) (dC (.int 69621)))))) (dC (.int 11)))) dANil)) (dC (.int 2147483647)))))
    (dFor (kpL [0, 1, 2, 3, 4, 5]) (sRange (dACons true (dC (.int 12)) dANil)) (bName 6)
    l_law_digits_2)))))
def m_law_digits : Blk :=
    (dSeq (dAsg (bName 3) (dLst dANil))
    (dSeq (dFor (kpL [0, 1, 2, 3]) (sRange (dACons true (dVar 1) (dACons true (dVar 2) dANil))) (bName 4)
    l_law_digits_3)
    (dRet (kpL [0, 1, 2]) (dVar 3))))
def d_law_digits : Fn := dFn 8 3 (kpL [0, 1, 2]) m_law_digits
def m_law_box : Blk :=
    (dRet (kpL [0, 1, 2]) (dLst (dACons true (dUser d_law_digits (dACons true (dVar 0) (dACons true (dVar 1) (dACons true (dVar 2) dANil)))) (dACons true (dC (.int 0)) dANil))))
def d_law_box : Fn := dFn 3 3 (kpL [0, 1, 2]) m_law_box
def m_law_draw : Blk :=
    (dSeq (dAsg (bName 2) (dSub true (dVar 0) (dC (.int 1))))
    (dSeq (dSetI true true (dVar 0) (dC (.int 1)) (dCall fAdd (d2 true (dVar 2) (dC (.int 1)))))
    (dSeq (dIf (dTb (dCall fLt (d2 true (dVar 2) (dCall fLen (dACons true (dSub true (dVar 0) (dC (.int 0))) dANil)))))
    (dRet (kpL [0, 1]) (dCall fMod (d2 true (dCall fInt (dACons true (dSub true (dSub true (dVar 0) (dC (.int 0))) (dVar 2)) dANil)) (dVar 1))))
    dNx)
    (dRet (kpL [0, 1]) (dC (.int 0))))))
def d_law_draw : Fn := dFn 3 2 (kpL [0, 1]) m_law_draw
def l_law_same_1 (rec : Fn) : Blk :=
    (dIf (dNot (dTv (dUser rec (dACons true (dSub true (dVar 0) (dVar 2)) (dACons true (dSub true (dVar 1) (dVar 2)) dANil)))))
    (dRet (kpL [0, 1]) (dC (.bl false)))
    dNx)
def m_law_same (rec : Fn) : Blk :=
    (dSeq (dIf (dTv (dCall (fIsa PyData.isTuple) (dACons true (dVar 1) dANil)))
    (dSeq (dIf (dOr (dNot (dTv (dCall (fIsa PyData.isTuple) (dACons true (dVar 0) dANil)))) (dTb (dCall fNe (d2 true (dCall fLen (dACons true (dVar 0) dANil)) (dCall fLen (dACons true (dVar 1) dANil))))))
    (dRet (kpL [0, 1]) (dC (.bl false)))
    dNx)
    (dSeq (dFor (kpL [0, 1]) (sRange (dACons true (dCall fLen (dACons true (dVar 1) dANil)) dANil)) (bName 2)
    (l_law_same_1 rec))
    (dRet (kpL [0, 1]) (dC (.bl true)))))
    dNx)
    (dSeq (dIf (dTb (dCall fIs (d2 true (dVar 1) (dC .non))))
    (dRet (kpL [0, 1]) (dCall fIs (d2 true (dVar 0) (dC .non))))
    dNx)
    (dSeq (dIf (dTv (dCall (fIsa PyData.isBool) (dACons true (dVar 1) dANil)))
    (dRet (kpL [0, 1]) (dAndV (dCall (fIsa PyData.isBool) (dACons true (dVar 0) dANil)) (dCall fEq (d2 true (dVar 0) (dVar 1)))))
    dNx)
    (dSeq (dIf (dTv (dCall (fIsa PyData.isInt) (dACons true (dVar 1) dANil)))
    (dRet (kpL [0, 1]) (dAndV (dCall (fIsa PyData.isInt) (dACons true (dVar 0) dANil)) (dAndV (dNotV (dCall (fIsa PyData.isBool) (dACons true (dVar 0) dANil))) (dCall fEq (d2 true (dVar 0) (dVar 1))))))
    dNx)
    (dRet (kpL [0, 1]) (dAndV (dCall (fIsa PyData.isStr) (dACons true (dVar 0) dANil)) (dCall fEq (d2 true (dVar 0) (dVar 1)))))))))
def d_law_same : Nat → Fn
  | 0 => fun _ => none
  | n + 1 => dFn 3 2 (kpL [0, 1]) (m_law_same (d_law_same n))
theorem atI_ints (xs : List Int) (k : Nat) (h : k < xs.length) : L2.atI (xs.map D.int) (k : Int) = some (D.int xs[k]) := by
  simp [L2.atI, L2.ixN, h]
theorem rangeD_at {lo : Int} {n : Nat} {p q : List D} {x : D} (e : rangeD lo n = p ++ x :: q) : x = .int (lo + p.length) ∧ p.length < n := by
  have h : (rangeD lo n)[p.length]? = some x := by rw [e]; simp
  obtain ⟨h1, h2⟩ := rangeD_get h
  exact ⟨h2, h1⟩
theorem cell_ok (c : List D → D) (hc : c = .lst ∨ c = .frz) (xs : List Int) (k : Nat) : d_law_cell [c (xs.map .int), .int k] = some (.int (xs.getD k 0), [some (c (xs.map .int)), some (.int k)]) := by
  by_cases h : k < xs.length
  · have e := atI_ints xs k h
    rcases hc with rfl | rfl <;>
    simp [d_law_cell, m_law_cell, dFn, env0, dSeq, dNx, dBk, dCt, dIf, dTb, dTv, dAnd, dOr, dNot, dAndV, dOrV, dNotV, dIfE, dCall, dACons, dANil, dVar, dC, derefs, deref, getP, setP, dRet, dRetN, dSub, subR, subD, R.short, lenD, fLen, fInt, fTuple, dTup, dLst, owns, fI2, D.imm, D.imms, truthD, dAsg, bName, bTup, bCons, bNil, dDrop, dAppend, isLst, mutD, dSetI, dUser, rootsOk, roots, puts, fins, kpL, dAug, fAdd, fMul, fMod, fFdiv, fSub, fLt_int, fGt_int, fLe_int, fGe_int, fEq_int, fNe_int, fEq_str, h, e]
  · rcases hc with rfl | rfl <;>
    simp [d_law_cell, m_law_cell, dFn, env0, dSeq, dNx, dBk, dCt, dIf, dTb, dTv, dAnd, dOr, dNot, dAndV, dOrV, dNotV, dIfE, dCall, dACons, dANil, dVar, dC, derefs, deref, getP, setP, dRet, dRetN, dSub, subR, subD, R.short, lenD, fLen, fInt, fTuple, dTup, dLst, owns, fI2, D.imm, D.imms, truthD, dAsg, bName, bTup, bCons, bNil, dDrop, dAppend, isLst, mutD, dSetI, dUser, rootsOk, roots, puts, fins, kpL, dAug, fAdd, fMul, fMod, fFdiv, fSub, fLt_int, fGt_int, fLe_int, fGe_int, fEq_int, fNe_int, fEq_str, h]
/-- the box: its digits, the place -/
def box (ds : List Int) (n : Nat) : D := .lst [.lst (ds.map .int), .int n]
theorem big_step (s f l k z : Option D) (ds : List Int) (c t : Int) (hl : ds.length < 1000000) : ∃ (ds' : List Int) (c' : Int), l_law_digits_1 [s, f, l, some (.lst (ds.map .int)), k, some (.int c), some (.int t), z] = some (.nx [s, f, l, some (.lst (ds'.map .int)), k, some (.int c'), some (.int t), z]) ∧ ds'.length ≤ ds.length + 1 := by
  by_cases hc : 0 < c
  · exact ⟨ds ++ [c.fmod 1000], c.fdiv 1000, by simp [l_law_digits_1, dFn, env0, dSeq, dNx, dBk, dCt, dIf, dTb, dTv, dAnd, dOr, dNot, dAndV, dOrV, dNotV, dIfE, dCall, dACons, dANil, dVar, dC, derefs, deref, getP, setP, dRet, dRetN, dSub, subR, subD, R.short, lenD, fLen, fInt, fTuple, dTup, dLst, owns, fI2, D.imm, D.imms, truthD, dAsg, bName, bTup, bCons, bNil, dDrop, dAppend, isLst, mutD, dSetI, dUser, rootsOk, roots, puts, fins, kpL, dAug, fAdd, fMul, fMod, fFdiv, fSub, fLt_int, fGt_int, fLe_int, fGe_int, fEq_int, fNe_int, fEq_str, hc, hl], by simp⟩
  · exact ⟨ds, c, by simp [l_law_digits_1, dFn, env0, dSeq, dNx, dBk, dCt, dIf, dTb, dTv, dAnd, dOr, dNot, dAndV, dOrV, dNotV, dIfE, dCall, dACons, dANil, dVar, dC, derefs, deref, getP, setP, dRet, dRetN, dSub, subR, subD, R.short, lenD, fLen, fInt, fTuple, dTup, dLst, owns, fI2, D.imm, D.imms, truthD, dAsg, bName, bTup, bCons, bNil, dDrop, dAppend, isLst, mutD, dSetI, dUser, rootsOk, roots, puts, fins, kpL, dAug, fAdd, fMul, fMod, fFdiv, fSub, fLt_int, fGt_int, fLe_int, fGe_int, fEq_int, fNe_int, fEq_str, hc], by simp⟩
theorem small_step (s f l k c : Option D) (ds : List Int) (z t : Int) (hl : ds.length < 1000000) : ∃ (ds' : List Int) (z' : Int), l_law_digits_2 [s, f, l, some (.lst (ds.map .int)), k, c, some (.int t), some (.int z)] = some (.nx [s, f, l, some (.lst (ds'.map .int)), k, c, some (.int t), some (.int z')]) ∧ ds'.length ≤ ds.length + 1 :=
  ⟨ds ++ [(((z * 16807 + 7 * t + 1).fmod 2147483647).fdiv 997).fmod 1000], (z * 16807 + 7 * t + 1).fmod 2147483647, by simp [l_law_digits_2, dFn, env0, dSeq, dNx, dBk, dCt, dIf, dTb, dTv, dAnd, dOr, dNot, dAndV, dOrV, dNotV, dIfE, dCall, dACons, dANil, dVar, dC, derefs, deref, getP, setP, dRet, dRetN, dSub, subR, subD, R.short, lenD, fLen, fInt, fTuple, dTup, dLst, owns, fI2, D.imm, D.imms, truthD, dAsg, bName, bTup, bCons, bNil, dDrop, dAppend, isLst, mutD, dSetI, dUser, rootsOk, roots, puts, fins, kpL, dAug, fAdd, fMul, fMod, fFdiv, fSub, fLt_int, fGt_int, fLe_int, fGe_int, fEq_int, fNe_int, fEq_str, hl], by simp⟩
theorem big_ok (s f l k t z : Option D) (ds : List Int) (cell : Int) (hl : ds.length ≤ 100000) : ∃ (ds' : List Int) (c' t' : Option D), dForL [] (bName 6) l_law_digits_1 (rangeD 0 60) [s, f, l, some (.lst (ds.map .int)), k, some (.int cell), t, z] = some (.nx [s, f, l, some (.lst (ds'.map .int)), k, c', t', z]) ∧ ds'.length ≤ ds.length + 60 := by
  obtain ⟨δ', e, ds', c', t', rfl, hl'⟩ := dForL_inv (gs := []) (b := bName 6) (mb := l_law_digits_1)
    (fun p δ => ∃ (ds' : List Int), ∃ (c' : Int), ∃ t', δ = [s, f, l, some (.lst (ds'.map .int)), k, some (.int c'), t', z] ∧ ds'.length ≤ ds.length + p.length) (rangeD 0 60) [] _ (fun _ _ _ => rfl) (fun p x q δ he ⟨ds1, c1, t1, h1, h2⟩ => by
      subst h1
      obtain ⟨rfl, hp⟩ := rangeD_at (p := p) he
      obtain ⟨ds2, c2, e2, h3⟩ := big_step s f l k z ds1 c1 (0 + p.length) (by omega)
      exact ⟨_, _, rfl, .inl e2, ds2, c2, _, rfl, by simp; omega⟩) ⟨ds, cell, t, rfl, by simp⟩
  refine ⟨ds', _, _, e, ?_⟩
  simpa [rangeD_len] using hl'
theorem small_ok (s f l k c t : Option D) (ds : List Int) (seed : Int) (hl : ds.length ≤ 100000) : ∃ (ds' : List Int) (z' t' : Option D), dForL [] (bName 6) l_law_digits_2 (rangeD 0 12) [s, f, l, some (.lst (ds.map .int)), k, c, t, some (.int seed)] = some (.nx [s, f, l, some (.lst (ds'.map .int)), k, c, t', z']) ∧ ds'.length ≤ ds.length + 60 := by
  obtain ⟨δ', e, ds', c', t', rfl, hl'⟩ := dForL_inv (gs := []) (b := bName 6) (mb := l_law_digits_2)
    (fun p δ => ∃ (ds' : List Int), ∃ (c' : Int), ∃ t', δ = [s, f, l, some (.lst (ds'.map .int)), k, c, t', some (.int c')] ∧ ds'.length ≤ ds.length + p.length) (rangeD 0 12) [] _ (fun _ _ _ => rfl) (fun p x q δ he ⟨ds1, c1, t1, h1, h2⟩ => by
      subst h1
      obtain ⟨rfl, hp⟩ := rangeD_at (p := p) he
      obtain ⟨ds2, c2, e2, h3⟩ := small_step s f l k c ds1 c1 (0 + p.length) (by omega)
      exact ⟨_, _, rfl, .inl e2, ds2, c2, _, rfl, by simp; omega⟩) ⟨ds, seed, t, rfl, by simp⟩
  refine ⟨ds', _, _, e, ?_⟩
  have := hl'
  simp [rangeD_len] at this
  omega
theorem fPow_1018 : fPow [.int 10, .int 18] = some (.int 1000000000000000000) := by
  simp [fI2]
theorem dSeq_nx {a b : Blk} {δ δ1 : DE} (h : a δ = some (.nx δ1)) : dSeq a b δ = b δ1 := by simp only [dSeq, h]
theorem dIf_t {c : DenT} {a b : Blk} {δ δ1 : DE} (h : c δ = some (true, δ1)) : dIf c a b δ = a δ1 := by simp only [dIf, h]
theorem dIf_f {c : DenT} {a b : Blk} {δ δ1 : DE} (h : c δ = some (false, δ1)) : dIf c a b δ = b δ1 := by simp only [dIf, h]
def r_law_digits : Blk := dIf (dTb (dCall fGe (d2 true (dVar 5) (dCall fPow (d2 true (dC (.int 10)) (dC (.int 18)))))))
    (dFor (kpL [0, 1, 2, 3, 4, 7]) (sRange (dACons true (dC (.int 60)) dANil)) (bName 6)
    l_law_digits_1)
    (dSeq (dAsg (bName 7) (dCall fMod (d2 true (dCall fInt (dACons true (dCall fAdd (d2 true (dCall fAdd (d2 true (dCall fMul (d2 true (dVar 5) (dC (.int 48271)))) (dCall fMul (d2 true (dVar 4) (dC (.int 69621)))))) (dC (.int 11)))) dANil)) (dC (.int 2147483647)))))
    (dFor (kpL [0, 1, 2, 3, 4, 5]) (sRange (dACons true (dC (.int 12)) dANil)) (bName 6)
    l_law_digits_2))
theorem ge_t (a b c d e f g : Option D) (u : Int) (h : (1000000000000000000 : Int) ≤ u) : dTb (dCall fGe (d2 true (dVar 5) (dCall fPow (d2 true (dC (.int 10)) (dC (.int 18)))))) [a, b, c, d, e, some (.int u), f, g] = some (true, [a, b, c, d, e, some (.int u), f, g]) := by
  have hh : decide ((1000000000000000000 : Int) ≤ u) = true := decide_eq_true h
  simp [dTb, dCall, dVar, dACons, dANil, derefs, deref, dC, D.imm, R.short, fPow_1018, fGe_int]
  exact h
theorem ge_f (a b c d e f g : Option D) (u : Int) (h : ¬ (1000000000000000000 : Int) ≤ u) : dTb (dCall fGe (d2 true (dVar 5) (dCall fPow (d2 true (dC (.int 10)) (dC (.int 18)))))) [a, b, c, d, e, some (.int u), f, g] = some (false, [a, b, c, d, e, some (.int u), f, g]) := by
  simp [dTb, dCall, dVar, dACons, dANil, derefs, deref, dC, D.imm, R.short, fPow_1018, fGe_int]
  omega
theorem digit_step (c : List D → D) (hc : c = .lst ∨ c = .frz) (xs : List Int) (f l cell turn seed : Option D) (ds : List Int) (k v : Int) (e0 : d_law_cell [c (xs.map .int), .int k] = some (.int v, [some (c (xs.map .int)), some (.int k)])) (hl : ds.length ≤ 50000) : ∃ (ds' : List Int) (cell' turn' seed' : Option D),
    l_law_digits_3 [some (c (xs.map .int)), f, l, some (.lst (ds.map .int)), some (.int k), cell, turn, seed] = some (.nx [some (c (xs.map .int)), f, l, some (.lst (ds'.map .int)), some (.int k), cell', turn', seed']) ∧ ds'.length ≤ ds.length + 60 := by
  have hv : ∃ u : Int, l_law_digits_3 [some (c (xs.map .int)), f, l, some (.lst (ds.map .int)), some (.int k), cell, turn, seed] = r_law_digits [some (c (xs.map .int)), f, l, some (.lst (ds.map .int)), some (.int k), some (.int u), turn, seed] := by
    unfold l_law_digits_3
    rw [dSeq_nx (δ1 := [some (c (xs.map .int)), f, l, some (.lst (ds.map .int)), some (.int k), some (.int v), turn, seed]) (by rcases hc with rfl | rfl <;> simp [dFn, env0, dSeq, dNx, dBk, dCt, dIf, dTb, dTv, dAnd, dOr, dNot, dAndV, dOrV, dNotV, dIfE, dCall, dACons, dANil, dVar, dC, derefs, deref, getP, setP, dRet, dRetN, dSub, subR, subD, R.short, lenD, fLen, fInt, fTuple, dTup, dLst, owns, fI2, D.imm, D.imms, truthD, dAsg, bName, bTup, bCons, bNil, dDrop, dAppend, isLst, mutD, dSetI, dUser, rootsOk, roots, puts, fins, kpL, dAug, fAdd, fMul, fMod, fFdiv, fSub, fLt_int, fGt_int, fLe_int, fGe_int, fEq_int, fNe_int, fEq_str, e0])]
    by_cases hn : v < 0
    · refine ⟨1 - 2 * v, ?_⟩
      rw [dSeq_nx (δ1 := [some (c (xs.map .int)), f, l, some (.lst (ds.map .int)), some (.int k), some (.int (1 - 2 * v)), turn, seed]) (by rcases hc with rfl | rfl <;> simp [dFn, env0, dSeq, dNx, dBk, dCt, dIf, dTb, dTv, dAnd, dOr, dNot, dAndV, dOrV, dNotV, dIfE, dCall, dACons, dANil, dVar, dC, derefs, deref, getP, setP, dRet, dRetN, dSub, subR, subD, R.short, lenD, fLen, fInt, fTuple, dTup, dLst, owns, fI2, D.imm, D.imms, truthD, dAsg, bName, bTup, bCons, bNil, dDrop, dAppend, isLst, mutD, dSetI, dUser, rootsOk, roots, puts, fins, kpL, dAug, fAdd, fMul, fMod, fFdiv, fSub, fLt_int, fGt_int, fLe_int, fGe_int, fEq_int, fNe_int, fEq_str, hn])]
      rfl
    · refine ⟨v, ?_⟩
      rw [dSeq_nx (δ1 := [some (c (xs.map .int)), f, l, some (.lst (ds.map .int)), some (.int k), some (.int v), turn, seed]) (by rcases hc with rfl | rfl <;> simp [dFn, env0, dSeq, dNx, dBk, dCt, dIf, dTb, dTv, dAnd, dOr, dNot, dAndV, dOrV, dNotV, dIfE, dCall, dACons, dANil, dVar, dC, derefs, deref, getP, setP, dRet, dRetN, dSub, subR, subD, R.short, lenD, fLen, fInt, fTuple, dTup, dLst, owns, fI2, D.imm, D.imms, truthD, dAsg, bName, bTup, bCons, bNil, dDrop, dAppend, isLst, mutD, dSetI, dUser, rootsOk, roots, puts, fins, kpL, dAug, fAdd, fMul, fMod, fFdiv, fSub, fLt_int, fGt_int, fLe_int, fGe_int, fEq_int, fNe_int, fEq_str, hn])]
      rfl
  obtain ⟨u, hu⟩ := hv
  rw [hu]
  unfold r_law_digits
  by_cases hb : (1000000000000000000 : Int) ≤ u
  · obtain ⟨ds', c', t', e, h⟩ := big_ok (some (c (xs.map .int))) f l (some (.int k)) turn seed ds u (by omega)
    refine ⟨ds', c', t', seed, ?_, h⟩
    rw [dIf_t (ge_t _ _ _ _ _ _ _ u hb)]
    simp [dFn, env0, dSeq, dNx, dBk, dCt, dIf, dTb, dTv, dAnd, dOr, dNot, dAndV, dOrV, dNotV, dIfE, dCall, dACons, dANil, dVar, dC, derefs, deref, getP, setP, dRet, dRetN, dSub, subR, subD, R.short, lenD, fLen, fInt, fTuple, dTup, dLst, owns, fI2, D.imm, D.imms, truthD, dAsg, bName, bTup, bCons, bNil, dDrop, dAppend, isLst, mutD, dSetI, dUser, rootsOk, roots, puts, fins, kpL, dAug, fAdd, fMul, fMod, fFdiv, fSub, fLt_int, fGt_int, fLe_int, fGe_int, fEq_int, fNe_int, fEq_str, dFor, sRange, gsIn, e]
  · obtain ⟨ds', z', t', e, h⟩ := small_ok (some (c (xs.map .int))) f l (some (.int k)) (some (.int u)) turn ds ((u * 48271 + k * 69621 + 11).fmod 2147483647) (by omega)
    refine ⟨ds', some (.int u), t', z', ?_, h⟩
    rw [dIf_f (ge_f _ _ _ _ _ _ _ u hb)]
    rw [dSeq_nx (δ1 := [some (c (xs.map .int)), f, l, some (.lst (ds.map .int)), some (.int k), some (.int u), turn, some (.int ((u * 48271 + k * 69621 + 11).fmod 2147483647))]) (by simp [dFn, env0, dSeq, dNx, dBk, dCt, dIf, dTb, dTv, dAnd, dOr, dNot, dAndV, dOrV, dNotV, dIfE, dCall, dACons, dANil, dVar, dC, derefs, deref, getP, setP, dRet, dRetN, dSub, subR, subD, R.short, lenD, fLen, fInt, fTuple, dTup, dLst, owns, fI2, D.imm, D.imms, truthD, dAsg, bName, bTup, bCons, bNil, dDrop, dAppend, isLst, mutD, dSetI, dUser, rootsOk, roots, puts, fins, kpL, dAug, fAdd, fMul, fMod, fFdiv, fSub, fLt_int, fGt_int, fLe_int, fGe_int, fEq_int, fNe_int, fEq_str])]
    simp [dFn, env0, dSeq, dNx, dBk, dCt, dIf, dTb, dTv, dAnd, dOr, dNot, dAndV, dOrV, dNotV, dIfE, dCall, dACons, dANil, dVar, dC, derefs, deref, getP, setP, dRet, dRetN, dSub, subR, subD, R.short, lenD, fLen, fInt, fTuple, dTup, dLst, owns, fI2, D.imm, D.imms, truthD, dAsg, bName, bTup, bCons, bNil, dDrop, dAppend, isLst, mutD, dSetI, dUser, rootsOk, roots, puts, fins, kpL, dAug, fAdd, fMul, fMod, fFdiv, fSub, fLt_int, fGt_int, fLe_int, fGe_int, fEq_int, fNe_int, fEq_str, dFor, sRange, gsIn, e]
theorem digits_ok (c : List D → D) (hc : c = .lst ∨ c = .frz) (xs : List Int) : ∃ ds : List Int, d_law_digits [c (xs.map .int), .int 0, .int 62] = some (.lst (ds.map .int), [some (c (xs.map .int)), some (.int 0), some (.int 62)]) := by
  obtain ⟨δ', e, ds, k, cell, turn, seed, rfl, hl⟩ := dForL_inv (gs := []) (b := bName 4) (mb := l_law_digits_3)
    (fun p δ => ∃ (ds : List Int), ∃ k cell turn seed, δ = [some (c (xs.map .int)), some (.int 0), some (.int 62), some (.lst (ds.map .int)), k, cell, turn, seed] ∧ ds.length ≤ 60 * p.length)
    (rangeD 0 62) [] [some (c (xs.map .int)), some (.int 0), some (.int 62), some (.lst []), none, none, none, none] (fun _ _ _ => rfl) (fun p x q δ he ⟨ds, k, cell, turn, seed, h1, h2⟩ => by
      subst h1
      obtain ⟨rfl, hp⟩ := rangeD_at (p := p) he
      obtain ⟨ds2, c2, t2, s2, e2, h3⟩ := digit_step c hc xs (some (.int 0)) (some (.int 62)) cell turn seed ds p.length _ (cell_ok c hc xs p.length) (by omega)
      rw [Int.zero_add]
      exact ⟨_, _, rfl, .inl e2, ds2, _, c2, t2, s2, rfl, by simp; omega⟩) ⟨[], none, none, none, none, rfl, by simp⟩
  refine ⟨ds, ?_⟩
  rcases hc with rfl | rfl <;> simp [d_law_digits, m_law_digits, dFn, env0, dSeq, dNx, dBk, dCt, dIf, dTb, dTv, dAnd, dOr, dNot, dAndV, dOrV, dNotV, dIfE, dCall, dACons, dANil, dVar, dC, derefs, deref, getP, setP, dRet, dRetN, dSub, subR, subD, R.short, lenD, fLen, fInt, fTuple, dTup, dLst, owns, fI2, D.imm, D.imms, truthD, dAsg, bName, bTup, bCons, bNil, dDrop, dAppend, isLst, mutD, dSetI, dUser, rootsOk, roots, puts, fins, kpL, dAug, fAdd, fMul, fMod, fFdiv, fSub, fLt_int, fGt_int, fLe_int, fGe_int, fEq_int, fNe_int, fEq_str, dFor, sRange, gsIn, e]
theorem box_ok (c : List D → D) (hc : c = .lst ∨ c = .frz) (xs : List Int) : ∃ ds : List Int, d_law_box [c (xs.map .int), .int 0, .int 62] = some (box ds 0, [some (c (xs.map .int)), some (.int 0), some (.int 62)]) := by
  obtain ⟨ds, e⟩ := digits_ok c hc xs
  refine ⟨ds, ?_⟩
  rcases hc with rfl | rfl <;> simp [d_law_box, m_law_box, box, dFn, env0, dSeq, dNx, dBk, dCt, dIf, dTb, dTv, dAnd, dOr, dNot, dAndV, dOrV, dNotV, dIfE, dCall, dACons, dANil, dVar, dC, derefs, deref, getP, setP, dRet, dRetN, dSub, subR, subD, R.short, lenD, fLen, fInt, fTuple, dTup, dLst, owns, fI2, D.imm, D.imms, truthD, dAsg, bName, bTup, bCons, bNil, dDrop, dAppend, isLst, mutD, dSetI, dUser, rootsOk, roots, puts, fins, kpL, dAug, fAdd, fMul, fMod, fFdiv, fSub, fLt_int, fGt_int, fLe_int, fGe_int, fEq_int, fNe_int, fEq_str, e]
def Same (n : Nat) (x : D) : Prop := x.imm = true ∧ d_law_same n [x, x] = some (.bl true, [some x, some x])
theorem same_int (n : Nat) (i : Int) : Same (n + 1) (.int i) := by
  refine ⟨by simp [D.imm], ?_⟩
  simp [d_law_same, m_law_same, dFn, env0, dSeq, dNx, dBk, dCt, dIf, dTb, dTv, dAnd, dOr, dNot, dAndV, dOrV, dNotV, dIfE, dCall, dACons, dANil, dVar, dC, derefs, deref, getP, setP, dRet, dRetN, dSub, subR, subD, R.short, lenD, fLen, fInt, fTuple, dTup, dLst, owns, fI2, D.imm, D.imms, truthD, dAsg, bName, bTup, bCons, bNil, dDrop, dAppend, isLst, mutD, dSetI, dUser, rootsOk, roots, puts, fins, kpL, dAug, fAdd, fMul, fMod, fFdiv, fSub, fLt_int, fGt_int, fLe_int, fGe_int, fEq_int, fNe_int, fEq_str, fIsa, toPy, PyData.isTuple, PyData.isBool, PyData.isInt, fIs, isNone]
theorem same_str (n : Nat) (i : Str) : Same (n + 1) (.str i) := by
  refine ⟨by simp [D.imm], ?_⟩
  simp [d_law_same, m_law_same, dFn, env0, dSeq, dNx, dBk, dCt, dIf, dTb, dTv, dAnd, dOr, dNot, dAndV, dOrV, dNotV, dIfE, dCall, dACons, dANil, dVar, dC, derefs, deref, getP, setP, dRet, dRetN, dSub, subR, subD, R.short, lenD, fLen, fInt, fTuple, dTup, dLst, owns, fI2, D.imm, D.imms, truthD, dAsg, bName, bTup, bCons, bNil, dDrop, dAppend, isLst, mutD, dSetI, dUser, rootsOk, roots, puts, fins, kpL, dAug, fAdd, fMul, fMod, fFdiv, fSub, fLt_int, fGt_int, fLe_int, fGe_int, fEq_int, fNe_int, fEq_str, fIsa, toPy, PyData.isTuple, PyData.isBool, PyData.isInt, PyData.isStr, fIs, isNone]
theorem same_tup (n : Nat) (xs : List D) (hl : xs.length ≤ 1000000) (h : ∀ x ∈ xs, Same n x) : Same (n + 1) (.tup xs) := by
  have him : (D.tup xs).imm = true := by simp only [D.imm]; rw [D.imms_iff]; exact fun x hx => (h x hx).1
  refine ⟨him, ?_⟩
  obtain ⟨δ', e, k', rfl⟩ := dForL_inv (gs := []) (b := bName 2) (mb := l_law_same_1 (d_law_same n)) (fun p δ => ∃ k, δ = [some (.tup xs), some (.tup xs), k]) (rangeD 0 xs.length) [] [some (.tup xs), some (.tup xs), none] (fun _ _ _ => rfl)
    (fun p x q δ he ⟨k, h1⟩ => by
      subst h1
      obtain ⟨rfl, hp⟩ := rangeD_at (p := p) he
      rw [Int.zero_add]
      refine ⟨[some (.tup xs), some (.tup xs), some (.int p.length)], [some (.tup xs), some (.tup xs), some (.int p.length)], rfl, .inl ?_, _, rfl⟩
      have hx := h xs[p.length] (List.getElem_mem hp)
      have e1 : L2.atI xs (p.length : Int) = some xs[p.length] := by simp [L2.atI, L2.ixN, hp]
      obtain ⟨h1, h2⟩ := hx
      generalize xs[p.length] = y at *
      unfold l_law_same_1
      rw [dIf_f (δ1 := [some (.tup xs), some (.tup xs), some (.int p.length)])]
      · rfl
      · generalize hX : D.tup xs = X at *
        have e2 : subD X (p.length : Int) = some y := by subst hX; exact e1
        simp [dNot, dTv, dUser, dACons, dSub, dVar, him, deref, subR, e2, h1, R.short, dANil, D.imm, rootsOk, roots, derefs, h2, puts, truthD]) ⟨none, rfl⟩
  have hl2 : -1000000 ≤ (xs.length : Int) ∧ (xs.length : Int) ≤ 1000000 := by omega
  have him2 : D.imms xs = true := by simpa only [D.imm] using him
  have e5 : m_law_same (d_law_same n) [some (.tup xs), some (.tup xs), none] = some (.rt (.bl true) [some (.tup xs), some (.tup xs), k']) := by
    unfold m_law_same
    have : (dIf (dTv (dCall (fIsa PyData.isTuple) (dACons true (dVar 1) dANil)))
    (dSeq (dIf (dOr (dNot (dTv (dCall (fIsa PyData.isTuple) (dACons true (dVar 0) dANil)))) (dTb (dCall fNe (d2 true (dCall fLen (dACons true (dVar 0) dANil)) (dCall fLen (dACons true (dVar 1) dANil))))))
    (dRet (kpL [0, 1]) (dC (.bl false)))
    dNx)
    (dSeq (dFor (kpL [0, 1]) (sRange (dACons true (dCall fLen (dACons true (dVar 1) dANil)) dANil)) (bName 2)
    (l_law_same_1 (d_law_same n)))
    (dRet (kpL [0, 1]) (dC (.bl true)))))
    dNx) [some (.tup xs), some (.tup xs), none] = some (.rt (.bl true) [some (.tup xs), some (.tup xs), k']) := by
      rw [dIf_t (δ1 := [some (.tup xs), some (.tup xs), none]) (by simp [dFn, env0, dSeq, dNx, dBk, dCt, dIf, dTb, dTv, dAnd, dOr, dNot, dAndV, dOrV, dNotV, dIfE, dCall, dACons, dANil, dVar, dC, derefs, deref, getP, setP, dRet, dRetN, dSub, subR, subD, R.short, lenD, fLen, fInt, fTuple, dTup, dLst, owns, fI2, D.imm, D.imms, truthD, dAsg, bName, bTup, bCons, bNil, dDrop, dAppend, isLst, mutD, dSetI, dUser, rootsOk, roots, puts, fins, kpL, dAug, fAdd, fMul, fMod, fFdiv, fSub, fLt_int, fGt_int, fLe_int, fGe_int, fEq_int, fNe_int, fEq_str, fIsa, toPy, PyData.isTuple, him2])]
      rw [dSeq_nx (δ1 := [some (.tup xs), some (.tup xs), none]) (by simp [dFn, env0, dSeq, dNx, dBk, dCt, dIf, dTb, dTv, dAnd, dOr, dNot, dAndV, dOrV, dNotV, dIfE, dCall, dACons, dANil, dVar, dC, derefs, deref, getP, setP, dRet, dRetN, dSub, subR, subD, R.short, lenD, fLen, fInt, fTuple, dTup, dLst, owns, fI2, D.imm, D.imms, truthD, dAsg, bName, bTup, bCons, bNil, dDrop, dAppend, isLst, mutD, dSetI, dUser, rootsOk, roots, puts, fins, kpL, dAug, fAdd, fMul, fMod, fFdiv, fSub, fLt_int, fGt_int, fLe_int, fGe_int, fEq_int, fNe_int, fEq_str, fIsa, toPy, PyData.isTuple, him2])]
      rw [dSeq_nx (δ1 := [some (.tup xs), some (.tup xs), k']) (by simp [dFor, sRange, dFn, env0, dSeq, dNx, dBk, dCt, dIf, dTb, dTv, dAnd, dOr, dNot, dAndV, dOrV, dNotV, dIfE, dCall, dACons, dANil, dVar, dC, derefs, deref, getP, setP, dRet, dRetN, dSub, subR, subD, R.short, lenD, fLen, fInt, fTuple, dTup, dLst, owns, fI2, D.imm, D.imms, truthD, dAsg, bName, bTup, bCons, bNil, dDrop, dAppend, isLst, mutD, dSetI, dUser, rootsOk, roots, puts, fins, kpL, dAug, fAdd, fMul, fMod, fFdiv, fSub, fLt_int, fGt_int, fLe_int, fGe_int, fEq_int, fNe_int, fEq_str, him2, hl2, gsIn, e])]
      simp [dFn, env0, dSeq, dNx, dBk, dCt, dIf, dTb, dTv, dAnd, dOr, dNot, dAndV, dOrV, dNotV, dIfE, dCall, dACons, dANil, dVar, dC, derefs, deref, getP, setP, dRet, dRetN, dSub, subR, subD, R.short, lenD, fLen, fInt, fTuple, dTup, dLst, owns, fI2, D.imm, D.imms, truthD, dAsg, bName, bTup, bCons, bNil, dDrop, dAppend, isLst, mutD, dSetI, dUser, rootsOk, roots, puts, fins, kpL, dAug, fAdd, fMul, fMod, fFdiv, fSub, fLt_int, fGt_int, fLe_int, fGe_int, fEq_int, fNe_int, fEq_str]
    simp only [dSeq, this]
  simp [d_law_same, dFn, env0, e5, fins, kpL]
theorem same_bl (n : Nat) (i : Bool) : Same (n + 1) (.bl i) := by
  refine ⟨by simp [D.imm], ?_⟩
  have e : fEq [.bl i, .bl i] = some (.bl true) := by
    have h : dep (.bl i) = true := dep_of (by simp [D.dp])
    simp [fEq, h, eqD, toPy, PyData.eqv]
  simp [d_law_same, m_law_same, dFn, env0, dSeq, dNx, dBk, dCt, dIf, dTb, dTv, dAnd, dOr, dNot, dAndV, dOrV, dNotV, dIfE, dCall, dACons, dANil, dVar, dC, derefs, deref, getP, setP, dRet, dRetN, dSub, subR, subD, R.short, lenD, fLen, fInt, fTuple, dTup, dLst, owns, fI2, D.imm, D.imms, truthD, dAsg, bName, bTup, bCons, bNil, dDrop, dAppend, isLst, mutD, dSetI, dUser, rootsOk, roots, puts, fins, kpL, dAug, fAdd, fMul, fMod, fFdiv, fSub, fLt_int, fGt_int, fLe_int, fGe_int, fEq_int, fNe_int, fEq_str, fIsa, toPy, PyData.isTuple, PyData.isBool, PyData.isInt, PyData.isStr, fIs, isNone, e]
theorem same_non (n : Nat) : Same (n + 1) .non := by
  refine ⟨by simp [D.imm], ?_⟩
  simp [d_law_same, m_law_same, dFn, env0, dSeq, dNx, dBk, dCt, dIf, dTb, dTv, dAnd, dOr, dNot, dAndV, dOrV, dNotV, dIfE, dCall, dACons, dANil, dVar, dC, derefs, deref, getP, setP, dRet, dRetN, dSub, subR, subD, R.short, lenD, fLen, fInt, fTuple, dTup, dLst, owns, fI2, D.imm, D.imms, truthD, dAsg, bName, bTup, bCons, bNil, dDrop, dAppend, isLst, mutD, dSetI, dUser, rootsOk, roots, puts, fins, kpL, dAug, fAdd, fMul, fMod, fFdiv, fSub, fLt_int, fGt_int, fLe_int, fGe_int, fEq_int, fNe_int, fEq_str, fIsa, toPy, PyData.isTuple, PyData.isBool, PyData.isInt, PyData.isStr, fIs, isNone]
mutual
/-- no row in it is too long -/
def szD : D → Bool
  | .tup xs => decide (xs.length ≤ 1000000) && szDs xs
  | .lst _ => false
  | .frz _ => false
  | .dic _ _ => false
  | .obj _ _ _ => false
  | _ => true
def szDs : List D → Bool
  | [] => true
  | x :: xs => szD x && szDs xs
end
mutual
theorem same_all : ∀ (d : D) (n : Nat), szD d = true → d.dp < n → Same n d
  | _, 0, _, l => by omega
  | .non, n + 1, _, _ => same_non n
  | .bl b, n + 1, _, _ => same_bl n b
  | .int i, n + 1, _, _ => same_int n i
  | .str x, n + 1, _, _ => same_str n x
  | .tup xs, n + 1, z, l => by
    simp only [szD, Bool.and_eq_true, decide_eq_true_eq] at z
    simp only [D.dp] at l
    exact same_tup n xs z.1 fun x hx => sames_all xs n z.2 (by omega) x hx
  | .lst _, _ + 1, h, _ => by simp [szD] at h
  | .frz _, _ + 1, h, _ => by simp [szD] at h
  | .dic _ _, _ + 1, h, _ => by simp [szD] at h
  | .obj _ _ _, _ + 1, h, _ => by simp [szD] at h
theorem sames_all : ∀ (ds : List D) (n : Nat), szDs ds = true → D.dps ds < n → ∀ x ∈ ds, Same n x
  | [], _, _, _, x, hx => nomatch hx
  | y :: ds, n, z, l, x, hx => by
    simp only [szDs, Bool.and_eq_true] at z
    simp only [D.dps] at l
    rcases List.mem_cons.mp hx with e | hx
    · rw [e]; exact same_all y n z.1 (by omega)
    · exact sames_all ds n z.2 (by omega) x hx
end
section
variable {α : Type} (E : Enc α) [DecidableEq α]
/-- the same, and not too long -/
def sameO (a b : α) : Option Bool := if a = b ∧ szD (E.enc a) = true then some true else none
theorem f_same {a b : α} {v : Bool} {n : Nat} (h : sameO E a b = some v) (hd : Nat.ble (E.dp + 1) n = true) : d_law_same n [E.enc a, E.enc b] = some (.bl v, [some (E.enc a), some (E.enc b)]) := by
  unfold sameO at h
  split at h
  · rename_i hh
    cases h
    rw [← hh.1]
    exact (same_all _ n hh.2 (by have := E.hdp a; have := Nat.le_of_ble_eq_true hd; omega)).2
  · cases h
end
/-! the box as a value -/
abbrev Box := List Int × Nat
def boxE (b : Box) : D := box b.1 b.2
/-- drawing where all is well -/
def drawO (b : Box) (m : Int) : Option (Int × Box) := if 0 < m then some (if b.2 < b.1.length then (b.1.getD b.2 0).fmod m else 0, (b.1, b.2 + 1)) else none
theorem f_draw {b : Box} {m : Int} {v : Int × Box} (h : drawO b m = some v) : d_law_draw [boxE b, .int m] = some (.int v.1, [some (boxE v.2), some (.int m)]) := by
  obtain ⟨ds, n⟩ := b
  unfold drawO at h
  split at h
  · rename_i hm
    cases h
    have hm0 : m ≠ 0 := by omega
    by_cases h : n < ds.length
    · have e := atI_ints ds n h
      simp [d_law_draw, m_law_draw, boxE, box, dFn, env0, dSeq, dNx, dBk, dCt, dIf, dTb, dTv, dAnd, dOr, dNot, dAndV, dOrV, dNotV, dIfE, dCall, dACons, dANil, dVar, dC, derefs, deref, getP, setP, dRet, dRetN, dSub, subR, subD, R.short, lenD, fLen, fInt, fTuple, dTup, dLst, owns, fI2, D.imm, D.imms, truthD, dAsg, bName, bTup, bCons, bNil, dDrop, dAppend, isLst, mutD, dSetI, dUser, rootsOk, roots, puts, fins, kpL, dAug, fAdd, fMul, fMod, fFdiv, fSub, fLt_int, fGt_int, fLe_int, fGe_int, fEq_int, fNe_int, fEq_str, h, e, L2.atI, L2.ixN, hm0]
    · simp [d_law_draw, m_law_draw, boxE, box, dFn, env0, dSeq, dNx, dBk, dCt, dIf, dTb, dTv, dAnd, dOr, dNot, dAndV, dOrV, dNotV, dIfE, dCall, dACons, dANil, dVar, dC, derefs, deref, getP, setP, dRet, dRetN, dSub, subR, subD, R.short, lenD, fLen, fInt, fTuple, dTup, dLst, owns, fI2, D.imm, D.imms, truthD, dAsg, bName, bTup, bCons, bNil, dDrop, dAppend, isLst, mutD, dSetI, dUser, rootsOk, roots, puts, fins, kpL, dAug, fAdd, fMul, fMod, fFdiv, fSub, fLt_int, fGt_int, fLe_int, fGe_int, fEq_int, fNe_int, fEq_str, h, L2.atI, L2.ixN]
  · cases h
theorem draw_some (b : Box) {m : Int} (hm : 0 < m) : ∃ r, 0 ≤ r ∧ r < m ∧ drawO b m = some (r, (b.1, b.2 + 1)) := by
  unfold drawO
  rw [if_pos hm]
  refine ⟨_, ?_, ?_, rfl⟩
  · split
    · exact Int.fmod_nonneg_of_pos _ hm
    · exact Int.le_refl 0
  · split
    · exact Int.fmod_lt_of_pos _ hm
    · exact hm
theorem boxE_imm (b : Box) : (boxE b).imm = false := by simp [boxE, box, D.imm]
theorem f_box {c : List D → D} (hc : c = .lst ∨ c = .frz) (xs : List Int) : ∃ b : Box, d_law_box [c (xs.map .int), .int 0, .int 62] = some (boxE b, [some (c (xs.map .int)), some (.int 0), some (.int 62)]) := by
  obtain ⟨ds, e⟩ := box_ok c hc xs
  exact ⟨(ds, 0), e⟩
/-! rules that the printed texts use -/
@[reducible] def Lx {α : Type} (E : Enc α) (xs : List α) : D := .lst (xs.map E.enc)
section
variable {α β τ ρ : Type} {p p1 p2 p3 : Bool} {A A1 A2 A3 : List Sl} {m ma mb mn : Den} {S : τ → Out → Prop} {rest : Blk}
theorem r_draw {i : Nat} {b : Box} {k : Int} {v : Int × Box} (hb : A[i]? = some (.is (boxE b))) (hm : RV p A mn (.own (.int k)) A) (e : drawO b k = some v) : RV false A (dUser d_law_draw (dACons true (dVar i) (dACons true mn dANil))) (.own (.int v.1)) (A.set i (.is (boxE v.2))) := fun δ a => by
  obtain ⟨δ', e1, e2, _⟩ := r_user (f := d_law_draw) (r_acons (q := true) (r_varM hb (boxE_imm b)) (r_acons (q := true) hm r_anil rfl) rfl) (by simp [rootsOk, roots]) (drfs_cons (drf_at hb) (drfs_cons drf_own drfs_nil)) (f_draw e) (.pth (l := []) hb (.own .nil) rfl) δ a
  refine ⟨δ', e1, ?_, fun h => by cases h⟩
  rw [List.set_set] at e2
  exact e2
theorem k_asgF {i : Nat} {me : Den} {v : α} {f : α → Option τ} (ex : α → D) (h : RV p A me (.own (ex v)) A1) (hi : i < A1.length) (g : ∀ x, RB (A1.set i (.is (ex x))) rest (f x) S) : RB A (dSeq (dAsg (bName i) me) rest) (lv v f) S := k_asg h hi (g v)
def RVO (p : Bool) (A : List Sl) (m : Den) (ex : α → D) (n : Option α) (A' : List Sl) : Prop := ∀ v, n = some v → RV p A m (.own (ex v)) A'
def RTO (p : Bool) (A : List Sl) (m : DenT) (n : Option Bool) (A' : List Sl) : Prop := ∀ v, n = some v → RT p A m v A'
theorem o_bnd {ex : α → D} {x : Option β} {f : β → Option α} (h : ∀ a, x = some a → RVO p A m ex (f a) A1) : RVO p A m ex (bnd x f) A1 := fun v e => by
  obtain ⟨a, h1, h2⟩ := bnd_eq e
  exact h a h1 v h2
theorem o_some {ex : α → D} {v : α} (h : RV p A m (.own (ex v)) A1) : RVO p A m ex (some v) A1 := fun _ e => by cases e; exact h
theorem to_bnd {mt : DenT} {x : Option β} {f : β → Option Bool} (h : ∀ a, x = some a → RTO p A mt (f a) A1) : RTO p A mt (bnd x f) A1 := fun v e => by
  obtain ⟨a, h1, h2⟩ := bnd_eq e
  exact h a h1 v h2
theorem to_some {mt : DenT} {v : Bool} (h : RT p A mt v A1) : RTO p A mt (some v) A1 := fun _ e => by cases e; exact h
def andO (x : Bool) (n : Option Bool) : Option Bool := if x = true then n else some false
def orO (x : Bool) (n : Option Bool) : Option Bool := if x = true then some true else n
theorem o_andV {x : Bool} {n : Option Bool} {v : Bool} (h : RV p1 A ma (.own (.bl x)) A) (h1 : x = true → RVO p2 A mb D.bl n A) (e : andO x n = some v) : RV (p1 && p2) A (dAndV ma mb) (.own (.bl v)) A := by
  cases x with
  | true => have := r_andV h (fun hx => h1 hx v e); simpa using this
  | false => cases e; exact r_andV (y := false) h (fun hx => by cases hx)
theorem o_and {ta tb : DenT} {x : Bool} {n : Option Bool} {v : Bool} (h : RT p1 A ta x A) (h1 : x = true → RTO p2 A tb n A) (e : andO x n = some v) : RT (p1 && p2) A (dAnd ta tb) v A := by
  cases x with
  | true => have := r_and h (fun hx => h1 hx v e); simpa using this
  | false => cases e; exact r_and (y := false) h (fun hx => by cases hx)
theorem o_or {ta tb : DenT} {x : Bool} {n : Option Bool} {v : Bool} (h : RT p1 A ta x A) (h1 : x = false → RTO p2 A tb n A) (e : orO x n = some v) : RT (p1 && p2) A (dOr ta tb) v A := by
  cases x with
  | false => have := r_or h (fun hx => h1 hx v e); simpa using this
  | true => cases e; exact r_or (y := false) h (fun hx => by cases hx)
theorem o_ife {c : DenT} {b : Bool} {ex : α → D} {na nb : Option α} {v : α} (h : RT p1 A c b A1) (h1 : b = true → RVO p2 A1 ma ex na A2) (h2 : b = false → RVO p3 A1 mb ex nb A2) (e : (if b = true then na else nb) = some v) : RV (p1 && (p2 && p3)) A (dIfE c ma mb) (.own (ex v)) A2 := by
  cases b with
  | true =>
    refine fun δ a => ?_
    obtain ⟨δ1, e1, a1, u1⟩ := h δ a
    obtain ⟨δ2, e2, a2, u2⟩ := h1 rfl v e δ1 a1
    exact ⟨δ2, by simp only [dIfE, e1, e2], a2, fun h => by simp only [Bool.and_eq_true] at h; rw [u2 h.2.1, u1 h.1]⟩
  | false =>
    refine fun δ a => ?_
    obtain ⟨δ1, e1, a1, u1⟩ := h δ a
    obtain ⟨δ2, e2, a2, u2⟩ := h2 rfl v e δ1 a1
    exact ⟨δ2, by simp only [dIfE, e1, e2], a2, fun h => by simp only [Bool.and_eq_true] at h; rw [u2 h.2.2, u1 h.1]⟩
theorem r_ifeE {c : DenT} {b : Bool} {ex : α → D} {x y : α} (h : RT p1 A c b A1) (h1 : b = true → RV p2 A1 ma (.own (ex x)) A2) (h2 : b = false → RV p3 A1 mb (.own (ex y)) A2) : RV (p1 && (p2 && p3)) A (dIfE c ma mb) (.own (ex (if b = true then x else y))) A2 :=
  o_ife (na := some x) (nb := some y) h (fun e => o_some (h1 e)) (fun e => o_some (h2 e)) (by cases b <;> rfl)
theorem co_opt {E : Enc α} {hn : E.nn = true} {o : Option α} {v : α} (e : o = some v) (h : RV p A m (.own ((Eo E hn).enc o)) A1) : RV p A m (.own (E.enc v)) A1 := by rw [e] at h; exact h
theorem r_push {i : Nat} {mo me : Den} {E : Enc α} {xs zs : List α} {y : α} {q : Bool} (e : pushO xs y = some zs) (ho : RV p1 A mo (.at i []) A1) (g1 : A1[i]? = some (.is (Lx E xs))) (h : RV p2 A1 me (.own (E.enc y)) A2) (g : A2[i]? = some (.is (Lx E xs))) :
    RV false A (dAppend q mo me) (.own .non) (A2.set i (.is (Lx E zs))) := by
  obtain ⟨hl, rfl⟩ := push_eq e
  have := r_append (q := q) ho g1 h g (by simpa using hl)
  simpa [Lx] using this
theorem k_augI {i : Nat} {me : Den} {f : Int → Int → Int} {x y : Int} {k : Int → Option τ} (g : A[i]? = some (.is (.int x))) (h : RV p A me (.own (.int y)) A1) (hi : i < A1.length) (c : ∀ z, RB (A1.set i (.is (Ei.enc z))) rest (k z) S) : RB A (dSeq (dAug i f me) rest) (lv (f x y) k) S := k_aug g h hi (c _)
/-- the call of a def, from its body -/
def finsS (kp : Nat → Bool) : Nat → Nat → List Sl → Option (List (Option D))
  | _, 0, _ => some []
  | i, n + 1, [] => none
  | i, n + 1, s :: A => match finsS kp (i + 1) n A with
    | some fs => if kp i = true then match s with
        | .is d => some (some d :: fs)
        | .any => none
      else some (none :: fs)
    | none => none
theorem fins_ok (kp : Nat → Bool) : ∀ (n i : Nat) (A : List Sl) (δ : DE) (fs : List (Option D)), Agr A δ → finsS kp i n A = some fs → fins kp i n δ = fs
  | 0, _, _, δ, fs, _, h => by cases h; cases δ <;> rfl
  | n + 1, i, [], _, _, _, h => by cases h
  | n + 1, i, s :: A, [], _, a, _ => by have := a.len; simp at this
  | n + 1, i, s :: A, x :: δ, fs, a, h => by
    simp only [finsS] at h
    cases h1 : finsS kp (i + 1) n A with
    | none => rw [h1] at h; cases h
    | some gs =>
      rw [h1] at h
      have a' : Agr A δ := ⟨by have := a.len; simpa using this, fun j d e => a.get (j + 1) d e⟩
      have ih := fins_ok kp n (i + 1) A δ gs a' h1
      simp only [fins, ih]
      by_cases hk : kp i = true
      · simp only [hk, if_true] at h ⊢
        cases s with
        | any => cases h
        | is d => cases h; have := a.get 0 d rfl; simp at this; rw [this]
      · simp only [hk, if_false] at h ⊢
        cases h; rfl
theorem agr_env0 (nN np : Nat) (ds : List D) : Agr (ds.map Sl.is ++ List.replicate (nN - np) Sl.any) (env0 nN np ds) where
  len := by simp [env0]
  get i d h := by
    unfold env0
    by_cases hi : i < ds.length
    · rw [List.getElem?_append_left (by simpa using hi)] at h ⊢
      rw [List.getElem?_map] at h ⊢
      cases e : ds[i]? with
      | none => rw [e] at h; cases h
      | some x => rw [e] at h; cases h; rfl
    · rw [List.getElem?_append_right (by simpa using hi), List.getElem?_replicate] at h
      split at h <;> cases h
theorem def_ok {nN np : Nat} {kp : Nat → Bool} {mb : Blk} {n : Option ρ} {er : ρ → D} {Ar : ρ → List Sl} {ds : List D} {r : ρ} {fs : List (Option D)} (h : RB (ds.map Sl.is ++ List.replicate (nN - np) Sl.any) mb n (Rt er Ar)) (e : n = some r) (hl : ds.length = np) (hf : finsS kp 0 np (Ar r) = some fs) :
    dFn nN np kp mb ds = some (er r, fs) := by
  obtain ⟨out, e1, δ, rfl, a⟩ := h r e _ (agr_env0 nN np ds)
  simp only [dFn, hl, if_true, e1, fins_ok kp np 0 _ δ fs a hf]
theorem box_step {c : List D → D} (hc : c = .lst ∨ c = .frz) (xs : List Int) : ∃ b : Box, ∀ (rest : Blk) (tl : DE), dSeq (dAsg (bName 1) (dUser d_law_box (dACons true (dVar 0) (dACons true (dC (.int 0)) (dACons true (dC (.int 62)) dANil))))) rest (some (c (xs.map .int)) :: none :: tl) =
    rest (some (c (xs.map .int)) :: some (boxE b) :: tl) := by
  obtain ⟨b, e⟩ := f_box hc xs
  refine ⟨b, fun rest tl => ?_⟩
  have hi : D.imms (xs.map D.int) = true := map_imms Ei xs
  rcases hc with rfl | rfl <;> simp [dFn, env0, dSeq, dNx, dBk, dCt, dIf, dTb, dTv, dAnd, dOr, dNot, dAndV, dOrV, dNotV, dIfE, dCall, dACons, dANil, dVar, dC, derefs, deref, getP, setP, dRet, dRetN, dSub, subR, subD, R.short, lenD, fLen, fInt, fTuple, dTup, dLst, owns, fI2, D.imm, D.imms, truthD, dAsg, bName, bTup, bCons, bNil, dDrop, dAppend, isLst, mutD, dSetI, dUser, rootsOk, roots, puts, fins, kpL, dAug, fAdd, fMul, fMod, fFdiv, fSub, fLt_int, fGt_int, fLe_int, fGe_int, fEq_int, fNe_int, fEq_str, e, hi]
end
/-! what is plain -/
section
variable {α β : Type}
theorem filter_yes (xs : List α) : xs.filter (fun _ => true) = xs := by simp
theorem lcO_pure (t : α → Bool) (e : α → β) : ∀ xs : List α, lcO (fun x => some (t x)) (fun x => some (e x)) xs = some ((xs.filter t).map e)
  | [] => rfl
  | x :: xs => by
    simp only [lcO, lcO_pure t e xs, List.filter_cons]
    cases t x <;> rfl
theorem lcO_all (e : α → β) (xs : List α) : lcO (fun _ => some true) (fun x => some (e x)) xs = some (xs.map e) := by
  rw [lcO_pure (fun _ => true) e xs, filter_yes]
theorem allO_pure (t e : α → Bool) : ∀ xs : List α, allO (fun x => some (t x)) (fun x => some (e x)) xs = some ((xs.filter t).all e)
  | [] => rfl
  | x :: xs => by
    simp only [allO, allO_pure t e xs, List.filter_cons]
    cases t x with
    | false => rfl
    | true => cases h : e x <;> simp [h]
theorem allO_all (e : α → Bool) (xs : List α) : allO (fun _ => some true) (fun x => some (e x)) xs = some (xs.all e) := by
  rw [allO_pure (fun _ => true) e xs, filter_yes]
end
end Y


set_option Elab.async false
set_option linter.all false
set_option maxRecDepth 100000
/-! plain laws of the typed functions -/
namespace Y
open PySem PySem.Spec PyProof.Rows L2 Z
section
variable {α β γ ρ τ : Type}
@[simp] theorem lv_eq (a : α) (f : α → β) : lv a f = f a := rfl
@[simp] theorem onR_nx (j : ρ → Option τ) (k : β → Option τ) (b : β) : onR j k (.nx b) = k b := rfl
@[simp] theorem onR_rt (j : ρ → Option τ) (k : β → Option τ) (r : ρ) : onR j k (.rt r) = j r := rfl
@[simp] theorem forN_nil (f : α → β → Option β) (b : β) : forN f [] b = some b := rfl
theorem forN_cons (f : α → β → Option β) (x : α) (xs : List α) (b : β) : forN f (x :: xs) b = bnd (f x b) (forN f xs) := by simp only [forN, bnd]; cases f x b <;> rfl
@[simp] theorem forR_nil (f : α → β → Option (Res β ρ)) (b : β) : forR f [] b = some (.nx b) := rfl
/-- a loop that ends, by what holds behind each part of its items -/
theorem forN_inv {f : α → β → Option β} (I : List α → β → Prop) : ∀ (xs pre : List α) (b : β), I pre b → (∀ p x q b, pre ++ xs = p ++ x :: q → I p b → ∃ b', f x b = some b' ∧ I (p ++ [x]) b') → ∃ b', forN f xs b = some b' ∧ I (pre ++ xs) b'
  | [], pre, b, h, _ => ⟨b, rfl, by rwa [List.append_nil]⟩
  | x :: xs, pre, b, h, hs => by
    obtain ⟨b1, e1, h1⟩ := hs pre x xs b rfl h
    obtain ⟨b', e, h'⟩ := forN_inv I xs (pre ++ [x]) b1 h1 fun p y q b e => hs p y q b (by rw [← e]; simp)
    exact ⟨b', by simp only [forN, e1, e], by simpa using h'⟩
/-- a loop that never leaves -/
theorem forR_nx {f : α → β → Option (Res β ρ)} (I : β → Prop) : ∀ (xs : List α) (b : β), I b → (∀ x ∈ xs, ∀ b, I b → ∃ b', f x b = some (.nx b') ∧ I b') → ∃ b', forR f xs b = some (.nx b') ∧ I b'
  | [], b, h, _ => ⟨b, rfl, h⟩
  | x :: xs, b, h, hs => by
    obtain ⟨b1, e1, h1⟩ := hs x (by simp) b h
    obtain ⟨b', e, h'⟩ := forR_nx I xs b1 h1 fun y hy => hs y (List.mem_cons_of_mem _ hy)
    exact ⟨b', by simp only [forR, e1, e], h'⟩
/-! conditions in parts -/
@[simp] theorem andO_some (x y : Bool) : andO x (some y) = some (x && y) := by cases x <;> rfl
@[simp] theorem orO_some (x y : Bool) : orO x (some y) = some (x || y) := by cases x <;> rfl
@[simp] theorem andO_f (n : Option Bool) : andO false n = some false := rfl
@[simp] theorem andO_t (n : Option Bool) : andO true n = n := rfl
@[simp] theorem orO_t (n : Option Bool) : orO true n = some true := rfl
@[simp] theorem orO_f (n : Option Bool) : orO false n = n := rfl
@[simp] theorem bnd_ite (c : Prop) [Decidable c] (x y : Option α) (f : α → Option β) : bnd (if c then x else y) f = if c then bnd x f else bnd y f := by split <;> rfl
/-! rows -/
theorem ixN_nat (n k : Nat) : ixN n (k : Int) = if k < n then some k else none := by
  unfold ixN
  rw [if_pos (by omega)]
  by_cases h : k < n
  · rw [if_pos (by omega), if_pos h, Int.toNat_natCast]
  · rw [if_neg (by omega), if_neg h]
@[simp] theorem atI_nat (xs : List α) (k : Nat) : L2.atI xs (k : Int) = xs[k]? := by
  unfold L2.atI
  rw [ixN_nat]
  by_cases h : k < xs.length
  · rw [if_pos h]; rfl
  · rw [if_neg h, List.getElem?_eq_none (by omega)]; rfl
theorem rngO_ok {lo hi : Int} (h1 : -1000000 ≤ lo) (h2 : lo ≤ 1000000) (h3 : -1000000 ≤ hi) (h4 : hi ≤ 1000000) : rngO lo hi = some (rngN lo (hi - lo).toNat) := by
  unfold rngO; rw [if_pos ⟨h1, h2, h3, h4⟩]
theorem mem_rngN {lo i : Int} {n : Nat} : i ∈ rngN lo n ↔ lo ≤ i ∧ i < lo + n := by
  unfold rngN
  rw [List.mem_map]
  constructor
  · rintro ⟨k, hk, rfl⟩; have := List.mem_range.mp hk; omega
  · rintro ⟨h1, h2⟩; exact ⟨(i - lo).toNat, List.mem_range.mpr (by omega), by omega⟩
/-! sameness -/
theorem same_self {E : Enc α} [DecidableEq α] {a : α} (h : szD (E.enc a) = true) : sameO E a a = some true := by simp [sameO, h]
theorem szDs_map (E : Enc α) : ∀ xs : List α, (∀ x ∈ xs, szD (E.enc x) = true) → szDs (xs.map E.enc) = true
  | [], _ => rfl
  | x :: xs, h => by simp only [List.map_cons, szDs, h x (by simp), szDs_map E xs fun y hy => h y (List.mem_cons_of_mem _ hy), Bool.and_self]
theorem sz_T (E : Enc α) {xs : List α} (hl : xs.length ≤ 1000000) (h : ∀ x ∈ xs, szD (E.enc x) = true) : szD ((Et E).enc xs) = true := by
  show (decide ((xs.map E.enc).length ≤ 1000000) && szDs (xs.map E.enc)) = true
  rw [szDs_map E xs h, List.length_map, Bool.and_true, decide_eq_true_eq]
  exact hl
@[simp] theorem sz_I (i : Int) : szD (Ei.enc i) = true := rfl
@[simp] theorem sz_S (i : Str) : szD (Es.enc i) = true := rfl
@[simp] theorem sz_B (i : Bool) : szD (Eb.enc i) = true := rfl
@[simp] theorem sz_U (i : Unit) : szD (Eu.enc i) = true := rfl
theorem sz_O {E : Enc α} {h : E.nn = true} {o : Option α} (hs : ∀ a, o = some a → szD (E.enc a) = true) : szD ((Eo E h).enc o) = true := by
  cases o with
  | none => rfl
  | some a => exact hs a rfl
/-- a row's parts -/
def szR (F : Rw α) (a : α) : Bool := szDs (F.row a)
@[simp] theorem szR_1 (E : Enc α) (a : α) : szR (R1 E) a = szD (E.enc a) := by simp [szR, R1, szDs]
@[simp] theorem szR_c (E : Enc α) (F : Rw β) (a : α × β) : szR (Rc E F) a = (szD (E.enc a.1) && szR F a.2) := rfl
theorem sz_R {F : Rw α} {h : (F.len != 0) = true} {a : α} (hl : F.len ≤ 1000000) (hs : szR F a = true) : szD ((Er F h).enc a) = true := by
  show (decide ((F.row a).length ≤ 1000000) && szDs (F.row a)) = true
  rw [F.hlen, show szDs (F.row a) = true from hs, Bool.and_true, decide_eq_true_eq]
  exact hl
/-! rows that grow -/
theorem push_ok {xs : List α} {y : α} (h : xs.length < 1000000) : pushO xs y = some (xs ++ [y]) := by simp [pushO, h]
theorem cat_ok {xs ys : List α} (h : xs.length + ys.length ≤ 1000000) : catO xs ys = some (xs ++ ys) := by simp [catO, h]
end
/-! sorting numbers -/
end Y


set_option Elab.async false
set_option linter.all false
set_option maxRecDepth 100000
/-! more plain laws -/
namespace Y
open PySem PySem.Spec PyProof.Rows L2 Z
section
variable {α β γ ρ τ : Type}
end
end Y


set_option Elab.async false
set_option linter.all false
set_option maxRecDepth 100000
/-! more typed rules: zip, list methods, chains, sets of rows, tuple targets -/
namespace Y
open PySem PySem.Spec PyProof.Rows L2 Z
section
variable {p p1 p2 p3 : Bool} {A A1 A2 A3 : List Sl} {α β γ τ : Type} {rest : Blk} {S : τ → Out → Prop} {me : Den} {mr : DE → Option (List R × DE)}
theorem k_asgTF {vs : List Nat} {b : Bnd} {v : α} {f : α → Option τ} {B : α → List Sl} (ex : α → D) (h : RV p A me (.own (ex v)) A1) (hb : ∀ x, Bd vs A1 b (ex x) (B x)) (g : ∀ x, RB (B x) rest (f x) S) : RB A (dSeq (dAsg b me) rest) (lv v f) S := k_asgT h (hb v) (g v)
/-! zip -/
abbrev zipE (E : Enc α) (F : Enc β) : Enc (α × β) := Er (Rc E (R1 F))
def SqOf (A : List Sl) (r : R) (xs : List D) (gs : List (Nat × D)) : Prop := ∀ δ, Agr A δ → ∃ b, seqR δ r = some (xs, b, gs)
theorem sq_T (E : Enc α) (xs : List α) : SqOf A (.own (.tup (xs.map E.enc))) (xs.map E.enc) [] := fun δ a => ⟨false, by simp only [seqR, map_imms, if_true]⟩
theorem zipD_map (E : Enc α) (F : Enc β) : ∀ (xs : List α) (ys : List β), zipD (xs.map E.enc) (ys.map F.enc) = (xs.zip ys).map (zipE E F).enc
  | [], _ => by simp [zipD]
  | _ :: _, [] => by simp [zipD]
  | x :: xs, y :: ys => by
    simp only [List.map_cons, zipD, List.zip_cons_cons, zipD_map E F xs ys]
    rfl
theorem i_zip2 {E : Enc α} {F : Enc β} {xs : List α} {ys : List β} {r1 r2 : R} {g1 g2 : List (Nat × D)} (h : RA p A mr [r1, r2] A1) (h1 : SqOf A1 r1 (xs.map E.enc) g1) (h2 : SqOf A1 r2 (ys.map F.enc) g2) : RS p A (sZip2 mr) ⟨(xs.zip ys).map (zipE E F).enc, g1 ++ g2⟩ A1 := fun δ a => by
  obtain ⟨δ1, e1, a1, u⟩ := h δ a
  obtain ⟨b1, q1⟩ := h1 δ1 a1
  obtain ⟨b2, q2⟩ := h2 δ1 a1
  exact ⟨δ1, by simp only [sZip2, e1, q1, q2, zipD_map], a1, u⟩
/-! methods of lists -/
def popI (xs : List α) (i : Int) : Option (α × List α) := if xs.length ≤ 1000000 then match ixN xs.length i with
  | some k => match xs[k]? with
    | some d => some (d, xs.eraseIdx k)
    | none => none
  | none => none
  else none
/-! a < b < c -/
/-! sets -/
mutual
theorem cl_nol : ∀ (d : D), d.cl = true → d.imm = true → d.nol = true
  | .non, _, _ => rfl
  | .int _, _, _ => rfl
  | .str _, _, _ => rfl
  | .bl _, h, _ => by cases h
  | .tup xs, h, i => cls_nols xs h i
  | .lst _, _, i => by cases i
  | .frz _, h, _ => by cases h
  | .dic _ _, h, _ => by cases h
  | .obj _ _ _, h, _ => by cases h
theorem cls_nols : ∀ (ds : List D), D.cls ds = true → D.imms ds = true → D.nols ds = true
  | [], _, _ => rfl
  | x :: xs, h, i => by
    simp only [D.cls, D.imms, D.nols, Bool.and_eq_true] at h i ⊢
    exact ⟨cl_nol x h.1 i.1, cls_nols xs h.2 i.2⟩
end
class ClE (E : Enc α) : Prop where
  cl : ∀ a, (E.enc a).cl = true
class ClR (E : Rw α) : Prop where
  cl : ∀ a, D.cls (E.row a) = true
class TpE (E : Enc α) : Prop where
  tp : ∀ a, isTup (E.enc a) = true
instance : ClE Ei := ⟨fun _ => rfl⟩
instance : ClE Es := ⟨fun _ => rfl⟩
instance : ClE Eu := ⟨fun _ => rfl⟩
instance {E : Enc α} {h} [ClE E] : ClE (Eo E h) := ⟨fun a => by cases a with
  | none => rfl
  | some a => exact ClE.cl a⟩
theorem cls_map (E : Enc α) [ClE E] : ∀ xs : List α, D.cls (xs.map E.enc) = true
  | [] => rfl
  | x :: xs => by simp only [List.map_cons, D.cls, ClE.cl x, cls_map E xs, Bool.and_self]
instance {E : Enc α} [ClE E] : ClE (Et E) := ⟨fun a => cls_map E a⟩
instance {E : Enc α} : TpE (Et E) := ⟨fun a => rfl⟩
instance {E : Enc α} [ClE E] : ClR (R1 E) := ⟨fun a => by simp only [R1, D.cls, ClE.cl, Bool.and_self]⟩
instance {E : Enc α} {F : Rw β} [ClE E] [ClR F] : ClR (Rc E F) := ⟨fun a => by simp only [Rc, D.cls, ClE.cl, ClR.cl, Bool.and_self]⟩
instance {F : Rw α} {h} [ClR F] : ClE (Er F h) := ⟨fun a => ClR.cl (E := F) a⟩
instance {F : Rw α} {h} : TpE (Er F h) := ⟨fun a => rfl⟩
/-- rows that can be sorted: not empty ones -/
def tkA (E : Enc α) (xs : List α) : Bool := E.tk || xs.all fun a => isTupN (E.enc a)
theorem tkA_map (E : Enc α) {xs : List α} (h : tkA E xs = true) : (xs.map E.enc).all isTupN = true := by
  rw [List.all_map, List.all_eq_true]
  intro a ha
  rcases (Bool.or_eq_true _ _).mp h with h | h
  · exact E.htk h a
  · exact List.all_eq_true.mp h a ha
theorem sortOk_tk (E : Enc α) {xs : List α} (h : Nat.ble E.dp 59 = true) (ha : E.al = true) (hk : tkA E xs = true) : sortOk (xs.map E.enc) = true := by
  unfold sortOk
  simp only [Bool.and_eq_true, map_nols E ha, true_and]
  exact ⟨all_map E _ (fun a => enc_dep E a h) xs, all_map E _ (fun a => all_map E _ (fun b => E.hal ha a b) xs) xs, by rw [tkA_map E hk]; rfl⟩
theorem keysT_map (E : Enc α) [DecidableEq α] [ClE E] [TpE E] (xs : List α) (hl : (nub xs).length < 63) (hd : Nat.ble E.dp 8 = true) : keysT (xs.map E.enc) = true := by
  simp only [keysT, nub_map, List.length_map, hl, decide_true, Bool.true_and]
  refine all_map E _ (fun a => ?_) xs
  have := E.hdp a
  have h2 := Nat.le_of_ble_eq_true hd
  simp only [keyT, TpE.tp, cl_nol _ (ClE.cl a) (E.imm a), ClE.cl, Bool.true_and, decide_eq_true_eq]
  omega
/-- sorting rows of any length -/
def sortU (E : Enc α) (xs : List α) : Option (List α) := if tkA E xs = true then some (E.sort xs) else none
theorem f_sortU (E : Enc α) {xs zs : List α} (e : sortU E xs = some zs) (h : Nat.ble E.dp 59 = true) (ha : E.al = true) : fSort (xs.map E.enc) = some (.lst (zs.map E.enc)) := by
  unfold sortU at e
  split at e
  · rename_i ht
    cases e
    simp only [fSort, sortOk_tk E h ha ht, if_true, sort_map]
  · cases e
theorem f_sortUL (E : Enc α) {xs zs : List α} (e : sortU E xs = some zs) (h : Nat.ble E.dp 59 = true) (ha : E.al = true) : fSort1 [.lst (xs.map E.enc)] = some (.lst (zs.map E.enc)) := by
  simp only [fSort1, itemsD, f_sortU E e h ha]
def lnT [DecidableEq α] (xs : List α) : Option Int := if (nub xs).length < 63 then some ((nub xs).length : Int) else none
theorem f_lsT (E : Enc α) [DecidableEq α] [ClE E] [TpE E] {xs : List α} {v : Int} (h : lnT xs = some v) (hd : Nat.ble E.dp 8 = true) : fLenSet (xs.map E.enc) = some (.int v) := by
  unfold lnT at h
  split at h
  · rename_i hl
    cases h
    simp only [fLenSet, keysT_map E xs hl hd, Bool.or_true, if_true, nub_map, List.length_map]
  · cases h
theorem r_lenX {m : Den} {r : R} {d e : D} {xs : List D} (h : RV p A m r A1) (g : Drf A1 r d) (i : itemsD d = some xs) (f : fLenSet xs = some e) : RV p A (dLenSetX m) (.own e) A1 := fun δ a => by
  obtain ⟨δ1, e1, a1, u⟩ := h δ a
  exact ⟨δ1, by simp only [dLenSetX, e1, g δ1 a1, i, f], a1, u⟩
/-! min, max of two -/
theorem f_max2X (E : Enc α) (a b : α) (h : Nat.ble E.dp 59 = true) (ha : E.al = true) (hn : E.nn = true) : fMax2X [E.enc a, E.enc b] = some (E.enc (if E.lt a b then b else a)) := by
  have := cmpAll_map E [a, b] h ha hn
  simp only [List.map_cons, List.map_nil] at this
  have e := maxD_map E a [b]
  simp only [List.map_cons, List.map_nil, List.foldl_cons, List.foldl_nil] at e
  simp only [fMax2X, fMax, this, if_true, e]
theorem f_max2I (i j : Int) : fMax2X [.int i, .int j] = some (.int (if j > i then j else i)) := by
  refine (f_max2X Ei i j rfl rfl rfl).trans ?_
  simp only [lt_int, decide_eq_true_eq]; rfl
/-! a def that may end without return -/
end
end Y


set_option Elab.async false
set_option linter.all false
set_option maxRecDepth 100000
/-! comprehensions with two clauses, typed -/
namespace Y
open PySem PySem.Spec PyProof.Rows L2 Z
section
variable {p : Bool} {α β γ : Type} {A A1 : List Sl} {me : Den} {mt mt1 : DenT} {ms ms1 : DenS} {bd bd1 : Bnd} {gs : List (Nat × D)}
structure El2 {vs vb vs1 vb1 : List Nat} (A : List Sl) (bd : Bnd) (mt : DenT) (ms1 : DenS) (bd1 : Bnd) (mt1 : DenT) (me : Den) (ex : α → D) (ex1 : γ → D) (g : β → D) (t : α → Option Bool) (s : α → Option (List γ)) (t1 : α → γ → Option Bool) (e : α → γ → Option β) (B : α → List Sl) (gs1 : α → List γ → List (Nat × D)) (B1 : α → γ → List Sl) : Prop where
  fb : ∀ x, Bd vb (setSl A vs) bd (ex x) (B x)
  ft : ∀ x v, t x = some v → RT true (B x) mt v (B x)
  fi : ∀ x ys, t x = some true → s x = some ys → RS true (B x) ms1 ⟨ys.map ex1, gs1 x ys⟩ (B x) ∧ gsIn (kpOut vs1) (gs1 x ys) = true ∧ Gd (setSl (B x) vs1) (gs1 x ys)
  fe : ∀ x, El (vs := vs1) (vb := vb1) (B x) bd1 mt1 me ex1 g (t1 x) (e x) (B1 x)
  fs : ∀ i ∈ vb, i ∈ vs
  fs1 : ∀ i ∈ vs1, i ∈ vs
/-! plain -/
end
end Y


set_option Elab.async false
set_option linter.all false
set_option maxRecDepth 100000
/-! taking a list away from its name; x[::-1]; slices of rows -/
namespace Y
open PySem PySem.Spec PyProof.Rows L2 Z
section
variable {p : Bool} {A A1 : List Sl} {α : Type} {m : Den} {r : R} {d : D}
theorem Agr.none {A : List Sl} {δ : DE} (h : Agr A δ) (i : Nat) : Agr (A.set i .any) (δ.set i none) where
  len := by simp [h.len]
  get j d e := by
    rw [List.getElem?_set] at e
    by_cases hj : i = j
    · rw [if_pos hj] at e
      split at e <;> cases e
    · rw [if_neg hj] at e
      rw [List.getElem?_set_ne hj]
      exact h.get j d e
theorem r_takeI {i : Nat} (h : A[i]? = some (.is d)) (hi : d.imm = true) : RV true A (dTake i) (.own d) A := fun δ a => by
  refine ⟨δ, ?_, a, fun _ => rfl⟩
  simp only [dTake, a.get i d h, hi, if_true]
def inB [DecidableEq α] (a : α) (xs : List α) : Bool := decide (a ∈ xs)
@[simp] theorem inB_eq [DecidableEq α] (a : α) (xs : List α) : inB a xs = true ↔ a ∈ xs := by simp [inB]
theorem f_ninLB [DecidableEq α] (E : Enc α) (a : α) (xs : List α) (h : Nat.ble E.dp 58 = true) : fNotIn [E.enc a, .lst (xs.map E.enc)] = some (.bl (!inB a xs)) := f_ninL E a xs h
/-! x[::-1] -/
/-! rows cut at known places -/
/-! t + u, the kinds brought together -/
end
end Y


set_option Elab.async false
set_option linter.all false
set_option maxRecDepth 100000
/-! rows of several kinds, told apart by their lengths; calls on data of unknown kinds -/
namespace Y
open PySem PySem.Spec PyProof.Rows L2 Z
theorem eqvAll_len : ∀ {xs ys : List PyData}, PyData.eqvAll xs ys = true → xs.length = ys.length
  | [], [], _ => rfl
  | [], _ :: _, h => by simp [PyData.eqvAll] at h
  | _ :: _, [], h => by simp [PyData.eqvAll] at h
  | x :: xs, y :: ys, h => by
    simp only [PyData.eqvAll, Bool.and_eq_true] at h
    simp only [List.length_cons, eqvAll_len h.2]
theorem toPys_len : ∀ xs : List D, (toPys xs).length = xs.length
  | [] => rfl
  | x :: xs => by simp only [toPys, List.length_cons, toPys_len xs]
structure Alt (α : Type) where
  row : α → List D
  keys : List (Nat × Option Str)
  hkey : ∀ a, ∃ k ∈ keys, (row a).length = k.1 ∧ ∀ s, k.2 = some s → ∃ r, row a = .str s :: r
  eq : ∀ a b, PyData.eqvAll (toPys (row a)) (toPys (row b)) = true ↔ a = b
  imm : ∀ a, D.imms (row a) = true
  dp : Nat
  hdp : ∀ a, D.dps (row a) ≤ dp
/-- kinds of rows that no row has in common -/
def disK (k : Nat × Option Str) (ks : List (Nat × Option Str)) : Bool := ks.all fun k' => k.1 != k'.1 || (match k.2, k'.2 with
  | some a, some b => decide (a ≠ b)
  | _, _ => false)
theorem disK_no {k k' : Nat × Option Str} {ks : List (Nat × Option Str)} (h : disK k ks = true) (hk : k' ∈ ks) {xs ys : List D} (l1 : xs.length = k.1) (l2 : ys.length = k'.1) (t1 : ∀ s, k.2 = some s → ∃ r, xs = .str s :: r) (t2 : ∀ s, k'.2 = some s → ∃ r, ys = .str s :: r) (e : PyData.eqvAll (toPys xs) (toPys ys) = true) : False := by
  have h1 := List.all_eq_true.mp h k' hk
  rw [Bool.or_eq_true] at h1
  rcases h1 with h1 | h1
  · have := eqvAll_len e
    rw [toPys_len, toPys_len, l1, l2] at this
    rw [this] at h1; simp at h1
  · obtain ⟨n, o⟩ := k
    obtain ⟨n', o'⟩ := k'
    dsimp only at h1 t1 t2
    cases o with
    | none => simp at h1
    | some s => cases o' with
      | none => simp at h1
      | some t =>
        obtain ⟨r, rfl⟩ := t1 s rfl
        obtain ⟨r', rfl⟩ := t2 t rfl
        simp only [toPys, PyData.eqvAll, Bool.and_eq_true] at e
        have : s = t := (Es.eq s t).mp e.1
        simp [this] at h1
def R0 : Rw Unit where
  row _ := []
  len := 0
  hlen _ := rfl
  eq a b := by simp [toPys, PyData.eqvAll]
  imm _ := rfl
  nol _ _ := rfl
  dp := 0
  hdp _ := by simp [D.dps]
  al := true
  hal _ a b := by simp [toPys, PySem.W.alikeAll]
section
variable {α β : Type}
def A1 (F : Rw α) : Alt α where
  row := F.row
  keys := [(F.len, F.tag)]
  hkey a := ⟨_, List.mem_cons_self, F.hlen a, fun s h => F.htag s h a⟩
  eq := F.eq
  imm := F.imm
  dp := F.dp
  hdp := F.hdp
def Ac (F : Rw α) (G : Alt β) (h : disK (F.len, F.tag) G.keys = true) : Alt (α ⊕ β) where
  row := Sum.elim F.row G.row
  keys := (F.len, F.tag) :: G.keys
  hkey a := by
    cases a with
    | inl a => exact ⟨_, List.mem_cons_self, F.hlen a, fun s h => F.htag s h a⟩
    | inr b =>
      obtain ⟨k, hk, r⟩ := G.hkey b
      exact ⟨k, List.mem_cons_of_mem _ hk, r⟩
  eq a b := by
    cases a with
    | inl a => cases b with
      | inl b => simp only [Sum.elim_inl, Sum.inl.injEq]; exact F.eq a b
      | inr b =>
        simp only [Sum.elim_inl, Sum.elim_inr, reduceCtorEq, iff_false]
        intro e
        obtain ⟨k, hk, hl, ht⟩ := G.hkey b
        exact disK_no h hk (F.hlen a) hl (fun s h => F.htag s h a) ht e
    | inr a => cases b with
      | inl b =>
        simp only [Sum.elim_inl, Sum.elim_inr, reduceCtorEq, iff_false]
        intro e
        obtain ⟨k, hk, hl, ht⟩ := G.hkey a
        rw [PySem.W.eqvAll_comm] at e
        exact disK_no h hk (F.hlen b) hl (fun s h => F.htag s h b) ht e
      | inr b => simp only [Sum.elim_inr, Sum.inr.injEq]; exact G.eq a b
  imm a := by cases a with
    | inl a => exact F.imm a
    | inr a => exact G.imm a
  dp := max F.dp G.dp
  hdp a := by cases a with
    | inl a => have := F.hdp a; simp only [Sum.elim_inl]; omega
    | inr a => have := G.hdp a; simp only [Sum.elim_inr]; omega
def Ea (G : Alt α) : Enc α where
  enc a := .tup (G.row a)
  eq a b := by simp only [eqD, toPy, PyData.eqv]; exact G.eq a b
  imm a := G.imm a
  nol h := by cases h
  dp := G.dp + 1
  hdp a := by simp only [D.dp]; have := G.hdp a; omega
  nn := true
  hnn _ a h := by cases h
  al := false
  hal h := by cases h
  tk := false
  htk h := by cases h
  pl := false
  hpl h := by cases h
end
/-! lists of data of unknown kinds -/
section
variable {p p1 p2 : Bool} {A A1 A2 : List Sl} {mr : DE → Option (List R × DE)} {rs : List R} {ds : List D}
end
end Y
namespace Y
open PySem PySem.Spec PyProof.Rows L2 Z
section
variable {α : Type}
end
end Y
namespace Y
open PySem PySem.Spec PyProof.Rows L2 Z
end Y
namespace Y
open PySem PySem.Spec PyProof.Rows L2 Z
end Y


set_option Elab.async false
set_option linter.all false
set_option maxRecDepth 100000
/-! sorted by a lambda's keys, typed -/
namespace Y
open PySem PySem.Spec PyProof.Rows L2 Z
variable {α β γ : Type}
section
variable {p : Bool} {A A1 : List Sl} {bd : Bnd} {mt : DenT} {me : Den} {ms : DenS} {gs : List (Nat × D)}
end
section
variable {p1 p2 p3 : Bool} {A A1 A2 : List Sl} {mr : DE → Option (List R × DE)}
/-- the slots written out -/
theorem k_eqA {τ : Type} {A A' : List Sl} {m : Blk} {n : Option τ} {S : τ → Out → Prop} (e : A = A') (h : RB A' m n S) : RB A m n S := e ▸ h
/-! min, max of a generator that hands out ints -/
/-! sorted(range(n), key=lambda w: ns[w]) -/
end
section
variable {p p1 p2 : Bool} {A A1 A2 : List Sl} {m mr1 : Den} {r : R} {mr : DE → Option (List R × DE)}
end
end Y


set_option Elab.async false
set_option linter.all false
set_option maxRecDepth 100000
/-! generator expressions with two clauses, typed -/
namespace Y
open PySem PySem.Spec PyProof.Rows L2 Z
section
variable {p : Bool} {α β γ : Type} {A A1 : List Sl} {me : Den} {mt mt1 : DenT} {ms ms1 : DenS} {bd bd1 : Bnd} {gs : List (Nat × D)}
section
variable {vs vb vs1 vb1 : List Nat} {ex : α → D} {ex1 : γ → D} {g : β → D} {t : α → Option Bool} {s : α → Option (List γ)} {t1 : α → γ → Option Bool} {e : α → γ → Option β} {B : α → List Sl} {gs1 : α → List γ → List (Nat × D)} {B1 : α → γ → List Sl} {stop : D → Bool}
end
section
variable {vs vb vs1 vb1 : List Nat} {ex : α → D} {ex1 : γ → D} {t : α → Option Bool} {s : α → Option (List γ)} {t1 e : α → γ → Option Bool} {B : α → List Sl} {gs1 : α → List γ → List (Nat × D)} {B1 : α → γ → List Sl}
end
end
end Y


set_option Elab.async false
set_option linter.all false
set_option maxRecDepth 100000
/-! dicts, typed -/
namespace Y
open PySem PySem.Spec PyProof.Rows L2 Z
section
variable {α β τ : Type}
def dGet [DecidableEq α] : List (α × β) → α → Option β
  | [], _ => none
  | p :: r, k => if p.1 = k then some p.2 else dGet r k
def dHas [DecidableEq α] (d : List (α × β)) (k : α) : Bool := d.any fun p => decide (p.1 = k)
def dPut [DecidableEq α] (d : List (α × β)) (k : α) (v : β) : List (α × β) := if dHas d k = true then d.map (fun p => if p.1 = k then (p.1, v) else p) else d ++ [(k, v)]
def dPutO [DecidableEq α] (d : List (α × β)) (k : α) (v : β) : Option (List (α × β)) := if d.length < 1000000 then some (dPut d k v) else none
/-- all values of the kind can be keys of one dict -/
structure FamE (E : Enc α) : Prop where
  fam : ∀ xs : List α, famOk (xs.map E.enc) = true
variable {E : Enc α} {F : Enc β}
section
variable {A A1 A2 A3 : List Sl} {rest : Blk} {S : τ → Out → Prop} {p1 p2 p3 : Bool} {me mo mi mk mv : Den}
end
end
end Y


set_option Elab.async false
set_option linter.all false
set_option maxRecDepth 100000
/-! row * number, list.count: typed -/
namespace Y
open PySem PySem.Spec PyProof.Rows L2 Z
section
variable {α : Type} {p1 p2 : Bool} {A A1 A2 : List Sl} {mr : DE → Option (List R × DE)}
def repTO (xs : List α) (n : Int) : Option (List α) := if -1000000 ≤ n ∧ n ≤ 1000 ∧ xs.length ≤ 1000 then some (List.replicate n.toNat xs).flatten else none
end
/-! tests of which the later part draws -/
section
variable {p p1 p2 : Bool} {A : List Sl} {ta tb : DenT} {i : Nat} {b : Box}
def andE (x : Bool) (n : Option (Bool × Box)) (b : Box) : Option (Bool × Box) := if x = true then n else some (false, b)
end
end Y


set_option Elab.async false
set_option linter.all false
set_option maxRecDepth 100000
/-! lists that nobody changes: values like others -/
namespace Y
open PySem PySem.Spec PyProof.Rows L2 Z
section
variable {α : Type} (E : Enc α)
def Ef : Enc (List α) where
  enc xs := .frz (xs.map E.enc)
  eq a b := by simp only [eqD, toPy, PyData.eqv]; exact map_eqv E a b
  imm a := rfl
  dp := E.dp + 1
  hdp a := by simp only [D.dp]; have := map_dps E a; omega
  nn := true
  hnn _ a h := by cases h
  al := false
  hal h := by cases h
  nol h := by cases h
  tk := false
  htk h := by cases h
  pl := false
  hpl h := by cases h
variable {p : Bool} {A A1 : List Sl} {m : Den}
end
end Y


set_option Elab.async false
set_option linter.all false
set_option maxRecDepth 100000
/-! lists one behind the other, not of any value, kinds that are told apart: typed -/
namespace Y
open PySem PySem.Spec PyProof.Rows L2 Z
section
variable {α β : Type} {p : Bool} {A A1 : List Sl} {m : Den} {r : R} {d : D} {b : Bool}
/-! one of two kinds that are never alike -/
end
end Y


set_option Elab.async false
set_option linter.all false
set_option maxRecDepth 100000
/-! list(range(n)): typed -/
namespace Y
open PySem PySem.Spec PyProof.Rows L2 Z
section
variable {p : Bool} {A A1 : List Sl} {m : Den}
end
end Y


set_option Elab.async false
set_option linter.all false
set_option maxRecDepth 100000
/-! what is not reached; and, or by truth -/
namespace Y
open PySem PySem.Spec PyProof.Rows L2 Z
section
variable {A : List Sl} {p1 p2 : Bool} {ma mb : Den} {α : Type} {E : Enc α} {x y : α} {t : Bool}
end
end Y


set_option Elab.async false
set_option linter.all false
set_option maxRecDepth 100000
/-! what kind a part of a row of several kinds is -/
namespace Y
open PySem PySem.Spec PyProof.Rows L2 Z
section
variable {p1 p2 q : Bool} {A A1 A2 : List Sl} {ma mb : Den} {ra rb : R} {α : Type} {G : Alt α} {g : PyData → Bool} {i : Int} {a : α} {b : Bool} {sel : α → Option Bool}
end
end Y


set_option Elab.async false
set_option linter.all false
set_option maxRecDepth 100000
/-! min, max of what a generator hands out: rows -/
namespace Y
open PySem PySem.Spec PyProof.Rows L2 Z
variable {α : Type}
end Y


set_option Elab.async false
set_option linter.all false
set_option maxRecDepth 100000
/-! list.remove of rows -/
namespace Y
open PySem PySem.Spec PyProof.Rows L2 Z
section
variable {α : Type} {A A1 A2 : List Sl} {p1 p2 : Bool} {mr : DE → Option (List R × DE)}
end
end Y




set_option Elab.async false
set_option linter.all false
set_option maxRecDepth 100000
/-! ranges that go down, typed -/
namespace Y
open PySem PySem.Spec PyProof.Rows L2 Z
end Y


set_option Elab.async false
set_option linter.all false
set_option maxRecDepth 100000
/-! two rows, one behind the other -/
namespace Y
open PySem PySem.Spec PyProof.Rows L2 Z
end Y


set_option Elab.async false
set_option linter.all false
set_option maxRecDepth 100000
/-! texts, typed: join, index, count, enumerate -/
namespace Y
open PySem PySem.Spec PyProof.Rows L2 Z
section
variable {p : Bool} {A A1 A2 : List Sl} {m m2 : Den}
end
end Y


set_option Elab.async false
set_option linter.all false
set_option maxRecDepth 100000
/-! x += a text, typed -/
namespace Y
open PySem PySem.Spec PyProof.Rows L2 Z
section
variable {p : Bool} {A A1 : List Sl} {rest : Blk} {τ : Type} {S : τ → Out → Prop}
end
end Y


set_option Elab.async false
set_option linter.all false
set_option maxRecDepth 100000
/-! sorted(set(a text)), typed -/
namespace Y
open PySem PySem.Spec PyProof.Rows L2 Z
end Y


set_option Elab.async false
set_option linter.all false
set_option maxRecDepth 100000
/-! a list that is locked: nothing else changes -/
namespace Y
open PySem PySem.Spec PyProof.Rows L2 Z
end Y


set_option Elab.async false
set_option linter.all false
set_option maxRecDepth 100000
/-! dicts, typed: d.get(k), list(d) -/
namespace Y
open PySem PySem.Spec PyProof.Rows L2 Z
section
variable {α β : Type} {E : Enc α} {F : Enc β}
end
end Y


set_option Elab.async false
set_option linter.all false
set_option maxRecDepth 100000
/-! list of a text, typed -/
namespace Y
open PySem PySem.Spec PyProof.Rows L2 Z
end Y


set_option Elab.async false
set_option linter.all false
set_option maxRecDepth 100000
/-! a text, so many times, typed -/
namespace Y
open PySem PySem.Spec PyProof.Rows L2 Z
end Y


set_option Elab.async false
set_option linter.all false
set_option maxRecDepth 100000
/-! objects of classes, typed -/
namespace Y
open PySem PySem.Spec PyProof.Rows L2 Z
section
variable {α β τ : Type} {p p0 p1 p2 p3 : Bool} {A A0 A1 A2 A3 : List Sl} {m mo mi me : Den} {mr : DE → Option (List R × DE)} {r r' ra : R} {rs : List R} {c cn f mn : Str} {ns ns' : List Str} {xs xs' : List D} {d e : D} {ds : List D} {j : Nat} {rest : Blk} {S : τ → Out → Prop} {n : Option τ}
end
end Y


set_option Elab.async false
set_option linter.all false
set_option maxRecDepth 100000
/-! a field set, with a name for the value -/
namespace Y
open PySem PySem.Spec PyProof.Rows L2 Z
section
variable {α τ : Type} {p1 p2 : Bool} {A A1 A2 : List Sl} {mo me : Den} {cn f : Str} {ns : List Str} {xs : List D} {rest : Blk} {S : τ → Out → Prop}
end
end Y


set_option Elab.async false
set_option linter.all false
set_option maxRecDepth 100000
/-! min by a key, typed -/
namespace Y
open PySem PySem.Spec PyProof.Rows L2 Z
section
variable {α γ : Type}
end
end Y


set_option Elab.async false
set_option linter.all false
set_option maxRecDepth 100000
/-! zip of four, typed -/
namespace Y
open PySem PySem.Spec PyProof.Rows L2 Z
section
variable {α β γ κ : Type} {p : Bool} {A A1 : List Sl} {mr : DE → Option (List R × DE)}
abbrev zipE4 (E : Enc α) (F : Enc β) (G : Enc γ) (K : Enc κ) : Enc (α × β × γ × κ) := Er (Rc E (Rc F (Rc G (R1 K)))) rfl
theorem zipD4_map (E : Enc α) (F : Enc β) (G : Enc γ) (K : Enc κ) : ∀ (xs : List α) (ys : List β) (zs : List γ) (us : List κ), zipD4 (xs.map E.enc) (ys.map F.enc) (zs.map G.enc) (us.map K.enc) = (xs.zip (ys.zip (zs.zip us))).map (zipE4 E F G K).enc
  | [], _, _, _ => by simp [zipD4]
  | _ :: _, [], _, _ => by simp [zipD4]
  | _ :: _, _ :: _, [], _ => by simp [zipD4]
  | _ :: _, _ :: _, _ :: _, [] => by simp [zipD4]
  | x :: xs, y :: ys, z :: zs, u :: us => by
    simp only [List.map_cons, zipD4, List.zip_cons_cons, zipD4_map E F G K xs ys zs us]
    rfl
theorem i_zip4 {E : Enc α} {F : Enc β} {G : Enc γ} {K : Enc κ} {xs : List α} {ys : List β} {zs : List γ} {us : List κ} {r1 r2 r3 r4 : R} {g1 g2 g3 g4 : List (Nat × D)} (h : RA p A mr [r1, r2, r3, r4] A1) (h1 : SqOf A1 r1 (xs.map E.enc) g1) (h2 : SqOf A1 r2 (ys.map F.enc) g2) (h3 : SqOf A1 r3 (zs.map G.enc) g3) (h4 : SqOf A1 r4 (us.map K.enc) g4) :
    RS p A (sZip4 mr) ⟨(xs.zip (ys.zip (zs.zip us))).map (zipE4 E F G K).enc, g1 ++ (g2 ++ (g3 ++ g4))⟩ A1 := fun δ a => by
  obtain ⟨δ1, e1, a1, u⟩ := h δ a
  obtain ⟨b1, q1⟩ := h1 δ1 a1
  obtain ⟨b2, q2⟩ := h2 δ1 a1
  obtain ⟨b3, q3⟩ := h3 δ1 a1
  obtain ⟨b4, q4⟩ := h4 δ1 a1
  exact ⟨δ1, by simp only [sZip4, e1, q1, q2, q3, q4, zipD4_map], a1, u⟩
end
end Y


set_option Elab.async false
set_option linter.all false
set_option maxRecDepth 100000
set_option maxHeartbeats 20000000
set_option synthInstance.maxHeartbeats 400000
set_option synthInstance.maxSize 4000
namespace P08
open PySem PySem.Spec PyProof.Rows L2 Z Y
def top (i : Nat) : Stmt := PySem.Challenge.pw_tracehouse_k08_marks_that_are_covered.main.body.getD i (.Pass ⟨0, 0, 0, 0⟩)
structure Ctx (K : PySem.W.Frag) (mg : Str → Option Value) (base : Heap) where
  f_covers : Addr
  g_covers : FuncData
  d_covers : Def K mg "covers" (top 1) ["marks", "other"] f_covers g_covers
  f_back_to_cover : Addr
  g_back_to_cover : FuncData
  d_back_to_cover : Def K mg "back_to_cover" (top 2) ["net", "goal", "most"] f_back_to_cover g_back_to_cover
  f_decide_cover : Addr
  g_decide_cover : FuncData
  d_decide_cover : Def K mg "decide_cover" (top 3) ["net", "marks", "goal", "most"] f_decide_cover g_decide_cover
  f_law_box : Addr
  g_law_box : FuncData
  d_law_box : Def K mg "_law_box" (top 5) ["script", "first", "last"] f_law_box g_law_box
  f_law_digits : Addr
  g_law_digits : FuncData
  d_law_digits : Def K mg "_law_digits" (top 6) ["script", "first", "last"] f_law_digits g_law_digits
  f_law_cell : Addr
  g_law_cell : FuncData
  d_law_cell : Def K mg "_law_cell" (top 7) ["script", "k"] f_law_cell g_law_cell
  f_law_net : Addr
  g_law_net : FuncData
  d_law_net : Def K mg "_law_net" (top 8) ["box", "most", "wide", "much"] f_law_net g_law_net
  f_law_draw : Addr
  g_law_draw : FuncData
  d_law_draw : Def K mg "_law_draw" (top 9) ["box", "many"] f_law_draw g_law_draw
  f_law_marks : Addr
  g_law_marks : FuncData
  d_law_marks : Def K mg "_law_marks" (top 10) ["box", "net", "most"] f_law_marks g_law_marks
  f_law_same : Addr
  g_law_same : FuncData
  d_law_same : Def K mg "_law_same" (top 11) ["actual", "expected"] f_law_same g_law_same
  f_law_net_reach : Addr
  g_law_net_reach : FuncData
  d_law_net_reach : Def K mg "_law_net_reach" (top 12) ["net", "marks", "most"] f_law_net_reach g_law_net_reach
  f_law_can : Addr
  g_law_can : FuncData
  d_law_can : Def K mg "_law_can" (top 13) ["net", "marks", "step"] f_law_can g_law_can
  f_law_fired : Addr
  g_law_fired : FuncData
  d_law_fired : Def K mg "_law_fired" (top 14) ["net", "marks", "step"] f_law_fired g_law_fired
  f_law_under : Addr
  g_law_under : FuncData
  d_law_under : Def K mg "_law_under" (top 15) ["one", "two"] f_law_under g_law_under
  f_law_least_marks : Addr
  g_law_least_marks : FuncData
  d_law_least_marks : Def K mg "_law_least_marks" (top 16) ["rows"] f_law_least_marks g_law_least_marks
  f_law : Addr
  g_law : FuncData
  d_law : Def K mg "law" (top 17) ["script"] f_law g_law
  n_range : mg "range" = none
  n_len : mg "len" = none
  n_int : mg "int" = none
  n_tuple : mg "tuple" = none
  n_zip : mg "zip" = none
  n_max : mg "max" = none
  n_any : mg "any" = none
  n_all : mg "all" = none
  n_sorted : mg "sorted" = none
  n_isinstance : mg "isinstance" = none
  n_bool : mg "bool" = none
  n_str : mg "str" = none
  n_list : mg "list" = none
  n_set : mg "set" = none
  bm : BMod base mg
section
variable {P : Program} {w : World} {K : PySem.W.Frag} {mg : Str → Option Value} {base : Heap}
def N_law_cell : List Str := ["script", "k"]
theorem S_law_cell : FnScope N_law_cell ["script", "k"] (defScope (top 7)) := ⟨rfl, rfl, rfl, by decide +kernel, rfl, by decide +kernel, by decide +kernel⟩
theorem ok_law_cell (C : Ctx K mg base) : FnOk P w K mg base CX0 1 C.f_law_cell C.g_law_cell ["script", "k"] (spD ⟨K, w⟩ d_law_cell) :=
  z_defF (N := N_law_cell) (ps := ["script", "k"]) (kp := (kpL [0, 1])) (m := m_law_cell) C.d_law_cell.fz S_law_cell fun cc A outer s H E hr =>
    (z_cons (z_if (z_tcmp (o_lt (h64 hr)) (z_var 1) (z_callB c_len (by rfl) C.n_len bb_len (z_acons (z_var 0) z_anil)))
    (z_sone (z_ret (z_sub (z_var 0) (z_var 1))))
    z_nil)
    (z_sone (z_ret z_int)))
def N_law_digits : List Str := ["script", "first", "last", "digits", "k", "cell", "turn", "seed"]
theorem S_law_digits : FnScope N_law_digits ["script", "first", "last"] (defScope (top 6)) := ⟨rfl, rfl, rfl, by decide +kernel, rfl, by decide +kernel, by decide +kernel⟩
theorem ok_law_digits (C : Ctx K mg base) : FnOk P w K mg base CX0 2 C.f_law_digits C.g_law_digits ["script", "first", "last"] (spD ⟨K, w⟩ d_law_digits) :=
  z_defF (N := N_law_digits) (ps := ["script", "first", "last"]) (kp := (kpL [0, 1, 2])) (m := m_law_digits) C.d_law_digits.fz S_law_digits fun cc A outer s H E hr =>
    (z_cons (z_set (i := 3) S_law_digits.nd (by rfl) (by first | exact .inl rfl | exact .inr rfl) (by rfl) (z_lst z_anil))
    (z_cons (z_for (kp' := (kpL [0, 1, 2, 3])) .never (by rfl) (z_range2 (by rfl) C.n_range (z_acons (z_var 1) (z_acons (z_var 2) z_anil)) (h2 := fun _ _ _ h => acons_len2 h)) (z_gname S_law_digits.nd (by rfl) (by first | exact .inl rfl | exact .inr rfl) (by rfl))
    (z_cons (z_set (i := 5) S_law_digits.nd (by rfl) (by first | exact .inl rfl | exact .inr rfl) (by rfl) (z_call (ok_law_cell C) (hr.mono (by decide)) (by rfl) C.d_law_cell.g C.d_law_cell.kp C.d_law_cell.b (z_acons (z_var 0) (z_acons (z_var 4) z_anil))))
    (z_cons (z_if (z_tcmp (o_lt (h64 hr)) (z_var 5) z_int)
    (z_sone (z_set (i := 5) S_law_digits.nd (by rfl) (by first | exact .inl rfl | exact .inr rfl) (by rfl) (z_bin o_sub z_int (z_bin o_mul z_int (z_var 5)))))
    z_nil)
    (z_sone (z_if (z_tcmp (o_ge (h64 hr)) (z_var 5) (z_bin o_pow z_int z_int))
    (z_sone (z_for (kp' := (kpL [0, 1, 2, 3, 4, 7])) .never (by rfl) (z_range1 (by rfl) C.n_range (z_acons z_int z_anil) (h1 := fun _ _ _ h => acons_len1 h)) (z_gname S_law_digits.nd (by rfl) (by first | exact .inl rfl | exact .inr rfl) (by rfl))
    (z_sone (z_if (z_tcmp (o_gt (h64 hr)) (z_var 5) z_int)
    (z_cons (z_expr (z_append (z_var 3) (z_bin o_mod (z_callTy c_int (by rfl) C.n_int bb_int (z_acons (z_var 5) z_anil)) z_int)))
    (z_sone (z_set (i := 5) S_law_digits.nd (by rfl) (by first | exact .inl rfl | exact .inr rfl) (by rfl) (z_bin o_fdiv (z_var 5) z_int))))
    z_nil)) (kpL_sub (by decide))))
    (z_cons (z_set (i := 7) S_law_digits.nd (by rfl) (by first | exact .inl rfl | exact .inr rfl) (by rfl) (z_bin o_mod (z_callTy c_int (by rfl) C.n_int bb_int (z_acons (z_bin o_add (z_bin o_add (z_bin o_mul (z_var 5) z_int) (z_bin o_mul (z_var 4) z_int)) z_int) z_anil)) z_int))
    (z_sone (z_for (kp' := (kpL [0, 1, 2, 3, 4, 5])) .never (by rfl) (z_range1 (by rfl) C.n_range (z_acons z_int z_anil) (h1 := fun _ _ _ h => acons_len1 h)) (z_gname S_law_digits.nd (by rfl) (by first | exact .inl rfl | exact .inr rfl) (by rfl))
    (z_cons (z_set (i := 7) S_law_digits.nd (by rfl) (by first | exact .inl rfl | exact .inr rfl) (by rfl) (z_bin o_mod (z_callTy c_int (by rfl) C.n_int bb_int (z_acons (z_bin o_add (z_bin o_add (z_bin o_mul (z_var 7) z_int) (z_bin o_mul z_int (z_var 6))) z_int) z_anil)) z_int))
    (z_sone (z_expr (z_append (z_var 3) (z_bin o_mod (z_callTy c_int (by rfl) C.n_int bb_int (z_acons (z_bin o_fdiv (z_var 7) z_int) z_anil)) z_int))))) (kpL_sub (by decide))))))))) (kpL_sub (by decide)))
    (z_sone (z_ret (z_var 3)))))
def N_law_box : List Str := ["script", "first", "last"]
theorem S_law_box : FnScope N_law_box ["script", "first", "last"] (defScope (top 5)) := ⟨rfl, rfl, rfl, by decide +kernel, rfl, by decide +kernel, by decide +kernel⟩
theorem ok_law_box (C : Ctx K mg base) : FnOk P w K mg base CX0 3 C.f_law_box C.g_law_box ["script", "first", "last"] (spD ⟨K, w⟩ d_law_box) :=
  z_defF (N := N_law_box) (ps := ["script", "first", "last"]) (kp := (kpL [0, 1, 2])) (m := m_law_box) C.d_law_box.fz S_law_box fun cc A outer s H E hr =>
    (z_sone (z_ret (z_lst (z_acons (z_call (ok_law_digits C) (hr.mono (by decide)) (by rfl) C.d_law_digits.g C.d_law_digits.kp C.d_law_digits.b (z_acons (z_var 0) (z_acons (z_var 1) (z_acons (z_var 2) z_anil)))) (z_acons z_int z_anil)))))
def N_law_draw : List Str := ["box", "many", "at"]
theorem S_law_draw : FnScope N_law_draw ["box", "many"] (defScope (top 9)) := ⟨rfl, rfl, rfl, by decide +kernel, rfl, by decide +kernel, by decide +kernel⟩
theorem ok_law_draw (C : Ctx K mg base) : FnOk P w K mg base CX0 1 C.f_law_draw C.g_law_draw ["box", "many"] (spD ⟨K, w⟩ d_law_draw) :=
  z_defF (N := N_law_draw) (ps := ["box", "many"]) (kp := (kpL [0, 1])) (m := m_law_draw) C.d_law_draw.fz S_law_draw fun cc A outer s H E hr =>
    (z_cons (z_set (i := 2) S_law_draw.nd (by rfl) (by first | exact .inl rfl | exact .inr rfl) (by rfl) (z_sub (z_var 0) z_int))
    (z_cons (z_setI (z_bin o_add (z_var 2) z_int) (z_var 0) z_int)
    (z_cons (z_if (z_tcmp (o_lt (h64 hr)) (z_var 2) (z_callB c_len (by rfl) C.n_len bb_len (z_acons (z_sub (z_var 0) z_int) z_anil)))
    (z_sone (z_ret (z_bin o_mod (z_callTy c_int (by rfl) C.n_int bb_int (z_acons (z_sub (z_sub (z_var 0) z_int) (z_var 2)) z_anil)) (z_var 1))))
    z_nil)
    (z_sone (z_ret z_int)))))
def N_law_net : List Str := ["box", "most", "wide", "much", "many", "steps", "k", "takes", "gives", "p"]
theorem S_law_net : FnScope N_law_net ["box", "most", "wide", "much"] (defScope (top 8)) := ⟨rfl, rfl, rfl, by decide +kernel, rfl, by decide +kernel, by decide +kernel⟩
def l_law_net_1 : Blk :=
    (dSeq (dAsg (bName 7) (dCall fTuple (dACons true (dLc [9] (sRange (dACons true (dVar 4) dANil)) (bName 9) dYes (dCall fMul (d2 false (dCall fAdd (d2 false (dC (.int 1)) (dUser d_law_draw (dACons true (dVar 0) (dACons true (dVar 3) dANil))))) (dCall fInt (dACons true (dCall fEq (d2 true (dUser d_law_draw (dACons true (dVar 0) (dACons true (dC (.int 3)) dANil))) (dC (.int 0)))) dANil))))) dANil)))
    (dSeq (dAsg (bName 8) (dCall fTuple (dACons true (dLc [9] (sRange (dACons true (dVar 4) dANil)) (bName 9) dYes (dCall fMul (d2 false (dCall fAdd (d2 false (dC (.int 1)) (dUser d_law_draw (dACons true (dVar 0) (dACons true (dVar 3) dANil))))) (dCall fInt (dACons true (dCall fEq (d2 true (dUser d_law_draw (dACons true (dVar 0) (dACons true (dC (.int 3)) dANil))) (dC (.int 0)))) dANil))))) dANil)))
    (dDrop (dAppend true (dVar 5) (dTup (dACons true (dVar 7) (dACons true (dVar 8) dANil)))))))
def m_law_net : Blk :=
    (dSeq (dAsg (bName 4) (dCall fAdd (d2 false (dC (.int 1)) (dUser d_law_draw (dACons true (dVar 0) (dACons true (dVar 1) dANil))))))
    (dSeq (dAsg (bName 5) (dLst dANil))
    (dSeq (dFor (kpL [0, 1, 2, 3, 4, 5, 9]) (sRange (dACons true (dUser d_law_draw (dACons true (dVar 0) (dACons true (dCall fAdd (d2 true (dVar 2) (dC (.int 1)))) dANil))) dANil)) (bName 6)
    l_law_net_1)
    (dRet (kpL [0, 1, 2, 3, 9]) (dTup (dACons true (dC (.str "net")) (dACons true (dVar 4) (dACons true (dCall fTuple (dACons true (dVar 5) dANil)) dANil))))))))
def d_law_net : Fn := dFn 10 4 (kpL [0, 1, 2, 3, 9]) m_law_net
theorem ok_law_net (C : Ctx K mg base) : FnOk P w K mg base CX0 2 C.f_law_net C.g_law_net ["box", "most", "wide", "much"] (spD ⟨K, w⟩ d_law_net) :=
  z_defF (N := N_law_net) (ps := ["box", "most", "wide", "much"]) (kp := (kpL [0, 1, 2, 3, 9])) (m := m_law_net) C.d_law_net.fz S_law_net fun cc A outer s H E hr =>
    (z_cons (z_set (i := 4) S_law_net.nd (by rfl) (by first | exact .inl rfl | exact .inr rfl) (by rfl) (z_bin o_add z_int (z_call (ok_law_draw C) (hr.mono (by decide)) (by rfl) C.d_law_draw.g C.d_law_draw.kp C.d_law_draw.b (z_acons (z_var 0) (z_acons (z_var 1) z_anil)))))
    (z_cons (z_set (i := 5) S_law_net.nd (by rfl) (by first | exact .inl rfl | exact .inr rfl) (by rfl) (z_lst z_anil))
    (z_cons (z_for (kp' := (kpL [0, 1, 2, 3, 4, 5, 9])) .never (by rfl) (z_range1 (by rfl) C.n_range (z_acons (z_call (ok_law_draw C) (hr.mono (by decide)) (by rfl) C.d_law_draw.g C.d_law_draw.kp C.d_law_draw.b (z_acons (z_var 0) (z_acons (z_bin o_add (z_var 2) z_int) z_anil))) z_anil) (h1 := fun _ _ _ h => acons_len1 h)) (z_gname S_law_net.nd (by rfl) (by first | exact .inl rfl | exact .inr rfl) (by rfl))
    (z_cons (z_set (i := 7) S_law_net.nd (by rfl) (by first | exact .inl rfl | exact .inr rfl) (by rfl) (z_callTy c_tuple (by rfl) C.n_tuple bb_tuple (z_acons (z_lc (own := [("p", 9)]) (by rfl) S_law_net.nd (z_range1 (by rfl) C.n_range (z_acons (z_var 4) z_anil) (h1 := fun _ _ _ h => acons_len1 h)) (blkOk_by (N := N_law_net) (sc := defScope (top 8)) (by decide +kernel)) (fun _ _ _ _ _ => (z_gname S_law_net.nd (by rfl) (by first | exact .inl rfl | exact .inr rfl) (by rfl))) (fun _ _ _ _ _ => z_tsnil) (fun _ _ _ _ _ => (z_bin o_mul (z_bin o_add z_int (z_call (ok_law_draw C) (hr.mono (by decide)) (by rfl) C.d_law_draw.g C.d_law_draw.kp C.d_law_draw.b (z_acons (z_var 0) (z_acons (z_var 3) z_anil)))) (z_callTy c_int (by rfl) C.n_int bb_int (z_acons (z_cmp (o_eq (h64 hr)) (z_call (ok_law_draw C) (hr.mono (by decide)) (by rfl) C.d_law_draw.g C.d_law_draw.kp C.d_law_draw.b (z_acons (z_var 0) (z_acons z_int z_anil))) z_int) z_anil))))) z_anil)))
    (z_cons (z_set (i := 8) S_law_net.nd (by rfl) (by first | exact .inl rfl | exact .inr rfl) (by rfl) (z_callTy c_tuple (by rfl) C.n_tuple bb_tuple (z_acons (z_lc (own := [("p", 9)]) (by rfl) S_law_net.nd (z_range1 (by rfl) C.n_range (z_acons (z_var 4) z_anil) (h1 := fun _ _ _ h => acons_len1 h)) (blkOk_by (N := N_law_net) (sc := defScope (top 8)) (by decide +kernel)) (fun _ _ _ _ _ => (z_gname S_law_net.nd (by rfl) (by first | exact .inl rfl | exact .inr rfl) (by rfl))) (fun _ _ _ _ _ => z_tsnil) (fun _ _ _ _ _ => (z_bin o_mul (z_bin o_add z_int (z_call (ok_law_draw C) (hr.mono (by decide)) (by rfl) C.d_law_draw.g C.d_law_draw.kp C.d_law_draw.b (z_acons (z_var 0) (z_acons (z_var 3) z_anil)))) (z_callTy c_int (by rfl) C.n_int bb_int (z_acons (z_cmp (o_eq (h64 hr)) (z_call (ok_law_draw C) (hr.mono (by decide)) (by rfl) C.d_law_draw.g C.d_law_draw.kp C.d_law_draw.b (z_acons (z_var 0) (z_acons z_int z_anil))) z_int) z_anil))))) z_anil)))
    (z_sone (z_expr (z_append (z_var 5) (z_tup (z_acons (z_var 7) (z_acons (z_var 8) z_anil)))))))) (kpL_sub (by decide)))
    (z_sone (z_ret (z_tup (z_acons z_str (z_acons (z_var 4) (z_acons (z_callTy c_tuple (by rfl) C.n_tuple bb_tuple (z_acons (z_var 5) z_anil)) z_anil)))))))))
def N_law_marks : List Str := ["box", "net", "most", "p"]
theorem S_law_marks : FnScope N_law_marks ["box", "net", "most"] (defScope (top 10)) := ⟨rfl, rfl, rfl, by decide +kernel, rfl, by decide +kernel, by decide +kernel⟩
def m_law_marks : Blk :=
    (dRet (kpL [0, 1, 2, 3]) (dCall fTuple (dACons true (dLc [3] (sRange (dACons true (dSub true (dVar 1) (dC (.int 1))) dANil)) (bName 3) dYes (dUser d_law_draw (dACons true (dVar 0) (dACons true (dCall fAdd (d2 true (dVar 2) (dC (.int 1)))) dANil)))) dANil)))
def d_law_marks : Fn := dFn 4 3 (kpL [0, 1, 2, 3]) m_law_marks
theorem ok_law_marks (C : Ctx K mg base) : FnOk P w K mg base CX0 2 C.f_law_marks C.g_law_marks ["box", "net", "most"] (spD ⟨K, w⟩ d_law_marks) :=
  z_defF (N := N_law_marks) (ps := ["box", "net", "most"]) (kp := (kpL [0, 1, 2, 3])) (m := m_law_marks) C.d_law_marks.fz S_law_marks fun cc A outer s H E hr =>
    (z_sone (z_ret (z_callTy c_tuple (by rfl) C.n_tuple bb_tuple (z_acons (z_lc (own := [("p", 3)]) (by rfl) S_law_marks.nd (z_range1 (by rfl) C.n_range (z_acons (z_sub (z_var 1) z_int) z_anil) (h1 := fun _ _ _ h => acons_len1 h)) (blkOk_by (N := N_law_marks) (sc := defScope (top 10)) (by decide +kernel)) (fun _ _ _ _ _ => (z_gname S_law_marks.nd (by rfl) (by first | exact .inl rfl | exact .inr rfl) (by rfl))) (fun _ _ _ _ _ => z_tsnil) (fun _ _ _ _ _ => (z_call (ok_law_draw C) (hr.mono (by decide)) (by rfl) C.d_law_draw.g C.d_law_draw.kp C.d_law_draw.b (z_acons (z_var 0) (z_acons (z_bin o_add (z_var 2) z_int) z_anil))))) z_anil))))
def N_covers : List Str := ["marks", "other", "one", "two"]
theorem S_covers : FnScope N_covers ["marks", "other"] (defScope (top 1)) := ⟨rfl, rfl, rfl, by decide +kernel, rfl, by decide +kernel, by decide +kernel⟩
def m_covers : Blk :=
    (dRet (kpL [0, 1, 2, 3]) (dFold fAll (dGe [2, 3] (sZip2 (dACons true (dVar 0) (dACons true (dVar 1) dANil))) (bTup 2 (bCons (bName 2) (bCons (bName 3) bNil))) dYes (dCall fGe (d2 true (dVar 2) (dVar 3))) stopAll)))
def d_covers : Fn := dFn 4 2 (kpL [0, 1, 2, 3]) m_covers
theorem ok_covers (C : Ctx K mg base) : FnOk P w K mg base CX0 2 C.f_covers C.g_covers ["marks", "other"] (spD ⟨K, w⟩ d_covers) :=
  z_defF (N := N_covers) (ps := ["marks", "other"]) (kp := (kpL [0, 1, 2, 3])) (m := m_covers) C.d_covers.fz S_covers fun cc A outer s H E hr =>
    (z_sone (z_ret (z_all (k := 0) (hr.mono (by decide)) (by rfl) C.n_all (z_gen (own := [("one", 2), ("two", 3)]) (k := 0) (hr.mono (by decide)) (by rfl) (by rfl) S_covers.nd C.bm ⟨rfl, rfl⟩ (z_zip2 (by rfl) C.n_zip (z_acons (z_var 0) (z_acons (z_var 1) z_anil))) (blkOk_by (N := N_covers) (sc := defScope (top 1)) (by decide +kernel)) (fun _ _ _ _ _ _ _ hg => (z_gtup (by rfl) (z_gscons (z_gname S_covers.nd (by rfl) (by first | exact .inl rfl | exact .inr rfl) (by rfl)) (z_gscons (z_gname S_covers.nd (by rfl) (by first | exact .inl rfl | exact .inr rfl) (by rfl)) z_gsnil)))) (fun _ _ _ _ _ _ _ hg => z_tsnil) (fun _ _ _ _ _ _ _ hg => (z_cmp (o_ge (h64 hg)) (z_var 2) (z_var 3)))))))
def N_back_to_cover : List Str := ["net", "goal", "most", "found", "place", "takes", "gives", "before", "own", "least", "want", "less", "more", "known", "other"]
theorem S_back_to_cover : FnScope N_back_to_cover ["net", "goal", "most"] (defScope (top 2)) := ⟨rfl, rfl, rfl, by decide +kernel, rfl, by decide +kernel, by decide +kernel⟩
def l_back_to_cover_1 : Blk :=
    (dSeq (dAsg (bName 7) (dFold fTup (dGe [9, 10, 11, 12] (sZip4 (dACons true (dVar 5) (dACons true (dSub true (dVar 3) (dVar 4)) (dACons true (dVar 5) (dACons true (dVar 6) dANil))))) (bTup 4 (bCons (bName 9) (bCons (bName 10) (bCons (bName 11) (bCons (bName 12) bNil))))) dYes (dCall fMax2X (dACons true (dVar 9) (dACons true (dCall fAdd (d2 true (dCall fSub (d2 true (dVar 10) (dVar 12))) (dVar 11))) dANil))) never)))
    (dIf (dNot (dTv (dFold fAny (dGe [13] (sSeq (dVar 3)) (bName 13) dYes (dUser d_covers (dACons true (dVar 7) (dACons true (dVar 13) dANil))) stopAny))))
    (dSeq (dIf (dTb (dCall fEq (d2 true (dCall fLen (dACons true (dVar 3) dANil)) (dVar 2))))
    (dRet (kpL [0, 1, 2, 3, 4, 8, 9, 10, 11, 12, 13, 14]) (dC .non))
    dNx)
    (dDrop (dAppend false (dVar 3) (dTake 7))))
    dNx))
def l_back_to_cover_2 : Blk :=
    (dSeq (dFor (kpL [0, 1, 2, 3, 4, 8, 9, 10, 11, 12, 13, 14]) (sSeq (dSub true (dVar 0) (dC (.int 2)))) (bTup 2 (bCons (bName 5) (bCons (bName 6) bNil)))
    l_back_to_cover_1)
    (dAug 4 (fun i j => i + j) (dC (.int 1))))
def m_back_to_cover : Blk :=
    (dSeq (dAsg (bName 3) (dLst (dACons true (dVar 1) dANil)))
    (dSeq (dAsg (bName 4) (dC (.int 0)))
    (dSeq (dWhile (dTb (dCall fLt (d2 true (dVar 4) (dCall fLen (dACons true (dVar 3) dANil)))))
    l_back_to_cover_2 1000)
    (dRet (kpL [0, 1, 2, 8, 9, 10, 11, 12, 13, 14]) (dCall fTuple (dACons true (dFold fSort (dGe [8] (sSeq (dVar 3)) (bName 8) (dNot (dTv (dFold fAny (dGe [14] (sSeq (dVar 3)) (bName 14) dYes (dAndV (dCall fNe (d2 true (dVar 14) (dVar 8))) (dUser d_covers (dACons true (dVar 8) (dACons true (dVar 14) dANil)))) stopAny)))) (dVar 8) never)) dANil))))))
def d_back_to_cover : Fn := dFn 15 3 (kpL [0, 1, 2, 8, 9, 10, 11, 12, 13, 14]) m_back_to_cover
theorem ok_back_to_cover (C : Ctx K mg base) : FnOk P w K mg base CX0 5 C.f_back_to_cover C.g_back_to_cover ["net", "goal", "most"] (spD ⟨K, w⟩ d_back_to_cover) :=
  z_defF (N := N_back_to_cover) (ps := ["net", "goal", "most"]) (kp := (kpL [0, 1, 2, 8, 9, 10, 11, 12, 13, 14])) (m := m_back_to_cover) C.d_back_to_cover.fz S_back_to_cover fun cc A outer s H E hr =>
    (z_cons (z_set (i := 3) S_back_to_cover.nd (by rfl) (by first | exact .inl rfl | exact .inr rfl) (by rfl) (z_lst (z_acons (z_var 1) z_anil)))
    (z_cons (z_set (i := 4) S_back_to_cover.nd (by rfl) (by first | exact .inl rfl | exact .inr rfl) (by rfl) z_int)
    (z_cons (z_while 1000 .never (z_tcmp (o_lt (h64 hr)) (z_var 4) (z_callB c_len (by rfl) C.n_len bb_len (z_acons (z_var 3) z_anil)))
    (z_cons (z_for (kp' := (kpL [0, 1, 2, 3, 4, 8, 9, 10, 11, 12, 13, 14])) .never (by rfl) (z_seq (z_sub (z_var 0) z_int)) (z_gtup (by rfl) (z_gscons (z_gname S_back_to_cover.nd (by rfl) (by first | exact .inl rfl | exact .inr rfl) (by rfl)) (z_gscons (z_gname S_back_to_cover.nd (by rfl) (by first | exact .inl rfl | exact .inr rfl) (by rfl)) z_gsnil)))
    (z_cons (z_set (i := 7) S_back_to_cover.nd (by rfl) (by first | exact .inl rfl | exact .inr rfl) (by rfl) (z_tupleG (k := 0) (hr.mono (by decide)) (by rfl) C.n_tuple (z_gen (own := [("least", 9), ("want", 10), ("less", 11), ("more", 12)]) (k := 0) (hr.mono (by decide)) (by rfl) (by rfl) S_back_to_cover.nd C.bm ⟨rfl, rfl⟩ (z_zip4 (by rfl) C.n_zip (z_acons (z_var 5) (z_acons (z_sub (z_var 3) (z_var 4)) (z_acons (z_var 5) (z_acons (z_var 6) z_anil))))) (blkOk_by (N := N_back_to_cover) (sc := defScope (top 2)) (by decide +kernel)) (fun _ _ _ _ _ _ _ hg => (z_gtup (by rfl) (z_gscons (z_gname S_back_to_cover.nd (by rfl) (by first | exact .inl rfl | exact .inr rfl) (by rfl)) (z_gscons (z_gname S_back_to_cover.nd (by rfl) (by first | exact .inl rfl | exact .inr rfl) (by rfl)) (z_gscons (z_gname S_back_to_cover.nd (by rfl) (by first | exact .inl rfl | exact .inr rfl) (by rfl)) (z_gscons (z_gname S_back_to_cover.nd (by rfl) (by first | exact .inl rfl | exact .inr rfl) (by rfl)) z_gsnil)))))) (fun _ _ _ _ _ _ _ hg => z_tsnil) (fun _ _ _ _ _ _ _ hg => (z_callB (c_max2X rfl (h64 hg)) (by rfl) C.n_max bb_max (z_acons (z_var 9) (z_acons (z_bin o_add (z_bin o_sub (z_var 10) (z_var 12)) (z_var 11)) z_anil)))))))
    (z_sone (z_if (z_not (z_tv (z_any (k := 2) (hr.mono (by decide)) (by rfl) C.n_any (z_gen (own := [("known", 13)]) (k := 2) (hr.mono (by decide)) (by rfl) (by rfl) S_back_to_cover.nd C.bm ⟨rfl, rfl⟩ (z_seq (z_var 3)) (blkOk_by (N := N_back_to_cover) (sc := defScope (top 2)) (by decide +kernel)) (fun _ _ _ _ _ _ _ hg => (z_gname S_back_to_cover.nd (by rfl) (by first | exact .inl rfl | exact .inr rfl) (by rfl))) (fun _ _ _ _ _ _ _ hg => z_tsnil) (fun _ _ _ _ _ _ _ hg => (z_call (ok_covers C) (hg.mono (by decide)) (by rfl) C.d_covers.g C.d_covers.kp C.d_covers.b (z_acons (z_var 7) (z_acons (z_var 13) z_anil))))))))
    (z_cons (z_if (z_tcmp (o_eq (h64 hr)) (z_callB c_len (by rfl) C.n_len bb_len (z_acons (z_var 3) z_anil)) (z_var 2))
    (z_sone (z_ret z_non))
    z_nil)
    (z_sone (z_expr (z_append (z_var 3) (z_take 7)))))
    z_nil))) (kpL_sub (by decide)))
    (z_sone (z_aug (i := 4) S_back_to_cover.nd (by rfl) (by first | exact .inl rfl | exact .inr rfl) (by rfl) z_int ip_add))))
    (z_sone (z_ret (z_callTy c_tuple (by rfl) C.n_tuple bb_tuple (z_acons (z_sortG (k := 3) (hr.mono (by decide)) (hu_of hr) (by rfl) C.n_sorted (z_gen (own := [("own", 8)]) (k := 3) (hr.mono (by decide)) (by rfl) (by rfl) S_back_to_cover.nd C.bm ⟨rfl, rfl⟩ (z_seq (z_var 3)) (blkOk_by (N := N_back_to_cover) (sc := defScope (top 2)) (by decide +kernel)) (fun _ _ _ _ _ _ _ hg => (z_gname S_back_to_cover.nd (by rfl) (by first | exact .inl rfl | exact .inr rfl) (by rfl))) (fun _ _ _ _ _ _ _ hg => (z_tsone (z_not (z_tv (z_any (k := 2) (hg.mono (by decide)) (by rfl) C.n_any (z_gen (own := [("other", 14)]) (k := 2) (hg.mono (by decide)) (by rfl) (by rfl) S_back_to_cover.nd C.bm ⟨rfl, rfl⟩ (z_seq (z_var 3)) (blkOk_by (by kernel_rfl)) (fun _ _ _ _ _ _ _ hg => (z_gname S_back_to_cover.nd (by rfl) (by first | exact .inl rfl | exact .inr rfl) (by rfl))) (fun _ _ _ _ _ _ _ hg => z_tsnil) (fun _ _ _ _ _ _ _ hg => (z_and (z_cmp (o_ne (h64 hg)) (z_var 14) (z_var 8)) (z_one (z_call (ok_covers C) (hg.mono (by decide)) (by rfl) C.d_covers.g C.d_covers.kp C.d_covers.b (z_acons (z_var 8) (z_acons (z_var 14) z_anil)))))))))))) (fun _ _ _ _ _ _ _ hg => (z_var 8)))) z_anil)))))))
def N_decide_cover : List Str := ["net", "marks", "goal", "most", "least", "own"]
theorem S_decide_cover : FnScope N_decide_cover ["net", "marks", "goal", "most"] (defScope (top 3)) := ⟨rfl, rfl, rfl, by decide +kernel, rfl, by decide +kernel, by decide +kernel⟩
def m_decide_cover : Blk :=
    (dSeq (dAsg (bName 4) (dUser d_back_to_cover (dACons true (dVar 0) (dACons true (dVar 2) (dACons true (dVar 3) dANil)))))
    (dSeq (dIf (dTb (dCall fIs (d2 true (dVar 4) (dC .non))))
    (dRet (kpL [0, 1, 2, 3, 5]) (dTup (dACons true (dC (.str "open")) dANil)))
    dNx)
    (dRet (kpL [0, 1, 2, 3, 5]) (dIfE (dTv (dFold fAny (dGe [5] (sSeq (dVar 4)) (bName 5) dYes (dUser d_covers (dACons true (dVar 1) (dACons true (dVar 5) dANil))) stopAny))) (dTup (dACons true (dC (.str "covered")) dANil)) (dTup (dACons true (dC (.str "never")) (dACons true (dVar 4) dANil)))))))
def d_decide_cover : Fn := dFn 6 4 (kpL [0, 1, 2, 3, 5]) m_decide_cover
theorem ok_decide_cover (C : Ctx K mg base) : FnOk P w K mg base CX0 6 C.f_decide_cover C.g_decide_cover ["net", "marks", "goal", "most"] (spD ⟨K, w⟩ d_decide_cover) :=
  z_defF (N := N_decide_cover) (ps := ["net", "marks", "goal", "most"]) (kp := (kpL [0, 1, 2, 3, 5])) (m := m_decide_cover) C.d_decide_cover.fz S_decide_cover fun cc A outer s H E hr =>
    (z_cons (z_set (i := 4) S_decide_cover.nd (by rfl) (by first | exact .inl rfl | exact .inr rfl) (by rfl) (z_call (ok_back_to_cover C) (hr.mono (by decide)) (by rfl) C.d_back_to_cover.g C.d_back_to_cover.kp C.d_back_to_cover.b (z_acons (z_var 0) (z_acons (z_var 2) (z_acons (z_var 3) z_anil)))))
    (z_cons (z_if (z_tcmp (o_is) (z_var 4) z_non)
    (z_sone (z_ret (z_tup (z_acons z_str z_anil))))
    z_nil)
    (z_sone (z_ret (z_ife (z_tv (z_any (k := 2) (hr.mono (by decide)) (by rfl) C.n_any (z_gen (own := [("own", 5)]) (k := 2) (hr.mono (by decide)) (by rfl) (by rfl) S_decide_cover.nd C.bm ⟨rfl, rfl⟩ (z_seq (z_var 4)) (blkOk_by (N := N_decide_cover) (sc := defScope (top 3)) (by decide +kernel)) (fun _ _ _ _ _ _ _ hg => (z_gname S_decide_cover.nd (by rfl) (by first | exact .inl rfl | exact .inr rfl) (by rfl))) (fun _ _ _ _ _ _ _ hg => z_tsnil) (fun _ _ _ _ _ _ _ hg => (z_call (ok_covers C) (hg.mono (by decide)) (by rfl) C.d_covers.g C.d_covers.kp C.d_covers.b (z_acons (z_var 1) (z_acons (z_var 5) z_anil))))))) (z_tup (z_acons z_str z_anil)) (z_tup (z_acons z_str (z_acons (z_var 4) z_anil))))))))
def N_law_same : List Str := ["actual", "expected", "k"]
theorem S_law_same : FnScope N_law_same ["actual", "expected"] (defScope (top 11)) := ⟨rfl, rfl, rfl, by decide +kernel, rfl, by decide +kernel, by decide +kernel⟩
theorem ok_law_same (C : Ctx K mg base) : ∀ n, FnOk P w K mg base CX0 (n + 0) C.f_law_same C.g_law_same ["actual", "expected"] (spD ⟨K, w⟩ (d_law_same n))
  | 0 => fn_none
  | n + 1 => z_defF (N := N_law_same) (ps := ["actual", "expected"]) (kp := (kpL [0, 1])) (m := m_law_same (d_law_same n)) (k := n + 0) C.d_law_same.fz S_law_same fun cc A outer s H E hr =>
    (z_cons (z_if (z_tv (z_isa isa_tuple (by rfl) C.n_isinstance bb_isinstance (by rfl) C.n_tuple bb_tuple (z_var 1)))
    (z_cons (z_if (PW.pt (z_wor (z_not (z_tv (z_isa isa_tuple (by rfl) C.n_isinstance bb_isinstance (by rfl) C.n_tuple bb_tuple (z_var 0)))) (z_wor1 (z_tcmp (o_ne (h64 hr)) (z_callB c_len (by rfl) C.n_len bb_len (z_acons (z_var 0) z_anil)) (z_callB c_len (by rfl) C.n_len bb_len (z_acons (z_var 1) z_anil))))))
    (z_sone (z_ret z_bl))
    z_nil)
    (z_cons (z_for (kp' := (kpL [0, 1])) .never (by rfl) (z_range1 (by rfl) C.n_range (z_acons (z_callB c_len (by rfl) C.n_len bb_len (z_acons (z_var 1) z_anil)) z_anil) (h1 := fun _ _ _ h => acons_len1 h)) (z_gname S_law_same.nd (by rfl) (by first | exact .inl rfl | exact .inr rfl) (by rfl))
    (z_sone (z_if (z_not (z_tv (z_call (ok_law_same C n) (hr.mono (by omega)) (by rfl) C.d_law_same.g C.d_law_same.kp C.d_law_same.b (z_acons (z_sub (z_var 0) (z_var 2)) (z_acons (z_sub (z_var 1) (z_var 2)) z_anil)))))
    (z_sone (z_ret z_bl))
    z_nil)) (kpL_sub (by decide)))
    (z_sone (z_ret z_bl))))
    z_nil)
    (z_cons (z_if (z_tcmp (o_is) (z_var 1) z_non)
    (z_sone (z_ret (z_cmp (o_is) (z_var 0) z_non)))
    z_nil)
    (z_cons (z_if (z_tv (z_isa isa_bool (by rfl) C.n_isinstance bb_isinstance (by rfl) C.n_bool bb_bool (z_var 1)))
    (z_sone (z_ret (z_and (z_isa isa_bool (by rfl) C.n_isinstance bb_isinstance (by rfl) C.n_bool bb_bool (z_var 0)) (z_one (z_cmp (o_eq (h64 hr)) (z_var 0) (z_var 1))))))
    z_nil)
    (z_cons (z_if (z_tv (z_isa isa_int (by rfl) C.n_isinstance bb_isinstance (by rfl) C.n_int bb_int (z_var 1)))
    (z_sone (z_ret (z_and (z_isa isa_int (by rfl) C.n_isinstance bb_isinstance (by rfl) C.n_int bb_int (z_var 0)) (z_and (z_notV (z_isa isa_bool (by rfl) C.n_isinstance bb_isinstance (by rfl) C.n_bool bb_bool (z_var 0))) (z_one (z_cmp (o_eq (h64 hr)) (z_var 0) (z_var 1)))))))
    z_nil)
    (z_sone (z_ret (z_and (z_isa isa_str (by rfl) C.n_isinstance bb_isinstance (by rfl) C.n_str bb_str (z_var 0)) (z_one (z_cmp (o_eq (h64 hr)) (z_var 0) (z_var 1))))))))))
def N_law_under : List Str := ["one", "two", "k"]
theorem S_law_under : FnScope N_law_under ["one", "two"] (defScope (top 15)) := ⟨rfl, rfl, rfl, by decide +kernel, rfl, by decide +kernel, by decide +kernel⟩
def m_law_under : Blk :=
    (dRet (kpL [0, 1, 2]) (dCall fEq (d2 true (dCall fLen (dACons true (dLc [2] (sRange (dACons true (dCall fLen (dACons true (dVar 0) dANil)) dANil)) (bName 2) (dTb (dCall fGt (d2 true (dSub true (dVar 0) (dVar 2)) (dSub true (dVar 1) (dVar 2))))) (dVar 2)) dANil)) (dC (.int 0)))))
def d_law_under : Fn := dFn 3 2 (kpL [0, 1, 2]) m_law_under
theorem ok_law_under (C : Ctx K mg base) : FnOk P w K mg base CX0 1 C.f_law_under C.g_law_under ["one", "two"] (spD ⟨K, w⟩ d_law_under) :=
  z_defF (N := N_law_under) (ps := ["one", "two"]) (kp := (kpL [0, 1, 2])) (m := m_law_under) C.d_law_under.fz S_law_under fun cc A outer s H E hr =>
    (z_sone (z_ret (z_cmp (o_eq (h64 hr)) (z_callB c_len (by rfl) C.n_len bb_len (z_acons (z_lc (own := [("k", 2)]) (by rfl) S_law_under.nd (z_range1 (by rfl) C.n_range (z_acons (z_callB c_len (by rfl) C.n_len bb_len (z_acons (z_var 0) z_anil)) z_anil) (h1 := fun _ _ _ h => acons_len1 h)) (blkOk_by (N := N_law_under) (sc := defScope (top 15)) (by decide +kernel)) (fun _ _ _ _ _ => (z_gname S_law_under.nd (by rfl) (by first | exact .inl rfl | exact .inr rfl) (by rfl))) (fun _ _ _ _ _ => (z_tsone (z_tcmp (o_gt (h64 hr)) (z_sub (z_var 0) (z_var 2)) (z_sub (z_var 1) (z_var 2))))) (fun _ _ _ _ _ => (z_var 2))) z_anil)) z_int)))
def N_law_least_marks : List Str := ["rows", "x", "y"]
theorem S_law_least_marks : FnScope N_law_least_marks ["rows"] (defScope (top 16)) := ⟨rfl, rfl, rfl, by decide +kernel, rfl, by decide +kernel, by decide +kernel⟩
def m_law_least_marks : Blk :=
    (dRet (kpL [0, 1, 2]) (dCall fSort1 (dACons true (dLc [1] (sSeq (dVar 0)) (bName 1) (dTb (dCall fEq (d2 true (dCall fLen (dACons true (dLc [2] (sSeq (dVar 0)) (bName 2) (dAnd (dTb (dCall fNe (d2 true (dVar 2) (dVar 1)))) (dTv (dUser d_law_under (dACons true (dVar 2) (dACons true (dVar 1) dANil))))) (dVar 2)) dANil)) (dC (.int 0))))) (dVar 1)) dANil)))
def d_law_least_marks : Fn := dFn 3 1 (kpL [0, 1, 2]) m_law_least_marks
theorem ok_law_least_marks (C : Ctx K mg base) : FnOk P w K mg base CX0 2 C.f_law_least_marks C.g_law_least_marks ["rows"] (spD ⟨K, w⟩ d_law_least_marks) :=
  z_defF (N := N_law_least_marks) (ps := ["rows"]) (kp := (kpL [0, 1, 2])) (m := m_law_least_marks) C.d_law_least_marks.fz S_law_least_marks fun cc A outer s H E hr =>
    (z_sone (z_ret (z_callB (c_sorted (hu_of hr)) (by rfl) C.n_sorted bb_sorted (z_acons (z_lc (own := [("x", 1)]) (by rfl) S_law_least_marks.nd (z_seq (z_var 0)) (blkOk_by (N := N_law_least_marks) (sc := defScope (top 16)) (by decide +kernel)) (fun _ _ _ _ _ => (z_gname S_law_least_marks.nd (by rfl) (by first | exact .inl rfl | exact .inr rfl) (by rfl))) (fun _ _ _ _ _ => (z_tsone (z_tcmp (o_eq (h64 hr)) (z_callB c_len (by rfl) C.n_len bb_len (z_acons (z_lc (own := [("y", 2)]) (by rfl) S_law_least_marks.nd (z_seq (z_var 0)) (blkOk_by (by kernel_rfl)) (fun _ _ _ _ _ => (z_gname S_law_least_marks.nd (by rfl) (by first | exact .inl rfl | exact .inr rfl) (by rfl))) (fun _ _ _ _ _ => (z_tsone (PW.pt (z_wand (z_tcmp (o_ne (h64 hr)) (z_var 2) (z_var 1)) (z_wand1 (z_tv (z_call (ok_law_under C) (hr.mono (by decide)) (by rfl) C.d_law_under.g C.d_law_under.kp C.d_law_under.b (z_acons (z_var 2) (z_acons (z_var 1) z_anil))))))))) (fun _ _ _ _ _ => (z_var 2))) z_anil)) z_int))) (fun _ _ _ _ _ => (z_var 1))) z_anil))))
def N_law_can : List Str := ["net", "marks", "step", "p"]
theorem S_law_can : FnScope N_law_can ["net", "marks", "step"] (defScope (top 13)) := ⟨rfl, rfl, rfl, by decide +kernel, rfl, by decide +kernel, by decide +kernel⟩
def m_law_can : Blk :=
    (dRet (kpL [0, 1, 2, 3]) (dCall fEq (d2 true (dCall fLen (dACons true (dLc [3] (sRange (dACons true (dSub true (dVar 0) (dC (.int 1))) dANil)) (bName 3) (dTb (dCall fLt (d2 true (dSub true (dVar 1) (dVar 3)) (dSub true (dSub true (dSub true (dSub true (dVar 0) (dC (.int 2))) (dVar 2)) (dC (.int 0))) (dVar 3))))) (dVar 3)) dANil)) (dC (.int 0)))))
def d_law_can : Fn := dFn 4 3 (kpL [0, 1, 2, 3]) m_law_can
theorem ok_law_can (C : Ctx K mg base) : FnOk P w K mg base CX0 1 C.f_law_can C.g_law_can ["net", "marks", "step"] (spD ⟨K, w⟩ d_law_can) :=
  z_defF (N := N_law_can) (ps := ["net", "marks", "step"]) (kp := (kpL [0, 1, 2, 3])) (m := m_law_can) C.d_law_can.fz S_law_can fun cc A outer s H E hr =>
    (z_sone (z_ret (z_cmp (o_eq (h64 hr)) (z_callB c_len (by rfl) C.n_len bb_len (z_acons (z_lc (own := [("p", 3)]) (by rfl) S_law_can.nd (z_range1 (by rfl) C.n_range (z_acons (z_sub (z_var 0) z_int) z_anil) (h1 := fun _ _ _ h => acons_len1 h)) (blkOk_by (N := N_law_can) (sc := defScope (top 13)) (by decide +kernel)) (fun _ _ _ _ _ => (z_gname S_law_can.nd (by rfl) (by first | exact .inl rfl | exact .inr rfl) (by rfl))) (fun _ _ _ _ _ => (z_tsone (z_tcmp (o_lt (h64 hr)) (z_sub (z_var 1) (z_var 3)) (z_sub (z_sub (z_sub (z_sub (z_var 0) z_int) (z_var 2)) z_int) (z_var 3))))) (fun _ _ _ _ _ => (z_var 3))) z_anil)) z_int)))
def N_law_fired : List Str := ["net", "marks", "step", "p"]
theorem S_law_fired : FnScope N_law_fired ["net", "marks", "step"] (defScope (top 14)) := ⟨rfl, rfl, rfl, by decide +kernel, rfl, by decide +kernel, by decide +kernel⟩
def m_law_fired : Blk :=
    (dRet (kpL [0, 1, 2, 3]) (dCall fTuple (dACons true (dLc [3] (sRange (dACons true (dSub true (dVar 0) (dC (.int 1))) dANil)) (bName 3) dYes (dCall fAdd (d2 true (dCall fSub (d2 true (dSub true (dVar 1) (dVar 3)) (dSub true (dSub true (dSub true (dSub true (dVar 0) (dC (.int 2))) (dVar 2)) (dC (.int 0))) (dVar 3)))) (dSub true (dSub true (dSub true (dSub true (dVar 0) (dC (.int 2))) (dVar 2)) (dC (.int 1))) (dVar 3))))) dANil)))
def d_law_fired : Fn := dFn 4 3 (kpL [0, 1, 2, 3]) m_law_fired
theorem ok_law_fired (C : Ctx K mg base) : FnOk P w K mg base CX0 1 C.f_law_fired C.g_law_fired ["net", "marks", "step"] (spD ⟨K, w⟩ d_law_fired) :=
  z_defF (N := N_law_fired) (ps := ["net", "marks", "step"]) (kp := (kpL [0, 1, 2, 3])) (m := m_law_fired) C.d_law_fired.fz S_law_fired fun cc A outer s H E hr =>
    (z_sone (z_ret (z_callTy c_tuple (by rfl) C.n_tuple bb_tuple (z_acons (z_lc (own := [("p", 3)]) (by rfl) S_law_fired.nd (z_range1 (by rfl) C.n_range (z_acons (z_sub (z_var 0) z_int) z_anil) (h1 := fun _ _ _ h => acons_len1 h)) (blkOk_by (N := N_law_fired) (sc := defScope (top 14)) (by decide +kernel)) (fun _ _ _ _ _ => (z_gname S_law_fired.nd (by rfl) (by first | exact .inl rfl | exact .inr rfl) (by rfl))) (fun _ _ _ _ _ => z_tsnil) (fun _ _ _ _ _ => (z_bin o_add (z_bin o_sub (z_sub (z_var 1) (z_var 3)) (z_sub (z_sub (z_sub (z_sub (z_var 0) z_int) (z_var 2)) z_int) (z_var 3))) (z_sub (z_sub (z_sub (z_sub (z_var 0) z_int) (z_var 2)) z_int) (z_var 3))))) z_anil))))
def N_law_net_reach : List Str := ["net", "marks", "most", "found", "k", "s", "more"]
theorem S_law_net_reach : FnScope N_law_net_reach ["net", "marks", "most"] (defScope (top 12)) := ⟨rfl, rfl, rfl, by decide +kernel, rfl, by decide +kernel, by decide +kernel⟩
def l_law_net_reach_1 : Blk :=
    (dIf (dTv (dUser d_law_can (dACons true (dVar 0) (dACons true (dSub true (dVar 3) (dVar 4)) (dACons true (dVar 5) dANil)))))
    (dSeq (dAsg (bName 6) (dUser d_law_fired (dACons true (dVar 0) (dACons true (dSub true (dVar 3) (dVar 4)) (dACons true (dVar 5) dANil)))))
    (dIf (dTb (dCall fNotIn (d2 true (dVar 6) (dVar 3))))
    (dSeq (dIf (dTb (dCall fEq (d2 true (dCall fLen (dACons true (dVar 3) dANil)) (dVar 2))))
    (dRet (kpL [0, 1, 2, 3, 4]) (dTup (dACons true (dCall fTuple (dACons true (dVar 3) dANil)) (dACons true (dC (.bl false)) dANil))))
    dNx)
    (dDrop (dAppend false (dVar 3) (dTake 6))))
    dNx))
    dNx)
def l_law_net_reach_2 : Blk :=
    (dSeq (dFor (kpL [0, 1, 2, 3, 4]) (sRange (dACons true (dCall fLen (dACons true (dSub true (dVar 0) (dC (.int 2))) dANil)) dANil)) (bName 5)
    l_law_net_reach_1)
    (dAsg (bName 4) (dCall fAdd (d2 true (dVar 4) (dC (.int 1))))))
def m_law_net_reach : Blk :=
    (dSeq (dAsg (bName 3) (dLst (dACons true (dVar 1) dANil)))
    (dSeq (dAsg (bName 4) (dC (.int 0)))
    (dSeq (dWhile (dTb (dCall fLt (d2 true (dVar 4) (dCall fLen (dACons true (dVar 3) dANil)))))
    l_law_net_reach_2 1000)
    (dRet (kpL [0, 1, 2]) (dTup (dACons true (dCall fTuple (dACons true (dVar 3) dANil)) (dACons true (dC (.bl true)) dANil)))))))
def d_law_net_reach : Fn := dFn 7 3 (kpL [0, 1, 2]) m_law_net_reach
theorem ok_law_net_reach (C : Ctx K mg base) : FnOk P w K mg base CX0 2 C.f_law_net_reach C.g_law_net_reach ["net", "marks", "most"] (spD ⟨K, w⟩ d_law_net_reach) :=
  z_defF (N := N_law_net_reach) (ps := ["net", "marks", "most"]) (kp := (kpL [0, 1, 2])) (m := m_law_net_reach) C.d_law_net_reach.fz S_law_net_reach fun cc A outer s H E hr =>
    (z_cons (z_set (i := 3) S_law_net_reach.nd (by rfl) (by first | exact .inl rfl | exact .inr rfl) (by rfl) (z_lst (z_acons (z_var 1) z_anil)))
    (z_cons (z_set (i := 4) S_law_net_reach.nd (by rfl) (by first | exact .inl rfl | exact .inr rfl) (by rfl) z_int)
    (z_cons (z_while 1000 .never (z_tcmp (o_lt (h64 hr)) (z_var 4) (z_callB c_len (by rfl) C.n_len bb_len (z_acons (z_var 3) z_anil)))
    (z_cons (z_for (kp' := (kpL [0, 1, 2, 3, 4])) .never (by rfl) (z_range1 (by rfl) C.n_range (z_acons (z_callB c_len (by rfl) C.n_len bb_len (z_acons (z_sub (z_var 0) z_int) z_anil)) z_anil) (h1 := fun _ _ _ h => acons_len1 h)) (z_gname S_law_net_reach.nd (by rfl) (by first | exact .inl rfl | exact .inr rfl) (by rfl))
    (z_sone (z_if (z_tv (z_call (ok_law_can C) (hr.mono (by decide)) (by rfl) C.d_law_can.g C.d_law_can.kp C.d_law_can.b (z_acons (z_var 0) (z_acons (z_sub (z_var 3) (z_var 4)) (z_acons (z_var 5) z_anil)))))
    (z_cons (z_set (i := 6) S_law_net_reach.nd (by rfl) (by first | exact .inl rfl | exact .inr rfl) (by rfl) (z_call (ok_law_fired C) (hr.mono (by decide)) (by rfl) C.d_law_fired.g C.d_law_fired.kp C.d_law_fired.b (z_acons (z_var 0) (z_acons (z_sub (z_var 3) (z_var 4)) (z_acons (z_var 5) z_anil)))))
    (z_sone (z_if (z_tcmp (o_notIn (h65 hr)) (z_var 6) (z_var 3))
    (z_cons (z_if (z_tcmp (o_eq (h64 hr)) (z_callB c_len (by rfl) C.n_len bb_len (z_acons (z_var 3) z_anil)) (z_var 2))
    (z_sone (z_ret (z_tup (z_acons (z_callTy c_tuple (by rfl) C.n_tuple bb_tuple (z_acons (z_var 3) z_anil)) (z_acons z_bl z_anil)))))
    z_nil)
    (z_sone (z_expr (z_append (z_var 3) (z_take 6)))))
    z_nil)))
    z_nil)) (kpL_sub (by decide)))
    (z_sone (z_set (i := 4) S_law_net_reach.nd (by rfl) (by first | exact .inl rfl | exact .inr rfl) (by rfl) (z_bin o_add (z_var 4) z_int)))))
    (z_sone (z_ret (z_tup (z_acons (z_callTy c_tuple (by rfl) C.n_tuple bb_tuple (z_acons (z_var 3) z_anil)) (z_acons z_bl z_anil))))))))
def N_law : List Str := ["script", "box", "net", "marks", "goal", "rows", "paper", "own", "takes", "gives", "back", "due", "found", "whole", "seen", "x", "p"]
theorem S_law : FnScope N_law ["script"] (defScope (top 17)) := ⟨rfl, rfl, rfl, by decide +kernel, rfl, by decide +kernel, by decide +kernel⟩
def l_law_1 : Blk :=
    (dSeq (dAsg (bName 10) (dCall fTuple (dACons true (dLc [16] (sRange (dACons true (dSub true (dVar 2) (dC (.int 1))) dANil)) (bName 16) dYes (dCall fMax2X (dACons true (dSub true (dVar 8) (dVar 16)) (dACons true (dCall fAdd (d2 true (dCall fSub (d2 true (dSub true (dVar 7) (dVar 16)) (dSub true (dVar 9) (dVar 16)))) (dSub true (dVar 8) (dVar 16)))) dANil)))) dANil)))
    (dIf (dTb (dCall fEq (d2 true (dCall fLen (dACons true (dLc [15] (sSeq (dVar 5)) (bName 15) (dTv (dUser d_law_under (dACons true (dVar 15) (dACons true (dVar 10) dANil)))) (dVar 15)) dANil)) (dC (.int 0)))))
    (dRet (kpL [0, 1, 2, 3, 4, 5, 6, 7, 11, 12, 13, 14, 15, 16]) (dC (.bl false)))
    dNx))
def l_law_2 : Blk :=
    (dFor (kpL [0, 1, 2, 3, 4, 5, 6, 7, 11, 12, 13, 14, 15, 16]) (sSeq (dSub true (dVar 2) (dC (.int 2)))) (bTup 2 (bCons (bName 8) (bCons (bName 9) bNil)))
    l_law_1)
def r_law : Blk :=
    (dSeq (dAsg (bName 2) (dUser d_law_net (dACons true (dVar 1) (dACons true (dC (.int 3)) (dACons true (dC (.int 3)) (dACons true (dC (.int 1)) dANil))))))
    (dSeq (dAsg (bName 3) (dUser d_law_marks (dACons true (dVar 1) (dACons true (dVar 2) (dACons true (dC (.int 2)) dANil)))))
    (dSeq (dAsg (bName 4) (dUser d_law_marks (dACons true (dVar 1) (dACons true (dVar 2) (dACons true (dC (.int 2)) dANil)))))
    (dSeq (dAsg (bName 5) (dUser d_back_to_cover (dACons true (dVar 2) (dACons true (dVar 4) (dACons true (dC (.int 60)) dANil)))))
    (dSeq (dAsg (bName 6) (dUser d_decide_cover (dACons true (dVar 2) (dACons true (dVar 3) (dACons true (dVar 4) (dACons true (dC (.int 60)) dANil))))))
    (dSeq (dIf (dTb (dCall fIs (d2 true (dVar 5) (dC .non))))
    (dRet (kpL [0, 15, 16]) (dUser (d_law_same 8) (dACons true (dVar 6) (dACons true (dTup (dACons true (dC (.str "open")) dANil)) dANil))))
    dNx)
    (dSeq (dIf (dOr (dTb (dCall fNe (d2 false (dCall fList (dACons true (dVar 5) dANil)) (dUser d_law_least_marks (dACons true (dCall fList (dACons true (dVar 5) dANil)) dANil))))) (dTb (dCall fNe (d2 true (dLenSetX (dVar 5)) (dCall fLen (dACons true (dVar 5) dANil))))))
    (dRet (kpL [0, 15, 16]) (dC (.bl false)))
    dNx)
    (dSeq (dIf (dTb (dCall fEq (d2 true (dCall fLen (dACons true (dLc [15] (sSeq (dVar 5)) (bName 15) (dTv (dUser d_law_under (dACons true (dVar 15) (dACons true (dVar 4) dANil)))) (dVar 15)) dANil)) (dC (.int 0)))))
    (dRet (kpL [0, 15, 16]) (dC (.bl false)))
    dNx)
    (dSeq (dFor (kpL [0, 1, 2, 3, 4, 5, 6, 11, 12, 13, 14, 15, 16]) (sSeq (dVar 5)) (bName 7)
    l_law_2)
    (dSeq (dAsg (bName 11) (dTup (dACons true (dC (.str "never")) (dACons true (dVar 5) dANil))))
    (dSeq (dIf (dTb (dCall fGt (d2 true (dCall fLen (dACons true (dLc [15] (sSeq (dVar 5)) (bName 15) (dTv (dUser d_law_under (dACons true (dVar 15) (dACons true (dVar 3) dANil)))) (dVar 15)) dANil)) (dC (.int 0)))))
    (dAsg (bName 11) (dTup (dACons true (dC (.str "covered")) dANil)))
    dNx)
    (dSeq (dIf (dNot (dTv (dUser (d_law_same 8) (dACons true (dVar 6) (dACons true (dVar 11) dANil)))))
    (dRet (kpL [0, 15, 16]) (dC (.bl false)))
    dNx)
    (dSeq (dAsg (bTup 2 (bCons (bName 12) (bCons (bName 13) bNil))) (dUser d_law_net_reach (dACons true (dVar 2) (dACons true (dVar 3) (dACons true (dC (.int 25)) dANil)))))
    (dSeq (dAsg (bName 14) (dCall fGt (d2 true (dCall fLen (dACons true (dLc [15] (sSeq (dVar 12)) (bName 15) (dTv (dUser d_law_under (dACons true (dVar 4) (dACons true (dVar 15) dANil)))) (dVar 15)) dANil)) (dC (.int 0)))))
    (dSeq (dIf (dAnd (dTv (dVar 14)) (dTb (dCall fNe (d2 true (dVar 11) (dTup (dACons true (dC (.str "covered")) dANil))))))
    (dRet (kpL [0, 15, 16]) (dC (.bl false)))
    dNx)
    (dRet (kpL [0, 15, 16]) (dOrV (dNotV (dVar 13)) (dCall fEq (d2 true (dVar 14) (dCall fEq (d2 true (dVar 11) (dTup (dACons true (dC (.str "covered")) dANil)))))))))))))))))))))))
def m_law : Blk :=
    (dSeq (dAsg (bName 1) (dUser d_law_box (dACons true (dVar 0) (dACons true (dC (.int 0)) (dACons true (dC (.int 62)) dANil)))))
    r_law)
def d_law : Fn := dFn 17 1 (kpL [0, 15, 16]) m_law
theorem ok_law (C : Ctx K mg base) : FnOk P w K mg base CX0 9 C.f_law C.g_law ["script"] (spD ⟨K, w⟩ d_law) :=
  z_defF (N := N_law) (ps := ["script"]) (kp := (kpL [0, 15, 16])) (m := m_law) C.d_law.fz S_law fun cc A outer s H E hr =>
    (z_cons (z_set (i := 1) S_law.nd (by rfl) (by first | exact .inl rfl | exact .inr rfl) (by rfl) (z_call (ok_law_box C) (hr.mono (by decide)) (by rfl) C.d_law_box.g C.d_law_box.kp C.d_law_box.b (z_acons (z_var 0) (z_acons z_int (z_acons z_int z_anil)))))
    (z_cons (z_set (i := 2) S_law.nd (by rfl) (by first | exact .inl rfl | exact .inr rfl) (by rfl) (z_call (ok_law_net C) (hr.mono (by decide)) (by rfl) C.d_law_net.g C.d_law_net.kp C.d_law_net.b (z_acons (z_var 1) (z_acons z_int (z_acons z_int (z_acons z_int z_anil))))))
    (z_cons (z_set (i := 3) S_law.nd (by rfl) (by first | exact .inl rfl | exact .inr rfl) (by rfl) (z_call (ok_law_marks C) (hr.mono (by decide)) (by rfl) C.d_law_marks.g C.d_law_marks.kp C.d_law_marks.b (z_acons (z_var 1) (z_acons (z_var 2) (z_acons z_int z_anil)))))
    (z_cons (z_set (i := 4) S_law.nd (by rfl) (by first | exact .inl rfl | exact .inr rfl) (by rfl) (z_call (ok_law_marks C) (hr.mono (by decide)) (by rfl) C.d_law_marks.g C.d_law_marks.kp C.d_law_marks.b (z_acons (z_var 1) (z_acons (z_var 2) (z_acons z_int z_anil)))))
    (z_cons (z_set (i := 5) S_law.nd (by rfl) (by first | exact .inl rfl | exact .inr rfl) (by rfl) (z_call (ok_back_to_cover C) (hr.mono (by decide)) (by rfl) C.d_back_to_cover.g C.d_back_to_cover.kp C.d_back_to_cover.b (z_acons (z_var 2) (z_acons (z_var 4) (z_acons z_int z_anil)))))
    (z_cons (z_set (i := 6) S_law.nd (by rfl) (by first | exact .inl rfl | exact .inr rfl) (by rfl) (z_call (ok_decide_cover C) (hr.mono (by decide)) (by rfl) C.d_decide_cover.g C.d_decide_cover.kp C.d_decide_cover.b (z_acons (z_var 2) (z_acons (z_var 3) (z_acons (z_var 4) (z_acons z_int z_anil))))))
    (z_cons (z_if (z_tcmp (o_is) (z_var 5) z_non)
    (z_sone (z_ret (z_call (ok_law_same C 8) (hr.mono (by decide)) (by rfl) C.d_law_same.g C.d_law_same.kp C.d_law_same.b (z_acons (z_var 6) (z_acons (z_tup (z_acons z_str z_anil)) z_anil)))))
    z_nil)
    (z_cons (z_if (PW.pt (z_wor (z_tcmp (o_ne (h64 hr)) (z_callTy c_list (by rfl) C.n_list bb_list (z_acons (z_var 5) z_anil)) (z_call (ok_law_least_marks C) (hr.mono (by decide)) (by rfl) C.d_law_least_marks.g C.d_law_least_marks.kp C.d_law_least_marks.b (z_acons (z_callTy c_list (by rfl) C.n_list bb_list (z_acons (z_var 5) z_anil)) z_anil))) (z_wor1 (z_tcmp (o_ne (h64 hr)) (z_lenSetX (hu_of hr) (by rfl) (by rfl) C.n_len (by rfl) C.n_set (z_var 5)) (z_callB c_len (by rfl) C.n_len bb_len (z_acons (z_var 5) z_anil))))))
    (z_sone (z_ret z_bl))
    z_nil)
    (z_cons (z_if (z_tcmp (o_eq (h64 hr)) (z_callB c_len (by rfl) C.n_len bb_len (z_acons (z_lc (own := [("x", 15)]) (by rfl) S_law.nd (z_seq (z_var 5)) (blkOk_by (N := N_law) (sc := defScope (top 17)) (by decide +kernel)) (fun _ _ _ _ _ => (z_gname S_law.nd (by rfl) (by first | exact .inl rfl | exact .inr rfl) (by rfl))) (fun _ _ _ _ _ => (z_tsone (z_tv (z_call (ok_law_under C) (hr.mono (by decide)) (by rfl) C.d_law_under.g C.d_law_under.kp C.d_law_under.b (z_acons (z_var 15) (z_acons (z_var 4) z_anil)))))) (fun _ _ _ _ _ => (z_var 15))) z_anil)) z_int)
    (z_sone (z_ret z_bl))
    z_nil)
    (z_cons (z_for (kp' := (kpL [0, 1, 2, 3, 4, 5, 6, 11, 12, 13, 14, 15, 16])) .never (by rfl) (z_seq (z_var 5)) (z_gname S_law.nd (by rfl) (by first | exact .inl rfl | exact .inr rfl) (by rfl))
    (z_sone (z_for (kp' := (kpL [0, 1, 2, 3, 4, 5, 6, 7, 11, 12, 13, 14, 15, 16])) .never (by rfl) (z_seq (z_sub (z_var 2) z_int)) (z_gtup (by rfl) (z_gscons (z_gname S_law.nd (by rfl) (by first | exact .inl rfl | exact .inr rfl) (by rfl)) (z_gscons (z_gname S_law.nd (by rfl) (by first | exact .inl rfl | exact .inr rfl) (by rfl)) z_gsnil)))
    (z_cons (z_set (i := 10) S_law.nd (by rfl) (by first | exact .inl rfl | exact .inr rfl) (by rfl) (z_callTy c_tuple (by rfl) C.n_tuple bb_tuple (z_acons (z_lc (own := [("p", 16)]) (by rfl) S_law.nd (z_range1 (by rfl) C.n_range (z_acons (z_sub (z_var 2) z_int) z_anil) (h1 := fun _ _ _ h => acons_len1 h)) (blkOk_by (N := N_law) (sc := defScope (top 17)) (by decide +kernel)) (fun _ _ _ _ _ => (z_gname S_law.nd (by rfl) (by first | exact .inl rfl | exact .inr rfl) (by rfl))) (fun _ _ _ _ _ => z_tsnil) (fun _ _ _ _ _ => (z_callB (c_max2X rfl (h64 hr)) (by rfl) C.n_max bb_max (z_acons (z_sub (z_var 8) (z_var 16)) (z_acons (z_bin o_add (z_bin o_sub (z_sub (z_var 7) (z_var 16)) (z_sub (z_var 9) (z_var 16))) (z_sub (z_var 8) (z_var 16))) z_anil))))) z_anil)))
    (z_sone (z_if (z_tcmp (o_eq (h64 hr)) (z_callB c_len (by rfl) C.n_len bb_len (z_acons (z_lc (own := [("x", 15)]) (by rfl) S_law.nd (z_seq (z_var 5)) (blkOk_by (N := N_law) (sc := defScope (top 17)) (by decide +kernel)) (fun _ _ _ _ _ => (z_gname S_law.nd (by rfl) (by first | exact .inl rfl | exact .inr rfl) (by rfl))) (fun _ _ _ _ _ => (z_tsone (z_tv (z_call (ok_law_under C) (hr.mono (by decide)) (by rfl) C.d_law_under.g C.d_law_under.kp C.d_law_under.b (z_acons (z_var 15) (z_acons (z_var 10) z_anil)))))) (fun _ _ _ _ _ => (z_var 15))) z_anil)) z_int)
    (z_sone (z_ret z_bl))
    z_nil))) (kpL_sub (by decide)))) (kpL_sub (by decide)))
    (z_cons (z_set (i := 11) S_law.nd (by rfl) (by first | exact .inl rfl | exact .inr rfl) (by rfl) (z_tup (z_acons z_str (z_acons (z_var 5) z_anil))))
    (z_cons (z_if (z_tcmp (o_gt (h64 hr)) (z_callB c_len (by rfl) C.n_len bb_len (z_acons (z_lc (own := [("x", 15)]) (by rfl) S_law.nd (z_seq (z_var 5)) (blkOk_by (N := N_law) (sc := defScope (top 17)) (by decide +kernel)) (fun _ _ _ _ _ => (z_gname S_law.nd (by rfl) (by first | exact .inl rfl | exact .inr rfl) (by rfl))) (fun _ _ _ _ _ => (z_tsone (z_tv (z_call (ok_law_under C) (hr.mono (by decide)) (by rfl) C.d_law_under.g C.d_law_under.kp C.d_law_under.b (z_acons (z_var 15) (z_acons (z_var 3) z_anil)))))) (fun _ _ _ _ _ => (z_var 15))) z_anil)) z_int)
    (z_sone (z_set (i := 11) S_law.nd (by rfl) (by first | exact .inl rfl | exact .inr rfl) (by rfl) (z_tup (z_acons z_str z_anil))))
    z_nil)
    (z_cons (z_if (z_not (z_tv (z_call (ok_law_same C 8) (hr.mono (by decide)) (by rfl) C.d_law_same.g C.d_law_same.kp C.d_law_same.b (z_acons (z_var 6) (z_acons (z_var 11) z_anil)))))
    (z_sone (z_ret z_bl))
    z_nil)
    (z_cons (z_asg (z_call (ok_law_net_reach C) (hr.mono (by decide)) (by rfl) C.d_law_net_reach.g C.d_law_net_reach.kp C.d_law_net_reach.b (z_acons (z_var 2) (z_acons (z_var 3) (z_acons z_int z_anil)))) (z_gtup (by rfl) (z_gscons (z_gname S_law.nd (by rfl) (by first | exact .inl rfl | exact .inr rfl) (by rfl)) (z_gscons (z_gname S_law.nd (by rfl) (by first | exact .inl rfl | exact .inr rfl) (by rfl)) z_gsnil))))
    (z_cons (z_set (i := 14) S_law.nd (by rfl) (by first | exact .inl rfl | exact .inr rfl) (by rfl) (z_cmp (o_gt (h64 hr)) (z_callB c_len (by rfl) C.n_len bb_len (z_acons (z_lc (own := [("x", 15)]) (by rfl) S_law.nd (z_seq (z_var 12)) (blkOk_by (N := N_law) (sc := defScope (top 17)) (by decide +kernel)) (fun _ _ _ _ _ => (z_gname S_law.nd (by rfl) (by first | exact .inl rfl | exact .inr rfl) (by rfl))) (fun _ _ _ _ _ => (z_tsone (z_tv (z_call (ok_law_under C) (hr.mono (by decide)) (by rfl) C.d_law_under.g C.d_law_under.kp C.d_law_under.b (z_acons (z_var 4) (z_acons (z_var 15) z_anil)))))) (fun _ _ _ _ _ => (z_var 15))) z_anil)) z_int))
    (z_cons (z_if (PW.pt (z_wand (z_tv (z_var 14)) (z_wand1 (z_tcmp (o_ne (h64 hr)) (z_var 11) (z_tup (z_acons z_str z_anil))))))
    (z_sone (z_ret z_bl))
    z_nil)
    (z_sone (z_ret (z_or (z_notV (z_var 13)) (z_one (z_cmp (o_eq (h64 hr)) (z_var 14) (z_cmp (o_eq (h64 hr)) (z_var 11) (z_tup (z_acons z_str z_anil))))))))))))))))))))))))
end
end P08


set_option Elab.async false
set_option linter.all false
set_option maxRecDepth 100000
set_option maxHeartbeats 20000000
set_option synthInstance.maxHeartbeats 400000
set_option synthInstance.maxSize 4000
namespace P08
open PySem PySem.Spec PyProof.Rows L2 Z Y
def n_law_net_b1 (much : Int) (many : Int) : Int → (Box × (List ((List Int) × (List Int)))) → Option (Box × (List ((List Int) × (List Int)))) :=
  fun (t8' : Int) (s7' : Box × (List ((List Int) × (List Int)))) =>
  bnd (rngO (0 : Int) many) fun r9' =>
  bnd (lcS (fun t11' s12' => some (true, s12')) (fun t11' s12' => bnd (drawO s12' much) fun v13' => bnd (drawO v13'.2 (3 : Int)) fun v15' => bnd (mulO ((1 : Int) + v13'.1) (if (decide (v15'.1 = (0 : Int))) = true then (1 : Int) else 0)) fun a17' => some (a17', v15'.2)) r9' s7'.1) fun a19' =>
  lv a19'.1 fun (takes : (List Int)) =>
  bnd (rngO (0 : Int) many) fun r21' =>
  bnd (lcS (fun t23' s24' => some (true, s24')) (fun t23' s24' => bnd (drawO s24' much) fun v25' => bnd (drawO v25'.2 (3 : Int)) fun v27' => bnd (mulO ((1 : Int) + v25'.1) (if (decide (v27'.1 = (0 : Int))) = true then (1 : Int) else 0)) fun a29' => some (a29', v27'.2)) r21' a19'.2) fun a31' =>
  lv a31'.1 fun (gives : (List Int)) =>
  bnd (pushO s7'.2 (takes, gives)) fun steps33' =>
  some (a31'.2, steps33')
def n_law_net (box_ : Box) (most : Int) (wide : Int) (much : Int) : Option ((Str × Int × (List ((List Int) × (List Int)))) × Box) :=
  bnd (drawO box_ most) fun v1' =>
  lv ((1 : Int) + v1'.1) fun (many : Int) =>
  lv [] fun (steps : (List ((List Int) × (List Int)))) =>
  bnd (drawO v1'.2 (wide + (1 : Int))) fun v3' =>
  bnd (rngO (0 : Int) v3'.1) fun r5' =>
  bnd (forN (n_law_net_b1 much many) r5' (v3'.2, steps)) fun (s7' : Box × (List ((List Int) × (List Int)))) =>
  some (((("net" : String) : Str), many, s7'.2), s7'.1)
def n_law_marks (box_ : Box) (net : (Str × Int × (List ((List Int) × (List Int))))) (most : Int) : Option ((List Int) × Box) :=
  bnd (rngO (0 : Int) net.2.1) fun r1' =>
  bnd (lcS (fun t3' s4' => some (true, s4')) (fun t3' s4' => bnd (drawO s4' (most + (1 : Int))) fun v5' => some (v5'.1, v5'.2)) r1' box_) fun a7' =>
  some (a7'.1, a7'.2)
def n_covers (marks : (List Int)) (other : (List Int)) : Option Bool :=
  bnd (allO (fun t1' => some true) (fun t1' => (some ((decide (t1'.2 ≤ t1'.1))))) (List.zip marks other)) fun a2' =>
  some a2'
def n_back_to_cover_b1 (most : Int) (s1' : ((List (List Int)) × Int)) : ((List Int) × (List Int)) → ((List (List Int))) → Option (Res ((List (List Int))) (Option (List (List Int)))) :=
  fun (t2' : ((List Int) × (List Int))) (found' : (List (List Int))) =>
  bnd (L2.atI found' s1'.2) fun a3' =>
  bnd (lcO (fun t5' => some true) (fun t5' => (some ((if ((t5'.2.1 - t5'.2.2.2) + t5'.2.2.1) > t5'.1 then ((t5'.2.1 - t5'.2.2.2) + t5'.2.2.1) else t5'.1)))) (List.zip t2'.1 (List.zip a3' (List.zip t2'.1 t2'.2)))) fun a6' =>
  lv a6' fun (before : (List Int)) =>
  bnd (anyO (fun t8' => some true) (fun t8' => (bnd (n_covers before t8') fun a9' => some (a9'))) found') fun a11' =>
  if (!a11') = true then (if (decide ((List.length found' : Int) = most)) = true then (some (.rt (none : (Option (List (List Int)))))) else
  bnd (pushO found' before) fun found13' =>
  some (.nx found13')) else
  some (.nx found')
def n_back_to_cover_b2 (net : (Str × Int × (List ((List Int) × (List Int))))) (most : Int) (place : Int) : ((List (List Int)) × Int) → Option (Res ((List (List Int)) × Int) (Option (List (List Int)))) :=
  fun (s1' : (List (List Int)) × Int) =>
  bnd (forR (ρ := (Option (List (List Int)))) (n_back_to_cover_b1 most s1') net.2.2 s1'.1) (onR (fun r => some (.rt r)) fun (found' : (List (List Int))) =>
  lv (s1'.2 + (1 : Int)) fun (place : Int) =>
  some (.nx (found', place)))
def n_back_to_cover (net : (Str × Int × (List ((List Int) × (List Int))))) (goal : (List Int)) (most : Int) : Option (Option (List (List Int))) :=
  lv [goal] fun (found : (List (List Int))) =>
  lv (0 : Int) fun (place : Int) =>
  bnd (whileR (ρ := (Option (List (List Int)))) (fun (s1' : (List (List Int)) × Int) => (some ((decide (s1'.2 < (List.length s1'.1 : Int)))))) (n_back_to_cover_b2 net most place) 1000 (found, place)) (onR some fun (s1' : (List (List Int)) × Int) =>
  bnd (lcO (fun t15' => (bnd (anyO (fun t16' => some true) (fun t16' => (bnd (andO (!decide (t16' = t15')) (bnd (n_covers t15' t16') fun a17' => some (a17'))) fun a19' => some (a19'))) s1'.1) fun a21' => some ((!a21')))) (fun t15' => (some (t15'))) s1'.1) fun a23' =>
  bnd (sortU (Et Ei) a23') fun a25' =>
  some (some a25'))
def n_decide_cover (net : (Str × Int × (List ((List Int) × (List Int))))) (marks : (List Int)) (goal : (List Int)) (most : Int) : Option ((Str) ⊕ (Str × (Option (List (List Int))))) :=
  bnd (n_back_to_cover net goal most) fun a1' =>
  lv a1' fun (least : (Option (List (List Int)))) =>
  if (Option.isNone least) = true then (some (Sum.inl (("open" : String) : Str))) else
  bnd (least) fun a4' =>
  bnd (anyO (fun t5' => some true) (fun t5' => (bnd (n_covers marks t5') fun a6' => some (a6'))) a4') fun a8' =>
  some (if a8' = true then (Sum.inl (("covered" : String) : Str)) else (Sum.inr ((("never" : String) : Str), least)))
def n_law_under (one : (List Int)) (two : (List Int)) : Option Bool :=
  bnd (rngO (0 : Int) (List.length one : Int)) fun r1' =>
  bnd (lcO (fun t3' => (bnd (L2.atI one t3') fun a4' => bnd (L2.atI two t3') fun a6' => some ((decide (a6' < a4'))))) (fun t3' => (some (t3'))) r1') fun a8' =>
  some (decide ((List.length a8' : Int) = (0 : Int)))
def n_law_least_marks (rows : (List (List Int))) : Option (List (List Int)) :=
  bnd (lcO (fun t1' => (bnd (lcO (fun t2' => (bnd (andO (!decide (t2' = t1')) (bnd (n_law_under t2' t1') fun a3' => some (a3'))) fun a5' => some (a5'))) (fun t2' => (some (t2'))) rows) fun a7' => some ((decide ((List.length a7' : Int) = (0 : Int)))))) (fun t1' => (some (t1'))) rows) fun a9' =>
  bnd (sortU (Et Ei) a9') fun a11' =>
  some a11'
def n_law_can (net : (Str × Int × (List ((List Int) × (List Int))))) (marks : (List Int)) (step : Int) : Option Bool :=
  bnd (rngO (0 : Int) net.2.1) fun r1' =>
  bnd (lcO (fun t3' => (bnd (L2.atI marks t3') fun a4' => bnd (L2.atI net.2.2 step) fun a6' => bnd (L2.atI a6'.1 t3') fun a8' => some ((decide (a4' < a8'))))) (fun t3' => (some (t3'))) r1') fun a10' =>
  some (decide ((List.length a10' : Int) = (0 : Int)))
def n_law_fired (net : (Str × Int × (List ((List Int) × (List Int))))) (marks : (List Int)) (step : Int) : Option (List Int) :=
  bnd (rngO (0 : Int) net.2.1) fun r1' =>
  bnd (lcO (fun t3' => some true) (fun t3' => (bnd (L2.atI marks t3') fun a4' => bnd (L2.atI net.2.2 step) fun a6' => bnd (L2.atI a6'.1 t3') fun a8' => bnd (L2.atI net.2.2 step) fun a10' => bnd (L2.atI a10'.2 t3') fun a12' => some (((a4' - a8') + a12')))) r1') fun a14' =>
  some a14'
def n_law_net_reach_b1 (net : (Str × Int × (List ((List Int) × (List Int))))) (most : Int) (s1' : ((List (List Int)) × Int)) : Int → ((List (List Int))) → Option (Res ((List (List Int))) ((List (List Int)) × Bool)) :=
  fun (t4' : Int) (found' : (List (List Int))) =>
  bnd (L2.atI found' s1'.2) fun a7' =>
  bnd (n_law_can net a7' t4') fun a9' =>
  if a9' = true then (bnd (L2.atI found' s1'.2) fun a13' =>
  bnd (n_law_fired net a13' t4') fun a15' =>
  lv a15' fun (more : (List Int)) =>
  if (!inB more found') = true then (if (decide ((List.length found' : Int) = most)) = true then (some (.rt (found', false))) else
  bnd (pushO found' more) fun found17' =>
  some (.nx found17')) else
  some (.nx found')) else
  some (.nx found')
def n_law_net_reach_b2 (net : (Str × Int × (List ((List Int) × (List Int))))) (most : Int) (k : Int) : ((List (List Int)) × Int) → Option (Res ((List (List Int)) × Int) ((List (List Int)) × Bool)) :=
  fun (s1' : (List (List Int)) × Int) =>
  bnd (rngO (0 : Int) (List.length net.2.2 : Int)) fun r2' =>
  bnd (forR (ρ := ((List (List Int)) × Bool)) (n_law_net_reach_b1 net most s1') r2' s1'.1) (onR (fun r => some (.rt r)) fun (found' : (List (List Int))) =>
  lv (s1'.2 + (1 : Int)) fun (k : Int) =>
  some (.nx (found', k)))
def n_law_net_reach (net : (Str × Int × (List ((List Int) × (List Int))))) (marks : (List Int)) (most : Int) : Option ((List (List Int)) × Bool) :=
  lv [marks] fun (found : (List (List Int))) =>
  lv (0 : Int) fun (k : Int) =>
  bnd (whileR (ρ := ((List (List Int)) × Bool)) (fun (s1' : (List (List Int)) × Int) => (some ((decide (s1'.2 < (List.length s1'.1 : Int)))))) (n_law_net_reach_b2 net most k) 1000 (found, k)) (onR some fun (s1' : (List (List Int)) × Int) =>
  some (s1'.1, true))
def n_law_b1 (net : (Str × Int × (List ((List Int) × (List Int))))) (rows : (Option (List (List Int)))) (t39' : (List Int)) : ((List Int) × (List Int)) → (Unit) → Option (Res (Unit) Bool) :=
  fun (t41' : ((List Int) × (List Int))) (s40' : Unit) =>
  bnd (rngO (0 : Int) net.2.1) fun r42' =>
  bnd (lcO (fun t44' => some true) (fun t44' => (bnd (L2.atI t41'.1 t44') fun a45' => bnd (L2.atI t39' t44') fun a47' => bnd (L2.atI t41'.2 t44') fun a49' => bnd (L2.atI t41'.1 t44') fun a51' => some ((if ((a47' - a49') + a51') > a45' then ((a47' - a49') + a51') else a45')))) r42') fun a53' =>
  lv a53' fun (back : (List Int)) =>
  bnd (rows) fun a56' =>
  bnd (lcO (fun t57' => (bnd (n_law_under t57' back) fun a58' => some (a58'))) (fun t57' => (some (t57'))) a56') fun a60' =>
  if (decide ((List.length a60' : Int) = (0 : Int))) = true then (some (.rt false)) else
  some (.nx ())
def n_law_b2 (net : (Str × Int × (List ((List Int) × (List Int))))) (rows : (Option (List (List Int)))) : (List Int) → (Unit) → Option (Res (Unit) Bool) :=
  fun (t39' : (List Int)) (s38' : Unit) =>
  bnd (forR (ρ := Bool) (n_law_b1 net rows t39') net.2.2 ()) (onR (fun r => some (.rt r)) fun (s40' : Unit) =>
  some (.nx ()))
def n_law (box : Box) : Option Bool :=
  bnd (n_law_net box (3 : Int) (3 : Int) (1 : Int)) fun a1' =>
  lv a1'.1 fun (net : (Str × Int × (List ((List Int) × (List Int))))) =>
  bnd (n_law_marks a1'.2 net (2 : Int)) fun a3' =>
  lv a3'.1 fun (marks : (List Int)) =>
  bnd (n_law_marks a3'.2 net (2 : Int)) fun a5' =>
  lv a5'.1 fun (goal : (List Int)) =>
  bnd (n_back_to_cover net goal (60 : Int)) fun a7' =>
  lv a7' fun (rows : (Option (List (List Int)))) =>
  bnd (n_decide_cover net marks goal (60 : Int)) fun a9' =>
  lv a9' fun (paper : ((Str) ⊕ (Str × (Option (List (List Int)))))) =>
  if (Option.isNone rows) = true then (bnd (sameO (Ea (Ac (R1 Es) (A1 (Rc Es (R1 (Eo (Et (Et Ei)) rfl)))) rfl)) paper (Sum.inl (("open" : String) : Str))) fun a11' =>
  some a11') else
  bnd (rows) fun a14' =>
  bnd (rows) fun a18' =>
  bnd (n_law_least_marks a18') fun a19' =>
  bnd (orO (!decide (a14' = a19')) (bnd (rows) fun a22' => bnd (lnT a22') fun a23' => bnd (rows) fun a26' => some ((!decide (a23' = (List.length a26' : Int)))))) fun a27' =>
  if a27' = true then (some false) else
  bnd (rows) fun a30' =>
  bnd (lcO (fun t31' => (bnd (n_law_under t31' goal) fun a32' => some (a32'))) (fun t31' => (some (t31'))) a30') fun a34' =>
  if (decide ((List.length a34' : Int) = (0 : Int))) = true then (some false) else
  bnd (rows) fun a37' =>
  bnd (forR (ρ := Bool) (n_law_b2 net rows) a37' ()) (onR some fun (s38' : Unit) =>
  lv (Sum.inr ((("never" : String) : Str), rows)) fun (due : ((Str) ⊕ (Str × (Option (List (List Int)))))) =>
  bnd (rows) fun a63' =>
  bnd (lcO (fun t64' => (bnd (n_law_under t64' marks) fun a65' => some (a65'))) (fun t64' => (some (t64'))) a63') fun a67' =>
  bnd (if (decide ((0 : Int) < (List.length a67' : Int))) = true then (lv (Sum.inl (("covered" : String) : Str)) fun (due : ((Str) ⊕ (Str × (Option (List (List Int)))))) =>
  some due) else (some due)) fun (due : ((Str) ⊕ (Str × (Option (List (List Int)))))) =>
  bnd (sameO (Ea (Ac (R1 Es) (A1 (Rc Es (R1 (Eo (Et (Et Ei)) rfl)))) rfl)) paper due) fun a69' =>
  if (!a69') = true then (some false) else
  bnd (n_law_net_reach net marks (25 : Int)) fun a71' =>
  lv a71' fun t73' =>
  bnd (lcO (fun t74' => (bnd (n_law_under goal t74') fun a75' => some (a75'))) (fun t74' => (some (t74'))) t73'.1) fun a77' =>
  lv (decide ((0 : Int) < (List.length a77' : Int))) fun (seen : Bool) =>
  if (seen && (!decide (due = (Sum.inl (("covered" : String) : Str))))) = true then (some false) else
  some ((!t73'.2) || (decide (seen = (decide (due = (Sum.inl (("covered" : String) : Str))))))))
end P08


set_option Elab.async false
set_option linter.all false
set_option maxRecDepth 100000
set_option maxHeartbeats 20000000
set_option synthInstance.maxHeartbeats 400000
set_option synthInstance.maxSize 4000
namespace P08
open PySem PySem.Spec PyProof.Rows L2 Z Y
def T_law_net (box_ : Box) (most : Int) (wide : Int) (much : Int) : ((Str × Int × (List ((List Int) × (List Int)))) × Box) → Out → Prop := Rt (fun (r : ((Str × Int × (List ((List Int) × (List Int)))) × Box)) => (Er (Rc Es (Rc Ei (R1 (Et (Er (Rc (Et Ei) (R1 (Et Ei))))))))).enc r.1) (fun (r : ((Str × Int × (List ((List Int) × (List Int)))) × Box)) => [.is (boxE r.2), .is (Ei.enc most), .is (Ei.enc wide), .is (Ei.enc much), .any, .any, .any, .any, .any, .any])
theorem ref_law_net {box_ : Box} {most : Int} {wide : Int} {much : Int} {r : ((Str × Int × (List ((List Int) × (List Int)))) × Box)} (h : n_law_net box_ most wide much = some r) : d_law_net [boxE box_, Ei.enc most, Ei.enc wide, Ei.enc much] = some ((fun (r : ((Str × Int × (List ((List Int) × (List Int)))) × Box)) => (Er (Rc Es (Rc Ei (R1 (Et (Er (Rc (Et Ei) (R1 (Et Ei))))))))).enc r.1) r, [some (boxE r.2), some (Ei.enc most), some (Ei.enc wide), some (Ei.enc much)]) :=
  def_ok (Ar := fun (r : ((Str × Int × (List ((List Int) × (List Int)))) × Box)) => [.is (boxE r.2), .is (Ei.enc most), .is (Ei.enc wide), .is (Ei.enc much), .any, .any, .any, .any, .any, .any]) (show RB _ m_law_net (n_law_net box_ most wide much) (T_law_net box_ most wide much) from
  (k_bnd fun v1' h2' => (k_asgF Ei.enc (r_call (r_acons r_c (r_acons (r_draw rfl (r_var (d := Ei.enc most) rfl (Ei.imm _)) h2') r_anil rfl) rfl) (drfs_cons drf_own (drfs_cons drf_own drfs_nil)) (f_add _ _)) (by exact Nat.le_of_ble_eq_true rfl) fun many => (k_asgF (Lx (Er (Rc (Et Ei) (R1 (Et Ei))))) (r_lst r_anil rfl (Nat.le_of_ble_eq_true rfl)) (by exact Nat.le_of_ble_eq_true rfl) fun steps => (k_bnd fun v3' h4' => k_bnd fun r5' h6' => (k_forN (fun s7' => [.is (boxE s7'.1), .is (Ei.enc most), .is (Ei.enc wide), .is (Ei.enc much), .is (Ei.enc many), .is ((Lx (Er (Rc (Et Ei) (R1 (Et Ei))))) s7'.2), .any, .any, .any, .any]) (i_rng1 (r_acons (r_draw rfl (r_call (r_acons (r_var (d := Ei.enc wide) rfl (Ei.imm _)) (r_acons r_c r_anil rfl) rfl) (drfs_cons drf_own (drfs_cons drf_own drfs_nil)) (f_add _ _)) h4') r_anil rfl) h6') (by exact (.eq (.eq (.eq (.eq (.eq (.eq (.any (.any (.any (.any .nil))))))))))) rfl (fun _ => gd_nil) (fun t8' s7' => (b_name (by exact Nat.le_of_ble_eq_true rfl))) (fun t8' s7' => (k_bnd fun r9' h10' => k_bnd fun a19' h20' => (k_asgF (Et Ei).enc (r_call (r_acons (r_lcS (g := Ei.enc) (B1 := (fun t11' s12' => [.is (boxE s12'), .is (Ei.enc most), .is (Ei.enc wide), .is (Ei.enc much), .is (Ei.enc many), .is ((Lx (Er (Rc (Et Ei) (R1 (Et Ei))))) s7'.2), .is (Ei.enc t8'), .any, .any, .is (Ei.enc t11')])) (fun s12' => [.is (boxE s12'), .is (Ei.enc most), .is (Ei.enc wide), .is (Ei.enc much), .is (Ei.enc many), .is ((Lx (Er (Rc (Et Ei) (R1 (Et Ei))))) s7'.2), .is (Ei.enc t8'), .any, .any, .any]) (i_rng1 (r_acons (r_var (d := Ei.enc many) rfl (Ei.imm _)) r_anil rfl) h10') rfl h20' (fun _ => gd_nil) (fun t11' s12' => (b_name (by exact Nat.le_of_ble_eq_true rfl))) (fun t11' s12' y1 y2 hh => by cases hh; exact r_yes) (fun t11' s12' y1 y2 hh => by obtain ⟨v13', h14', hh⟩ := bnd_eq hh; obtain ⟨v15', h16', hh⟩ := bnd_eq hh; obtain ⟨a17', h18', hh⟩ := bnd_eq hh; cases hh; exact (r_call (r_acons (r_call (r_acons r_c (r_acons (r_draw rfl (r_var (d := Ei.enc much) rfl (Ei.imm _)) h14') r_anil rfl) rfl) (drfs_cons drf_own (drfs_cons drf_own drfs_nil)) (f_add _ _)) (r_acons (r_call (r_acons (r_call (r_acons (r_draw rfl r_c h16') (r_acons r_c r_anil rfl) rfl) (drfs_cons drf_own (drfs_cons drf_own drfs_nil)) (f_eq Ei v15'.1 (0 : Int) rfl)) r_anil rfl) (drfs_cons drf_own drfs_nil) (f_intB _)) r_anil rfl) rfl) (drfs_cons drf_own (drfs_cons drf_own drfs_nil)) (f_mul h18'))) (fun _ _ => Le.refl _)) r_anil rfl) (drfs_cons drf_own drfs_nil) (f_tuple Ei a19'.1)) (by exact Nat.le_of_ble_eq_true rfl) fun takes => (k_bnd fun r21' h22' => k_bnd fun a31' h32' => (k_asgF (Et Ei).enc (r_call (r_acons (r_lcS (g := Ei.enc) (B1 := (fun t23' s24' => [.is (boxE s24'), .is (Ei.enc most), .is (Ei.enc wide), .is (Ei.enc much), .is (Ei.enc many), .is ((Lx (Er (Rc (Et Ei) (R1 (Et Ei))))) s7'.2), .is (Ei.enc t8'), .is ((Et Ei).enc takes), .any, .is (Ei.enc t23')])) (fun s24' => [.is (boxE s24'), .is (Ei.enc most), .is (Ei.enc wide), .is (Ei.enc much), .is (Ei.enc many), .is ((Lx (Er (Rc (Et Ei) (R1 (Et Ei))))) s7'.2), .is (Ei.enc t8'), .is ((Et Ei).enc takes), .any, .any]) (i_rng1 (r_acons (r_var (d := Ei.enc many) rfl (Ei.imm _)) r_anil rfl) h22') rfl h32' (fun _ => gd_nil) (fun t23' s24' => (b_name (by exact Nat.le_of_ble_eq_true rfl))) (fun t23' s24' y1 y2 hh => by cases hh; exact r_yes) (fun t23' s24' y1 y2 hh => by obtain ⟨v25', h26', hh⟩ := bnd_eq hh; obtain ⟨v27', h28', hh⟩ := bnd_eq hh; obtain ⟨a29', h30', hh⟩ := bnd_eq hh; cases hh; exact (r_call (r_acons (r_call (r_acons r_c (r_acons (r_draw rfl (r_var (d := Ei.enc much) rfl (Ei.imm _)) h26') r_anil rfl) rfl) (drfs_cons drf_own (drfs_cons drf_own drfs_nil)) (f_add _ _)) (r_acons (r_call (r_acons (r_call (r_acons (r_draw rfl r_c h28') (r_acons r_c r_anil rfl) rfl) (drfs_cons drf_own (drfs_cons drf_own drfs_nil)) (f_eq Ei v27'.1 (0 : Int) rfl)) r_anil rfl) (drfs_cons drf_own drfs_nil) (f_intB _)) r_anil rfl) rfl) (drfs_cons drf_own (drfs_cons drf_own drfs_nil)) (f_mul h30'))) (fun _ _ => Le.refl _)) r_anil rfl) (drfs_cons drf_own drfs_nil) (f_tuple Ei a31'.1)) (by exact Nat.le_of_ble_eq_true rfl) fun gives => (k_last (k_bnd fun steps33' h34' => (k_expr (r_push (E := (Er (Rc (Et Ei) (R1 (Et Ei))))) h34' (r_varM (d := (Lx (Er (Rc (Et Ei) (R1 (Et Ei))))) s7'.2) rfl rfl) rfl (r_tup (r_acons (r_var (d := (Et Ei).enc takes) rfl ((Et Ei).imm _)) (r_acons (r_var (d := (Et Ei).enc gives) rfl ((Et Ei).imm _)) r_anil rfl) rfl) rfl (Nat.le_of_ble_eq_true rfl)) rfl) (k_nx (nx_le (by exact (.eq (.eq (.eq (.eq (.eq (.eq (.any (.any (.any (.any .nil))))))))))))))))))))) fun s7' => (k_last (k_ret (r_tup (r_acons r_c (r_acons (r_var (d := Ei.enc many) rfl (Ei.imm _)) (r_acons (r_call (r_acons (r_varM (d := (Lx (Er (Rc (Et Ei) (R1 (Et Ei))))) s7'.2) rfl rfl) r_anil rfl) (drfs_cons (drf_at rfl) drfs_nil) (f_tuple (Er (Rc (Et Ei) (R1 (Et Ei)))) s7'.2)) r_anil rfl) rfl) rfl) rfl (Nat.le_of_ble_eq_true rfl)) (rt_le (by exact (.eq (.eq (.eq (.eq (.any (.any (.any (.any (.any (.any .nil)))))))))))))))))))) h rfl rfl
def T_law_marks (box_ : Box) (net : (Str × Int × (List ((List Int) × (List Int))))) (most : Int) : ((List Int) × Box) → Out → Prop := Rt (fun (r : ((List Int) × Box)) => (Et Ei).enc r.1) (fun (r : ((List Int) × Box)) => [.is (boxE r.2), .is ((Er (Rc Es (Rc Ei (R1 (Et (Er (Rc (Et Ei) (R1 (Et Ei))))))))).enc net), .is (Ei.enc most), .any])
theorem ref_law_marks {box_ : Box} {net : (Str × Int × (List ((List Int) × (List Int))))} {most : Int} {r : ((List Int) × Box)} (h : n_law_marks box_ net most = some r) : d_law_marks [boxE box_, (Er (Rc Es (Rc Ei (R1 (Et (Er (Rc (Et Ei) (R1 (Et Ei))))))))).enc net, Ei.enc most] = some ((fun (r : ((List Int) × Box)) => (Et Ei).enc r.1) r, [some (boxE r.2), some ((Er (Rc Es (Rc Ei (R1 (Et (Er (Rc (Et Ei) (R1 (Et Ei))))))))).enc net), some (Ei.enc most)]) :=
  def_ok (Ar := fun (r : ((List Int) × Box)) => [.is (boxE r.2), .is ((Er (Rc Es (Rc Ei (R1 (Et (Er (Rc (Et Ei) (R1 (Et Ei))))))))).enc net), .is (Ei.enc most), .any]) (show RB _ m_law_marks (n_law_marks box_ net most) (T_law_marks box_ net most) from
  (k_last (k_bnd fun r1' h2' => k_bnd fun a7' h8' => (k_ret (r_call (r_acons (r_lcS (g := Ei.enc) (B1 := (fun t3' s4' => [.is (boxE s4'), .is ((Er (Rc Es (Rc Ei (R1 (Et (Er (Rc (Et Ei) (R1 (Et Ei))))))))).enc net), .is (Ei.enc most), .is (Ei.enc t3')])) (fun s4' => [.is (boxE s4'), .is ((Er (Rc Es (Rc Ei (R1 (Et (Er (Rc (Et Ei) (R1 (Et Ei))))))))).enc net), .is (Ei.enc most), .any]) (i_rng1 (r_acons (r_sub (i := (1 : Int)) (r_var (d := (Er (Rc Es (Rc Ei (R1 (Et (Er (Rc (Et Ei) (R1 (Et Ei))))))))).enc net) rfl ((Er (Rc Es (Rc Ei (R1 (Et (Er (Rc (Et Ei) (R1 (Et Ei))))))))).imm _)) r_c rfl drf_own drf_own (s_R (d := Ei.enc net.2.1) rfl (Ei.imm _))) r_anil rfl) h2') rfl h8' (fun _ => gd_nil) (fun t3' s4' => (b_name (by exact Nat.le_of_ble_eq_true rfl))) (fun t3' s4' y1 y2 hh => by cases hh; exact r_yes) (fun t3' s4' y1 y2 hh => by obtain ⟨v5', h6', hh⟩ := bnd_eq hh; cases hh; exact (r_draw rfl (r_call (r_acons (r_var (d := Ei.enc most) rfl (Ei.imm _)) (r_acons r_c r_anil rfl) rfl) (drfs_cons drf_own (drfs_cons drf_own drfs_nil)) (f_add _ _)) h6')) (fun _ _ => Le.refl _)) r_anil rfl) (drfs_cons drf_own drfs_nil) (f_tuple Ei a7'.1)) (rt_le (by exact (.eq (.eq (.eq (.any .nil)))))))))) h rfl rfl
def T_covers (marks : (List Int)) (other : (List Int)) : Bool → Out → Prop := Rt Eb.enc (fun (r : Bool) => [.is ((Et Ei).enc marks), .is ((Et Ei).enc other), .any, .any])
theorem ref_covers {marks : (List Int)} {other : (List Int)} {r : Bool} (h : n_covers marks other = some r) : d_covers [(Et Ei).enc marks, (Et Ei).enc other] = some (Eb.enc r, [some ((Et Ei).enc marks), some ((Et Ei).enc other)]) :=
  def_ok (Ar := fun (r : Bool) => [.is ((Et Ei).enc marks), .is ((Et Ei).enc other), .any, .any]) (show RB _ m_covers (n_covers marks other) (T_covers marks other) from
  (k_last (k_bnd fun a2' h3' => (k_ret (r_all (i_zip2 (r_acons (r_var (d := (Et Ei).enc marks) rfl ((Et Ei).imm _)) (r_acons (r_var (d := (Et Ei).enc other) rfl ((Et Ei).imm _)) r_anil rfl) rfl) (sq_T Ei marks) (sq_T Ei other)) gd_nil ⟨fun t1' => (b_tup (b_cons (b_name (by exact Nat.le_of_ble_eq_true rfl)) (b_cons (b_name (by exact Nat.le_of_ble_eq_true rfl)) b_nil)) rfl), fun t1' => (to_some r_yes), fun t1' y1 _ => (o_some (ex := Eb.enc) (v := (decide (t1'.2 ≤ t1'.1))) (r_call (r_acons (r_var (d := Ei.enc t1'.1) rfl (Ei.imm _)) (r_acons (r_var (d := Ei.enc t1'.2) rfl (Ei.imm _)) r_anil rfl) rfl) (drfs_cons drf_own (drfs_cons drf_own drfs_nil)) (f_ge _ _))) y1, by decide⟩ h3') (rt_le (by exact (.eq (.eq (.any (.any .nil)))))))))) h rfl rfl
def T_back_to_cover (net : (Str × Int × (List ((List Int) × (List Int))))) (goal : (List Int)) (most : Int) : (Option (List (List Int))) → Out → Prop := Rt (Eo (Et (Et Ei)) rfl).enc (fun (r : (Option (List (List Int)))) => [.is ((Er (Rc Es (Rc Ei (R1 (Et (Er (Rc (Et Ei) (R1 (Et Ei))))))))).enc net), .is ((Et Ei).enc goal), .is (Ei.enc most), .any, .any, .any, .any, .any, .any, .any, .any, .any, .any, .any, .any])
theorem ref_back_to_cover {net : (Str × Int × (List ((List Int) × (List Int))))} {goal : (List Int)} {most : Int} {r : (Option (List (List Int)))} (h : n_back_to_cover net goal most = some r) : d_back_to_cover [(Er (Rc Es (Rc Ei (R1 (Et (Er (Rc (Et Ei) (R1 (Et Ei))))))))).enc net, (Et Ei).enc goal, Ei.enc most] = some ((Eo (Et (Et Ei)) rfl).enc r, [some ((Er (Rc Es (Rc Ei (R1 (Et (Er (Rc (Et Ei) (R1 (Et Ei))))))))).enc net), some ((Et Ei).enc goal), some (Ei.enc most)]) :=
  def_ok (Ar := fun (r : (Option (List (List Int)))) => [.is ((Er (Rc Es (Rc Ei (R1 (Et (Er (Rc (Et Ei) (R1 (Et Ei))))))))).enc net), .is ((Et Ei).enc goal), .is (Ei.enc most), .any, .any, .any, .any, .any, .any, .any, .any, .any, .any, .any, .any]) (show RB _ m_back_to_cover (n_back_to_cover net goal most) (T_back_to_cover net goal most) from
  (k_asgF (Lx (Et Ei)) (r_lst (r_acons (r_var (d := (Et Ei).enc goal) rfl ((Et Ei).imm _)) r_anil rfl) rfl (Nat.le_of_ble_eq_true rfl)) (by exact Nat.le_of_ble_eq_true rfl) fun found => (k_asgF Ei.enc r_c (by exact Nat.le_of_ble_eq_true rfl) fun place => (k_whileR (j := some) (T_back_to_cover net goal most) (fun s1' => [.is ((Er (Rc Es (Rc Ei (R1 (Et (Er (Rc (Et Ei) (R1 (Et Ei))))))))).enc net), .is ((Et Ei).enc goal), .is (Ei.enc most), .is ((Lx (Et Ei)) s1'.1), .is (Ei.enc s1'.2), .any, .any, .any, .any, .any, .any, .any, .any, .any, .any]) (by exact (.eq (.eq (.eq (.eq (.eq (.any (.any (.any (.any (.any (.any (.any (.any (.any (.any .nil)))))))))))))))) (fun s1' => (to_some (r_tb (r_call (r_acons (r_var (d := Ei.enc s1'.2) rfl (Ei.imm _)) (r_acons (r_call (r_acons (r_varM (d := (Lx (Et Ei)) s1'.1) rfl rfl) r_anil rfl) (drfs_cons (drf_at rfl) drfs_nil) (f_lenL (Et Ei) s1'.1)) r_anil rfl) rfl) (drfs_cons drf_own (drfs_cons drf_own drfs_nil)) (f_lt _ _))))) (fun s1' _ => (k_forR (j := (fun (r : (Option (List (List Int)))) => some (Res.rt (ρ := (Option (List (List Int)))) r))) (T_back_to_cover net goal most) (fun found' => [.is ((Er (Rc Es (Rc Ei (R1 (Et (Er (Rc (Et Ei) (R1 (Et Ei))))))))).enc net), .is ((Et Ei).enc goal), .is (Ei.enc most), .is ((Lx (Et Ei)) found'), .is (Ei.enc s1'.2), .any, .any, .any, .any, .any, .any, .any, .any, .any, .any]) (i_T (Er (Rc (Et Ei) (R1 (Et Ei)))) (r_sub (i := (2 : Int)) (r_var (d := (Er (Rc Es (Rc Ei (R1 (Et (Er (Rc (Et Ei) (R1 (Et Ei))))))))).enc net) rfl ((Er (Rc Es (Rc Ei (R1 (Et (Er (Rc (Et Ei) (R1 (Et Ei))))))))).imm _)) r_c rfl drf_own drf_own (s_R (d := (Et (Er (Rc (Et Ei) (R1 (Et Ei))))).enc net.2.2) rfl ((Et (Er (Rc (Et Ei) (R1 (Et Ei))))).imm _)))) (by exact (.eq (.eq (.eq (.eq (.eq (.any (.any (.any (.any (.any (.any (.any (.any (.any (.any .nil)))))))))))))))) rfl (fun _ => gd_nil) (fun t2' found' => (b_tup (b_cons (b_name (by exact Nat.le_of_ble_eq_true rfl)) (b_cons (b_name (by exact Nat.le_of_ble_eq_true rfl)) b_nil)) rfl)) (fun t2' found' => (k_bnd fun a3' h4' => k_bnd fun a6' h7' => (k_asgF (Et Ei).enc (r_fold (f := fTup) (g := Ei.enc) (i_zip4 (r_acons (r_var (d := (Et Ei).enc t2'.1) rfl ((Et Ei).imm _)) (r_acons (r_sub (r_varM (d := (Lx (Et Ei)) found') rfl rfl) (r_var (d := Ei.enc s1'.2) rfl (Ei.imm _)) rfl (drf_at rfl) drf_own (s_L (Et Ei) h4')) (r_acons (r_var (d := (Et Ei).enc t2'.1) rfl ((Et Ei).imm _)) (r_acons (r_var (d := (Et Ei).enc t2'.2) rfl ((Et Ei).imm _)) r_anil rfl) rfl) rfl) rfl) (sq_T Ei t2'.1) (sq_T Ei a3') (sq_T Ei t2'.1) (sq_T Ei t2'.2)) gd_nil ⟨fun t5' => (b_tup (b_cons (b_name (by exact Nat.le_of_ble_eq_true rfl)) (b_cons (b_name (by exact Nat.le_of_ble_eq_true rfl)) (b_cons (b_name (by exact Nat.le_of_ble_eq_true rfl)) (b_cons (b_name (by exact Nat.le_of_ble_eq_true rfl)) b_nil)))) rfl), fun t5' => (to_some r_yes), fun t5' y1 _ => (o_some (ex := Ei.enc) (v := (if ((t5'.2.1 - t5'.2.2.2) + t5'.2.2.1) > t5'.1 then ((t5'.2.1 - t5'.2.2.2) + t5'.2.2.1) else t5'.1)) (r_call (r_acons (r_var (d := Ei.enc t5'.1) rfl (Ei.imm _)) (r_acons (r_call (r_acons (r_call (r_acons (r_var (d := Ei.enc t5'.2.1) rfl (Ei.imm _)) (r_acons (r_var (d := Ei.enc t5'.2.2.2) rfl (Ei.imm _)) r_anil rfl) rfl) (drfs_cons drf_own (drfs_cons drf_own drfs_nil)) (f_sub _ _)) (r_acons (r_var (d := Ei.enc t5'.2.2.1) rfl (Ei.imm _)) r_anil rfl) rfl) (drfs_cons drf_own (drfs_cons drf_own drfs_nil)) (f_add _ _)) r_anil rfl) rfl) (drfs_cons drf_own (drfs_cons drf_own drfs_nil)) (f_max2I _ _))) y1, by decide⟩ Ei.imm h7' rfl) (by exact Nat.le_of_ble_eq_true rfl) fun before => (k_eqA (A' := [.is ((Er (Rc Es (Rc Ei (R1 (Et (Er (Rc (Et Ei) (R1 (Et Ei))))))))).enc net), .is ((Et Ei).enc goal), .is (Ei.enc most), .is ((Lx (Et Ei)) found'), .is (Ei.enc s1'.2), .is ((Et Ei).enc t2'.1), .is ((Et Ei).enc t2'.2), .is ((Et Ei).enc before), .any, .any, .any, .any, .any, .any, .any]) rfl (k_last (k_bnd fun a11' h12' => (k_if (r_not (r_tv (r_any (i_V (Et Ei) (r_varM (d := (Lx (Et Ei)) found') rfl rfl) rfl) (gd_cons rfl gd_nil) ⟨fun t8' => (b_name (by exact Nat.le_of_ble_eq_true rfl)), fun t8' => (to_some r_yes), fun t8' y1 _ => (o_bnd fun a9' h10' => o_some (ex := Eb.enc) (v := a9') (r_user (r_acons (r_var (d := (Et Ei).enc before) rfl ((Et Ei).imm _)) (r_acons (r_var (d := (Et Ei).enc t8') rfl ((Et Ei).imm _)) r_anil rfl) rfl) rfl (drfs_cons drf_own (drfs_cons drf_own drfs_nil)) (ref_covers h10') (.own (.own .nil)))) y1, by decide⟩ h12') drf_own (t_B _))) (fun _ => (k_assoc (k_if (r_tb (r_call (r_acons (r_call (r_acons (r_varM (d := (Lx (Et Ei)) found') rfl rfl) r_anil rfl) (drfs_cons (drf_at rfl) drfs_nil) (f_lenL (Et Ei) found')) (r_acons (r_var (d := Ei.enc most) rfl (Ei.imm _)) r_anil rfl) rfl) (drfs_cons drf_own (drfs_cons drf_own drfs_nil)) (f_eq Ei (List.length found' : Int) most rfl))) (fun _ => (k_ret r_c (rs_rt (rt_le (by exact (.eq (.eq (.eq (.any (.any (.any (.any (.any (.any (.any (.any (.any (.any (.any (.any .nil)))))))))))))))))))) (fun _ => (k_nil (k_bnd fun found13' h14' => (k_expr (r_push (E := (Et Ei)) h14' (r_varM (d := (Lx (Et Ei)) found') rfl rfl) rfl (r_takeI (d := (Et Ei).enc before) rfl ((Et Ei).imm _)) rfl) (k_nx (rs_nx (by exact (.eq (.eq (.eq (.eq (.eq (.any (.any (.any (.any (.any (.any (.any (.any (.any (.any .nil))))))))))))))))))))))))) (fun _ => (k_nil (k_nx (rs_nx (by exact (.eq (.eq (.eq (.eq (.eq (.any (.any (.any (.any (.any (.any (.any (.any (.any (.any .nil))))))))))))))))))))))))))) j_rs fun found' => (k_last (k_augI rfl r_c (by exact Nat.le_of_ble_eq_true rfl) fun place => (k_nx (rs_nx (by exact (.eq (.eq (.eq (.eq (.eq (.any (.any (.any (.any (.any (.any (.any (.any (.any (.any .nil)))))))))))))))))))))) j_some fun s1' => (k_last (k_bnd fun a23' h24' => k_bnd fun a25' h26' => (k_ret (r_call (r_acons (r_fold (f := fSort) (g := (Et Ei).enc) (i_V (Et Ei) (r_varM (d := (Lx (Et Ei)) s1'.1) rfl rfl) rfl) (gd_cons rfl gd_nil) ⟨fun t15' => (b_name (by exact Nat.le_of_ble_eq_true rfl)), fun t15' => (to_bnd fun a21' h22' => to_some (r_not (r_tv (r_any (i_V (Et Ei) (r_varM (d := (Lx (Et Ei)) s1'.1) rfl rfl) rfl) (gd_cons rfl gd_nil) ⟨fun t16' => (b_name (by exact Nat.le_of_ble_eq_true rfl)), fun t16' => (to_some r_yes), fun t16' y1 _ => (o_bnd fun a19' h20' => o_some (ex := Eb.enc) (v := a19') (o_andV (r_call (r_acons (r_var (d := (Et Ei).enc t16') rfl ((Et Ei).imm _)) (r_acons (r_var (d := (Et Ei).enc t15') rfl ((Et Ei).imm _)) r_anil rfl) rfl) (drfs_cons drf_own (drfs_cons drf_own drfs_nil)) (f_ne (Et Ei) t16' t15' rfl)) (fun _ => (o_bnd fun a17' h18' => o_some (r_user (r_acons (r_var (d := (Et Ei).enc t15') rfl ((Et Ei).imm _)) (r_acons (r_var (d := (Et Ei).enc t16') rfl ((Et Ei).imm _)) r_anil rfl) rfl) rfl (drfs_cons drf_own (drfs_cons drf_own drfs_nil)) (ref_covers h18') (.own (.own .nil))))) h20')) y1, by decide⟩ h22') drf_own (t_B _)))), fun t15' y1 _ => (o_some (ex := (Et Ei).enc) (v := t15') (r_var (d := (Et Ei).enc t15') rfl ((Et Ei).imm _))) y1, by decide⟩ (Et Ei).imm h24' (f_sortU (Et Ei) h26' rfl rfl)) r_anil rfl) (drfs_cons drf_own drfs_nil) (f_tuple (Et Ei) a25')) (rt_le (by exact (.eq (.eq (.eq (.any (.any (.any (.any (.any (.any (.any (.any (.any (.any (.any (.any .nil)))))))))))))))))))))))) h rfl rfl
def T_decide_cover (net : (Str × Int × (List ((List Int) × (List Int))))) (marks : (List Int)) (goal : (List Int)) (most : Int) : ((Str) ⊕ (Str × (Option (List (List Int))))) → Out → Prop := Rt (Ea (Ac (R1 Es) (A1 (Rc Es (R1 (Eo (Et (Et Ei)) rfl)))) rfl)).enc (fun (r : ((Str) ⊕ (Str × (Option (List (List Int)))))) => [.is ((Er (Rc Es (Rc Ei (R1 (Et (Er (Rc (Et Ei) (R1 (Et Ei))))))))).enc net), .is ((Et Ei).enc marks), .is ((Et Ei).enc goal), .is (Ei.enc most), .any, .any])
theorem ref_decide_cover {net : (Str × Int × (List ((List Int) × (List Int))))} {marks : (List Int)} {goal : (List Int)} {most : Int} {r : ((Str) ⊕ (Str × (Option (List (List Int)))))} (h : n_decide_cover net marks goal most = some r) : d_decide_cover [(Er (Rc Es (Rc Ei (R1 (Et (Er (Rc (Et Ei) (R1 (Et Ei))))))))).enc net, (Et Ei).enc marks, (Et Ei).enc goal, Ei.enc most] = some ((Ea (Ac (R1 Es) (A1 (Rc Es (R1 (Eo (Et (Et Ei)) rfl)))) rfl)).enc r, [some ((Er (Rc Es (Rc Ei (R1 (Et (Er (Rc (Et Ei) (R1 (Et Ei))))))))).enc net), some ((Et Ei).enc marks), some ((Et Ei).enc goal), some (Ei.enc most)]) :=
  def_ok (Ar := fun (r : ((Str) ⊕ (Str × (Option (List (List Int)))))) => [.is ((Er (Rc Es (Rc Ei (R1 (Et (Er (Rc (Et Ei) (R1 (Et Ei))))))))).enc net), .is ((Et Ei).enc marks), .is ((Et Ei).enc goal), .is (Ei.enc most), .any, .any]) (show RB _ m_decide_cover (n_decide_cover net marks goal most) (T_decide_cover net marks goal most) from
  (k_bnd fun a1' h2' => (k_asgF (Eo (Et (Et Ei)) rfl).enc (r_user (r_acons (r_var (d := (Er (Rc Es (Rc Ei (R1 (Et (Er (Rc (Et Ei) (R1 (Et Ei))))))))).enc net) rfl ((Er (Rc Es (Rc Ei (R1 (Et (Er (Rc (Et Ei) (R1 (Et Ei))))))))).imm _)) (r_acons (r_var (d := (Et Ei).enc goal) rfl ((Et Ei).imm _)) (r_acons (r_var (d := Ei.enc most) rfl (Ei.imm _)) r_anil rfl) rfl) rfl) rfl (drfs_cons drf_own (drfs_cons drf_own (drfs_cons drf_own drfs_nil))) (ref_back_to_cover h2') (.own (.own (.own .nil)))) (by exact Nat.le_of_ble_eq_true rfl) fun least => (k_if (r_tb (r_call (r_acons (r_var (d := (Eo (Et (Et Ei)) rfl).enc least) rfl ((Eo (Et (Et Ei)) rfl).imm _)) (r_acons r_c r_anil rfl) rfl) (drfs_cons drf_own (drfs_cons drf_own drfs_nil)) (f_isN (Et (Et Ei)) rfl least))) (fun _ => (k_ret (r_tup (r_acons r_c r_anil rfl) rfl (Nat.le_of_ble_eq_true rfl)) (rt_le (by exact (.eq (.eq (.eq (.eq (.any (.any .nil)))))))))) (fun _ => (k_nil (k_last (k_bnd fun a4' h3' => k_bnd fun a8' h9' => (k_ret (r_ifeE (ex := (Ea (Ac (R1 Es) (A1 (Rc Es (R1 (Eo (Et (Et Ei)) rfl)))) rfl)).enc) (r_tv (r_any (i_T (Et Ei) (co_opt h3' (r_var (d := (Eo (Et (Et Ei)) rfl).enc least) rfl ((Eo (Et (Et Ei)) rfl).imm _)))) gd_nil ⟨fun t5' => (b_name (by exact Nat.le_of_ble_eq_true rfl)), fun t5' => (to_some r_yes), fun t5' y1 _ => (o_bnd fun a6' h7' => o_some (ex := Eb.enc) (v := a6') (r_user (r_acons (r_var (d := (Et Ei).enc marks) rfl ((Et Ei).imm _)) (r_acons (r_var (d := (Et Ei).enc t5') rfl ((Et Ei).imm _)) r_anil rfl) rfl) rfl (drfs_cons drf_own (drfs_cons drf_own drfs_nil)) (ref_covers h7') (.own (.own .nil)))) y1, by decide⟩ h9') drf_own (t_B _)) (fun _ => (r_tup (r_acons r_c r_anil rfl) rfl (Nat.le_of_ble_eq_true rfl))) (fun _ => (r_tup (r_acons r_c (r_acons (r_var (d := (Eo (Et (Et Ei)) rfl).enc least) rfl ((Eo (Et (Et Ei)) rfl).imm _)) r_anil rfl) rfl) rfl (Nat.le_of_ble_eq_true rfl)))) (rt_le (by exact (.eq (.eq (.eq (.eq (.any (.any .nil))))))))))))))))) h rfl rfl
def T_law_under (one : (List Int)) (two : (List Int)) : Bool → Out → Prop := Rt Eb.enc (fun (r : Bool) => [.is ((Et Ei).enc one), .is ((Et Ei).enc two), .any])
theorem ref_law_under {one : (List Int)} {two : (List Int)} {r : Bool} (h : n_law_under one two = some r) : d_law_under [(Et Ei).enc one, (Et Ei).enc two] = some (Eb.enc r, [some ((Et Ei).enc one), some ((Et Ei).enc two)]) :=
  def_ok (Ar := fun (r : Bool) => [.is ((Et Ei).enc one), .is ((Et Ei).enc two), .any]) (show RB _ m_law_under (n_law_under one two) (T_law_under one two) from
  (k_last (k_bnd fun r1' h2' => k_bnd fun a8' h9' => (k_ret (r_call (r_acons (r_call (r_acons (r_lcO (g := Ei.enc) (i_rng1 (r_acons (r_call (r_acons (r_var (d := (Et Ei).enc one) rfl ((Et Ei).imm _)) r_anil rfl) (drfs_cons drf_own drfs_nil) (f_lenT Ei one)) r_anil rfl) h2') rfl gd_nil ⟨fun t3' => (b_name (by exact Nat.le_of_ble_eq_true rfl)), fun t3' => (to_bnd fun a4' h5' => to_bnd fun a6' h7' => to_some (r_tb (r_call (r_acons (r_sub (r_var (d := (Et Ei).enc one) rfl ((Et Ei).imm _)) (r_var (d := Ei.enc t3') rfl (Ei.imm _)) rfl drf_own drf_own (s_T Ei h5')) (r_acons (r_sub (r_var (d := (Et Ei).enc two) rfl ((Et Ei).imm _)) (r_var (d := Ei.enc t3') rfl (Ei.imm _)) rfl drf_own drf_own (s_T Ei h7')) r_anil rfl) rfl) (drfs_cons drf_own (drfs_cons drf_own drfs_nil)) (f_gt _ _)))), fun t3' y1 _ => (o_some (ex := Ei.enc) (v := t3') (r_var (d := Ei.enc t3') rfl (Ei.imm _))) y1, by decide⟩ h9') r_anil rfl) (drfs_cons drf_own drfs_nil) (f_lenL Ei a8')) (r_acons r_c r_anil rfl) rfl) (drfs_cons drf_own (drfs_cons drf_own drfs_nil)) (f_eq Ei (List.length a8' : Int) (0 : Int) rfl)) (rt_le (by exact (.eq (.eq (.any .nil))))))))) h rfl rfl
def T_law_least_marks (rows : (List (List Int))) : (List (List Int)) → Out → Prop := Rt (Lx (Et Ei)) (fun (r : (List (List Int))) => [.is ((Lx (Et Ei)) rows), .any, .any])
theorem ref_law_least_marks {rows : (List (List Int))} {r : (List (List Int))} (h : n_law_least_marks rows = some r) : d_law_least_marks [(Lx (Et Ei)) rows] = some ((Lx (Et Ei)) r, [some ((Lx (Et Ei)) rows)]) :=
  def_ok (Ar := fun (r : (List (List Int))) => [.is ((Lx (Et Ei)) rows), .any, .any]) (show RB _ m_law_least_marks (n_law_least_marks rows) (T_law_least_marks rows) from
  (k_last (k_bnd fun a9' h10' => k_bnd fun a11' h12' => (k_ret (r_call (r_acons (r_lcO (g := (Et Ei).enc) (i_V (Et Ei) (r_varM (d := (Lx (Et Ei)) rows) rfl rfl) rfl) rfl (gd_cons rfl gd_nil) ⟨fun t1' => (b_name (by exact Nat.le_of_ble_eq_true rfl)), fun t1' => (to_bnd fun a7' h8' => to_some (r_tb (r_call (r_acons (r_call (r_acons (r_lcO (g := (Et Ei).enc) (i_V (Et Ei) (r_varM (d := (Lx (Et Ei)) rows) rfl rfl) rfl) rfl (gd_cons rfl gd_nil) ⟨fun t2' => (b_name (by exact Nat.le_of_ble_eq_true rfl)), fun t2' => (to_bnd fun a5' h6' => to_some (o_and (r_tb (r_call (r_acons (r_var (d := (Et Ei).enc t2') rfl ((Et Ei).imm _)) (r_acons (r_var (d := (Et Ei).enc t1') rfl ((Et Ei).imm _)) r_anil rfl) rfl) (drfs_cons drf_own (drfs_cons drf_own drfs_nil)) (f_ne (Et Ei) t2' t1' rfl))) (fun _ => (to_bnd fun a3' h4' => to_some (r_tv (r_user (r_acons (r_var (d := (Et Ei).enc t2') rfl ((Et Ei).imm _)) (r_acons (r_var (d := (Et Ei).enc t1') rfl ((Et Ei).imm _)) r_anil rfl) rfl) rfl (drfs_cons drf_own (drfs_cons drf_own drfs_nil)) (ref_law_under h4') (.own (.own .nil))) drf_own (t_B _)))) h6')), fun t2' y1 _ => (o_some (ex := (Et Ei).enc) (v := t2') (r_var (d := (Et Ei).enc t2') rfl ((Et Ei).imm _))) y1, by decide⟩ h8') r_anil rfl) (drfs_cons drf_own drfs_nil) (f_lenL (Et Ei) a7')) (r_acons r_c r_anil rfl) rfl) (drfs_cons drf_own (drfs_cons drf_own drfs_nil)) (f_eq Ei (List.length a7' : Int) (0 : Int) rfl)))), fun t1' y1 _ => (o_some (ex := (Et Ei).enc) (v := t1') (r_var (d := (Et Ei).enc t1') rfl ((Et Ei).imm _))) y1, by decide⟩ h10') r_anil rfl) (drfs_cons drf_own drfs_nil) (f_sortUL (Et Ei) h12' rfl rfl)) (rt_le (by exact (.eq (.any (.any .nil))))))))) h rfl rfl
def T_law_can (net : (Str × Int × (List ((List Int) × (List Int))))) (marks : (List Int)) (step : Int) : Bool → Out → Prop := Rt Eb.enc (fun (r : Bool) => [.is ((Er (Rc Es (Rc Ei (R1 (Et (Er (Rc (Et Ei) (R1 (Et Ei))))))))).enc net), .is ((Et Ei).enc marks), .is (Ei.enc step), .any])
theorem ref_law_can {net : (Str × Int × (List ((List Int) × (List Int))))} {marks : (List Int)} {step : Int} {r : Bool} (h : n_law_can net marks step = some r) : d_law_can [(Er (Rc Es (Rc Ei (R1 (Et (Er (Rc (Et Ei) (R1 (Et Ei))))))))).enc net, (Et Ei).enc marks, Ei.enc step] = some (Eb.enc r, [some ((Er (Rc Es (Rc Ei (R1 (Et (Er (Rc (Et Ei) (R1 (Et Ei))))))))).enc net), some ((Et Ei).enc marks), some (Ei.enc step)]) :=
  def_ok (Ar := fun (r : Bool) => [.is ((Er (Rc Es (Rc Ei (R1 (Et (Er (Rc (Et Ei) (R1 (Et Ei))))))))).enc net), .is ((Et Ei).enc marks), .is (Ei.enc step), .any]) (show RB _ m_law_can (n_law_can net marks step) (T_law_can net marks step) from
  (k_last (k_bnd fun r1' h2' => k_bnd fun a10' h11' => (k_ret (r_call (r_acons (r_call (r_acons (r_lcO (g := Ei.enc) (i_rng1 (r_acons (r_sub (i := (1 : Int)) (r_var (d := (Er (Rc Es (Rc Ei (R1 (Et (Er (Rc (Et Ei) (R1 (Et Ei))))))))).enc net) rfl ((Er (Rc Es (Rc Ei (R1 (Et (Er (Rc (Et Ei) (R1 (Et Ei))))))))).imm _)) r_c rfl drf_own drf_own (s_R (d := Ei.enc net.2.1) rfl (Ei.imm _))) r_anil rfl) h2') rfl gd_nil ⟨fun t3' => (b_name (by exact Nat.le_of_ble_eq_true rfl)), fun t3' => (to_bnd fun a4' h5' => to_bnd fun a6' h7' => to_bnd fun a8' h9' => to_some (r_tb (r_call (r_acons (r_sub (r_var (d := (Et Ei).enc marks) rfl ((Et Ei).imm _)) (r_var (d := Ei.enc t3') rfl (Ei.imm _)) rfl drf_own drf_own (s_T Ei h5')) (r_acons (r_sub (r_sub (i := (0 : Int)) (r_sub (r_sub (i := (2 : Int)) (r_var (d := (Er (Rc Es (Rc Ei (R1 (Et (Er (Rc (Et Ei) (R1 (Et Ei))))))))).enc net) rfl ((Er (Rc Es (Rc Ei (R1 (Et (Er (Rc (Et Ei) (R1 (Et Ei))))))))).imm _)) r_c rfl drf_own drf_own (s_R (d := (Et (Er (Rc (Et Ei) (R1 (Et Ei))))).enc net.2.2) rfl ((Et (Er (Rc (Et Ei) (R1 (Et Ei))))).imm _))) (r_var (d := Ei.enc step) rfl (Ei.imm _)) rfl drf_own drf_own (s_T (Er (Rc (Et Ei) (R1 (Et Ei)))) h7')) r_c rfl drf_own drf_own (s_R (d := (Et Ei).enc a6'.1) rfl ((Et Ei).imm _))) (r_var (d := Ei.enc t3') rfl (Ei.imm _)) rfl drf_own drf_own (s_T Ei h9')) r_anil rfl) rfl) (drfs_cons drf_own (drfs_cons drf_own drfs_nil)) (f_lt _ _)))), fun t3' y1 _ => (o_some (ex := Ei.enc) (v := t3') (r_var (d := Ei.enc t3') rfl (Ei.imm _))) y1, by decide⟩ h11') r_anil rfl) (drfs_cons drf_own drfs_nil) (f_lenL Ei a10')) (r_acons r_c r_anil rfl) rfl) (drfs_cons drf_own (drfs_cons drf_own drfs_nil)) (f_eq Ei (List.length a10' : Int) (0 : Int) rfl)) (rt_le (by exact (.eq (.eq (.eq (.any .nil)))))))))) h rfl rfl
def T_law_fired (net : (Str × Int × (List ((List Int) × (List Int))))) (marks : (List Int)) (step : Int) : (List Int) → Out → Prop := Rt (Et Ei).enc (fun (r : (List Int)) => [.is ((Er (Rc Es (Rc Ei (R1 (Et (Er (Rc (Et Ei) (R1 (Et Ei))))))))).enc net), .is ((Et Ei).enc marks), .is (Ei.enc step), .any])
theorem ref_law_fired {net : (Str × Int × (List ((List Int) × (List Int))))} {marks : (List Int)} {step : Int} {r : (List Int)} (h : n_law_fired net marks step = some r) : d_law_fired [(Er (Rc Es (Rc Ei (R1 (Et (Er (Rc (Et Ei) (R1 (Et Ei))))))))).enc net, (Et Ei).enc marks, Ei.enc step] = some ((Et Ei).enc r, [some ((Er (Rc Es (Rc Ei (R1 (Et (Er (Rc (Et Ei) (R1 (Et Ei))))))))).enc net), some ((Et Ei).enc marks), some (Ei.enc step)]) :=
  def_ok (Ar := fun (r : (List Int)) => [.is ((Er (Rc Es (Rc Ei (R1 (Et (Er (Rc (Et Ei) (R1 (Et Ei))))))))).enc net), .is ((Et Ei).enc marks), .is (Ei.enc step), .any]) (show RB _ m_law_fired (n_law_fired net marks step) (T_law_fired net marks step) from
  (k_last (k_bnd fun r1' h2' => k_bnd fun a14' h15' => (k_ret (r_call (r_acons (r_lcO (g := Ei.enc) (i_rng1 (r_acons (r_sub (i := (1 : Int)) (r_var (d := (Er (Rc Es (Rc Ei (R1 (Et (Er (Rc (Et Ei) (R1 (Et Ei))))))))).enc net) rfl ((Er (Rc Es (Rc Ei (R1 (Et (Er (Rc (Et Ei) (R1 (Et Ei))))))))).imm _)) r_c rfl drf_own drf_own (s_R (d := Ei.enc net.2.1) rfl (Ei.imm _))) r_anil rfl) h2') rfl gd_nil ⟨fun t3' => (b_name (by exact Nat.le_of_ble_eq_true rfl)), fun t3' => (to_some r_yes), fun t3' y1 _ => (o_bnd fun a4' h5' => o_bnd fun a6' h7' => o_bnd fun a8' h9' => o_bnd fun a10' h11' => o_bnd fun a12' h13' => o_some (ex := Ei.enc) (v := ((a4' - a8') + a12')) (r_call (r_acons (r_call (r_acons (r_sub (r_var (d := (Et Ei).enc marks) rfl ((Et Ei).imm _)) (r_var (d := Ei.enc t3') rfl (Ei.imm _)) rfl drf_own drf_own (s_T Ei h5')) (r_acons (r_sub (r_sub (i := (0 : Int)) (r_sub (r_sub (i := (2 : Int)) (r_var (d := (Er (Rc Es (Rc Ei (R1 (Et (Er (Rc (Et Ei) (R1 (Et Ei))))))))).enc net) rfl ((Er (Rc Es (Rc Ei (R1 (Et (Er (Rc (Et Ei) (R1 (Et Ei))))))))).imm _)) r_c rfl drf_own drf_own (s_R (d := (Et (Er (Rc (Et Ei) (R1 (Et Ei))))).enc net.2.2) rfl ((Et (Er (Rc (Et Ei) (R1 (Et Ei))))).imm _))) (r_var (d := Ei.enc step) rfl (Ei.imm _)) rfl drf_own drf_own (s_T (Er (Rc (Et Ei) (R1 (Et Ei)))) h7')) r_c rfl drf_own drf_own (s_R (d := (Et Ei).enc a6'.1) rfl ((Et Ei).imm _))) (r_var (d := Ei.enc t3') rfl (Ei.imm _)) rfl drf_own drf_own (s_T Ei h9')) r_anil rfl) rfl) (drfs_cons drf_own (drfs_cons drf_own drfs_nil)) (f_sub _ _)) (r_acons (r_sub (r_sub (i := (1 : Int)) (r_sub (r_sub (i := (2 : Int)) (r_var (d := (Er (Rc Es (Rc Ei (R1 (Et (Er (Rc (Et Ei) (R1 (Et Ei))))))))).enc net) rfl ((Er (Rc Es (Rc Ei (R1 (Et (Er (Rc (Et Ei) (R1 (Et Ei))))))))).imm _)) r_c rfl drf_own drf_own (s_R (d := (Et (Er (Rc (Et Ei) (R1 (Et Ei))))).enc net.2.2) rfl ((Et (Er (Rc (Et Ei) (R1 (Et Ei))))).imm _))) (r_var (d := Ei.enc step) rfl (Ei.imm _)) rfl drf_own drf_own (s_T (Er (Rc (Et Ei) (R1 (Et Ei)))) h11')) r_c rfl drf_own drf_own (s_R (d := (Et Ei).enc a10'.2) rfl ((Et Ei).imm _))) (r_var (d := Ei.enc t3') rfl (Ei.imm _)) rfl drf_own drf_own (s_T Ei h13')) r_anil rfl) rfl) (drfs_cons drf_own (drfs_cons drf_own drfs_nil)) (f_add _ _))) y1, by decide⟩ h15') r_anil rfl) (drfs_cons drf_own drfs_nil) (f_tuple Ei a14')) (rt_le (by exact (.eq (.eq (.eq (.any .nil)))))))))) h rfl rfl
def T_law_net_reach (net : (Str × Int × (List ((List Int) × (List Int))))) (marks : (List Int)) (most : Int) : ((List (List Int)) × Bool) → Out → Prop := Rt (Er (Rc (Et (Et Ei)) (R1 Eb))).enc (fun (r : ((List (List Int)) × Bool)) => [.is ((Er (Rc Es (Rc Ei (R1 (Et (Er (Rc (Et Ei) (R1 (Et Ei))))))))).enc net), .is ((Et Ei).enc marks), .is (Ei.enc most), .any, .any, .any, .any])
theorem ref_law_net_reach {net : (Str × Int × (List ((List Int) × (List Int))))} {marks : (List Int)} {most : Int} {r : ((List (List Int)) × Bool)} (h : n_law_net_reach net marks most = some r) : d_law_net_reach [(Er (Rc Es (Rc Ei (R1 (Et (Er (Rc (Et Ei) (R1 (Et Ei))))))))).enc net, (Et Ei).enc marks, Ei.enc most] = some ((Er (Rc (Et (Et Ei)) (R1 Eb))).enc r, [some ((Er (Rc Es (Rc Ei (R1 (Et (Er (Rc (Et Ei) (R1 (Et Ei))))))))).enc net), some ((Et Ei).enc marks), some (Ei.enc most)]) :=
  def_ok (Ar := fun (r : ((List (List Int)) × Bool)) => [.is ((Er (Rc Es (Rc Ei (R1 (Et (Er (Rc (Et Ei) (R1 (Et Ei))))))))).enc net), .is ((Et Ei).enc marks), .is (Ei.enc most), .any, .any, .any, .any]) (show RB _ m_law_net_reach (n_law_net_reach net marks most) (T_law_net_reach net marks most) from
  (k_asgF (Lx (Et Ei)) (r_lst (r_acons (r_var (d := (Et Ei).enc marks) rfl ((Et Ei).imm _)) r_anil rfl) rfl (Nat.le_of_ble_eq_true rfl)) (by exact Nat.le_of_ble_eq_true rfl) fun found => (k_asgF Ei.enc r_c (by exact Nat.le_of_ble_eq_true rfl) fun k => (k_whileR (j := some) (T_law_net_reach net marks most) (fun s1' => [.is ((Er (Rc Es (Rc Ei (R1 (Et (Er (Rc (Et Ei) (R1 (Et Ei))))))))).enc net), .is ((Et Ei).enc marks), .is (Ei.enc most), .is ((Lx (Et Ei)) s1'.1), .is (Ei.enc s1'.2), .any, .any]) (by exact (.eq (.eq (.eq (.eq (.eq (.any (.any .nil)))))))) (fun s1' => (to_some (r_tb (r_call (r_acons (r_var (d := Ei.enc s1'.2) rfl (Ei.imm _)) (r_acons (r_call (r_acons (r_varM (d := (Lx (Et Ei)) s1'.1) rfl rfl) r_anil rfl) (drfs_cons (drf_at rfl) drfs_nil) (f_lenL (Et Ei) s1'.1)) r_anil rfl) rfl) (drfs_cons drf_own (drfs_cons drf_own drfs_nil)) (f_lt _ _))))) (fun s1' _ => (k_bnd fun r2' h3' => (k_forR (j := (fun (r : ((List (List Int)) × Bool)) => some (Res.rt (ρ := ((List (List Int)) × Bool)) r))) (T_law_net_reach net marks most) (fun found' => [.is ((Er (Rc Es (Rc Ei (R1 (Et (Er (Rc (Et Ei) (R1 (Et Ei))))))))).enc net), .is ((Et Ei).enc marks), .is (Ei.enc most), .is ((Lx (Et Ei)) found'), .is (Ei.enc s1'.2), .any, .any]) (i_rng1 (r_acons (r_call (r_acons (r_sub (i := (2 : Int)) (r_var (d := (Er (Rc Es (Rc Ei (R1 (Et (Er (Rc (Et Ei) (R1 (Et Ei))))))))).enc net) rfl ((Er (Rc Es (Rc Ei (R1 (Et (Er (Rc (Et Ei) (R1 (Et Ei))))))))).imm _)) r_c rfl drf_own drf_own (s_R (d := (Et (Er (Rc (Et Ei) (R1 (Et Ei))))).enc net.2.2) rfl ((Et (Er (Rc (Et Ei) (R1 (Et Ei))))).imm _))) r_anil rfl) (drfs_cons drf_own drfs_nil) (f_lenT (Er (Rc (Et Ei) (R1 (Et Ei)))) net.2.2)) r_anil rfl) h3') (by exact (.eq (.eq (.eq (.eq (.eq (.any (.any .nil)))))))) rfl (fun _ => gd_nil) (fun t4' found' => (b_name (by exact Nat.le_of_ble_eq_true rfl))) (fun t4' found' => (k_last (k_bnd fun a7' h8' => k_bnd fun a9' h10' => (k_if (r_tv (r_user (r_acons (r_var (d := (Er (Rc Es (Rc Ei (R1 (Et (Er (Rc (Et Ei) (R1 (Et Ei))))))))).enc net) rfl ((Er (Rc Es (Rc Ei (R1 (Et (Er (Rc (Et Ei) (R1 (Et Ei))))))))).imm _)) (r_acons (r_sub (r_varM (d := (Lx (Et Ei)) found') rfl rfl) (r_var (d := Ei.enc s1'.2) rfl (Ei.imm _)) rfl (drf_at rfl) drf_own (s_L (Et Ei) h8')) (r_acons (r_var (d := Ei.enc t4') rfl (Ei.imm _)) r_anil rfl) rfl) rfl) rfl (drfs_cons drf_own (drfs_cons drf_own (drfs_cons drf_own drfs_nil))) (ref_law_can h10') (.own (.own (.own .nil)))) drf_own (t_B _)) (fun _ => (k_assoc (k_bnd fun a13' h14' => k_bnd fun a15' h16' => (k_asgF (Et Ei).enc (r_user (r_acons (r_var (d := (Er (Rc Es (Rc Ei (R1 (Et (Er (Rc (Et Ei) (R1 (Et Ei))))))))).enc net) rfl ((Er (Rc Es (Rc Ei (R1 (Et (Er (Rc (Et Ei) (R1 (Et Ei))))))))).imm _)) (r_acons (r_sub (r_varM (d := (Lx (Et Ei)) found') rfl rfl) (r_var (d := Ei.enc s1'.2) rfl (Ei.imm _)) rfl (drf_at rfl) drf_own (s_L (Et Ei) h14')) (r_acons (r_var (d := Ei.enc t4') rfl (Ei.imm _)) r_anil rfl) rfl) rfl) rfl (drfs_cons drf_own (drfs_cons drf_own (drfs_cons drf_own drfs_nil))) (ref_law_fired h16') (.own (.own (.own .nil)))) (by exact Nat.le_of_ble_eq_true rfl) fun more => (k_if (r_tb (r_call (r_acons (r_var (d := (Et Ei).enc more) rfl ((Et Ei).imm _)) (r_acons (r_varM (d := (Lx (Et Ei)) found') rfl rfl) r_anil rfl) rfl) (drfs_cons drf_own (drfs_cons (drf_at rfl) drfs_nil)) (f_ninLB (Et Ei) more found' rfl))) (fun _ => (k_assoc (k_if (r_tb (r_call (r_acons (r_call (r_acons (r_varM (d := (Lx (Et Ei)) found') rfl rfl) r_anil rfl) (drfs_cons (drf_at rfl) drfs_nil) (f_lenL (Et Ei) found')) (r_acons (r_var (d := Ei.enc most) rfl (Ei.imm _)) r_anil rfl) rfl) (drfs_cons drf_own (drfs_cons drf_own drfs_nil)) (f_eq Ei (List.length found' : Int) most rfl))) (fun _ => (k_ret (r_tup (r_acons (r_call (r_acons (r_varM (d := (Lx (Et Ei)) found') rfl rfl) r_anil rfl) (drfs_cons (drf_at rfl) drfs_nil) (f_tuple (Et Ei) found')) (r_acons r_c r_anil rfl) rfl) rfl (Nat.le_of_ble_eq_true rfl)) (rs_rt (rt_le (by exact (.eq (.eq (.eq (.any (.any (.any (.any .nil)))))))))))) (fun _ => (k_nil (k_bnd fun found17' h18' => (k_expr (r_push (E := (Et Ei)) h18' (r_varM (d := (Lx (Et Ei)) found') rfl rfl) rfl (r_takeI (d := (Et Ei).enc more) rfl ((Et Ei).imm _)) rfl) (k_nx (rs_nx (by exact (.eq (.eq (.eq (.eq (.eq (.any (.any .nil))))))))))))))))) (fun _ => (k_nil (k_nx (rs_nx (by exact (.eq (.eq (.eq (.eq (.eq (.any (.any .nil))))))))))))))))) (fun _ => (k_nil (k_nx (rs_nx (by exact (.eq (.eq (.eq (.eq (.eq (.any (.any .nil)))))))))))))))) j_rs fun found' => (k_last (k_asgF Ei.enc (r_call (r_acons (r_var (d := Ei.enc s1'.2) rfl (Ei.imm _)) (r_acons r_c r_anil rfl) rfl) (drfs_cons drf_own (drfs_cons drf_own drfs_nil)) (f_add _ _)) (by exact Nat.le_of_ble_eq_true rfl) fun k => (k_nx (rs_nx (by exact (.eq (.eq (.eq (.eq (.eq (.any (.any .nil))))))))))))))) j_some fun s1' => (k_last (k_ret (r_tup (r_acons (r_call (r_acons (r_varM (d := (Lx (Et Ei)) s1'.1) rfl rfl) r_anil rfl) (drfs_cons (drf_at rfl) drfs_nil) (f_tuple (Et Ei) s1'.1)) (r_acons r_c r_anil rfl) rfl) rfl (Nat.le_of_ble_eq_true rfl)) (rt_le (by exact (.eq (.eq (.eq (.any (.any (.any (.any .nil))))))))))))))) h rfl rfl
end P08


set_option Elab.async false
set_option linter.all false
set_option maxRecDepth 100000
set_option maxHeartbeats 20000000
set_option synthInstance.maxHeartbeats 400000
set_option synthInstance.maxSize 4000
namespace P08
open PySem PySem.Spec PyProof.Rows L2 Z Y
def T_law (p0' : Unit) : Bool → Out → Prop := Rt D.bl (fun _ => [.any, .any, .any, .any, .any, .any, .any, .any, .any, .any, .any, .any, .any, .any, .any, .any, .any])
theorem ref_law (box : Box) : RB [.any, .is (boxE box), .any, .any, .any, .any, .any, .any, .any, .any, .any, .any, .any, .any, .any, .any, .any] r_law (n_law box) (T_law ()) :=
  (k_bnd fun a1' h2' => (k_asgF (Er (Rc Es (Rc Ei (R1 (Et (Er (Rc (Et Ei) (R1 (Et Ei))))))))).enc (r_user (r_acons (r_varM (d := boxE box) rfl rfl) (r_acons r_c (r_acons r_c (r_acons r_c r_anil rfl) rfl) rfl) rfl) (by simp [rootsOk, roots]) (drfs_cons (drf_at rfl) (drfs_cons drf_own (drfs_cons drf_own (drfs_cons drf_own drfs_nil)))) (ref_law_net h2') (.pth (l := []) rfl (.own (.own (.own .nil))) rfl)) (by exact Nat.le_of_ble_eq_true rfl) fun net => (k_bnd fun a3' h4' => (k_asgF (Et Ei).enc (r_user (r_acons (r_varM (d := boxE a1'.2) rfl rfl) (r_acons (r_var (d := (Er (Rc Es (Rc Ei (R1 (Et (Er (Rc (Et Ei) (R1 (Et Ei))))))))).enc net) rfl ((Er (Rc Es (Rc Ei (R1 (Et (Er (Rc (Et Ei) (R1 (Et Ei))))))))).imm _)) (r_acons r_c r_anil rfl) rfl) rfl) (by simp [rootsOk, roots]) (drfs_cons (drf_at rfl) (drfs_cons drf_own (drfs_cons drf_own drfs_nil))) (ref_law_marks h4') (.pth (l := []) rfl (.own (.own .nil)) rfl)) (by exact Nat.le_of_ble_eq_true rfl) fun marks => (k_eqA (A' := [.any, .is (boxE a3'.2), .is ((Er (Rc Es (Rc Ei (R1 (Et (Er (Rc (Et Ei) (R1 (Et Ei))))))))).enc net), .is ((Et Ei).enc marks), .any, .any, .any, .any, .any, .any, .any, .any, .any, .any, .any, .any, .any]) rfl (k_bnd fun a5' h6' => (k_asgF (Et Ei).enc (r_user (r_acons (r_varM (d := boxE a3'.2) rfl rfl) (r_acons (r_var (d := (Er (Rc Es (Rc Ei (R1 (Et (Er (Rc (Et Ei) (R1 (Et Ei))))))))).enc net) rfl ((Er (Rc Es (Rc Ei (R1 (Et (Er (Rc (Et Ei) (R1 (Et Ei))))))))).imm _)) (r_acons r_c r_anil rfl) rfl) rfl) (by simp [rootsOk, roots]) (drfs_cons (drf_at rfl) (drfs_cons drf_own (drfs_cons drf_own drfs_nil))) (ref_law_marks h6') (.pth (l := []) rfl (.own (.own .nil)) rfl)) (by exact Nat.le_of_ble_eq_true rfl) fun goal => (k_bnd fun a7' h8' => (k_asgF (Eo (Et (Et Ei)) rfl).enc (r_user (r_acons (r_var (d := (Er (Rc Es (Rc Ei (R1 (Et (Er (Rc (Et Ei) (R1 (Et Ei))))))))).enc net) rfl ((Er (Rc Es (Rc Ei (R1 (Et (Er (Rc (Et Ei) (R1 (Et Ei))))))))).imm _)) (r_acons (r_var (d := (Et Ei).enc goal) rfl ((Et Ei).imm _)) (r_acons r_c r_anil rfl) rfl) rfl) rfl (drfs_cons drf_own (drfs_cons drf_own (drfs_cons drf_own drfs_nil))) (ref_back_to_cover h8') (.own (.own (.own .nil)))) (by exact Nat.le_of_ble_eq_true rfl) fun rows => (k_eqA (A' := [.any, .is (boxE a5'.2), .is ((Er (Rc Es (Rc Ei (R1 (Et (Er (Rc (Et Ei) (R1 (Et Ei))))))))).enc net), .is ((Et Ei).enc marks), .is ((Et Ei).enc goal), .is ((Eo (Et (Et Ei)) rfl).enc rows), .any, .any, .any, .any, .any, .any, .any, .any, .any, .any, .any]) rfl (k_bnd fun a9' h10' => (k_asgF (Ea (Ac (R1 Es) (A1 (Rc Es (R1 (Eo (Et (Et Ei)) rfl)))) rfl)).enc (r_user (r_acons (r_var (d := (Er (Rc Es (Rc Ei (R1 (Et (Er (Rc (Et Ei) (R1 (Et Ei))))))))).enc net) rfl ((Er (Rc Es (Rc Ei (R1 (Et (Er (Rc (Et Ei) (R1 (Et Ei))))))))).imm _)) (r_acons (r_var (d := (Et Ei).enc marks) rfl ((Et Ei).imm _)) (r_acons (r_var (d := (Et Ei).enc goal) rfl ((Et Ei).imm _)) (r_acons r_c r_anil rfl) rfl) rfl) rfl) rfl (drfs_cons drf_own (drfs_cons drf_own (drfs_cons drf_own (drfs_cons drf_own drfs_nil)))) (ref_decide_cover h10') (.own (.own (.own (.own .nil))))) (by exact Nat.le_of_ble_eq_true rfl) fun paper => (k_if (r_tb (r_call (r_acons (r_var (d := (Eo (Et (Et Ei)) rfl).enc rows) rfl ((Eo (Et (Et Ei)) rfl).imm _)) (r_acons r_c r_anil rfl) rfl) (drfs_cons drf_own (drfs_cons drf_own drfs_nil)) (f_isN (Et (Et Ei)) rfl rows))) (fun _ => (k_bnd fun a11' h12' => (k_ret (r_user (r_acons (r_var (d := (Ea (Ac (R1 Es) (A1 (Rc Es (R1 (Eo (Et (Et Ei)) rfl)))) rfl)).enc paper) rfl ((Ea (Ac (R1 Es) (A1 (Rc Es (R1 (Eo (Et (Et Ei)) rfl)))) rfl)).imm _)) (r_acons (r_tup (r_acons r_c r_anil rfl) rfl (Nat.le_of_ble_eq_true rfl)) r_anil rfl) rfl) rfl (drfs_cons drf_own (drfs_cons drf_own drfs_nil)) (f_same (Ea (Ac (R1 Es) (A1 (Rc Es (R1 (Eo (Et (Et Ei)) rfl)))) rfl)) h12' rfl) (.own (.own .nil))) (rt_le (by exact (.any (.any (.any (.any (.any (.any (.any (.any (.any (.any (.any (.any (.any (.any (.any (.any (.any .nil)))))))))))))))))))))) (fun _ => (k_nil (k_bnd fun a14' h13' => k_bnd fun a18' h17' => k_bnd fun a19' h20' => k_bnd fun a27' h28' => (k_if (o_or (r_tb (r_call (r_acons (r_call (r_acons (co_opt h13' (r_var (d := (Eo (Et (Et Ei)) rfl).enc rows) rfl ((Eo (Et (Et Ei)) rfl).imm _))) r_anil rfl) (drfs_cons drf_own drfs_nil) (f_list (Et Ei) a14')) (r_acons (r_user (r_acons (r_call (r_acons (co_opt h17' (r_var (d := (Eo (Et (Et Ei)) rfl).enc rows) rfl ((Eo (Et (Et Ei)) rfl).imm _))) r_anil rfl) (drfs_cons drf_own drfs_nil) (f_list (Et Ei) a18')) r_anil rfl) rfl (drfs_cons drf_own drfs_nil) (ref_law_least_marks h20') (.own .nil)) r_anil rfl) rfl) (drfs_cons drf_own (drfs_cons drf_own drfs_nil)) (f_neL (Et Ei) a14' a19' rfl))) (fun _ => (to_bnd fun a22' h21' => to_bnd fun a23' h24' => to_bnd fun a26' h25' => to_some (r_tb (r_call (r_acons (r_lenX (co_opt h21' (r_var (d := (Eo (Et (Et Ei)) rfl).enc rows) rfl ((Eo (Et (Et Ei)) rfl).imm _))) drf_own rfl (f_lsT (Et Ei) h24' rfl)) (r_acons (r_call (r_acons (co_opt h25' (r_var (d := (Eo (Et (Et Ei)) rfl).enc rows) rfl ((Eo (Et (Et Ei)) rfl).imm _))) r_anil rfl) (drfs_cons drf_own drfs_nil) (f_lenT (Et Ei) a26')) r_anil rfl) rfl) (drfs_cons drf_own (drfs_cons drf_own drfs_nil)) (f_ne Ei a23' (List.length a26' : Int) rfl))))) h28') (fun _ => (k_ret r_c (rt_le (by exact (.any (.any (.any (.any (.any (.any (.any (.any (.any (.any (.any (.any (.any (.any (.any (.any (.any .nil))))))))))))))))))))) (fun _ => (k_nil (k_bnd fun a30' h29' => k_bnd fun a34' h35' => (k_if (r_tb (r_call (r_acons (r_call (r_acons (r_lcO (g := (Et Ei).enc) (i_T (Et Ei) (co_opt h29' (r_var (d := (Eo (Et (Et Ei)) rfl).enc rows) rfl ((Eo (Et (Et Ei)) rfl).imm _)))) rfl gd_nil ⟨fun t31' => (b_name (by exact Nat.le_of_ble_eq_true rfl)), fun t31' => (to_bnd fun a32' h33' => to_some (r_tv (r_user (r_acons (r_var (d := (Et Ei).enc t31') rfl ((Et Ei).imm _)) (r_acons (r_var (d := (Et Ei).enc goal) rfl ((Et Ei).imm _)) r_anil rfl) rfl) rfl (drfs_cons drf_own (drfs_cons drf_own drfs_nil)) (ref_law_under h33') (.own (.own .nil))) drf_own (t_B _))), fun t31' y1 _ => (o_some (ex := (Et Ei).enc) (v := t31') (r_var (d := (Et Ei).enc t31') rfl ((Et Ei).imm _))) y1, by decide⟩ h35') r_anil rfl) (drfs_cons drf_own drfs_nil) (f_lenL (Et Ei) a34')) (r_acons r_c r_anil rfl) rfl) (drfs_cons drf_own (drfs_cons drf_own drfs_nil)) (f_eq Ei (List.length a34' : Int) (0 : Int) rfl))) (fun _ => (k_ret r_c (rt_le (by exact (.any (.any (.any (.any (.any (.any (.any (.any (.any (.any (.any (.any (.any (.any (.any (.any (.any .nil))))))))))))))))))))) (fun _ => (k_nil (k_bnd fun a37' h36' => (k_forR (j := some) (T_law ()) (fun s38' => [.any, .is (boxE a5'.2), .is ((Er (Rc Es (Rc Ei (R1 (Et (Er (Rc (Et Ei) (R1 (Et Ei))))))))).enc net), .is ((Et Ei).enc marks), .is ((Et Ei).enc goal), .is ((Eo (Et (Et Ei)) rfl).enc rows), .is ((Ea (Ac (R1 Es) (A1 (Rc Es (R1 (Eo (Et (Et Ei)) rfl)))) rfl)).enc paper), .any, .any, .any, .any, .any, .any, .any, .any, .any, .any]) (i_T (Et Ei) (co_opt h36' (r_var (d := (Eo (Et (Et Ei)) rfl).enc rows) rfl ((Eo (Et (Et Ei)) rfl).imm _)))) (by exact (.any (.eq (.eq (.eq (.eq (.eq (.eq (.any (.any (.any (.any (.any (.any (.any (.any (.any (.any .nil)))))))))))))))))) rfl (fun _ => gd_nil) (fun t39' s38' => (b_name (by exact Nat.le_of_ble_eq_true rfl))) (fun t39' s38' => (k_last (k_forR (j := (fun (r : Bool) => some (Res.rt (ρ := Bool) r))) (T_law ()) (fun s40' => [.any, .is (boxE a5'.2), .is ((Er (Rc Es (Rc Ei (R1 (Et (Er (Rc (Et Ei) (R1 (Et Ei))))))))).enc net), .is ((Et Ei).enc marks), .is ((Et Ei).enc goal), .is ((Eo (Et (Et Ei)) rfl).enc rows), .is ((Ea (Ac (R1 Es) (A1 (Rc Es (R1 (Eo (Et (Et Ei)) rfl)))) rfl)).enc paper), .is ((Et Ei).enc t39'), .any, .any, .any, .any, .any, .any, .any, .any, .any]) (i_T (Er (Rc (Et Ei) (R1 (Et Ei)))) (r_sub (i := (2 : Int)) (r_var (d := (Er (Rc Es (Rc Ei (R1 (Et (Er (Rc (Et Ei) (R1 (Et Ei))))))))).enc net) rfl ((Er (Rc Es (Rc Ei (R1 (Et (Er (Rc (Et Ei) (R1 (Et Ei))))))))).imm _)) r_c rfl drf_own drf_own (s_R (d := (Et (Er (Rc (Et Ei) (R1 (Et Ei))))).enc net.2.2) rfl ((Et (Er (Rc (Et Ei) (R1 (Et Ei))))).imm _)))) (by exact (.any (.eq (.eq (.eq (.eq (.eq (.eq (.eq (.any (.any (.any (.any (.any (.any (.any (.any (.any .nil)))))))))))))))))) rfl (fun _ => gd_nil) (fun t41' s40' => (b_tup (b_cons (b_name (by exact Nat.le_of_ble_eq_true rfl)) (b_cons (b_name (by exact Nat.le_of_ble_eq_true rfl)) b_nil)) rfl)) (fun t41' s40' => (k_bnd fun r42' h43' => k_bnd fun a53' h54' => (k_asgF (Et Ei).enc (r_call (r_acons (r_lcO (g := Ei.enc) (i_rng1 (r_acons (r_sub (i := (1 : Int)) (r_var (d := (Er (Rc Es (Rc Ei (R1 (Et (Er (Rc (Et Ei) (R1 (Et Ei))))))))).enc net) rfl ((Er (Rc Es (Rc Ei (R1 (Et (Er (Rc (Et Ei) (R1 (Et Ei))))))))).imm _)) r_c rfl drf_own drf_own (s_R (d := Ei.enc net.2.1) rfl (Ei.imm _))) r_anil rfl) h43') rfl gd_nil ⟨fun t44' => (b_name (by exact Nat.le_of_ble_eq_true rfl)), fun t44' => (to_some r_yes), fun t44' y1 _ => (o_bnd fun a45' h46' => o_bnd fun a47' h48' => o_bnd fun a49' h50' => o_bnd fun a51' h52' => o_some (ex := Ei.enc) (v := (if ((a47' - a49') + a51') > a45' then ((a47' - a49') + a51') else a45')) (r_call (r_acons (r_sub (r_var (d := (Et Ei).enc t41'.1) rfl ((Et Ei).imm _)) (r_var (d := Ei.enc t44') rfl (Ei.imm _)) rfl drf_own drf_own (s_T Ei h46')) (r_acons (r_call (r_acons (r_call (r_acons (r_sub (r_var (d := (Et Ei).enc t39') rfl ((Et Ei).imm _)) (r_var (d := Ei.enc t44') rfl (Ei.imm _)) rfl drf_own drf_own (s_T Ei h48')) (r_acons (r_sub (r_var (d := (Et Ei).enc t41'.2) rfl ((Et Ei).imm _)) (r_var (d := Ei.enc t44') rfl (Ei.imm _)) rfl drf_own drf_own (s_T Ei h50')) r_anil rfl) rfl) (drfs_cons drf_own (drfs_cons drf_own drfs_nil)) (f_sub _ _)) (r_acons (r_sub (r_var (d := (Et Ei).enc t41'.1) rfl ((Et Ei).imm _)) (r_var (d := Ei.enc t44') rfl (Ei.imm _)) rfl drf_own drf_own (s_T Ei h52')) r_anil rfl) rfl) (drfs_cons drf_own (drfs_cons drf_own drfs_nil)) (f_add _ _)) r_anil rfl) rfl) (drfs_cons drf_own (drfs_cons drf_own drfs_nil)) (f_max2I _ _))) y1, by decide⟩ h54') r_anil rfl) (drfs_cons drf_own drfs_nil) (f_tuple Ei a53')) (by exact Nat.le_of_ble_eq_true rfl) fun back => (k_last (k_bnd fun a56' h55' => k_bnd fun a60' h61' => (k_if (r_tb (r_call (r_acons (r_call (r_acons (r_lcO (g := (Et Ei).enc) (i_T (Et Ei) (co_opt h55' (r_var (d := (Eo (Et (Et Ei)) rfl).enc rows) rfl ((Eo (Et (Et Ei)) rfl).imm _)))) rfl gd_nil ⟨fun t57' => (b_name (by exact Nat.le_of_ble_eq_true rfl)), fun t57' => (to_bnd fun a58' h59' => to_some (r_tv (r_user (r_acons (r_var (d := (Et Ei).enc t57') rfl ((Et Ei).imm _)) (r_acons (r_var (d := (Et Ei).enc back) rfl ((Et Ei).imm _)) r_anil rfl) rfl) rfl (drfs_cons drf_own (drfs_cons drf_own drfs_nil)) (ref_law_under h59') (.own (.own .nil))) drf_own (t_B _))), fun t57' y1 _ => (o_some (ex := (Et Ei).enc) (v := t57') (r_var (d := (Et Ei).enc t57') rfl ((Et Ei).imm _))) y1, by decide⟩ h61') r_anil rfl) (drfs_cons drf_own drfs_nil) (f_lenL (Et Ei) a60')) (r_acons r_c r_anil rfl) rfl) (drfs_cons drf_own (drfs_cons drf_own drfs_nil)) (f_eq Ei (List.length a60' : Int) (0 : Int) rfl))) (fun _ => (k_ret r_c (rs_rt (rt_le (by exact (.any (.any (.any (.any (.any (.any (.any (.any (.any (.any (.any (.any (.any (.any (.any (.any (.any .nil)))))))))))))))))))))) (fun _ => (k_nil (k_nx (rs_nx (by exact (.any (.eq (.eq (.eq (.eq (.eq (.eq (.eq (.any (.any (.any (.any (.any (.any (.any (.any (.any .nil)))))))))))))))))))))))))))) j_rs fun s40' => (k_nx (rs_nx (by exact (.any (.eq (.eq (.eq (.eq (.eq (.eq (.any (.any (.any (.any (.any (.any (.any (.any (.any (.any .nil))))))))))))))))))))))) j_some fun s38' => (k_asgF (Ea (Ac (R1 Es) (A1 (Rc Es (R1 (Eo (Et (Et Ei)) rfl)))) rfl)).enc (r_tup (r_acons r_c (r_acons (r_var (d := (Eo (Et (Et Ei)) rfl).enc rows) rfl ((Eo (Et (Et Ei)) rfl).imm _)) r_anil rfl) rfl) rfl (Nat.le_of_ble_eq_true rfl)) (by exact Nat.le_of_ble_eq_true rfl) fun due => (k_bnd fun a63' h62' => k_bnd fun a67' h68' => (k_ifJ (A' := (fun due => [.any, .is (boxE a5'.2), .is ((Er (Rc Es (Rc Ei (R1 (Et (Er (Rc (Et Ei) (R1 (Et Ei))))))))).enc net), .is ((Et Ei).enc marks), .is ((Et Ei).enc goal), .is ((Eo (Et (Et Ei)) rfl).enc rows), .is ((Ea (Ac (R1 Es) (A1 (Rc Es (R1 (Eo (Et (Et Ei)) rfl)))) rfl)).enc paper), .any, .any, .any, .any, .is ((Ea (Ac (R1 Es) (A1 (Rc Es (R1 (Eo (Et (Et Ei)) rfl)))) rfl)).enc due), .any, .any, .any, .any, .any])) (r_tb (r_call (r_acons (r_call (r_acons (r_lcO (g := (Et Ei).enc) (i_T (Et Ei) (co_opt h62' (r_var (d := (Eo (Et (Et Ei)) rfl).enc rows) rfl ((Eo (Et (Et Ei)) rfl).imm _)))) rfl gd_nil ⟨fun t64' => (b_name (by exact Nat.le_of_ble_eq_true rfl)), fun t64' => (to_bnd fun a65' h66' => to_some (r_tv (r_user (r_acons (r_var (d := (Et Ei).enc t64') rfl ((Et Ei).imm _)) (r_acons (r_var (d := (Et Ei).enc marks) rfl ((Et Ei).imm _)) r_anil rfl) rfl) rfl (drfs_cons drf_own (drfs_cons drf_own drfs_nil)) (ref_law_under h66') (.own (.own .nil))) drf_own (t_B _))), fun t64' y1 _ => (o_some (ex := (Et Ei).enc) (v := t64') (r_var (d := (Et Ei).enc t64') rfl ((Et Ei).imm _))) y1, by decide⟩ h68') r_anil rfl) (drfs_cons drf_own drfs_nil) (f_lenL (Et Ei) a67')) (r_acons r_c r_anil rfl) rfl) (drfs_cons drf_own (drfs_cons drf_own drfs_nil)) (f_gt _ _))) (fun _ => (k_last (k_asgF (Ea (Ac (R1 Es) (A1 (Rc Es (R1 (Eo (Et (Et Ei)) rfl)))) rfl)).enc (r_tup (r_acons r_c r_anil rfl) rfl (Nat.le_of_ble_eq_true rfl)) (by exact Nat.le_of_ble_eq_true rfl) fun due => (k_eqA (A' := [.any, .is (boxE a5'.2), .is ((Er (Rc Es (Rc Ei (R1 (Et (Er (Rc (Et Ei) (R1 (Et Ei))))))))).enc net), .is ((Et Ei).enc marks), .is ((Et Ei).enc goal), .is ((Eo (Et (Et Ei)) rfl).enc rows), .is ((Ea (Ac (R1 Es) (A1 (Rc Es (R1 (Eo (Et (Et Ei)) rfl)))) rfl)).enc paper), .any, .any, .any, .any, .is ((Ea (Ac (R1 Es) (A1 (Rc Es (R1 (Eo (Et (Et Ei)) rfl)))) rfl)).enc due), .any, .any, .any, .any, .any]) rfl (k_nx (nx_le (by exact (.any (.eq (.eq (.eq (.eq (.eq (.eq (.any (.any (.any (.any (.eq (.any (.any (.any (.any (.any .nil)))))))))))))))))))))))) (fun _ => (k_nx (nx_le (by exact (.any (.eq (.eq (.eq (.eq (.eq (.eq (.any (.any (.any (.any (.eq (.any (.any (.any (.any (.any .nil))))))))))))))))))))) fun due => (k_bnd fun a69' h70' => (k_if (r_not (r_tv (r_user (r_acons (r_var (d := (Ea (Ac (R1 Es) (A1 (Rc Es (R1 (Eo (Et (Et Ei)) rfl)))) rfl)).enc paper) rfl ((Ea (Ac (R1 Es) (A1 (Rc Es (R1 (Eo (Et (Et Ei)) rfl)))) rfl)).imm _)) (r_acons (r_var (d := (Ea (Ac (R1 Es) (A1 (Rc Es (R1 (Eo (Et (Et Ei)) rfl)))) rfl)).enc due) rfl ((Ea (Ac (R1 Es) (A1 (Rc Es (R1 (Eo (Et (Et Ei)) rfl)))) rfl)).imm _)) r_anil rfl) rfl) rfl (drfs_cons drf_own (drfs_cons drf_own drfs_nil)) (f_same (Ea (Ac (R1 Es) (A1 (Rc Es (R1 (Eo (Et (Et Ei)) rfl)))) rfl)) h70' rfl) (.own (.own .nil))) drf_own (t_B _))) (fun _ => (k_ret r_c (rt_le (by exact (.any (.any (.any (.any (.any (.any (.any (.any (.any (.any (.any (.any (.any (.any (.any (.any (.any .nil))))))))))))))))))))) (fun _ => (k_nil (k_bnd fun a71' h72' => (k_asgTF (Er (Rc (Et (Et Ei)) (R1 Eb))).enc (r_user (r_acons (r_var (d := (Er (Rc Es (Rc Ei (R1 (Et (Er (Rc (Et Ei) (R1 (Et Ei))))))))).enc net) rfl ((Er (Rc Es (Rc Ei (R1 (Et (Er (Rc (Et Ei) (R1 (Et Ei))))))))).imm _)) (r_acons (r_var (d := (Et Ei).enc marks) rfl ((Et Ei).imm _)) (r_acons r_c r_anil rfl) rfl) rfl) rfl (drfs_cons drf_own (drfs_cons drf_own (drfs_cons drf_own drfs_nil))) (ref_law_net_reach h72') (.own (.own (.own .nil)))) (fun t73' => (b_tup (b_cons (b_name (by exact Nat.le_of_ble_eq_true rfl)) (b_cons (b_name (by exact Nat.le_of_ble_eq_true rfl)) b_nil)) rfl)) fun t73' => (k_eqA (A' := [.any, .is (boxE a5'.2), .is ((Er (Rc Es (Rc Ei (R1 (Et (Er (Rc (Et Ei) (R1 (Et Ei))))))))).enc net), .is ((Et Ei).enc marks), .is ((Et Ei).enc goal), .is ((Eo (Et (Et Ei)) rfl).enc rows), .is ((Ea (Ac (R1 Es) (A1 (Rc Es (R1 (Eo (Et (Et Ei)) rfl)))) rfl)).enc paper), .any, .any, .any, .any, .is ((Ea (Ac (R1 Es) (A1 (Rc Es (R1 (Eo (Et (Et Ei)) rfl)))) rfl)).enc due), .is ((Et (Et Ei)).enc t73'.1), .is (Eb.enc t73'.2), .any, .any, .any]) rfl (k_bnd fun a77' h78' => (k_asgF Eb.enc (r_call (r_acons (r_call (r_acons (r_lcO (g := (Et Ei).enc) (i_T (Et Ei) (r_var (d := (Et (Et Ei)).enc t73'.1) rfl ((Et (Et Ei)).imm _))) rfl gd_nil ⟨fun t74' => (b_name (by exact Nat.le_of_ble_eq_true rfl)), fun t74' => (to_bnd fun a75' h76' => to_some (r_tv (r_user (r_acons (r_var (d := (Et Ei).enc goal) rfl ((Et Ei).imm _)) (r_acons (r_var (d := (Et Ei).enc t74') rfl ((Et Ei).imm _)) r_anil rfl) rfl) rfl (drfs_cons drf_own (drfs_cons drf_own drfs_nil)) (ref_law_under h76') (.own (.own .nil))) drf_own (t_B _))), fun t74' y1 _ => (o_some (ex := (Et Ei).enc) (v := t74') (r_var (d := (Et Ei).enc t74') rfl ((Et Ei).imm _))) y1, by decide⟩ h78') r_anil rfl) (drfs_cons drf_own drfs_nil) (f_lenL (Et Ei) a77')) (r_acons r_c r_anil rfl) rfl) (drfs_cons drf_own (drfs_cons drf_own drfs_nil)) (f_gt _ _)) (by exact Nat.le_of_ble_eq_true rfl) fun seen => (k_eqA (A' := [.any, .is (boxE a5'.2), .is ((Er (Rc Es (Rc Ei (R1 (Et (Er (Rc (Et Ei) (R1 (Et Ei))))))))).enc net), .is ((Et Ei).enc marks), .is ((Et Ei).enc goal), .is ((Eo (Et (Et Ei)) rfl).enc rows), .is ((Ea (Ac (R1 Es) (A1 (Rc Es (R1 (Eo (Et (Et Ei)) rfl)))) rfl)).enc paper), .any, .any, .any, .any, .is ((Ea (Ac (R1 Es) (A1 (Rc Es (R1 (Eo (Et (Et Ei)) rfl)))) rfl)).enc due), .is ((Et (Et Ei)).enc t73'.1), .is (Eb.enc t73'.2), .is (Eb.enc seen), .any, .any]) rfl (k_if (r_and (r_tv (r_var (d := Eb.enc seen) rfl (Eb.imm _)) drf_own (t_B _)) (fun _ => (r_tb (r_call (r_acons (r_var (d := (Ea (Ac (R1 Es) (A1 (Rc Es (R1 (Eo (Et (Et Ei)) rfl)))) rfl)).enc due) rfl ((Ea (Ac (R1 Es) (A1 (Rc Es (R1 (Eo (Et (Et Ei)) rfl)))) rfl)).imm _)) (r_acons (r_tup (r_acons r_c r_anil rfl) rfl (Nat.le_of_ble_eq_true rfl)) r_anil rfl) rfl) (drfs_cons drf_own (drfs_cons drf_own drfs_nil)) (f_ne (Ea (Ac (R1 Es) (A1 (Rc Es (R1 (Eo (Et (Et Ei)) rfl)))) rfl)) due (Sum.inl (("covered" : String) : Str)) rfl))))) (fun _ => (k_ret r_c (rt_le (by exact (.any (.any (.any (.any (.any (.any (.any (.any (.any (.any (.any (.any (.any (.any (.any (.any (.any .nil))))))))))))))))))))) (fun _ => (k_nil (k_last (k_ret (r_orV (r_notV (r_var (d := Eb.enc t73'.2) rfl (Eb.imm _))) (fun _ => (r_call (r_acons (r_var (d := Eb.enc seen) rfl (Eb.imm _)) (r_acons (r_call (r_acons (r_var (d := (Ea (Ac (R1 Es) (A1 (Rc Es (R1 (Eo (Et (Et Ei)) rfl)))) rfl)).enc due) rfl ((Ea (Ac (R1 Es) (A1 (Rc Es (R1 (Eo (Et (Et Ei)) rfl)))) rfl)).imm _)) (r_acons (r_tup (r_acons r_c r_anil rfl) rfl (Nat.le_of_ble_eq_true rfl)) r_anil rfl) rfl) (drfs_cons drf_own (drfs_cons drf_own drfs_nil)) (f_eq (Ea (Ac (R1 Es) (A1 (Rc Es (R1 (Eo (Et (Et Ei)) rfl)))) rfl)) due (Sum.inl (("covered" : String) : Str)) rfl)) r_anil rfl) rfl) (drfs_cons drf_own (drfs_cons drf_own drfs_nil)) (f_eq Eb seen (decide (due = (Sum.inl (("covered" : String) : Str)))) rfl)))) (rt_le (by exact (.any (.any (.any (.any (.any (.any (.any (.any (.any (.any (.any (.any (.any (.any (.any (.any (.any .nil))))))))))))))))))))))))))))))))))))))))))))))))))))))))))))))
theorem law_true (hb : ∀ box : Box, n_law box = some true) (ns : List Int) (c : List D → D) (hc : c = .lst ∨ c = .frz) : ∃ fs, d_law [c (ns.map .int)] = some (.bl true, fs) := by
  obtain ⟨b, e⟩ := box_step hc ns
  obtain ⟨out, e2, δ, rfl, a⟩ := ref_law b true (hb b) (some (c (ns.map .int)) :: some (boxE b) :: List.replicate 15 none) ⟨rfl, fun i d h => by
    match i, h with
    | 0, h => cases h
    | 1, h => cases h; rfl
    | i + 2, h =>
      have : ([.any, .any, .any, .any, .any, .any, .any, .any, .any, .any, .any, .any, .any, .any, .any] : List Sl)[i]? = some (.is d) := h
      have h2 := List.mem_of_getElem? this
      simp at h2⟩
  have e3 := (e r_law (List.replicate 15 none)).trans e2
  exact ⟨_, by simp only [d_law, dFn]; exact (show _ = _ from by rw [show m_law (env0 17 1 [c (ns.map .int)]) = some (Out.rt (.bl true) δ) from e3]; rfl)⟩
end P08


set_option Elab.async false
set_option linter.all false
set_option maxRecDepth 100000
set_option maxHeartbeats 20000000
set_option synthInstance.maxHeartbeats 400000
set_option synthInstance.maxSize 4000
namespace P08
open PySem PySem.Spec PyProof.Rows L2 Z Y
/-! the head -/
def tf : List He.Defn := ("covers", none) :: ("back_to_cover", none) :: ("decide_cover", none) :: ("_law_box", none) :: ("_law_digits", none) :: ("_law_cell", none) :: ("_law_net", none) :: ("_law_draw", none) :: ("_law_marks", none) :: ("_law_same", none) :: ("_law_net_reach", none) :: ("_law_can", none) :: ("_law_fired", none) :: ("_law_under", none) :: ("_law_least_marks", none) :: ("law", none) :: []
def fn : List He.DefD := [dOf "covers" (top 1), dOf "back_to_cover" (top 2), dOf "decide_cover" (top 3), dOf "_law_box" (top 5), dOf "_law_digits" (top 6), dOf "_law_cell" (top 7), dOf "_law_net" (top 8), dOf "_law_draw" (top 9), dOf "_law_marks" (top 10), dOf "_law_same" (top 11), dOf "_law_net_reach" (top 12), dOf "_law_can" (top 13), dOf "_law_fired" (top 14), dOf "_law_under" (top 15), dOf "_law_least_marks" (top 16), dOf "law" (top 17)]
def fa : List He.Fa := [.glo "covers", .glo "back_to_cover", .glo "decide_cover", .glo "_law_box", .glo "_law_digits", .glo "_law_cell", .glo "_law_net", .glo "_law_draw", .glo "_law_marks", .glo "_law_same", .glo "_law_net_reach", .glo "_law_can", .glo "_law_fired", .glo "_law_under", .glo "_law_least_marks", .glo "law", .free "range", .free "len", .free "int", .free "tuple", .free "zip", .free "max", .free "any", .free "all", .free "sorted", .free "isinstance", .free "bool", .free "str", .free "list", .free "set"]
abbrev RR : PySem.W.OpenRow := PySem.W.OpenLaw.row PySem.Challenge.rw_tracehouse_k08_marks_that_are_covered
abbrev hk : PySem.W.Hook := He.hookX 5 fa fn [] tf (exTabs tf)
def ob (s : PySem.W.SharedT) : He.AlX := He.obsX 5 fa fn [] tf (exTabs tf) (HandSHeadRun.getT s)
theorem ob_eq (s : PySem.W.SharedT) : ob s = hk.obs s.abs := He.obsX_eq (HandSHeadRun.getT_eq s)
def names : List Str := ["covers", "back_to_cover", "decide_cover", "_law_box", "_law_digits", "_law_cell", "_law_net", "_law_draw", "_law_marks", "_law_same", "_law_net_reach", "_law_can", "_law_fired", "_law_under", "_law_least_marks"]
set_option maxHeartbeats 0 in
theorem run (w : World) : HandSHeadRun.RunEq RR (PySem.W.view RR.prog [17]) hk ob 1600 names w := by
  intro os
  kernel_rfl
theorem facts {w : World} {K : PySem.W.Frag} {h : Heap} {mg : Str → Option Value} {f : Addr} (X : K.In h) (G : h.Ns mainGlobals mg) (hfa : mg ("law" : Str) = some (.ref f)) (c : He.SaysX fa fn [] tf (exTabs tf) w h K)
    (hm : ∀ (ns : List Int) (c : List D → D), c = .lst ∨ c = .frz → ns.length ≤ 63 → (∀ z ∈ ns, Builtin.Int.intBits z ≤ 1048576) → ∃ fs, d_law [c (ns.map .int)] = some (.bl true, fs)) :
    LamX.LawAtS PySem.Challenge.rw_tracehouse_k08_marks_that_are_covered w K CX0 9 63 "script" mg f h := by
  obtain ⟨g_covers, D_covers, b_covers⟩ := Def.of X G c (x := "covers") (st := top 1) (ps := ["marks", "other"]) (List.mem_of_getElem? (i := 0) rfl) (List.mem_of_getElem? (i := 0) rfl) (List.mem_of_getElem? (i := 0) rfl) (fun _ _ _ _ _ _ us hl => match us, hl with | [_, _], _ => rfl)
  obtain ⟨g_back_to_cover, D_back_to_cover, b_back_to_cover⟩ := Def.of X G c (x := "back_to_cover") (st := top 2) (ps := ["net", "goal", "most"]) (List.mem_of_getElem? (i := 1) rfl) (List.mem_of_getElem? (i := 1) rfl) (List.mem_of_getElem? (i := 1) rfl) (fun _ _ _ _ _ _ us hl => match us, hl with | [_, _, _], _ => rfl)
  obtain ⟨g_decide_cover, D_decide_cover, b_decide_cover⟩ := Def.of X G c (x := "decide_cover") (st := top 3) (ps := ["net", "marks", "goal", "most"]) (List.mem_of_getElem? (i := 2) rfl) (List.mem_of_getElem? (i := 2) rfl) (List.mem_of_getElem? (i := 2) rfl) (fun _ _ _ _ _ _ us hl => match us, hl with | [_, _, _, _], _ => rfl)
  obtain ⟨g_law_box, D_law_box, b_law_box⟩ := Def.of X G c (x := "_law_box") (st := top 5) (ps := ["script", "first", "last"]) (List.mem_of_getElem? (i := 3) rfl) (List.mem_of_getElem? (i := 3) rfl) (List.mem_of_getElem? (i := 3) rfl) (fun _ _ _ _ _ _ us hl => match us, hl with | [_, _, _], _ => rfl)
  obtain ⟨g_law_digits, D_law_digits, b_law_digits⟩ := Def.of X G c (x := "_law_digits") (st := top 6) (ps := ["script", "first", "last"]) (List.mem_of_getElem? (i := 4) rfl) (List.mem_of_getElem? (i := 4) rfl) (List.mem_of_getElem? (i := 4) rfl) (fun _ _ _ _ _ _ us hl => match us, hl with | [_, _, _], _ => rfl)
  obtain ⟨g_law_cell, D_law_cell, b_law_cell⟩ := Def.of X G c (x := "_law_cell") (st := top 7) (ps := ["script", "k"]) (List.mem_of_getElem? (i := 5) rfl) (List.mem_of_getElem? (i := 5) rfl) (List.mem_of_getElem? (i := 5) rfl) (fun _ _ _ _ _ _ us hl => match us, hl with | [_, _], _ => rfl)
  obtain ⟨g_law_net, D_law_net, b_law_net⟩ := Def.of X G c (x := "_law_net") (st := top 8) (ps := ["box", "most", "wide", "much"]) (List.mem_of_getElem? (i := 6) rfl) (List.mem_of_getElem? (i := 6) rfl) (List.mem_of_getElem? (i := 6) rfl) (fun _ _ _ _ _ _ us hl => match us, hl with | [_, _, _, _], _ => rfl)
  obtain ⟨g_law_draw, D_law_draw, b_law_draw⟩ := Def.of X G c (x := "_law_draw") (st := top 9) (ps := ["box", "many"]) (List.mem_of_getElem? (i := 7) rfl) (List.mem_of_getElem? (i := 7) rfl) (List.mem_of_getElem? (i := 7) rfl) (fun _ _ _ _ _ _ us hl => match us, hl with | [_, _], _ => rfl)
  obtain ⟨g_law_marks, D_law_marks, b_law_marks⟩ := Def.of X G c (x := "_law_marks") (st := top 10) (ps := ["box", "net", "most"]) (List.mem_of_getElem? (i := 8) rfl) (List.mem_of_getElem? (i := 8) rfl) (List.mem_of_getElem? (i := 8) rfl) (fun _ _ _ _ _ _ us hl => match us, hl with | [_, _, _], _ => rfl)
  obtain ⟨g_law_same, D_law_same, b_law_same⟩ := Def.of X G c (x := "_law_same") (st := top 11) (ps := ["actual", "expected"]) (List.mem_of_getElem? (i := 9) rfl) (List.mem_of_getElem? (i := 9) rfl) (List.mem_of_getElem? (i := 9) rfl) (fun _ _ _ _ _ _ us hl => match us, hl with | [_, _], _ => rfl)
  obtain ⟨g_law_net_reach, D_law_net_reach, b_law_net_reach⟩ := Def.of X G c (x := "_law_net_reach") (st := top 12) (ps := ["net", "marks", "most"]) (List.mem_of_getElem? (i := 10) rfl) (List.mem_of_getElem? (i := 10) rfl) (List.mem_of_getElem? (i := 10) rfl) (fun _ _ _ _ _ _ us hl => match us, hl with | [_, _, _], _ => rfl)
  obtain ⟨g_law_can, D_law_can, b_law_can⟩ := Def.of X G c (x := "_law_can") (st := top 13) (ps := ["net", "marks", "step"]) (List.mem_of_getElem? (i := 11) rfl) (List.mem_of_getElem? (i := 11) rfl) (List.mem_of_getElem? (i := 11) rfl) (fun _ _ _ _ _ _ us hl => match us, hl with | [_, _, _], _ => rfl)
  obtain ⟨g_law_fired, D_law_fired, b_law_fired⟩ := Def.of X G c (x := "_law_fired") (st := top 14) (ps := ["net", "marks", "step"]) (List.mem_of_getElem? (i := 12) rfl) (List.mem_of_getElem? (i := 12) rfl) (List.mem_of_getElem? (i := 12) rfl) (fun _ _ _ _ _ _ us hl => match us, hl with | [_, _, _], _ => rfl)
  obtain ⟨g_law_under, D_law_under, b_law_under⟩ := Def.of X G c (x := "_law_under") (st := top 15) (ps := ["one", "two"]) (List.mem_of_getElem? (i := 13) rfl) (List.mem_of_getElem? (i := 13) rfl) (List.mem_of_getElem? (i := 13) rfl) (fun _ _ _ _ _ _ us hl => match us, hl with | [_, _], _ => rfl)
  obtain ⟨g_law_least_marks, D_law_least_marks, b_law_least_marks⟩ := Def.of X G c (x := "_law_least_marks") (st := top 16) (ps := ["rows"]) (List.mem_of_getElem? (i := 14) rfl) (List.mem_of_getElem? (i := 14) rfl) (List.mem_of_getElem? (i := 14) rfl) (fun _ _ _ _ _ _ us hl => match us, hl with | [_], _ => rfl)
  obtain ⟨g_law, D_law, b_law⟩ := Def.of X G c (x := "law") (st := top 17) (ps := ["script"]) (List.mem_of_getElem? (i := 15) rfl) (List.mem_of_getElem? (i := 15) rfl) (List.mem_of_getElem? (i := 15) rfl) (fun _ _ _ _ _ _ us hl => match us, hl with | [_], _ => rfl)
  have e := hfa.symm.trans D_law.g
  injection e with e
  injection e with e
  subst e
  exact lawAt X c (by simp [tf]) (fun s u => b_law s [u] rfl) (fun base _ _ hb => ok_law ⟨_, _, D_covers, _, _, D_back_to_cover, _, _, D_decide_cover, _, _, D_law_box, _, _, D_law_digits, _, _, D_law_cell, _, _, D_law_net, _, _, D_law_draw, _, _, D_law_marks, _, _, D_law_same, _, _, D_law_net_reach, _, _, D_law_can, _, _, D_law_fired, _, _, D_law_under, _, _, D_law_least_marks, _, _, D_law, He.free_ok X G (He.SaysD.facts c.t.d (List.mem_of_getElem? (i := 16) rfl)), He.free_ok X G (He.SaysD.facts c.t.d (List.mem_of_getElem? (i := 17) rfl)), He.free_ok X G (He.SaysD.facts c.t.d (List.mem_of_getElem? (i := 18) rfl)), He.free_ok X G (He.SaysD.facts c.t.d (List.mem_of_getElem? (i := 19) rfl)), He.free_ok X G (He.SaysD.facts c.t.d (List.mem_of_getElem? (i := 20) rfl)), He.free_ok X G (He.SaysD.facts c.t.d (List.mem_of_getElem? (i := 21) rfl)), He.free_ok X G (He.SaysD.facts c.t.d (List.mem_of_getElem? (i := 22) rfl)), He.free_ok X G (He.SaysD.facts c.t.d (List.mem_of_getElem? (i := 23) rfl)), He.free_ok X G (He.SaysD.facts c.t.d (List.mem_of_getElem? (i := 24) rfl)), He.free_ok X G (He.SaysD.facts c.t.d (List.mem_of_getElem? (i := 25) rfl)), He.free_ok X G (He.SaysD.facts c.t.d (List.mem_of_getElem? (i := 26) rfl)), He.free_ok X G (He.SaysD.facts c.t.d (List.mem_of_getElem? (i := 27) rfl)), He.free_ok X G (He.SaysD.facts c.t.d (List.mem_of_getElem? (i := 28) rfl)), He.free_ok X G (He.SaysD.facts c.t.d (List.mem_of_getElem? (i := 29) rfl)), hb⟩) hm
end P08


set_option Elab.async false
set_option linter.all false
set_option maxRecDepth 100000
/-! plain facts: sorting, membership, loops -/
namespace Y
open PySem PySem.Spec PyProof.Rows L2 Z
section
variable {α β γ : Type}
theorem gD {xs : List α} {k : Nat} (d : α) (h : k < xs.length) : xs.getD k d = xs[k] := by simp [List.getD_eq_getElem?_getD, List.getElem?_eq_getElem h]
theorem mem_nub [DecidableEq α] {x : α} : ∀ {l : List α}, x ∈ nub l ↔ x ∈ l
  | [] => by simp [nub]
  | y :: l => by
    simp only [nub]
    split
    · rename_i hy
      rw [mem_nub, List.mem_cons]
      exact ⟨.inr, fun h => h.elim (fun e => by rw [e]; exact hy) id⟩
    · rw [List.mem_cons, List.mem_cons, mem_nub]
theorem mem_sort {E : Enc α} {x : α} {l : List α} : x ∈ E.sort l ↔ x ∈ l := by
  unfold Enc.sort; exact List.mem_mergeSort
theorem nub_len [DecidableEq α] : ∀ {l : List α}, (nub l).length ≤ l.length
  | [] => by simp [nub]
  | y :: l => by
    have := nub_len (l := l)
    simp only [nub]
    split <;> simp <;> omega
def Enc.le (E : Enc α) (a b : α) : Bool := PySem.W.dataLe false toPy (E.enc a) (E.enc b)
theorem sort_pair (E : Enc α) (l : List α) : (E.sort l).Pairwise fun a b => E.le a b = true := by
  have h := sortD_pair (l.map E.enc)
  rw [sort_map, List.pairwise_map] at h
  exact h
theorem sort_of_pair {E : Enc α} {l : List α} (h : l.Pairwise fun a b => E.le a b = true) : E.sort l = l := by
  unfold Enc.sort; exact List.mergeSort_of_pairwise h
theorem lcS_inv {σ : Type} {t : α → σ → Option (Bool × σ)} {e : α → σ → Option (β × σ)} (P : β → Prop) : ∀ (xs : List α) (s : σ), (∀ x ∈ xs, ∀ s, ∃ s', t x s = some (true, s') ∧ ∃ y s'', e x s' = some (y, s'') ∧ P y) →
    ∃ ys s', lcS t e xs s = some (ys, s') ∧ ys.length = xs.length ∧ ∀ y ∈ ys, P y
  | [], s, _ => ⟨[], s, rfl, rfl, fun y h => nomatch h⟩
  | x :: xs, s, h => by
    obtain ⟨s1, e1, y, s2, e2, py⟩ := h x List.mem_cons_self s
    obtain ⟨ys, s3, e3, l3, p3⟩ := lcS_inv P xs s2 fun x' hx => h x' (List.mem_cons_of_mem _ hx)
    exact ⟨y :: ys, s3, by simp only [lcS, e1, e2, e3], by simp [l3], fun z hz => by
      rcases List.mem_cons.mp hz with rfl | hz
      · exact py
      · exact p3 z hz⟩
theorem at_d {xs : List α} {k : Nat} (d : α) (h : k < xs.length) : L2.atI xs (k : Int) = some (xs.getD k d) := by
  rw [Y.atI_nat, List.getElem?_eq_getElem h, gD d h]
theorem at_some {xs : List α} {k : Nat} {x : α} (h : xs[k]? = some x) : L2.atI xs (k : Int) = some x := by rw [Y.atI_nat, h]
end
end Y


set_option Elab.async false
set_option linter.all false
set_option maxRecDepth 100000
/-! plain facts: lots of numbers, graphs, what is reached -/
namespace Y
open PySem PySem.Spec PyProof.Rows L2 Z
section
variable {α β γ : Type}
theorem lcO_ft {t : α → Option Bool} {e : α → Option β} {tb : α → Bool} {g : α → β} : ∀ (l : List α), (∀ x ∈ l, t x = some (tb x)) → (∀ x ∈ l, tb x = true → e x = some (g x)) → lcO t e l = some ((l.filter tb).map g)
  | [], _, _ => rfl
  | x :: l, h1, h2 => by
    have ih := lcO_ft l (fun y hy => h1 y (List.mem_cons_of_mem _ hy)) fun y hy => h2 y (List.mem_cons_of_mem _ hy)
    simp only [lcO, h1 x List.mem_cons_self, ih, List.filter_cons]
    cases hb : tb x with
    | false => simp
    | true => simp [h2 x List.mem_cons_self hb]
theorem lcO_map {e : α → Option β} {g : α → β} (l : List α) (h : ∀ x ∈ l, e x = some (g x)) : lcO (fun _ => some true) e l = some (l.map g) := by
  rw [lcO_ft (tb := fun _ => true) l (fun _ _ => rfl) fun x hx _ => h x hx, List.filter_eq_self.mpr fun _ _ => rfl]
theorem lcO_filter {t : α → Option Bool} {tb : α → Bool} (l : List α) (h : ∀ x ∈ l, t x = some (tb x)) : lcO t (fun x => some x) l = some (l.filter tb) := by
  rw [lcO_ft (g := fun x => x) l h fun x _ _ => rfl, List.map_id']
theorem flt {α : Type} (l : List α) : l.filter (fun _ => true) = l := List.filter_eq_self.mpr fun _ _ => rfl
theorem anyO_f {t e : α → Option Bool} {tb eb : α → Bool} : ∀ (l : List α), (∀ x ∈ l, t x = some (tb x)) → (∀ x ∈ l, tb x = true → e x = some (eb x)) → anyO t e l = some (l.any fun x => tb x && eb x)
  | [], _, _ => rfl
  | x :: l, h1, h2 => by
    have ih := anyO_f l (fun y hy => h1 y (List.mem_cons_of_mem _ hy)) fun y hy => h2 y (List.mem_cons_of_mem _ hy)
    simp only [anyO, h1 x List.mem_cons_self, ih, List.any_cons]
    cases hb : tb x with
    | false => simp
    | true =>
      rw [h2 x List.mem_cons_self hb]
      cases he : eb x <;> simp
theorem anyO_tt {e : α → Option Bool} {eb : α → Bool} (l : List α) (h : ∀ x ∈ l, e x = some (eb x)) : anyO (fun _ => some true) e l = some (l.any eb) := by
  rw [anyO_f (tb := fun _ => true) l (fun _ _ => rfl) fun x hx _ => h x hx]; simp
theorem nub_sub [DecidableEq α] : ∀ (l : List α), (nub l).length = l.length ↔ l.Nodup
  | [] => by simp [nub]
  | x :: l => by
    simp only [nub]
    have ih := nub_sub l
    have hl := nub_len (l := l)
    split
    · rename_i h
      constructor
      · intro e; rw [List.length_cons] at e; omega
      · intro e; exact absurd h (List.nodup_cons.mp e).1
    · rename_i h
      rw [List.length_cons, List.length_cons, List.nodup_cons, Nat.add_right_cancel_iff, ih]
      exact ⟨fun e => ⟨h, e⟩, fun e => e.2⟩
theorem len_sub : ∀ {l1 l2 : List α}, l1.Nodup → (∀ a, a ∈ l1 → a ∈ l2) → l1.length ≤ l2.length
  | [], _, _, _ => Nat.zero_le _
  | x :: l1, l2, d1, h => by
    obtain ⟨a, b, rfl⟩ := List.append_of_mem (h x List.mem_cons_self)
    have d := List.nodup_cons.mp d1
    have := len_sub (l1 := l1) (l2 := a ++ b) d.2 fun y hy => by
      have := h y (List.mem_cons_of_mem _ hy)
      rw [List.mem_append, List.mem_cons] at this
      rw [List.mem_append]
      rcases this with z | z | z
      · exact .inl z
      · exact absurd (z ▸ hy) d.1
      · exact .inr z
    simp only [List.length_append, List.length_cons] at *
    omega
end
/-! lots -/
end Y


set_option Elab.async false
set_option linter.all false
set_option maxRecDepth 100000
/-! orders: rows of numbers, least ones, sorted sets -/
namespace Y
open PySem PySem.Spec PyProof.Rows L2 Z
section
variable {α : Type}
end
end Y


set_option Elab.async false
set_option linter.all false
set_option maxRecDepth 100000
set_option maxHeartbeats 1000000
/-! plain facts: nets of places and steps; looking around in breadth, first found first kept -/
namespace Y
open PySem PySem.Spec PyProof.Rows L2 Z
theorem bq {α β : Type} (a : α) (f : α → Option β) : bnd (some a) f = f a := id rfl
theorem lvq {α β : Type} (a : α) (f : α → β) : lv a f = f a := id rfl
theorem rng0 {n : Nat} (h : n ≤ 1000000) : rngO (0 : Int) (n : Int) = some (rngN 0 n) := by
  rw [rngO_ok (lo := 0) (hi := n) (by omega) (by omega) (by omega) (by omega)]
  simp
abbrev NMk := List Int
abbrev NSp := List Int × List Int
def canM (m : NMk) (st : NSp) : Bool := (List.zip m st.1).all fun x => decide (x.2 ≤ x.1)
def fireM (m : NMk) (st : NSp) : NMk := (List.zip m (List.zip st.1 st.2)).map fun x => x.1 - x.2.1 + x.2.2
theorem fire_len {n : Nat} {m : NMk} {st : NSp} (hm : m.length = n) (h1 : st.1.length = n) (h2 : st.2.length = n) : (fireM m st).length = n := by simp [fireM, hm, h1, h2]
theorem lawcan {n : Nat} {m t : NMk} {g : List Int} (hm : m.length = n) (ht : t.length = n) : decide ((((rngN 0 n).filter fun p => decide (m.getD p.toNat 0 < t.getD p.toNat 0)).length : Int) = 0) = canM m (t, g) := by
  unfold canM
  rw [Bool.eq_iff_iff, decide_eq_true_eq, List.all_eq_true]
  constructor
  · intro h x hx
    have h0 : ((rngN 0 n).filter fun p => decide (m.getD p.toNat 0 < t.getD p.toNat 0)).length = 0 := by omega
    rw [List.length_eq_zero_iff, List.filter_eq_nil_iff] at h0
    obtain ⟨i, hi, rfl⟩ := List.mem_iff_getElem.mp hx
    simp only [List.length_zip] at hi
    have := h0 (i : Int) (by rw [mem_rngN]; omega)
    simp only [Int.toNat_natCast, decide_eq_true_eq] at this
    rw [gD 0 (by omega), gD 0 (by omega)] at this
    simp only [List.getElem_zip, decide_eq_true_eq]
    omega
  · intro h
    have : ((rngN 0 n).filter fun p => decide (m.getD p.toNat 0 < t.getD p.toNat 0)) = [] := by
      rw [List.filter_eq_nil_iff]
      intro p hp
      rw [mem_rngN] at hp
      have h1 : p.toNat < (List.zip m t).length := by simp; omega
      have := h _ (List.getElem_mem h1)
      simp only [List.getElem_zip, decide_eq_true_eq] at this
      rw [decide_eq_true_eq, gD 0 (by omega), gD 0 (by omega)]
      omega
    rw [this]; rfl
theorem lawfire {n : Nat} {m t g : List Int} (hm : m.length = n) (ht : t.length = n) (hg : g.length = n) : (rngN 0 n).map (fun p => m.getD p.toNat 0 - t.getD p.toNat 0 + g.getD p.toNat 0) = fireM m (t, g) := by
  refine List.ext_getElem (by simp [rngN, fireM, hm, ht, hg]) fun i h1 h2 => ?_
  have hi : i < n := by simpa [rngN] using h1
  simp only [rngN, fireM, List.getElem_map, List.getElem_range, List.getElem_zip]
  rw [show (0 + (i : Int)).toNat = i by omega, gD 0 (by omega), gD 0 (by omega), gD 0 (by omega)]
/-- a net of n places -/
structure NetOk (n : Nat) (steps : List NSp) : Prop where
  lo : 1 ≤ n
  hi : n ≤ 4
  few : steps.length ≤ 4
  len : ∀ st ∈ steps, st.1.length = n ∧ st.2.length = n
def stepI (steps : List NSp) (s : Int) : NSp := steps.getD s.toNat ([], [])
theorem stepI_at {steps : List NSp} {s : Int} (h : s ∈ rngN 0 steps.length) : L2.atI steps s = some (stepI steps s) ∧ stepI steps s ∈ steps := by
  rw [mem_rngN] at h
  obtain ⟨k, rfl⟩ := Int.eq_ofNat_of_zero_le h.1
  have hk : k < steps.length := by omega
  unfold stepI
  rw [Int.toNat_natCast, gD _ hk]
  refine ⟨?_, List.getElem_mem hk⟩
  show L2.atI steps (k : Int) = _
  rw [atI_nat, List.getElem?_eq_getElem hk]
theorem at_gd {m : List Int} {n : Nat} (hm : m.length = n) {p : Int} (hp : p ∈ rngN 0 n) : L2.atI m p = some (m.getD p.toNat 0) := by
  rw [mem_rngN] at hp
  obtain ⟨k, rfl⟩ := Int.eq_ofNat_of_zero_le hp.1
  rw [Int.toNat_natCast]
  exact at_d 0 (by omega)
/-! ways in breadth -/
section
variable {α : Type} [DecidableEq α]
theorem dGet_mem {β : Type} : ∀ {R : List (α × β)} {k : α} {v : β}, (R.map (·.1)).Nodup → (k, v) ∈ R → dGet R k = some v
  | [], _, _, _, h => nomatch h
  | p :: R, k, v, nd, h => by
    simp only [List.map_cons, List.nodup_cons] at nd
    simp only [dGet]
    rcases List.mem_cons.mp h with rfl | h
    · rw [if_pos rfl]
    · have : p.1 ≠ k := fun e => nd.1 (List.mem_map.mpr ⟨_, h, e.symm⟩)
      rw [if_neg this]; exact dGet_mem nd.2 h
theorem dHas_iff {β : Type} {R : List (α × β)} {k : α} : dHas R k = true ↔ ∃ v, (k, v) ∈ R := by
  unfold dHas
  rw [List.any_eq_true]
  constructor
  · rintro ⟨⟨a, b⟩, h, e⟩
    exact ⟨b, by rw [← of_decide_eq_true e]; exact h⟩
  · rintro ⟨v, h⟩
    exact ⟨_, h, decide_eq_true rfl⟩
abbrev Ws (α : Type) := List (α × List Int)
variable (ok : α → Int → Bool) (fr : α → Int → α) (idx : List Int) (most : Nat)
def ex (m : α) (w : List Int) (W : Ws α) (s : Int) : Ws α := if (ok m s && (!dHas W (fr m s) && decide (W.length < most))) = true then W ++ [(fr m s, w ++ [s])] else W
def Xp (W : Ws α) (k : Nat) : Ws α := match W[k]? with
  | some e => idx.foldl (ex ok fr most e.1 e.2) W
  | none => W
def Wn (s0 : α) : Nat → Ws α
  | 0 => [(s0, [])]
  | k + 1 => Xp ok fr idx most (Wn s0 k) k
/-- what holds of the found -/
structure WI (P : α → Prop) (s0 : α) (W : Ws α) : Prop where
  nd : (W.map (·.1)).Nodup
  good : ∀ e ∈ W, P e.1
  wl : ∀ e ∈ W, e.2.length ≤ W.length
  len : W.length ≤ most
  st : W[0]? = some (s0, [])
variable {ok fr idx most} {P : α → Prop} {s0 : α} {W : Ws α}
theorem ex_pre (m : α) (w : List Int) (s : Int) : W <+: ex ok fr most m w W s := by
  unfold ex; split
  · exact List.prefix_append _ _
  · exact List.prefix_rfl
theorem exs_pre (m : α) (w : List Int) : ∀ (ss : List Int) (W : Ws α), W <+: ss.foldl (ex ok fr most m w) W
  | [], W => List.prefix_rfl
  | s :: ss, W => (ex_pre m w s).trans (exs_pre m w ss _)
theorem ex_inv {m : α} {w : List Int} {s : Int} (I : WI most P s0 W) (hm : (m, w) ∈ W) (hp : ok m s = true → P (fr m s)) : WI most P s0 (ex ok fr most m w W s) := by
  unfold ex
  split
  · rename_i h
    simp only [Bool.and_eq_true, Bool.not_eq_true', decide_eq_true_eq] at h
    obtain ⟨h1, h2, h3⟩ := h
    have hw := I.wl _ hm
    have h0 := (List.getElem?_eq_some_iff.mp I.st).1
    refine ⟨?_, fun e he => ?_, fun e he => ?_, by simp; omega, by rw [List.getElem?_append_left h0]; exact I.st⟩
    · rw [List.map_append, List.nodup_append]
      refine ⟨I.nd, by simp, fun a ha b hb e => ?_⟩
      obtain ⟨e', he', rfl⟩ := List.mem_map.mp ha
      simp at hb
      have : dHas W (fr m s) = true := dHas_iff.mpr ⟨e'.2, by rw [← hb, ← e]; exact he'⟩
      rw [this] at h2; cases h2
    · rcases List.mem_append.mp he with he | he
      · exact I.good e he
      · rw [List.mem_singleton.mp he]; exact hp h1
    · rcases List.mem_append.mp he with he | he
      · have := I.wl e he; simp; omega
      · rw [List.mem_singleton.mp he]; simp at hw ⊢; omega
  · exact I
theorem exs_inv {m : α} {w : List Int} : ∀ (ss : List Int) {W : Ws α}, WI most P s0 W → (m, w) ∈ W → (∀ s ∈ ss, ok m s = true → P (fr m s)) → WI most P s0 (ss.foldl (ex ok fr most m w) W)
  | [], _, I, _, _ => I
  | s :: ss, _, I, hm, hp => exs_inv ss (ex_inv I hm (hp s List.mem_cons_self)) ((ex_pre m w s).subset hm) fun s' hs => hp s' (List.mem_cons_of_mem _ hs)
theorem xp_pre (W : Ws α) (k : Nat) : W <+: Xp ok fr idx most W k := by
  unfold Xp; split
  · exact exs_pre ..
  · exact List.prefix_rfl
theorem wn_inv (h1 : 1 ≤ most) (h0 : P s0) (hP : ∀ m, P m → ∀ s ∈ idx, ok m s = true → P (fr m s)) : ∀ k, WI most P s0 (Wn ok fr idx most s0 k)
  | 0 => ⟨by simp [Wn], by simpa [Wn] using h0, by simp [Wn], by simpa [Wn] using h1, rfl⟩
  | k + 1 => by
    have I := wn_inv h1 h0 hP k
    rw [Wn]; unfold Xp
    split
    · rename_i e he
      have hm := List.mem_of_getElem? he
      exact exs_inv idx I hm fun s hs => hP _ (I.good _ hm) s hs
    · exact I
theorem wn_pre : ∀ (j k : Nat), Wn ok fr idx most s0 j <+: Wn ok fr idx most s0 (j + k)
  | j, 0 => List.prefix_rfl
  | j, k + 1 => (wn_pre j k).trans (xp_pre _ _)
theorem pre_get {l1 l2 : List β} (h : l1 <+: l2) {i : Nat} {x : β} (hx : l1[i]? = some x) : l2[i]? = some x := by
  obtain ⟨t, rfl⟩ := h
  rw [List.getElem?_append_left (List.getElem?_eq_some_iff.mp hx).1]; exact hx
theorem pre_getr {l1 l2 : List β} (h : l1 <+: l2) {i : Nat} {x : β} (hx : l2[i]? = some x) (hi : i < l1.length) : l1[i]? = some x := by
  obtain ⟨t, rfl⟩ := h
  rw [List.getElem?_append_left hi] at hx; exact hx
theorem exs_filter (m : α) (w : List Int) : ∀ (ss : List Int) (W : Ws α), (ss.filter (ok m)).foldl (ex ok fr most m w) W = ss.foldl (ex ok fr most m w) W
  | [], W => rfl
  | s :: ss, W => by
    rw [List.foldl_cons, List.filter_cons]
    cases h : ok m s with
    | true => rw [if_pos rfl, List.foldl_cons, exs_filter m w ss]
    | false =>
      rw [if_neg (by simp), exs_filter m w ss]
      congr 1
      simp [ex, h]
end
end Y


set_option Elab.async false
set_option linter.all false
set_option maxRecDepth 100000
set_option maxHeartbeats 20000000
set_option synthInstance.maxHeartbeats 400000
set_option synthInstance.maxSize 4000
namespace P05
open PySem PySem.Spec PyProof.Rows L2 Z Y
def n_law_safe_net_b1 (many : Int) : Int → (Box × (List ((List Int) × (List Int)))) → Option (Box × (List ((List Int) × (List Int)))) :=
  fun (t8' : Int) (s7' : Box × (List ((List Int) × (List Int)))) =>
  bnd (drawO s7'.1 many) fun v9' =>
  lv v9'.1 fun (x : Int) =>
  bnd (drawO v9'.2 many) fun v11' =>
  lv v11'.1 fun (y : Int) =>
  bnd (drawO v11'.2 many) fun v13' =>
  lv v13'.1 fun (z : Int) =>
  bnd (repO [(0 : Int)] many) fun a15' =>
  lv a15' fun (takes : (List Int)) =>
  bnd (repO [(0 : Int)] many) fun a17' =>
  lv a17' fun (gives : (List Int)) =>
  bnd (setO takes x (1 : Int)) fun takes19' =>
  bnd (setO gives y (1 : Int)) fun gives20' =>
  bnd (andE (!decide (z = x)) (bnd (andE (!decide (z = y)) (bnd (drawO v13'.2 (2 : Int)) fun v21' => some ((decide (v21'.1 = (0 : Int))), v21'.2)) v13'.2) fun s23' => some (s23'.1, s23'.2)) v13'.2) fun s25' =>
  bnd (if s25'.1 = true then (bnd (setO takes19' z (1 : Int)) fun takes27' =>
  bnd (drawO s25'.2 (2 : Int)) fun v28' =>
  bnd (if (decide (v28'.1 = (0 : Int))) = true then (bnd (setO gives20' z (1 : Int)) fun gives30' =>
  some gives30') else (some gives20')) fun (gives : (List Int)) =>
  some (v28'.2, takes27', gives)) else (some (s25'.2, takes19', gives20'))) fun (s33' : Box × (List Int) × (List Int)) =>
  bnd (pushO s7'.2 (s33'.2.1, s33'.2.2)) fun steps34' =>
  some (s33'.1, steps34')
def n_law_safe_net (box_ : Box) (most : Int) (wide : Int) : Option ((Str × Int × (List ((List Int) × (List Int)))) × Box) :=
  bnd (drawO box_ (most - (1 : Int))) fun v1' =>
  lv ((2 : Int) + v1'.1) fun (many : Int) =>
  lv [] fun (steps : (List ((List Int) × (List Int)))) =>
  bnd (drawO v1'.2 wide) fun v3' =>
  bnd (rngO (0 : Int) ((1 : Int) + v3'.1)) fun r5' =>
  bnd (forN (n_law_safe_net_b1 many) r5' (v3'.2, steps)) fun (s7' : Box × (List ((List Int) × (List Int)))) =>
  some (((("net" : String) : Str), many, s7'.2), s7'.1)
def n_law_net_b1 (much : Int) (many : Int) : Int → (Box × (List ((List Int) × (List Int)))) → Option (Box × (List ((List Int) × (List Int)))) :=
  fun (t8' : Int) (s7' : Box × (List ((List Int) × (List Int)))) =>
  bnd (rngO (0 : Int) many) fun r9' =>
  bnd (lcS (fun t11' s12' => some (true, s12')) (fun t11' s12' => bnd (drawO s12' much) fun v13' => bnd (drawO v13'.2 (3 : Int)) fun v15' => bnd (mulO ((1 : Int) + v13'.1) (if (decide (v15'.1 = (0 : Int))) = true then (1 : Int) else 0)) fun a17' => some (a17', v15'.2)) r9' s7'.1) fun a19' =>
  lv a19'.1 fun (takes : (List Int)) =>
  bnd (rngO (0 : Int) many) fun r21' =>
  bnd (lcS (fun t23' s24' => some (true, s24')) (fun t23' s24' => bnd (drawO s24' much) fun v25' => bnd (drawO v25'.2 (3 : Int)) fun v27' => bnd (mulO ((1 : Int) + v25'.1) (if (decide (v27'.1 = (0 : Int))) = true then (1 : Int) else 0)) fun a29' => some (a29', v27'.2)) r21' a19'.2) fun a31' =>
  lv a31'.1 fun (gives : (List Int)) =>
  bnd (pushO s7'.2 (takes, gives)) fun steps33' =>
  some (a31'.2, steps33')
def n_law_net (box_ : Box) (most : Int) (wide : Int) (much : Int) : Option ((Str × Int × (List ((List Int) × (List Int)))) × Box) :=
  bnd (drawO box_ most) fun v1' =>
  lv ((1 : Int) + v1'.1) fun (many : Int) =>
  lv [] fun (steps : (List ((List Int) × (List Int)))) =>
  bnd (drawO v1'.2 (wide + (1 : Int))) fun v3' =>
  bnd (rngO (0 : Int) v3'.1) fun r5' =>
  bnd (forN (n_law_net_b1 much many) r5' (v3'.2, steps)) fun (s7' : Box × (List ((List Int) × (List Int)))) =>
  some (((("net" : String) : Str), many, s7'.2), s7'.1)
def n_law_marks (box_ : Box) (net : (Str × Int × (List ((List Int) × (List Int))))) (most : Int) : Option ((List Int) × Box) :=
  bnd (rngO (0 : Int) net.2.1) fun r1' =>
  bnd (lcS (fun t3' s4' => some (true, s4')) (fun t3' s4' => bnd (drawO s4' (most + (1 : Int))) fun v5' => some (v5'.1, v5'.2)) r1' box_) fun a7' =>
  some (a7'.1, a7'.2)
def n_law_can (net : (Str × Int × (List ((List Int) × (List Int))))) (marks : (List Int)) (step : Int) : Option Bool :=
  bnd (rngO (0 : Int) net.2.1) fun r1' =>
  bnd (lcO (fun t3' => (bnd (L2.atI marks t3') fun a4' => bnd (L2.atI net.2.2 step) fun a6' => bnd (L2.atI a6'.1 t3') fun a8' => some ((decide (a4' < a8'))))) (fun t3' => (some (t3'))) r1') fun a10' =>
  some (decide ((List.length a10' : Int) = (0 : Int)))
def n_law_fired (net : (Str × Int × (List ((List Int) × (List Int))))) (marks : (List Int)) (step : Int) : Option (List Int) :=
  bnd (rngO (0 : Int) net.2.1) fun r1' =>
  bnd (lcO (fun t3' => some true) (fun t3' => (bnd (L2.atI marks t3') fun a4' => bnd (L2.atI net.2.2 step) fun a6' => bnd (L2.atI a6'.1 t3') fun a8' => bnd (L2.atI net.2.2 step) fun a10' => bnd (L2.atI a10'.2 t3') fun a12' => some (((a4' - a8') + a12')))) r1') fun a14' =>
  some a14'
def n_law_net_reach_b1 (net : (Str × Int × (List ((List Int) × (List Int))))) (most : Int) (s1' : ((List (List Int)) × Int)) : Int → ((List (List Int))) → Option (Res ((List (List Int))) ((List (List Int)) × Bool)) :=
  fun (t4' : Int) (found' : (List (List Int))) =>
  bnd (L2.atI found' s1'.2) fun a7' =>
  bnd (n_law_can net a7' t4') fun a9' =>
  if a9' = true then (bnd (L2.atI found' s1'.2) fun a13' =>
  bnd (n_law_fired net a13' t4') fun a15' =>
  lv a15' fun (more : (List Int)) =>
  if (!inB more found') = true then (if (decide ((List.length found' : Int) = most)) = true then (some (.rt (found', false))) else
  bnd (pushO found' more) fun found17' =>
  some (.nx found17')) else
  some (.nx found')) else
  some (.nx found')
def n_law_net_reach_b2 (net : (Str × Int × (List ((List Int) × (List Int))))) (most : Int) (k : Int) : ((List (List Int)) × Int) → Option (Res ((List (List Int)) × Int) ((List (List Int)) × Bool)) :=
  fun (s1' : (List (List Int)) × Int) =>
  bnd (rngO (0 : Int) (List.length net.2.2 : Int)) fun r2' =>
  bnd (forR (ρ := ((List (List Int)) × Bool)) (n_law_net_reach_b1 net most s1') r2' s1'.1) (onR (fun r => some (.rt r)) fun (found' : (List (List Int))) =>
  lv (s1'.2 + (1 : Int)) fun (k : Int) =>
  some (.nx (found', k)))
def n_law_net_reach (net : (Str × Int × (List ((List Int) × (List Int))))) (marks : (List Int)) (most : Int) : Option ((List (List Int)) × Bool) :=
  lv [marks] fun (found : (List (List Int))) =>
  lv (0 : Int) fun (k : Int) =>
  bnd (whileR (ρ := ((List (List Int)) × Bool)) (fun (s1' : (List (List Int)) × Int) => (some ((decide (s1'.2 < (List.length s1'.1 : Int)))))) (n_law_net_reach_b2 net most k) 1000 (found, k)) (onR some fun (s1' : (List (List Int)) × Int) =>
  some (s1'.1, true))
def n_can (net : (Str × Int × (List ((List Int) × (List Int))))) (marks : (List Int)) (step : Int) : Option Bool :=
  bnd (L2.atI net.2.2 step) fun a1' =>
  bnd (allO (fun t3' => some true) (fun t3' => (some ((decide (t3'.2 ≤ t3'.1))))) (List.zip marks a1'.1)) fun a4' =>
  some a4'
def n_possible (net : (Str × Int × (List ((List Int) × (List Int))))) (marks : (List Int)) : Option (List Int) :=
  bnd (rngO (0 : Int) (List.length net.2.2 : Int)) fun r1' =>
  bnd (lcO (fun t3' => (bnd (n_can net marks t3') fun a4' => some (a4'))) (fun t3' => (some (t3'))) r1') fun a6' =>
  some a6'
def n_done (net : (Str × Int × (List ((List Int) × (List Int))))) (marks : (List Int)) (step : Int) : Option (List Int) :=
  bnd (L2.atI net.2.2 step) fun a1' =>
  lv a1' fun t3' =>
  bnd (lcO (fun t4' => some true) (fun t4' => (some (((t4'.1 - t4'.2.1) + t4'.2.2)))) (List.zip marks (List.zip t3'.1 t3'.2))) fun a5' =>
  some a5'
def n_reached_b1 (net : (Str × Int × (List ((List Int) × (List Int))))) (most : Int) (s1' : ((List (List Int)) × Int)) : Int → ((List (List Int))) → Option (Res ((List (List Int))) ((List (List Int)) × Bool)) :=
  fun (t8' : Int) (found' : (List (List Int))) =>
  bnd (L2.atI found' s1'.2) fun a11' =>
  bnd (n_done net a11' t8') fun a13' =>
  lv a13' fun (following : (List Int)) =>
  if (!inB following found') = true then (if (decide ((List.length found' : Int) = most)) = true then (some (.rt (found', false))) else
  bnd (pushO found' following) fun found15' =>
  some (.nx found15')) else
  some (.nx found')
def n_reached_b2 (net : (Str × Int × (List ((List Int) × (List Int))))) (most : Int) (place : Int) : ((List (List Int)) × Int) → Option (Res ((List (List Int)) × Int) ((List (List Int)) × Bool)) :=
  fun (s1' : (List (List Int)) × Int) =>
  bnd (L2.atI s1'.1 s1'.2) fun a4' =>
  bnd (n_possible net a4') fun a6' =>
  bnd (forR (ρ := ((List (List Int)) × Bool)) (n_reached_b1 net most s1') a6' s1'.1) (onR (fun r => some (.rt r)) fun (found' : (List (List Int))) =>
  lv (s1'.2 + (1 : Int)) fun (place : Int) =>
  some (.nx (found', place)))
def n_reached (net : (Str × Int × (List ((List Int) × (List Int))))) (marks : (List Int)) (most : Int) : Option ((List (List Int)) × Bool) :=
  lv [marks] fun (found : (List (List Int))) =>
  lv (0 : Int) fun (place : Int) =>
  bnd (whileR (ρ := ((List (List Int)) × Bool)) (fun (s1' : (List (List Int)) × Int) => (some ((decide (s1'.2 < (List.length s1'.1 : Int)))))) (n_reached_b2 net most place) 1000 (found, place)) (onR some fun (s1' : (List (List Int)) × Int) =>
  some (s1'.1, true))
def n_shortest_to_b1 (net : (Str × Int × (List ((List Int) × (List Int))))) (most : Int) (own : (List Int)) : Int → ((List ((List Int) × (List Int))) × (List (List Int))) → Option ((List ((List Int) × (List Int))) × (List (List Int))) :=
  fun (t9' : Int) (s8' : (List ((List Int) × (List Int))) × (List (List Int))) =>
  bnd (n_done net own t9') fun a10' =>
  lv a10' fun (following : (List Int)) =>
  bnd (if ((!dHas s8'.1 following) && (decide (((List.length s8'.1 : Nat) : Int) < most))) = true then (bnd (dGet s8'.1 own) fun a12' =>
  bnd (catO a12' [t9']) fun a14' =>
  bnd (dPutO s8'.1 following a14') fun words16' =>
  bnd (pushO s8'.2 following) fun waiting17' =>
  some (words16', waiting17')) else (some (s8'.1, s8'.2))) fun (s20' : (List ((List Int) × (List Int))) × (List (List Int))) =>
  some (s20'.1, s20'.2)
def n_shortest_to_b2 (net : (Str × Int × (List ((List Int) × (List Int))))) (goal : (List Int)) (most : Int) : ((List ((List Int) × (List Int))) × (List (List Int))) → Option (Res ((List ((List Int) × (List Int))) × (List (List Int))) (Option (List Int))) :=
  fun (s1' : (List ((List Int) × (List Int))) × (List (List Int))) =>
  bnd (popI s1'.2 (0 : Int)) fun q2' =>
  lv q2'.1 fun (own : (List Int)) =>
  if (decide (own = goal)) = true then (bnd (dGet s1'.1 own) fun a4' =>
  some (.rt (some a4'))) else
  bnd (n_possible net own) fun a6' =>
  bnd (forN (n_shortest_to_b1 net most own) a6' (s1'.1, q2'.2)) fun (s8' : (List ((List Int) × (List Int))) × (List (List Int))) =>
  some (.nx (s8'.1, s8'.2))
def n_shortest_to (net : (Str × Int × (List ((List Int) × (List Int))))) (marks : (List Int)) (goal : (List Int)) (most : Int) : Option (Option (List Int)) :=
  lv [(marks, [])] fun (words : (List ((List Int) × (List Int)))) =>
  lv [marks] fun (waiting : (List (List Int))) =>
  bnd (whileR (ρ := (Option (List Int))) (fun (s1' : (List ((List Int) × (List Int))) × (List (List Int))) => (some ((!List.isEmpty s1'.2)))) (n_shortest_to_b2 net goal most) 1000 (words, waiting)) (onR some fun (s1' : (List ((List Int) × (List Int))) × (List (List Int))) =>
  some (none : (Option (List Int))))
def n_law_b1 (s7' : (Box × (Str × Int × (List ((List Int) × (List Int)))))) (t23' : ((List Int) × (List Int))) : Int → ((List ((List Int) × (List Int))) × (List ((List Int) × (List Int)))) → Option ((List ((List Int) × (List Int))) × (List ((List Int) × (List Int)))) :=
  fun (t27' : Int) (s26' : (List ((List Int) × (List Int))) × (List ((List Int) × (List Int)))) =>
  bnd (n_law_can s7'.2 t23'.2 t27') fun a28' =>
  bnd (if (a28' && (decide (((List.length s26'.1 : Nat) : Int) < (24 : Int)))) = true then (bnd (n_law_fired s7'.2 t23'.2 t27') fun a30' =>
  lv a30' fun (more : (List Int)) =>
  bnd (if (!dHas s26'.1 more) = true then (bnd (catO t23'.1 [t27']) fun a32' =>
  bnd (dPutO s26'.1 more a32') fun words34' =>
  bnd (catO t23'.1 [t27']) fun a35' =>
  bnd (pushO s26'.2 (a35', more)) fun longer37' =>
  some (words34', longer37')) else (some (s26'.1, s26'.2))) fun (s40' : (List ((List Int) × (List Int))) × (List ((List Int) × (List Int)))) =>
  some (s40'.1, s40'.2)) else (some (s26'.1, s26'.2))) fun (s41' : (List ((List Int) × (List Int))) × (List ((List Int) × (List Int)))) =>
  some (s41'.1, s41'.2)
def n_law_b2 (s7' : (Box × (Str × Int × (List ((List Int) × (List Int)))))) : ((List Int) × (List Int)) → ((List ((List Int) × (List Int))) × (List ((List Int) × (List Int)))) → Option ((List ((List Int) × (List Int))) × (List ((List Int) × (List Int)))) :=
  fun (t23' : ((List Int) × (List Int))) (s22' : (List ((List Int) × (List Int))) × (List ((List Int) × (List Int)))) =>
  bnd (rngO (0 : Int) (List.length s7'.2.2.2 : Int)) fun r24' =>
  bnd (forN (n_law_b1 s7' t23') r24' (s22'.1, s22'.2)) fun (s26' : (List ((List Int) × (List Int))) × (List ((List Int) × (List Int)))) =>
  some (s26'.1, s26'.2)
def n_law_b3 (s7' : (Box × (Str × Int × (List ((List Int) × (List Int)))))) (marks : (List Int)) (s20' : ((List ((List Int) × (List Int))) × (List ((List Int) × (List Int))))) : (List Int) → (Unit) → Option (Res (Unit) Bool) :=
  fun (t45' : (List Int)) (s44' : Unit) =>
  bnd (n_shortest_to s7'.2 marks t45' (24 : Int)) fun a46' =>
  bnd (dGet s20'.1 t45') fun a48' =>
  bnd (sameO (Eo (Et Ei) rfl) a46' (some a48')) fun a50' =>
  if (!a50') = true then (some (.rt false)) else
  some (.nx ())
def n_law_b4 (s7' : (Box × (Str × Int × (List ((List Int) × (List Int)))))) (level : (List ((List Int) × (List Int)))) : Int → ((List ((List Int) × (List Int))) × (List ((List Int) × (List Int)))) → Option ((List ((List Int) × (List Int))) × (List ((List Int) × (List Int)))) :=
  fun (t21' : Int) (s20' : (List ((List Int) × (List Int))) × (List ((List Int) × (List Int)))) =>
  lv [] fun (longer : (List ((List Int) × (List Int)))) =>
  bnd (forN (n_law_b2 s7') s20'.2 (s20'.1, longer)) fun (s22' : (List ((List Int) × (List Int))) × (List ((List Int) × (List Int)))) =>
  lv s22'.2 fun (level : (List ((List Int) × (List Int)))) =>
  some (s22'.1, level)
def n_law (box : Box) : Option Bool :=
  bnd (n_law_safe_net box (4 : Int) (4 : Int)) fun a1' =>
  lv a1'.1 fun (net : (Str × Int × (List ((List Int) × (List Int))))) =>
  bnd (drawO a1'.2 (3 : Int)) fun v3' =>
  bnd (if (decide (v3'.1 = (0 : Int))) = true then (bnd (n_law_net v3'.2 (3 : Int) (3 : Int) (2 : Int)) fun a5' =>
  lv a5'.1 fun (net : (Str × Int × (List ((List Int) × (List Int))))) =>
  some (a5'.2, net)) else (some (v3'.2, net))) fun (s7' : Box × (Str × Int × (List ((List Int) × (List Int))))) =>
  bnd (n_law_marks s7'.1 s7'.2 (2 : Int)) fun a8' =>
  lv a8'.1 fun (marks : (List Int)) =>
  bnd (drawO a8'.2 (24 : Int)) fun v10' =>
  lv ((1 : Int) + v10'.1) fun (most : Int) =>
  bnd (n_law_net_reach s7'.2 marks most) fun a12' =>
  lv a12' fun (due : ((List (List Int)) × Bool)) =>
  bnd (n_reached s7'.2 marks most) fun a14' =>
  bnd (sameO (Er (Rc (Et (Et Ei)) (R1 Eb))) a14' due) fun a16' =>
  if (!a16') = true then (some false) else
  lv [(marks, [])] fun (words : (List ((List Int) × (List Int)))) =>
  lv [([], marks)] fun (level : (List ((List Int) × (List Int)))) =>
  bnd (rngO (0 : Int) (4 : Int)) fun r18' =>
  bnd (forN (n_law_b4 s7' level) r18' (words, level)) fun (s20' : (List ((List Int) × (List Int))) × (List ((List Int) × (List Int)))) =>
  bnd (sortU (Et Ei) (List.map (fun p => p.1) s20'.1)) fun a42' =>
  bnd (forR (ρ := Bool) (n_law_b3 s7' marks s20') a42' ()) (onR some fun (s44' : Unit) =>
  if due.2 = true then (bnd (repTO [(9 : Int)] s7'.2.2.1) fun a52' =>
  lv a52' fun (far : (List Int)) =>
  bnd (andO (!inB far due.1) (bnd (n_shortest_to s7'.2 marks far (30 : Int)) fun a54' => some ((!Option.isNone a54')))) fun a56' =>
  if a56' = true then (some false) else
  some true) else
  some true)
end P05


set_option Elab.async false
set_option linter.all false
set_option maxRecDepth 100000
set_option maxHeartbeats 1000000
namespace P05
open PySem PySem.Spec PyProof.Rows L2 Z Y
abbrev nS : Str := (("net" : String) : Str)
section
variable {n : Nat} {steps : List NSp} (N : NetOk n steps)
def okI (steps : List NSp) (m : NMk) (s : Int) : Bool := canM m (stepI steps s)
def frI (steps : List NSp) (m : NMk) (s : Int) : NMk := fireM m (stepI steps s)
include N
theorem law_can_ok {m : NMk} (hm : m.length = n) {s : Int} (hs : s ∈ rngN 0 steps.length) : n_law_can (nS, (n : Int), steps) m s = some (okI steps m s) := by
  obtain ⟨e1, e2⟩ := stepI_at hs
  obtain ⟨l1, l2⟩ := N.len _ e2
  simp only [n_law_can]
  rw [rng0 (n := n) (by have := N.hi; omega), bq, lcO_ft (tb := fun p => decide (m.getD p.toNat 0 < (stepI steps s).1.getD p.toNat 0)) (g := fun p => p) (rngN 0 n) (fun p hp => by
    rw [at_gd hm hp, bq, e1, bq, at_gd l1 hp, bq]) (fun p _ _ => rfl), bq, List.map_id']
  rw [lawcan (g := (stepI steps s).2) hm l1]; rfl
theorem law_fired_ok {m : NMk} (hm : m.length = n) {s : Int} (hs : s ∈ rngN 0 steps.length) : n_law_fired (nS, (n : Int), steps) m s = some (frI steps m s) := by
  obtain ⟨e1, e2⟩ := stepI_at hs
  obtain ⟨l1, l2⟩ := N.len _ e2
  simp only [n_law_fired]
  rw [rng0 (n := n) (by have := N.hi; omega), bq, lcO_map (g := fun p => m.getD p.toNat 0 - (stepI steps s).1.getD p.toNat 0 + (stepI steps s).2.getD p.toNat 0) (rngN 0 n) (fun p hp => by
    rw [at_gd hm hp, bq, e1, bq, at_gd l1 hp, bq, bq, at_gd l2 hp, bq]), bq, lawfire hm l1 l2]
  rfl
omit N in
theorem can_ok {m : NMk} {s : Int} (hs : s ∈ rngN 0 steps.length) : n_can (nS, (n : Int), steps) m s = some (okI steps m s) := by
  obtain ⟨e1, e2⟩ := stepI_at hs
  simp only [n_can]
  rw [e1, bq, allO_all, bq]; rfl
omit N in
theorem done_ok {m : NMk} {s : Int} (hs : s ∈ rngN 0 steps.length) : n_done (nS, (n : Int), steps) m s = some (frI steps m s) := by
  obtain ⟨e1, e2⟩ := stepI_at hs
  simp only [n_done]
  rw [e1, bq, lvq, lcO_all, bq]; rfl
theorem possible_ok {m : NMk} : n_possible (nS, (n : Int), steps) m = some ((rngN 0 steps.length).filter (okI steps m)) := by
  simp only [n_possible]
  rw [rng0 (n := steps.length) (by have := N.few; omega), bq, lcO_filter (tb := okI steps m) _ (fun s hs => by rw [can_ok hs, bq]), bq]
theorem fr_len {m : NMk} (hm : m.length = n) {s : Int} (hs : s ∈ rngN 0 steps.length) : (frI steps m s).length = n := by
  obtain ⟨l1, l2⟩ := N.len _ (stepI_at hs).2
  exact fire_len hm l1 l2
/-! what is reached -/
omit N in
/-- the turns at one found -/
def inn (steps : List NSp) (most : Nat) (m : NMk) : List Int → List NMk → Res (List NMk) (List NMk × Bool)
  | [], f => .nx f
  | s :: ss, f => if okI steps m s = true then (if (!inB (frI steps m s) f) = true then (if decide ((f.length : Int) = (most : Int)) = true then .rt (f, false) else inn steps most m ss (f ++ [frI steps m s])) else inn steps most m ss f) else inn steps most m ss f
variable {most : Nat} (hmost : most ≤ 30)
include hmost
theorem inn_law {m : NMk} (hm : m.length = n) {f0 : List NMk} {k : Nat} : ∀ (ss : List Int) (f : List NMk), (∀ s ∈ ss, s ∈ rngN 0 steps.length) → f[k]? = some m → f.length ≤ most →
    forR (n_law_net_reach_b1 (nS, (n : Int), steps) (most : Int) (f0, (k : Int))) ss f = some (inn steps most m ss f)
  | [], f, _, _, _ => rfl
  | s :: ss, f, hs, hk, hl => by
    have ih := inn_law hm (f0 := f0) (k := k) ss
    have hs1 := hs s List.mem_cons_self
    have hk' : L2.atI f (k : Int) = some m := at_some hk
    have hb : n_law_net_reach_b1 (nS, (n : Int), steps) (most : Int) (f0, (k : Int)) s f = (if okI steps m s = true then (if (!inB (frI steps m s) f) = true then (if decide ((f.length : Int) = (most : Int)) = true then some (.rt (f, false)) else bnd (pushO f (frI steps m s)) fun f' => some (.nx f')) else some (.nx f)) else some (.nx f)) := by
      simp only [n_law_net_reach_b1]
      rw [hk', bq, law_can_ok N hm hs1, bq, bq, law_fired_ok N hm hs1, bq, lvq]
    simp only [forR, hb, inn]
    cases ho : okI steps m s with
    | false =>
      simp only [Bool.false_eq_true, if_false]
      exact ih _ (fun s' h => hs s' (List.mem_cons_of_mem _ h)) hk hl
    | true =>
      cases hi : inB (frI steps m s) f with
      | true =>
        simp only [if_true, Bool.not_true, Bool.false_eq_true, if_false]
        exact ih _ (fun s' h => hs s' (List.mem_cons_of_mem _ h)) hk hl
      | false =>
        by_cases he : f.length = most
        · simp only [if_true, Bool.not_false, he, decide_true]
        · have : decide ((f.length : Int) = (most : Int)) = false := decide_eq_false (by omega)
          simp only [if_true, Bool.not_false, this, Bool.false_eq_true, if_false]
          rw [push_ok (by omega), bq]
          exact ih _ (fun s' h => hs s' (List.mem_cons_of_mem _ h)) (by rw [List.getElem?_append_left (List.getElem?_eq_some_iff.mp hk).1]; exact hk) (by simp; omega)
omit N in
theorem inn_prog {m : NMk} {f0 : List NMk} {k : Nat} : ∀ (ss : List Int) (f : List NMk), (∀ s ∈ ss, s ∈ rngN 0 steps.length) → f[k]? = some m → f.length ≤ most →
    forR (n_reached_b1 (nS, (n : Int), steps) (most : Int) (f0, (k : Int))) (ss.filter (okI steps m)) f = some (inn steps most m ss f)
  | [], f, _, _, _ => rfl
  | s :: ss, f, hs, hk, hl => by
    have ih := inn_prog (m := m) (f0 := f0) (k := k) ss
    have hs1 := hs s List.mem_cons_self
    have hk' : L2.atI f (k : Int) = some m := at_some hk
    rw [List.filter_cons]
    cases ho : okI steps m s with
    | false =>
      simp only [inn, ho, Bool.false_eq_true, if_false]
      exact ih _ (fun s' h => hs s' (List.mem_cons_of_mem _ h)) hk hl
    | true =>
      have hb : n_reached_b1 (nS, (n : Int), steps) (most : Int) (f0, (k : Int)) s f = (if (!inB (frI steps m s) f) = true then (if decide ((f.length : Int) = (most : Int)) = true then some (.rt (f, false)) else bnd (pushO f (frI steps m s)) fun f' => some (.nx f')) else some (.nx f)) := by
        simp only [n_reached_b1]
        rw [hk', bq, done_ok hs1, bq, lvq]
      simp only [if_true, forR, hb, inn, ho]
      cases hi : inB (frI steps m s) f with
      | true =>
        simp only [if_true, Bool.not_true, Bool.false_eq_true, if_false]
        exact ih _ (fun s' h => hs s' (List.mem_cons_of_mem _ h)) hk hl
      | false =>
        by_cases he : f.length = most
        · simp only [if_true, Bool.not_false, he, decide_true]
        · have : decide ((f.length : Int) = (most : Int)) = false := decide_eq_false (by omega)
          simp only [if_true, Bool.not_false, this, Bool.false_eq_true, if_false]
          rw [push_ok (by omega), bq]
          exact ih _ (fun s' h => hs s' (List.mem_cons_of_mem _ h)) (by rw [List.getElem?_append_left (List.getElem?_eq_some_iff.mp hk).1]; exact hk) (by simp; omega)
theorem inn_ok {m : NMk} (hm : m.length = n) : ∀ (ss : List Int) (f : List NMk), (∀ s ∈ ss, s ∈ rngN 0 steps.length) → f.length ≤ most → (∀ x ∈ f, x.length = n) →
    (∃ f', inn steps most m ss f = .nx f' ∧ f <+: f' ∧ f'.length ≤ most ∧ (∀ x ∈ f', x.length = n) ∧ ∀ s ∈ ss, okI steps m s = true → frI steps m s ∈ f') ∨ ∃ f', inn steps most m ss f = .rt (f', false) ∧ f'.length ≤ most ∧ ∀ x ∈ f', x.length = n
  | [], f, _, hl, hn => .inl ⟨f, rfl, List.prefix_rfl, hl, hn, fun s h => nomatch h⟩
  | s :: ss, f, hs, hl, hn => by
    have hs1 := hs s List.mem_cons_self
    have ih := inn_ok hm ss
    have go : ∀ f1, inn steps most m (s :: ss) f = inn steps most m ss f1 → f <+: f1 → f1.length ≤ most → (∀ x ∈ f1, x.length = n) → (okI steps m s = true → frI steps m s ∈ f1) → (∃ f', inn steps most m (s :: ss) f = .nx f' ∧ f <+: f' ∧ f'.length ≤ most ∧ (∀ x ∈ f', x.length = n) ∧ ∀ s' ∈ s :: ss, okI steps m s' = true → frI steps m s' ∈ f') ∨ ∃ f', inn steps most m (s :: ss) f = .rt (f', false) ∧ f'.length ≤ most ∧ ∀ x ∈ f', x.length = n := fun f1 e p1 l1 n1 h1 => by
      rw [e]
      rcases ih f1 (fun s' h => hs s' (List.mem_cons_of_mem _ h)) l1 n1 with ⟨f', e', p', l', n', h'⟩ | ⟨f', e', l', n'⟩
      · refine .inl ⟨f', e', p1.trans p', l', n', fun s' hs' ho => ?_⟩
        rcases List.mem_cons.mp hs' with rfl | hs'
        · exact p'.subset (h1 ho)
        · exact h' s' hs' ho
      · exact .inr ⟨f', e', l', n'⟩
    cases ho : okI steps m s with
    | false => exact go f (by simp only [inn, ho, Bool.false_eq_true, if_false]) List.prefix_rfl hl hn (fun h => by rw [ho] at h; cases h)
    | true =>
      cases hi : inB (frI steps m s) f with
      | true => exact go f (by simp only [inn, ho, hi, if_true, Bool.not_true, Bool.false_eq_true, if_false]) List.prefix_rfl hl hn (fun _ => (inB_eq _ _).mp hi)
      | false =>
        by_cases he : f.length = most
        · exact .inr ⟨f, by simp only [inn, ho, hi, if_true, Bool.not_false, he, decide_true], hl, hn⟩
        · refine go (f ++ [frI steps m s]) ?_ (List.prefix_append _ _) (by simp; omega) (fun x hx => ?_) (fun _ => by simp)
          · have : decide ((f.length : Int) = (most : Int)) = false := decide_eq_false (by omega)
            simp only [inn, ho, hi, if_true, Bool.not_false, this, Bool.false_eq_true, if_false]
          · rcases List.mem_append.mp hx with h | h
            · exact hn x h
            · rw [List.mem_singleton.mp h]; exact fr_len N hm hs1
def Clo (steps : List NSp) (f : List NMk) (k : Nat) : Prop := ∀ i m, i < k → f[i]? = some m → ∀ s ∈ rngN 0 steps.length, okI steps m s = true → frI steps m s ∈ f
/-- both look around alike -/
theorem loops : ∀ (fuel : Nat) (f : List NMk) (k : Nat) (c0 c1 : Int), k ≤ f.length → f.length ≤ most → (∀ x ∈ f, x.length = n) → Clo steps f k → most + 1 ≤ fuel + k →
    (∃ F : List NMk, whileR (fun (s1' : (List (List Int)) × Int) => (some ((decide (s1'.2 < (List.length s1'.1 : Int)))))) (n_law_net_reach_b2 (nS, (n : Int), steps) (most : Int) c0) fuel (f, (k : Int)) = some (.nx (F, (F.length : Int))) ∧
      whileR (fun (s1' : (List (List Int)) × Int) => (some ((decide (s1'.2 < (List.length s1'.1 : Int)))))) (n_reached_b2 (nS, (n : Int), steps) (most : Int) c1) fuel (f, (k : Int)) = some (.nx (F, (F.length : Int))) ∧ f <+: F ∧ F.length ≤ most ∧ Clo steps F F.length ∧ ∀ x ∈ F, x.length = n) ∨
    ∃ F : List NMk, whileR (fun (s1' : (List (List Int)) × Int) => (some ((decide (s1'.2 < (List.length s1'.1 : Int)))))) (n_law_net_reach_b2 (nS, (n : Int), steps) (most : Int) c0) fuel (f, (k : Int)) = some (.rt (F, false)) ∧
      whileR (fun (s1' : (List (List Int)) × Int) => (some ((decide (s1'.2 < (List.length s1'.1 : Int)))))) (n_reached_b2 (nS, (n : Int), steps) (most : Int) c1) fuel (f, (k : Int)) = some (.rt (F, false)) ∧ F.length ≤ most ∧ ∀ x ∈ F, x.length = n
  | 0, f, k, c0, c1, h1, h2, _, _, h => by omega
  | fuel + 1, f, k, c0, c1, h1, h2, hn, hc, h => by
    by_cases hk : k = f.length
    · subst hk
      have hd : decide ((f.length : Int) < (f.length : Int)) = false := decide_eq_false (by omega)
      exact .inl ⟨f, by simp only [whileR, hd], by simp only [whileR, hd], List.prefix_rfl, h2, hc, hn⟩
    · have hkl : k < f.length := by omega
      have hd : decide ((k : Int) < (f.length : Int)) = true := decide_eq_true (by omega)
      have hg : f[k]? = some f[k] := List.getElem?_eq_getElem hkl
      have hm : (f[k]).length = n := hn _ (List.getElem_mem hkl)
      have hat : L2.atI f (k : Int) = some f[k] := at_some hg
      have ef : steps.length < 1000000 := by have := N.few; omega
      have e1 := inn_law N hmost hm (f0 := f) (k := k) (rngN 0 steps.length) f (fun s h => h) hg h2
      have e2 := inn_prog (n := n) hmost (f0 := f) (k := k) (rngN 0 steps.length) f (fun s h => h) hg h2
      have E1 : n_law_net_reach_b2 (nS, (n : Int), steps) (most : Int) c0 (f, (k : Int)) = onR (fun r => some (.rt r)) (fun (found' : List NMk) => some (.nx (found', (k : Int) + 1))) (inn steps most f[k] (rngN 0 steps.length) f) := by
        simp only [n_law_net_reach_b2]
        rw [rng0 (n := steps.length) (by have := N.few; omega), bq, e1, bq]
        rfl
      have E2 : n_reached_b2 (nS, (n : Int), steps) (most : Int) c1 (f, (k : Int)) = onR (fun r => some (.rt r)) (fun (found' : List NMk) => some (.nx (found', (k : Int) + 1))) (inn steps most f[k] (rngN 0 steps.length) f) := by
        simp only [n_reached_b2]
        rw [hat, bq, possible_ok N, bq, e2, bq]
        rfl
      rcases inn_ok N hmost hm (rngN 0 steps.length) f (fun s h => h) h2 hn with ⟨f', e, p, l, n', cl⟩ | ⟨f', e, l, n'⟩
      · rw [e, onR_nx] at E1 E2
        have hp := p.length_le
        have hc' : Clo steps f' (k + 1) := fun i m hi hm' s hs ho => by
          by_cases hik : i < k
          · exact p.subset (hc i m hik (pre_getr p hm' (by omega)) s hs ho)
          · have : i = k := by omega
            subst this
            have := pre_getr p hm' hkl
            rw [hg] at this; cases this
            exact cl s hs ho
        rcases loops fuel f' (k + 1) c0 c1 (by omega) l n' hc' (by omega) with ⟨F, z1, z2, z3, z4, z5⟩ | ⟨F, z1, z2, z3⟩
        · refine .inl ⟨F, ?_, ?_, p.trans z3, z4, z5⟩
          · simp only [whileR, hd, E1]; exact z1
          · simp only [whileR, hd, E2]; exact z2
        · refine .inr ⟨F, ?_, ?_, z3⟩
          · simp only [whileR, hd, E1]; exact z1
          · simp only [whileR, hd, E2]; exact z2
      · rw [e, onR_rt] at E1 E2
        exact .inr ⟨f', by simp only [whileR, hd, E1], by simp only [whileR, hd, E2], l, n'⟩
theorem reach_both {m : NMk} (hm : m.length = n) (h1 : 1 ≤ most) : ∃ r : List NMk × Bool, n_law_net_reach (nS, (n : Int), steps) m (most : Int) = some r ∧ n_reached (nS, (n : Int), steps) m (most : Int) = some r ∧ r.1.length ≤ 30 ∧ (∀ x ∈ r.1, x.length = n) ∧ (r.2 = true → m ∈ r.1 ∧ ∀ x ∈ r.1, ∀ s ∈ rngN 0 steps.length, okI steps x s = true → frI steps x s ∈ r.1) := by
  simp only [n_law_net_reach, n_reached]
  rw [lvq, lvq, lvq, lvq]
  rcases loops N hmost 1000 [m] 0 ((0 : Nat) : Int) ((0 : Nat) : Int) (by simp) (by simpa using h1) (by simpa using hm) (fun i x h => by omega) (by omega) with ⟨F, z1, z2, z3, z4, z5, z6⟩ | ⟨F, z1, z2, z3, z4⟩
  · refine ⟨(F, true), by rw [show ((0 : Int)) = ((0 : Nat) : Int) from rfl, z1]; rfl, by rw [show ((0 : Int)) = ((0 : Nat) : Int) from rfl, z2]; rfl, by dsimp only; omega, z6, fun _ => ⟨z3.subset (by simp), fun x hx s hs ho => ?_⟩⟩
    obtain ⟨i, hi⟩ := List.mem_iff_getElem?.mp hx
    exact z5 i x (List.getElem?_eq_some_iff.mp hi).1 hi s hs ho
  · exact ⟨(F, false), by rw [show ((0 : Int)) = ((0 : Nat) : Int) from rfl, z1]; rfl, by rw [show ((0 : Int)) = ((0 : Nat) : Int) from rfl, z2]; rfl, by dsimp only; omega, z4, fun h => nomatch h⟩
end
end P05


set_option Elab.async false
set_option linter.all false
set_option maxRecDepth 100000
set_option maxHeartbeats 1000000
/-! shortest words -/
namespace P05
open PySem PySem.Spec PyProof.Rows L2 Z Y
section
variable {n : Nat} {steps : List NSp} (N : NetOk n steps) {most : Nat} {s0 : NMk} {P : NMk → Prop}
abbrev WnI (steps : List NSp) (most : Nat) (s0 : NMk) (k : Nat) : Ws NMk := Wn (okI steps) (frI steps) (rngN 0 steps.length) most s0 k
theorem pop0 {α : Type} {x : α} {xs : List α} (h : xs.length < 1000000) : popI (x :: xs) (0 : Int) = some (x, xs) := by
  unfold popI
  rw [if_pos (by simp; omega), show ixN (x :: xs).length (0 : Int) = some 0 from by
    have := ixN_nat (x :: xs).length 0
    simpa using this]
  rfl
theorem put_new {W : Ws NMk} {x : NMk} {w : List Int} (h : dHas W x = false) (hl : W.length < 1000000) : dPutO W x w = some (W ++ [(x, w)]) := by
  unfold dPutO dPut
  rw [if_pos hl, h]; rfl
theorem fold_fst {β γ : Type} {g : β × γ → Int → β × γ} {f : β → Int → β} (h : ∀ b s, (g b s).1 = f b.1 s) : ∀ (ss : List Int) (b : β × γ), (ss.foldl g b).1 = ss.foldl f b.1
  | [], _ => rfl
  | s :: ss, b => by rw [List.foldl_cons, List.foldl_cons, fold_fst h ss, h]
/-- one step of the program -/
theorem sh_b1 {W : Ws NMk} {m : NMk} {w : List Int} {k : Nat} (hm : most ≤ 30) (I : WI most P s0 W) (hk : W[k]? = some (m, w)) {s : Int} (hs : s ∈ rngN 0 steps.length) (ho : okI steps m s = true) :
    n_shortest_to_b1 (nS, (n : Int), steps) (most : Int) m s (W, (W.drop (k + 1)).map (·.1)) = some (ex (okI steps) (frI steps) most m w W s, ((ex (okI steps) (frI steps) most m w W s).drop (k + 1)).map (·.1)) := by
  have hmem := List.mem_of_getElem? hk
  have hkl := (List.getElem?_eq_some_iff.mp hk).1
  have hl := I.len
  have hw := I.wl _ hmem
  have hg := dGet_mem I.nd hmem
  simp only [n_shortest_to_b1, ex, ho, Bool.true_and]
  rw [done_ok hs, bq, lvq]
  have e : decide (((W.length : Nat) : Int) < (most : Int)) = decide (W.length < most) := decide_eq_decide.mpr (by omega)
  rw [e]
  cases hh : dHas W (frI steps m s) with
  | true => simp only [Bool.not_true, Bool.false_and, Bool.false_eq_true, if_false, bq]
  | false =>
    by_cases hlt : W.length < most
    · simp only [hlt, decide_true, Bool.not_false, Bool.and_self, if_true]
      dsimp only at hw
      rw [hg, bq, cat_ok (by simp; omega), bq, put_new hh (by omega), bq, push_ok (by simp; omega), bq, bq, List.drop_append_of_le_length (by omega), List.map_append]
      rfl
    · simp only [hlt, decide_false, Bool.and_false, Bool.false_eq_true, if_false, bq]
theorem sh_fold {m : NMk} {w : List Int} {k : Nat} (hm : most ≤ 30) : ∀ (ss : List Int) (W : Ws NMk), (∀ s ∈ ss, s ∈ rngN 0 steps.length ∧ okI steps m s = true ∧ P (frI steps m s)) → WI most P s0 W → W[k]? = some (m, w) →
    forN (n_shortest_to_b1 (nS, (n : Int), steps) (most : Int) m) ss (W, (W.drop (k + 1)).map (·.1)) = some (ss.foldl (ex (okI steps) (frI steps) most m w) W, ((ss.foldl (ex (okI steps) (frI steps) most m w) W).drop (k + 1)).map (·.1))
  | [], W, _, _, _ => rfl
  | s :: ss, W, hs, I, hk => by
    obtain ⟨h1, h2, h3⟩ := hs s List.mem_cons_self
    rw [forN_cons, sh_b1 hm I hk h1 h2, bq, sh_fold hm ss _ (fun s' h => hs s' (List.mem_cons_of_mem _ h)) (ex_inv I (List.mem_of_getElem? hk) fun _ => h3) (pre_get (ex_pre ..) hk)]
    rfl
include N in
theorem sh_turn {k : Nat} {m : NMk} {w : List Int} {goal : NMk} (hm : most ≤ 30) (hP : ∀ m, P m → ∀ s ∈ rngN 0 steps.length, okI steps m s = true → P (frI steps m s)) (I : WI most P s0 (WnI steps most s0 k)) (hk : (WnI steps most s0 k)[k]? = some (m, w)) :
    n_shortest_to_b2 (nS, (n : Int), steps) goal (most : Int) (WnI steps most s0 k, ((WnI steps most s0 k).drop k).map (·.1)) =
      if m = goal then some (.rt (some w)) else some (.nx (WnI steps most s0 (k + 1), ((WnI steps most s0 (k + 1)).drop (k + 1)).map (·.1))) := by
  have hkl := (List.getElem?_eq_some_iff.mp hk).1
  have hl := I.len
  have hmem := List.mem_of_getElem? hk
  have hd : ((WnI steps most s0 k).drop k).map (·.1) = m :: ((WnI steps most s0 k).drop (k + 1)).map (·.1) := by
    rw [List.drop_eq_getElem_cons hkl, List.map_cons]
    have := (List.getElem?_eq_some_iff.mp hk).2
    rw [this]
  simp only [n_shortest_to_b2]
  rw [hd, pop0 (by rw [List.length_map, List.length_drop]; omega), bq, lvq]
  by_cases hg : m = goal
  · rw [if_pos hg, if_pos (decide_eq_true hg), dGet_mem I.nd hmem, bq]
  · rw [if_neg hg, if_neg (by simpa using hg), possible_ok N, bq]
    rw [sh_fold hm _ _ (fun s hs => ⟨(List.mem_filter.mp hs).1, (List.mem_filter.mp hs).2, hP _ (I.good _ hmem) s (List.mem_filter.mp hs).1 (List.mem_filter.mp hs).2⟩) I hk, bq, exs_filter]
    have : WnI steps most s0 (k + 1) = (rngN 0 steps.length).foldl (ex (okI steps) (frI steps) most m w) (WnI steps most s0 k) := by
      show Xp _ _ _ _ _ _ = _
      unfold Xp
      rw [hk]
    rw [this]
def Seen (steps : List NSp) (most : Nat) (s0 goal : NMk) (k : Nat) : Prop := ∀ k' < k, ∀ e, (WnI steps most s0 k')[k']? = some e → e.1 ≠ goal
include N in
theorem sh_loop (hm : most ≤ 30) (hP : ∀ m, P m → ∀ s ∈ rngN 0 steps.length, okI steps m s = true → P (frI steps m s)) (hI : ∀ k, WI most P s0 (WnI steps most s0 k)) (goal : NMk) : ∀ (fuel k : Nat), k ≤ (WnI steps most s0 k).length → Seen steps most s0 goal k → most + 1 ≤ fuel + k →
    (∃ b, whileR (fun (s1' : Ws NMk × List NMk) => (some ((!List.isEmpty s1'.2)))) (n_shortest_to_b2 (nS, (n : Int), steps) goal (most : Int)) fuel (WnI steps most s0 k, ((WnI steps most s0 k).drop k).map (·.1)) = some (.nx b) ∧ ∃ k', (WnI steps most s0 k').length ≤ k' ∧ Seen steps most s0 goal k') ∨
    ∃ w, whileR (fun (s1' : Ws NMk × List NMk) => (some ((!List.isEmpty s1'.2)))) (n_shortest_to_b2 (nS, (n : Int), steps) goal (most : Int)) fuel (WnI steps most s0 k, ((WnI steps most s0 k).drop k).map (·.1)) = some (.rt (some w)) ∧ ∃ k', (WnI steps most s0 k')[k']? = some (goal, w) ∧ Seen steps most s0 goal k'
  | 0, k, h1, _, h => by have := (hI k).len; omega
  | fuel + 1, k, h1, hs, h => by
    by_cases he : k = (WnI steps most s0 k).length
    · have hd : (WnI steps most s0 k).drop k = [] := List.drop_eq_nil_of_le (by omega)
      refine .inl ⟨(WnI steps most s0 k, []), ?_, k, by omega, hs⟩
      rw [hd]
      simp [whileR]
    · have hkl : k < (WnI steps most s0 k).length := by omega
      have hk : (WnI steps most s0 k)[k]? = some ((WnI steps most s0 k)[k].1, (WnI steps most s0 k)[k].2) := List.getElem?_eq_getElem hkl
      generalize (WnI steps most s0 k)[k].1 = m at hk
      generalize (WnI steps most s0 k)[k].2 = w at hk
      have ht := sh_turn N (goal := goal) hm hP (hI k) hk
      have hne : (!List.isEmpty (((WnI steps most s0 k).drop k).map (·.1))) = true := by
        rw [List.drop_eq_getElem_cons hkl]; rfl
      by_cases hg : m = goal
      · rw [if_pos hg] at ht
        subst hg
        exact .inr ⟨w, by simp only [whileR, hne, ht], k, hk, hs⟩
      · rw [if_neg hg] at ht
        have hp := (xp_pre (ok := okI steps) (fr := frI steps) (idx := rngN 0 steps.length) (most := most) (WnI steps most s0 k) k).length_le
        have hs' : Seen steps most s0 goal (k + 1) := fun k' h e hge => by
          by_cases hlt : k' < k
          · exact hs k' hlt e hge
          · have : k' = k := by omega
            subst this
            rw [hk] at hge; cases hge
            exact hg
        rcases sh_loop hm hP hI goal fuel (k + 1) (Nat.le_trans (Nat.succ_le_of_lt hkl) hp) hs' (by omega) with ⟨b, e, q⟩ | ⟨w', e, q⟩
        · exact .inl ⟨b, by simp only [whileR, hne, ht]; exact e, q⟩
        · exact .inr ⟨w', by simp only [whileR, hne, ht]; exact e, q⟩
include N in
theorem shortest_ok (hm : most ≤ 30) (hP : ∀ m, P m → ∀ s ∈ rngN 0 steps.length, okI steps m s = true → P (frI steps m s)) (hI : ∀ k, WI most P s0 (WnI steps most s0 k)) (goal : NMk) : ∃ o, n_shortest_to (nS, (n : Int), steps) s0 goal (most : Int) = some o ∧
    ((o = none ∧ ∃ k', (WnI steps most s0 k').length ≤ k' ∧ Seen steps most s0 goal k') ∨ ∃ w, o = some w ∧ ∃ k', (WnI steps most s0 k')[k']? = some (goal, w) ∧ Seen steps most s0 goal k') := by
  simp only [n_shortest_to]
  rw [lvq, lvq]
  rcases sh_loop N hm hP hI goal 1000 0 (Nat.zero_le _) (fun k' h => by omega) (by omega) with ⟨b, e, q⟩ | ⟨w, e, q⟩
  · have e : whileR (fun (s1' : Ws NMk × List NMk) => (some ((!List.isEmpty s1'.2)))) (n_shortest_to_b2 (nS, (n : Int), steps) goal (most : Int)) 1000 ([(s0, [])], [s0]) = some (.nx b) := e
    exact ⟨none, by rw [e]; rfl, .inl ⟨rfl, q⟩⟩
  · have e : whileR (fun (s1' : Ws NMk × List NMk) => (some ((!List.isEmpty s1'.2)))) (n_shortest_to_b2 (nS, (n : Int), steps) goal (most : Int)) 1000 ([(s0, [])], [s0]) = some (.rt (some w)) := e
    exact ⟨some w, by rw [e]; rfl, .inr ⟨w, rfl, q⟩⟩
/-! the law's levels -/
abbrev sw (e : NMk × List Int) : List Int × NMk := (e.2, e.1)
variable (bx : Box)
include N in
theorem lw_b1 {W : Ws NMk} {m : NMk} {w : List Int} {l0 : Nat} (hn : m.length = n) (I : WI 24 P s0 W) (hmem : (m, w) ∈ W) (h0 : l0 ≤ W.length) {s : Int} (hs : s ∈ rngN 0 steps.length) :
    n_law_b1 (bx, (nS, (n : Int), steps)) (w, m) s (W, (W.drop l0).map sw) = some (ex (okI steps) (frI steps) 24 m w W s, ((ex (okI steps) (frI steps) 24 m w W s).drop l0).map sw) := by
  have hl := I.len
  have hw := I.wl _ hmem
  dsimp only at hw
  simp only [n_law_b1, ex]
  rw [law_can_ok N hn hs, bq]
  have e : decide (((W.length : Nat) : Int) < (24 : Int)) = decide (W.length < 24) := decide_eq_decide.mpr (by omega)
  rw [e]
  cases ho : okI steps m s with
  | false => simp only [Bool.false_and, Bool.false_eq_true, if_false, bq]
  | true =>
    by_cases hlt : W.length < 24
    · simp only [hlt, decide_true, Bool.true_and, Bool.and_true, if_true]
      rw [law_fired_ok N hn hs, bq, lvq]
      cases hh : dHas W (frI steps m s) with
      | true => simp only [Bool.not_true, Bool.false_eq_true, if_false, bq]
      | false =>
        simp only [Bool.not_false, if_true]
        rw [cat_ok (by simp; omega), bq, put_new hh (by omega), bq, bq, push_ok (by simp; omega), bq, bq, bq, List.drop_append_of_le_length (by omega), List.map_append]
        rfl
    · simp only [hlt, decide_false, Bool.and_false, Bool.false_eq_true, if_false, bq]
include N in
theorem lw_fold {m : NMk} {w : List Int} {l0 : Nat} (hn : m.length = n) : ∀ (ss : List Int) (W : Ws NMk), (∀ s ∈ ss, s ∈ rngN 0 steps.length ∧ (okI steps m s = true → P (frI steps m s))) → WI 24 P s0 W → (m, w) ∈ W → l0 ≤ W.length →
    forN (n_law_b1 (bx, (nS, (n : Int), steps)) (w, m)) ss (W, (W.drop l0).map sw) = some (ss.foldl (ex (okI steps) (frI steps) 24 m w) W, ((ss.foldl (ex (okI steps) (frI steps) 24 m w) W).drop l0).map sw)
  | [], W, _, _, _, _ => rfl
  | s :: ss, W, hs, I, hm, h0 => by
    obtain ⟨h1, h3⟩ := hs s List.mem_cons_self
    have hp := ex_pre (ok := okI steps) (fr := frI steps) (most := 24) (W := W) m w s
    rw [forN_cons, lw_b1 N bx hn I hm h0 h1, bq, lw_fold hn ss _ (fun s' h => hs s' (List.mem_cons_of_mem _ h)) (ex_inv I hm h3) (hp.subset hm) (Nat.le_trans h0 hp.length_le)]
    rfl
include N in
theorem lw_level (hPn : ∀ m, P m → m.length = n) (hP : ∀ m, P m → ∀ s ∈ rngN 0 steps.length, okI steps m s = true → P (frI steps m s)) (hI : ∀ k, WI 24 P s0 (WnI steps 24 s0 k)) (j l0 : Nat) : ∀ (es : List (NMk × List Int)) (i : Nat), l0 ≤ (WnI steps 24 s0 (j + i)).length → (∀ q e, es[q]? = some e → (WnI steps 24 s0 (j + i))[j + i + q]? = some e) →
    forN (n_law_b2 (bx, (nS, (n : Int), steps))) (es.map sw) (WnI steps 24 s0 (j + i), ((WnI steps 24 s0 (j + i)).drop l0).map sw) = some (WnI steps 24 s0 (j + i + es.length), ((WnI steps 24 s0 (j + i + es.length)).drop l0).map sw)
  | [], i, _, _ => rfl
  | e :: es, i, h0, hq => by
    have he := hq 0 e rfl
    have hm := List.mem_of_getElem? he
    have hg := (hI (j + i)).good _ hm
    have hx : WnI steps 24 s0 (j + i + 1) = (rngN 0 steps.length).foldl (ex (okI steps) (frI steps) 24 e.1 e.2) (WnI steps 24 s0 (j + i)) := by
      show Xp _ _ _ _ _ _ = _
      unfold Xp
      rw [Nat.add_zero] at he
      rw [he]
    have hp := wn_pre (ok := okI steps) (fr := frI steps) (idx := rngN 0 steps.length) (most := 24) (s0 := s0) (j + i) 1
    have hb : n_law_b2 (bx, (nS, (n : Int), steps)) (sw e) (WnI steps 24 s0 (j + i), ((WnI steps 24 s0 (j + i)).drop l0).map sw) = some (WnI steps 24 s0 (j + (i + 1)), ((WnI steps 24 s0 (j + (i + 1))).drop l0).map sw) := by
      simp only [n_law_b2]
      rw [rng0 (n := steps.length) (by have := N.few; omega), bq, lw_fold N bx (m := e.1) (w := e.2) (hPn _ hg) _ _ (fun s hs => ⟨hs, hP _ hg s hs⟩) (hI (j + i)) hm h0, bq, ← hx]
      rfl
    rw [List.map_cons, forN_cons, hb, bq, lw_level hPn hP hI j l0 es (i + 1) (Nat.le_trans h0 hp.length_le) (fun q e' h => by
      have := hq (q + 1) e' h
      have := pre_get hp this
      rw [show j + (i + 1) + q = j + i + (q + 1) by omega]
      exact this)]
    rw [List.length_cons, show j + (i + 1) + es.length = j + i + (es.length + 1) by omega]
include N in
theorem lw_turns (hPn : ∀ m, P m → m.length = n) (hP : ∀ m, P m → ∀ s ∈ rngN 0 steps.length, okI steps m s = true → P (frI steps m s)) (hI : ∀ k, WI 24 P s0 (WnI steps 24 s0 k)) (lv0 : List (List Int × NMk)) : ∀ (ts : List Int) (j : Nat), j ≤ (WnI steps 24 s0 j).length →
    ∃ j', forN (n_law_b4 (bx, (nS, (n : Int), steps)) lv0) ts (WnI steps 24 s0 j, ((WnI steps 24 s0 j).drop j).map sw) = some (WnI steps 24 s0 j', ((WnI steps 24 s0 j').drop j').map sw)
  | [], j, _ => ⟨j, rfl⟩
  | t :: ts, j, hj => by
    have h1 := lw_level N bx hPn hP hI j (WnI steps 24 s0 j).length ((WnI steps 24 s0 j).drop j) 0 (Nat.le_refl _) (fun q e h => by rw [List.getElem?_drop] at h; exact h)
    rw [Nat.add_zero, List.length_drop, show j + ((WnI steps 24 s0 j).length - j) = (WnI steps 24 s0 j).length by omega, List.drop_length] at h1
    have hb : n_law_b4 (bx, (nS, (n : Int), steps)) lv0 t (WnI steps 24 s0 j, ((WnI steps 24 s0 j).drop j).map sw) = some (WnI steps 24 s0 (WnI steps 24 s0 j).length, ((WnI steps 24 s0 (WnI steps 24 s0 j).length).drop (WnI steps 24 s0 j).length).map sw) := by
      simp only [n_law_b4]
      rw [lvq]
      have h1 : forN (n_law_b2 (bx, (nS, (n : Int), steps))) (((WnI steps 24 s0 j).drop j).map sw) (WnI steps 24 s0 j, []) = _ := h1
      rw [h1, bq, lvq]
    have hle : (WnI steps 24 s0 j).length ≤ (WnI steps 24 s0 (WnI steps 24 s0 j).length).length := by
      obtain ⟨d, hd⟩ := Nat.exists_eq_add_of_le hj
      have := (wn_pre (ok := okI steps) (fr := frI steps) (idx := rngN 0 steps.length) (most := 24) (s0 := s0) j d).length_le
      rw [← hd] at this; exact this
    obtain ⟨j', e⟩ := lw_turns hPn hP hI lv0 ts _ hle
    exact ⟨j', by rw [forN_cons, hb, bq, e]⟩
end
end P05


set_option Elab.async false
set_option linter.all false
set_option maxRecDepth 100000
set_option maxHeartbeats 1000000
/-! what is reached, with words -/
namespace P05
open PySem PySem.Spec PyProof.Rows L2 Z Y
section
variable {α : Type} [DecidableEq α] {ok : α → Int → Bool} {fr : α → Int → α} {idx : List Int} {most : Nat} {s0 : α}
theorem ex_full {W : Ws α} (h : W.length = most) (m : α) (w : List Int) (s : Int) : ex ok fr most m w W s = W := by
  unfold ex
  rw [if_neg]
  simp [h]
theorem exs_full {W : Ws α} (h : W.length = most) (m : α) (w : List Int) : ∀ ss : List Int, ss.foldl (ex ok fr most m w) W = W
  | [] => rfl
  | s :: ss => by rw [List.foldl_cons, ex_full h, exs_full h m w ss]
theorem wn_full {k : Nat} (h : (Wn ok fr idx most s0 k).length = most) : ∀ j, Wn ok fr idx most s0 (k + j) = Wn ok fr idx most s0 k
  | 0 => rfl
  | j + 1 => by
    have ih := wn_full h j
    rw [← Nat.add_assoc, Wn, ih]
    unfold Xp
    split
    · exact exs_full h _ _ _
    · rfl
end
section
variable {n : Nat} {steps : List NSp} (N : NetOk n steps) {most : Nat} {s0 : NMk} {P : NMk → Prop}
theorem has_in {W : Ws NMk} {x : NMk} : dHas W x = inB x (W.map (·.1)) := by
  rw [Bool.eq_iff_iff, dHas_iff, inB_eq, List.mem_map]
  constructor
  · rintro ⟨v, h⟩; exact ⟨_, h, rfl⟩
  · rintro ⟨⟨a, b⟩, h, rfl⟩; exact ⟨b, h⟩
theorem inn_ex (m : NMk) (w : List Int) : ∀ (ss : List Int) (W : Ws NMk), W.length ≤ most →
    (inn steps most m ss (W.map (·.1)) = .nx ((ss.foldl (ex (okI steps) (frI steps) most m w) W).map (·.1))) ∨
    (inn steps most m ss (W.map (·.1)) = .rt ((ss.foldl (ex (okI steps) (frI steps) most m w) W).map (·.1), false) ∧ (ss.foldl (ex (okI steps) (frI steps) most m w) W).length = most)
  | [], W, _ => .inl rfl
  | s :: ss, W, hl => by
    rw [List.foldl_cons]
    cases ho : okI steps m s with
    | false =>
      have e : ex (okI steps) (frI steps) most m w W s = W := by unfold ex; rw [ho]; rfl
      rw [e]
      simp only [inn, ho, Bool.false_eq_true, if_false]
      exact inn_ex m w ss W hl
    | true =>
      cases hi : inB (frI steps m s) (W.map (·.1)) with
      | true =>
        have e : ex (okI steps) (frI steps) most m w W s = W := by unfold ex; rw [ho, has_in, hi]; rfl
        rw [e]
        simp only [inn, ho, hi, if_true, Bool.not_true, Bool.false_eq_true, if_false]
        exact inn_ex m w ss W hl
      | false =>
        by_cases he : W.length = most
        · rw [ex_full he, exs_full he]
          refine .inr ⟨?_, he⟩
          simp only [inn, ho, hi, if_true, Bool.not_false, List.length_map, he, decide_true]
        · have hlt : W.length < most := by omega
          have e : ex (okI steps) (frI steps) most m w W s = W ++ [(frI steps m s, w ++ [s])] := by
            unfold ex; rw [ho, has_in, hi, decide_eq_true hlt]; rfl
          have hd : decide (((W.map (·.1)).length : Int) = (most : Int)) = false := decide_eq_false (by simp only [List.length_map]; omega)
          rw [e]
          simp only [inn, ho, hi, if_true, Bool.not_false, hd, Bool.false_eq_true, if_false]
          have := inn_ex m w ss (W ++ [(frI steps m s, w ++ [s])]) (by simp; omega)
          rw [List.map_append] at this
          exact this
include N in
theorem lpW (hm30 : most ≤ 30) (hs0 : s0.length = n) (h1 : 1 ≤ most) (c0 : Int) : ∀ (fuel k : Nat), k ≤ (WnI steps most s0 k).length → ∀ o,
    whileR (ρ := List NMk × Bool) (fun (s1' : (List (List Int)) × Int) => (some ((decide (s1'.2 < (List.length s1'.1 : Int)))))) (n_law_net_reach_b2 (nS, (n : Int), steps) (most : Int) c0) fuel ((WnI steps most s0 k).map (·.1), (k : Int)) = some o →
    ∃ K, (WnI steps most s0 K).length ≤ K ∧ (∀ s, o = .nx s → s.1 = (WnI steps most s0 K).map (·.1)) ∧ (∀ r, o = .rt r → r.1 = (WnI steps most s0 K).map (·.1))
  | 0, k, _, o, h => by simp [whileR] at h
  | fuel + 1, k, hk, o, h => by
    have hP : ∀ x : NMk, x.length = n → ∀ s ∈ rngN 0 steps.length, okI steps x s = true → (frI steps x s).length = n := fun x hx s hs _ => fr_len N hx hs
    have hI : ∀ k, WI most (fun x : NMk => x.length = n) s0 (WnI steps most s0 k) := wn_inv h1 hs0 hP
    by_cases he : (WnI steps most s0 k).length ≤ k
    · have hd : decide ((k : Int) < ((List.map (fun x => x.1) (WnI steps most s0 k)).length : Int)) = false := decide_eq_false (by rw [List.length_map]; omega)
      simp only [whileR, hd] at h
      cases h
      exact ⟨k, he, fun s h => by cases h; rfl, fun r h => nomatch h⟩
    · have hkl : k < (WnI steps most s0 k).length := by omega
      have hd : decide ((k : Int) < ((List.map (fun x => x.1) (WnI steps most s0 k)).length : Int)) = true := decide_eq_true (by rw [List.length_map]; omega)
      have hg : (WnI steps most s0 k)[k]? = some ((WnI steps most s0 k)[k].1, (WnI steps most s0 k)[k].2) := List.getElem?_eq_getElem hkl
      generalize (WnI steps most s0 k)[k].1 = m at hg
      generalize (WnI steps most s0 k)[k].2 = w at hg
      have hm : m.length = n := (hI k).good _ (List.mem_of_getElem? hg)
      have hgf : ((WnI steps most s0 k).map (·.1))[k]? = some m := by rw [List.getElem?_map, hg]; rfl
      have hl := (hI k).len
      have e1 := inn_law N hm30 hm (f0 := (WnI steps most s0 k).map (·.1)) (k := k) (rngN 0 steps.length) _ (fun s h => h) hgf (by rw [List.length_map]; exact hl)
      have hx : WnI steps most s0 (k + 1) = (rngN 0 steps.length).foldl (ex (okI steps) (frI steps) most m w) (WnI steps most s0 k) := by
        show Xp _ _ _ _ _ _ = _
        unfold Xp
        rw [hg]
      have E1 : n_law_net_reach_b2 (nS, (n : Int), steps) (most : Int) c0 ((WnI steps most s0 k).map (·.1), (k : Int)) = onR (fun r => some (.rt r)) (fun (found' : List NMk) => some (.nx (found', (k : Int) + 1))) (inn steps most m (rngN 0 steps.length) ((WnI steps most s0 k).map (·.1))) := by
        simp only [n_law_net_reach_b2]
        rw [rng0 (n := steps.length) (by have := N.few; omega), bq, e1, bq]
        rfl
      rcases inn_ex (steps := steps) (most := most) m w (rngN 0 steps.length) (WnI steps most s0 k) hl with e | ⟨e, hfull⟩
      · rw [e, onR_nx, ← hx] at E1
        simp only [whileR, hd, E1] at h
        have hp := (xp_pre (ok := okI steps) (fr := frI steps) (idx := rngN 0 steps.length) (most := most) (WnI steps most s0 k) k).length_le
        exact lpW hm30 hs0 h1 c0 fuel (k + 1) (Nat.le_trans (Nat.succ_le_of_lt hkl) hp) o h
      · rw [e, onR_rt, ← hx] at E1
        simp only [whileR, hd, E1] at h
        cases h
        have hfull' : (WnI steps most s0 (k + 1)).length = most := by rw [hx]; exact hfull
        have hwf : WnI steps most s0 (k + 1 + most) = WnI steps most s0 (k + 1) := wn_full hfull' most
        refine ⟨k + 1 + most, ?_, fun s h => (nomatch h), fun r h => ?_⟩
        · rw [hwf]; omega
        · cases h
          rw [hwf]
include N in
/-- what both tell is what the words tell -/
theorem reach_wn (hm30 : most ≤ 30) (hs0 : s0.length = n) (h1 : 1 ≤ most) : ∃ (r : List NMk × Bool) (K : Nat), n_law_net_reach (nS, (n : Int), steps) s0 (most : Int) = some r ∧ n_reached (nS, (n : Int), steps) s0 (most : Int) = some r ∧
    (r.2 = true → s0 ∈ r.1 ∧ ∀ x ∈ r.1, ∀ s ∈ rngN 0 steps.length, okI steps x s = true → frI steps x s ∈ r.1) ∧ (WnI steps most s0 K).length ≤ K ∧ r.1 = (WnI steps most s0 K).map (·.1) := by
  obtain ⟨r, e1, e2, _, _, h⟩ := reach_both N hm30 hs0 h1
  refine ⟨r, ?_⟩
  have e := e1
  simp only [n_law_net_reach] at e
  rw [lvq, lvq] at e
  have e : bnd (whileR (ρ := ((List (List Int)) × Bool)) (fun (s1' : (List (List Int)) × Int) => (some ((decide (s1'.2 < (List.length s1'.1 : Int)))))) (n_law_net_reach_b2 (nS, (n : Int), steps) (most : Int) 0) 1000 ((WnI steps most s0 0).map (·.1), ((0 : Nat) : Int))) (onR some fun (s1' : (List (List Int)) × Int) => some (s1'.1, true)) = some r := e
  generalize hw : whileR (ρ := ((List (List Int)) × Bool)) (fun (s1' : (List (List Int)) × Int) => (some ((decide (s1'.2 < (List.length s1'.1 : Int)))))) (n_law_net_reach_b2 (nS, (n : Int), steps) (most : Int) 0) 1000 ((WnI steps most s0 0).map (·.1), ((0 : Nat) : Int)) = o at e
  cases o with
  | none => cases e
  | some o =>
    obtain ⟨K, hK, q1, q2⟩ := lpW N hm30 hs0 h1 0 1000 0 (Nat.zero_le _) o hw
    refine ⟨K, e1, e2, h, hK, ?_⟩
    rw [bq] at e
    cases o with
    | nx s => cases e; exact q1 s rfl
    | rt r2 => cases e; exact q2 _ rfl
    | ct s => cases e
    | bk s => cases e
end
end P05


set_option Elab.async false
set_option linter.all false
set_option maxRecDepth 100000
set_option maxHeartbeats 1000000
/-! drawn nets (as in k15), numbers at places -/
namespace P08
open PySem PySem.Spec PyProof.Rows L2 Z Y
open P05 (WnI okI frI nS law_can_ok law_fired_ok fr_len reach_wn)
def NN (much : Int) (steps : List NSp) : Prop := ∀ st ∈ steps, (∀ x ∈ st.1, 0 ≤ x ∧ x ≤ much) ∧ ∀ x ∈ st.2, 0 ≤ x ∧ x ≤ much
theorem row_ok (much : Int) (h1 : 1 ≤ much) (h2 : much ≤ 100) (n : Nat) (hn : n ≤ 100) (b : Box) : ∃ (l : List Int) (b' : Box), lcS (fun t11' s12' => some (true, s12')) (fun (t11' : Int) (s12' : Box) => bnd (drawO s12' much) fun v13' => bnd (drawO v13'.2 (3 : Int)) fun v15' => bnd (mulO ((1 : Int) + v13'.1) (if (decide (v15'.1 = (0 : Int))) = true then (1 : Int) else 0)) fun a17' => some (a17', v15'.2)) (rngN 0 n) b = some (l, b') ∧ l.length = n ∧ ∀ x ∈ l, 0 ≤ x ∧ x ≤ much := by
  obtain ⟨l, b', e, hl, hp⟩ := lcS_inv (fun x : Int => 0 ≤ x ∧ x ≤ much) (t := fun t11' s12' => some (true, s12')) (e := fun (t11' : Int) (s12' : Box) => bnd (drawO s12' much) fun v13' => bnd (drawO v13'.2 (3 : Int)) fun v15' => bnd (mulO ((1 : Int) + v13'.1) (if (decide (v15'.1 = (0 : Int))) = true then (1 : Int) else 0)) fun a17' => some (a17', v15'.2)) (rngN 0 n) b (fun x hx s => by
    refine ⟨s, rfl, ?_⟩
    obtain ⟨v, v0, v1, ev⟩ := draw_some s (m := much) (by omega)
    obtain ⟨u, u0, u1, eu⟩ := draw_some (s.1, s.2 + 1) (m := 3) (by omega)
    rw [ev, bq]
    dsimp only
    rw [eu, bq]
    unfold mulO
    rw [if_pos (.inl ⟨by omega, by omega⟩), bq]
    refine ⟨_, _, rfl, ?_⟩
    split
    · rw [Int.mul_one]; omega
    · rw [Int.mul_zero]; omega)
  exact ⟨l, b', e, by simpa [rngN] using hl, hp⟩
theorem net_ok (box : Box) (most wide much : Int) (m1 : 1 ≤ most) (m2 : most ≤ 4) (w1 : 0 ≤ wide) (w2 : wide ≤ 4) (h1 : 1 ≤ much) (h2 : much ≤ 100) : ∃ (n : Nat) (steps : List NSp) (box' : Box), n_law_net box most wide much = some ((nS, (n : Int), steps), box') ∧ NetOk n steps ∧ NN much steps ∧ (n : Int) ≤ most ∧ (steps.length : Int) ≤ wide := by
  obtain ⟨r, r0, r1, e1⟩ := draw_some box (m := most) (by omega)
  obtain ⟨n, hn⟩ := Int.eq_ofNat_of_zero_le (show 0 ≤ 1 + r by omega)
  obtain ⟨w, w0, w1, e2⟩ := draw_some (box.1, box.2 + 1) (m := wide + 1) (by omega)
  have e3 := rngO_ok (lo := 0) (hi := w) (by omega) (by omega) (by omega) (by omega)
  have hlen : ((rngN 0 (w - 0).toNat).length : Int) ≤ wide := by simp [rngN]; omega
  obtain ⟨⟨bx, ss⟩, e, g1, g2⟩ := forN_inv (f := n_law_net_b1 much (n : Int)) (fun p (q : Box × List NSp) => q.2.length ≤ p.length ∧ ∀ st ∈ q.2, (st.1.length = n ∧ st.2.length = n) ∧ (∀ x ∈ st.1, 0 ≤ x ∧ x ≤ much) ∧ ∀ x ∈ st.2, 0 ≤ x ∧ x ≤ much) (rngN 0 (w - 0).toNat) [] ((box.1, box.2 + 1 + 1), []) ⟨by simp, by simp⟩ (by
    rintro p t q b he ⟨h1', h2'⟩
    have hp : (p.length : Int) + 1 ≤ 4 := by
      have := congrArg List.length he
      rw [List.nil_append, List.length_append, List.length_cons] at this; omega
    obtain ⟨l, b1, el, hl, pl⟩ := row_ok much h1 h2 n (by omega) b.1
    obtain ⟨l2, b2, el2, hl2, pl2⟩ := row_ok much h1 h2 n (by omega) b1
    simp only [n_law_net_b1]
    rw [rng0 (n := n) (by omega), bq, el, bq, lvq, bq, el2, bq, lvq, push_ok (by omega), bq]
    refine ⟨_, rfl, by simp; omega, fun st hst => ?_⟩
    rcases List.mem_append.mp hst with h | h
    · exact h2' st h
    · rw [List.mem_singleton.mp h]; exact ⟨⟨hl, hl2⟩, pl, pl2⟩)
  rw [List.nil_append] at g1
  have g1 : ss.length ≤ _ := g1
  refine ⟨n, ss, bx, ?_, ⟨by omega, by omega, by omega, fun st h => (g2 st h).1⟩, fun st h => (g2 st h).2, by omega, by omega⟩
  simp only [n_law_net]
  rw [e1, bq, lvq, lvq]
  dsimp only
  rw [e2, bq, e3, bq, hn, e, bq]
theorem marks_ok (box : Box) (n : Nat) (hn : n ≤ 100) (steps : List NSp) (most : Int) (h0 : 0 ≤ most) (h1 : most ≤ 1000) : ∃ (m : NMk) (box' : Box), n_law_marks box (nS, (n : Int), steps) most = some (m, box') ∧ m.length = n ∧ ∀ x ∈ m, 0 ≤ x ∧ x ≤ most := by
  simp only [n_law_marks]
  rw [rng0 (n := n) (by omega), bq]
  obtain ⟨l, b', e, hl, hp⟩ := lcS_inv (fun x : Int => 0 ≤ x ∧ x ≤ most) (t := fun t3' s4' => some (true, s4')) (e := fun (t3' : Int) (s4' : Box) => bnd (drawO s4' (most + (1 : Int))) fun v5' => some (v5'.1, v5'.2)) (rngN 0 n) box (fun x hx s => by
    refine ⟨s, rfl, ?_⟩
    obtain ⟨v, v0, v1, ev⟩ := draw_some s (m := most + 1) (by omega)
    rw [ev, bq]
    exact ⟨_, _, rfl, v0, by omega⟩)
  rw [e, bq]
  exact ⟨l, b', rfl, by simpa [rngN] using hl, hp⟩
theorem gd_mem {l : List Int} {n k : Nat} (hl : l.length = n) (hk : k < n) : l.getD k 0 ∈ l := by
  rw [gD 0 (by omega)]; exact List.getElem_mem _
theorem fr_gd {n : Nat} {m t g : List Int} (hm : m.length = n) (ht : t.length = n) (hg : g.length = n) {k : Nat} (hk : k < n) : (fireM m (t, g)).getD k 0 = m.getD k 0 - t.getD k 0 + g.getD k 0 := by
  have hf : k < (fireM m (t, g)).length := by rw [fire_len hm ht hg]; exact hk
  rw [gD 0 hf, gD 0 (by omega), gD 0 (by omega), gD 0 (by omega)]
  simp [fireM]
theorem can_gd {n : Nat} {m t g : List Int} (hm : m.length = n) (ht : t.length = n) : canM m (t, g) = true ↔ ∀ k < n, t.getD k 0 ≤ m.getD k 0 := by
  unfold canM
  rw [List.all_eq_true]
  constructor
  · intro h k hk
    have h1 : k < (List.zip m t).length := by simp; omega
    have := h _ (List.getElem_mem h1)
    simp only [List.getElem_zip, decide_eq_true_eq] at this
    rw [gD 0 (by omega), gD 0 (by omega)]
    exact this
  · intro h x hx
    obtain ⟨i, hi, rfl⟩ := List.mem_iff_getElem.mp hx
    simp only [List.length_zip] at hi
    have := h i (by omega)
    rw [gD 0 (by omega), gD 0 (by omega)] at this
    simpa using this
end P08


set_option Elab.async false
set_option linter.all false
set_option maxRecDepth 100000
set_option maxHeartbeats 1000000
/-! markings from which a goal is covered: found backward -/
namespace P08
open PySem PySem.Spec PyProof.Rows L2 Z Y
open P05 (WnI okI frI nS law_can_ok law_fired_ok fr_len reach_wn)
def cov (m o : NMk) : Bool := (List.zip m o).all fun x => decide (x.2 ≤ x.1)
theorem covers_ok (m o : NMk) : n_covers m o = some (cov m o) := by
  simp only [n_covers]
  rw [allO_all, bq]; rfl
def bk (st : NSp) (x : NMk) : NMk := (List.zip st.1 (List.zip x (List.zip st.1 st.2))).map fun t => if ((t.2.1 - t.2.2.2) + t.2.2.1) > t.1 then ((t.2.1 - t.2.2.2) + t.2.2.1) else t.1
section
variable {n : Nat}
theorem cov_gd {m o : NMk} (hm : m.length = n) (ho : o.length = n) : cov m o = true ↔ ∀ k < n, o.getD k 0 ≤ m.getD k 0 := can_gd (g := []) hm ho
theorem cov_refl (m : NMk) : cov m m = true := (cov_gd rfl rfl).mpr fun _ _ => Int.le_refl _
theorem cov_trans {a b c : NMk} (ha : a.length = n) (hb : b.length = n) (hc : c.length = n) (h1 : cov a b = true) (h2 : cov b c = true) : cov a c = true := by
  rw [cov_gd ha hc]
  rw [cov_gd ha hb] at h1
  rw [cov_gd hb hc] at h2
  intro k hk
  have := h1 k hk; have := h2 k hk; omega
theorem cov_anti {a b : NMk} (ha : a.length = n) (hb : b.length = n) (h1 : cov a b = true) (h2 : cov b a = true) : a = b := by
  rw [cov_gd ha hb] at h1
  rw [cov_gd hb ha] at h2
  refine List.ext_getElem (by omega) fun k hk hk2 => ?_
  have q1 := h1 k (by omega); have q2 := h2 k (by omega)
  rw [gD 0 hk, gD 0 hk2] at q1
  rw [gD 0 hk, gD 0 hk2] at q2
  omega
theorem bk_len {st : NSp} {x : NMk} (h1 : st.1.length = n) (h2 : st.2.length = n) (hx : x.length = n) : (bk st x).length = n := by simp [bk, h1, h2, hx]
theorem bk_gd {st : NSp} {x : NMk} (h1 : st.1.length = n) (h2 : st.2.length = n) (hx : x.length = n) {k : Nat} (hk : k < n) : (bk st x).getD k 0 = if ((x.getD k 0 - st.2.getD k 0) + st.1.getD k 0) > st.1.getD k 0 then ((x.getD k 0 - st.2.getD k 0) + st.1.getD k 0) else st.1.getD k 0 := by
  have hb : k < (bk st x).length := by rw [bk_len h1 h2 hx]; exact hk
  rw [gD 0 hb, gD 0 (by omega), gD 0 (by omega), gD 0 (by omega)]
  simp [bk]
variable {steps : List NSp} (N : NetOk n steps) {goal : NMk}
/-- from all that is not less one comes to where the goal is covered -/
def Cov (n : Nat) (steps : List NSp) (goal x : NMk) : Prop := ∀ R : List NMk, (∀ y ∈ R, ∀ s ∈ rngN 0 steps.length, okI steps y s = true → frI steps y s ∈ R) → ∀ m ∈ R, m.length = n → cov m x = true → ∃ y ∈ R, cov y goal = true
theorem cov_goal : Cov n steps goal goal := fun R _ m hm _ hc => ⟨m, hm, hc⟩
include N in
/-- one step back -/
theorem bk_up {s : Int} (hs : s ∈ rngN 0 steps.length) {m x : NMk} (hm : m.length = n) (hx : x.length = n) : cov m (bk (Y.stepI steps s) x) = true ↔ okI steps m s = true ∧ cov (frI steps m s) x = true := by
  obtain ⟨_, hst⟩ := stepI_at hs
  obtain ⟨l1, l2⟩ := N.len _ hst
  have hf : (frI steps m s).length = n := fr_len N hm hs
  have hg : ∀ k < n, (frI steps m s).getD k 0 = m.getD k 0 - (Y.stepI steps s).1.getD k 0 + (Y.stepI steps s).2.getD k 0 := fun k hk => fr_gd hm l1 l2 hk
  rw [cov_gd hm (bk_len l1 l2 hx), cov_gd hf hx, show okI steps m s = canM m ((Y.stepI steps s).1, (Y.stepI steps s).2) from rfl, can_gd hm l1]
  constructor
  · intro h
    refine ⟨fun k hk => ?_, fun k hk => ?_⟩
    · have := h k hk
      rw [bk_gd l1 l2 hx hk] at this
      split at this <;> omega
    · have := h k hk
      rw [bk_gd l1 l2 hx hk] at this
      have := hg k hk
      split at * <;> omega
  · rintro ⟨h1, h2⟩ k hk
    have := h1 k hk
    have := h2 k hk
    have := hg k hk
    rw [bk_gd l1 l2 hx hk]
    split <;> omega
theorem step_of {st : NSp} (h : st ∈ steps) : ∃ s ∈ rngN 0 steps.length, Y.stepI steps s = st := by
  obtain ⟨i, hi, rfl⟩ := List.mem_iff_getElem.mp h
  refine ⟨(i : Int), by rw [mem_rngN]; omega, ?_⟩
  unfold Y.stepI
  rw [Int.toNat_natCast, gD _ hi]
include N in
theorem cov_bk {st : NSp} (hst : st ∈ steps) {x : NMk} (hx : x.length = n) (hc : Cov n steps goal x) : Cov n steps goal (bk st x) := fun R hR m hm hml hcv => by
  obtain ⟨s, hs, rfl⟩ := step_of hst
  obtain ⟨q1, q2⟩ := (bk_up N hs hml hx).mp hcv
  exact hc R hR _ (hR m hm s hs q1) (fr_len N hml hs) q2
structure Inv0 (n : Nat) (steps : List NSp) (goal : NMk) (f : List NMk) : Prop where
  len : f.length ≤ 60
  sz : ∀ x ∈ f, x.length = n
  nd : f.Nodup
  cv : ∀ x ∈ f, Cov n steps goal x
  gl : goal ∈ f
include N in
theorem in_ok {x : NMk} (hx : x.length = n) {k : Nat} {f0 : List NMk} : ∀ (ss : List NSp) (f : List NMk), (∀ st ∈ ss, st ∈ steps) → Inv0 n steps goal f → f[k]? = some x →
    (∃ f', forR (ρ := Option (List NMk)) (n_back_to_cover_b1 (60 : Int) (f0, (k : Int))) ss f = some (.nx f') ∧ f <+: f' ∧ Inv0 n steps goal f' ∧ ∀ st ∈ ss, ∃ y ∈ f', cov (bk st x) y = true) ∨ forR (ρ := Option (List NMk)) (n_back_to_cover_b1 (60 : Int) (f0, (k : Int))) ss f = some (.rt none)
  | [], f, _, I, _ => .inl ⟨f, rfl, List.prefix_rfl, I, fun st h => nomatch h⟩
  | st :: ss, f, hs, I, hk => by
    have hst := hs st List.mem_cons_self
    obtain ⟨l1, l2⟩ := N.len _ hst
    have hb : n_back_to_cover_b1 (60 : Int) (f0, (k : Int)) st f = if (!(f.any fun y => cov (bk st x) y)) = true then (if decide ((f.length : Int) = 60) = true then some (.rt none) else bnd (pushO f (bk st x)) fun f' => some (.nx f')) else some (.nx f) := by
      simp only [n_back_to_cover_b1]
      rw [at_some hk, bq, lcO_all, bq, lvq]
      show bnd (anyO (fun _ => some true) (fun t8' => (bnd (n_covers (bk st x) t8') fun a9' => some (a9'))) f) _ = _
      rw [anyO_tt (eb := fun y => cov (bk st x) y) f (fun y _ => by rw [covers_ok, bq]), bq]
      rfl
    have go : ∀ f1, n_back_to_cover_b1 (60 : Int) (f0, (k : Int)) st f = some (.nx f1) → f <+: f1 → Inv0 n steps goal f1 → (∃ y ∈ f1, cov (bk st x) y = true) → (∃ f', forR (ρ := Option (List NMk)) (n_back_to_cover_b1 (60 : Int) (f0, (k : Int))) (st :: ss) f = some (.nx f') ∧ f <+: f' ∧ Inv0 n steps goal f' ∧ ∀ st' ∈ st :: ss, ∃ y ∈ f', cov (bk st' x) y = true) ∨ forR (ρ := Option (List NMk)) (n_back_to_cover_b1 (60 : Int) (f0, (k : Int))) (st :: ss) f = some (.rt none) := fun f1 e p1 I1 h1 => by
      rcases in_ok hx (f0 := f0) ss f1 (fun s h => hs s (List.mem_cons_of_mem _ h)) I1 (pre_get p1 hk) with ⟨f', e', p', I', h'⟩ | e'
      · refine .inl ⟨f', by simp only [forR, e]; exact e', p1.trans p', I', fun st' hst' => ?_⟩
        rcases List.mem_cons.mp hst' with rfl | hst'
        · obtain ⟨y, hy, hc⟩ := h1
          exact ⟨y, p'.subset hy, hc⟩
        · exact h' st' hst'
      · exact .inr (by simp only [forR, e]; exact e')
    cases ha : f.any fun y => cov (bk st x) y with
    | true =>
      rw [ha] at hb
      exact go f (by rw [hb]; rfl) List.prefix_rfl I (by simpa using ha)
    | false =>
      rw [ha] at hb
      simp only [Bool.not_false, if_true] at hb
      by_cases hl : (f.length : Int) = 60
      · rw [if_pos (decide_eq_true hl)] at hb
        exact .inr (by simp only [forR, hb])
      · rw [if_neg (by simpa using hl), push_ok (by have := I.len; omega), bq] at hb
        have hlen := I.len
        refine go _ hb (List.prefix_append _ _) ⟨by simp; omega, fun y hy => ?_, ?_, fun y hy => ?_, List.mem_append_left _ I.gl⟩ ⟨bk st x, by simp, cov_refl _⟩
        · rcases List.mem_append.mp hy with h | h
          · exact I.sz y h
          · rw [List.mem_singleton.mp h]; exact bk_len l1 l2 hx
        · rw [List.nodup_append]
          refine ⟨I.nd, by simp, fun a ha' b hb' e => ?_⟩
          rw [List.mem_singleton.mp hb'] at e
          rw [e] at ha'
          have := List.any_eq_false.mp ha _ ha'
          exact this (cov_refl _)
        · rcases List.mem_append.mp hy with h | h
          · exact I.cv y h
          · rw [List.mem_singleton.mp h]
            exact cov_bk N hst hx (I.cv x (List.mem_of_getElem? hk))
def Clo (steps : List NSp) (f : List NMk) (k : Nat) : Prop := ∀ i x, i < k → f[i]? = some x → ∀ st ∈ steps, ∃ y ∈ f, cov (bk st x) y = true
include N in
theorem loop_ok (c0 : Int) : ∀ (fuel : Nat) (f : List NMk) (k : Nat), k ≤ f.length → Inv0 n steps goal f → Clo steps f k → 61 ≤ fuel + k →
    (∃ F, whileR (ρ := Option (List NMk)) (fun (s1' : (List (List Int)) × Int) => (some ((decide (s1'.2 < (List.length s1'.1 : Int)))))) (n_back_to_cover_b2 (nS, (n : Int), steps) (60 : Int) c0) fuel (f, (k : Int)) = some (.nx (F, (F.length : Int))) ∧ Inv0 n steps goal F ∧ Clo steps F F.length) ∨
    whileR (ρ := Option (List NMk)) (fun (s1' : (List (List Int)) × Int) => (some ((decide (s1'.2 < (List.length s1'.1 : Int)))))) (n_back_to_cover_b2 (nS, (n : Int), steps) (60 : Int) c0) fuel (f, (k : Int)) = some (.rt none)
  | 0, f, k, h1, I, _, h => by have := I.len; omega
  | fuel + 1, f, k, h1, I, hc, h => by
    by_cases hk : k = f.length
    · subst hk
      have hd : decide ((f.length : Int) < (f.length : Int)) = false := decide_eq_false (by omega)
      exact .inl ⟨f, by simp only [whileR, hd], I, hc⟩
    · have hkl : k < f.length := by omega
      have hd : decide ((k : Int) < (f.length : Int)) = true := decide_eq_true (by omega)
      have hg : f[k]? = some f[k] := List.getElem?_eq_getElem hkl
      have hm : (f[k]).length = n := I.sz _ (List.getElem_mem hkl)
      rcases in_ok N hm (f0 := f) steps f (fun _ h => h) I hg with ⟨f', e, p, I', cl⟩ | e
      · have E : n_back_to_cover_b2 (nS, (n : Int), steps) (60 : Int) c0 (f, (k : Int)) = some (.nx (f', (k : Int) + 1)) := by
          simp only [n_back_to_cover_b2]
          rw [e, bq]
          rfl
        have hp := p.length_le
        have hc' : Clo steps f' (k + 1) := fun i x hi hx st hst => by
          by_cases hik : i < k
          · obtain ⟨y, hy, hcv⟩ := hc i x hik (pre_getr p hx (by omega)) st hst
            exact ⟨y, p.subset hy, hcv⟩
          · have : i = k := by omega
            subst this
            have := pre_getr p hx hkl
            rw [hg] at this; cases this
            exact cl st hst
        rcases loop_ok c0 fuel f' (k + 1) (by omega) I' hc' (by omega) with ⟨F, z1, z2⟩ | z1
        · exact .inl ⟨F, by simp only [whileR, hd, E]; exact z1, z2⟩
        · exact .inr (by simp only [whileR, hd, E]; exact z1)
      · have E : n_back_to_cover_b2 (nS, (n : Int), steps) (60 : Int) c0 (f, (k : Int)) = some (.rt none) := by
          simp only [n_back_to_cover_b2]
          rw [e, bq]
          rfl
        exact .inr (by simp only [whileR, hd, E])
/-- nothing less is found -/
def mnl (f : List NMk) (x : NMk) : Bool := !f.any fun o => !decide (o = x) && cov x o
def least (f : List NMk) : List NMk := (Et Ei).sort (f.filter (mnl f))
include N in
theorem back_ok (hg : goal.length = n) : n_back_to_cover (nS, (n : Int), steps) goal (60 : Int) = some none ∨ ∃ f, n_back_to_cover (nS, (n : Int), steps) goal (60 : Int) = some (some (least f)) ∧ Inv0 n steps goal f ∧ ∀ x ∈ f, ∀ st ∈ steps, ∃ y ∈ f, cov (bk st x) y = true := by
  have I0 : Inv0 n steps goal [goal] := ⟨by simp, by simpa using hg, by simp, fun x hx => by rw [List.mem_singleton.mp hx]; exact cov_goal, by simp⟩
  simp only [n_back_to_cover]
  rw [lvq, lvq]
  rcases loop_ok N (goal := goal) 0 1000 [goal] 0 (Nat.zero_le _) I0 (fun i x h => by omega) (by omega) with ⟨F, z1, z2, z3⟩ | z1
  · have z1 : whileR (ρ := Option (List NMk)) (fun (s1' : (List (List Int)) × Int) => (some ((decide (s1'.2 < (List.length s1'.1 : Int)))))) (n_back_to_cover_b2 (nS, (n : Int), steps) (60 : Int) 0) 1000 ([goal], 0) = some (.nx (F, (F.length : Int))) := z1
    refine .inr ⟨F, ?_, z2, fun x hx st hst => ?_⟩
    · rw [z1, bq, onR_nx, lcO_filter (tb := mnl F) F (fun x _ => by
        rw [anyO_tt (eb := fun o : NMk => !decide (o = x) && cov x o) F (fun o _ => by rw [covers_ok, bq, andO_some, bq]), bq]; rfl), bq]
      rfl
    · obtain ⟨i, hi⟩ := List.mem_iff_getElem?.mp hx
      exact z3 i x (List.getElem?_eq_some_iff.mp hi).1 hi st hst
  · have z1 : whileR (ρ := Option (List NMk)) (fun (s1' : (List (List Int)) × Int) => (some ((decide (s1'.2 < (List.length s1'.1 : Int)))))) (n_back_to_cover_b2 (nS, (n : Int), steps) (60 : Int) 0) 1000 ([goal], 0) = some (.rt none) := z1
    exact .inl (by rw [z1]; rfl)
/-- below each there is a least one -/
theorem least_below {f : List NMk} (sz : ∀ x ∈ f, x.length = n) : ∀ (k : Nat) (x : NMk), x ∈ f → (f.filter (cov x)).length ≤ k → ∃ r ∈ f, mnl f r = true ∧ cov x r = true
  | 0, x, hx, hk => by
    have := List.length_pos_of_mem (List.mem_filter.mpr ⟨hx, cov_refl x⟩)
    omega
  | k + 1, x, hx, hk => by
    cases hm : f.any fun o => !decide (o = x) && cov x o with
    | false => exact ⟨x, hx, by unfold mnl; rw [hm]; rfl, cov_refl x⟩
    | true =>
      obtain ⟨o, ho, hc⟩ := List.any_eq_true.mp hm
      simp only [Bool.and_eq_true, Bool.not_eq_true', decide_eq_false_iff_not] at hc
      have hlt : (f.filter (cov o)).length < (f.filter (cov x)).length := by
        have e : f.filter (cov o) = (f.filter (cov x)).filter (cov o) := by
          rw [List.filter_filter]
          refine List.filter_congr fun y hy => ?_
          cases h : cov o y with
          | false => rfl
          | true => rw [cov_trans (sz x hx) (sz o ho) (sz y hy) hc.2 h]; rfl
        rw [e]
        refine Classical.byContradiction fun hn => ?_
        have h1 := List.length_filter_le (cov o) (f.filter (cov x))
        have h2 : ((f.filter (cov x)).filter (cov o)).length = (f.filter (cov x)).length := by omega
        have h3 := List.length_filter_eq_length_iff.mp h2 x (List.mem_filter.mpr ⟨hx, cov_refl x⟩)
        exact hc.1 (cov_anti (sz o ho) (sz x hx) h3 hc.2)
      obtain ⟨r, hr, q1, q2⟩ := least_below sz k o ho (by omega)
      exact ⟨r, hr, q1, cov_trans (sz x hx) (sz o ho) (sz r hr) hc.2 q2⟩
end
end P08


set_option Elab.async false
set_option linter.all false
set_option maxRecDepth 100000
set_option maxHeartbeats 1000000
namespace P08
open PySem PySem.Spec PyProof.Rows L2 Z Y
open P05 (WnI okI frI nS law_can_ok law_fired_ok fr_len reach_wn)
theorem e_reach : n_law_net_reach = P05.n_law_net_reach := rfl
theorem len0 {α : Type} (l : List α) : decide ((l.length : Int) = 0) = l.isEmpty := by cases l <;> simp <;> omega
theorem pos_any {α : Type} (l : List α) (p : α → Bool) : decide ((0 : Int) < ((l.filter p).length : Int)) = l.any p := by
  rw [Bool.eq_iff_iff, decide_eq_true_eq, List.any_eq_true]
  constructor
  · intro h
    have : 0 < (l.filter p).length := by omega
    obtain ⟨x, hx⟩ := List.exists_mem_of_length_pos this
    exact ⟨x, (List.mem_filter.mp hx).1, (List.mem_filter.mp hx).2⟩
  · rintro ⟨x, hx, hp⟩
    have := List.length_pos_of_mem (List.mem_filter.mpr ⟨hx, hp⟩)
    omega
theorem zero_any {α : Type} (l : List α) (p : α → Bool) : decide (((l.filter p).length : Int) = 0) = !l.any p := by
  rw [← pos_any l p]
  by_cases h : ((l.filter p).length : Int) = 0
  · rw [decide_eq_true h, decide_eq_false (by omega)]; rfl
  · rw [decide_eq_false h, decide_eq_true (by omega)]; rfl
section
variable {n : Nat} {steps : List NSp} (N : NetOk n steps)
theorem under_ok (hn : n ≤ 4) {one two : NMk} (h1 : one.length = n) (h2 : two.length = n) : n_law_under one two = some (cov two one) := by
  simp only [n_law_under]
  rw [h1, rng0 (n := n) (by omega), bq, lcO_filter (tb := fun p => decide (two.getD p.toNat 0 < one.getD p.toNat 0)) (rngN 0 n) (fun p hp => by
    rw [at_gd h1 hp, bq, at_gd h2 hp, bq]), bq]
  rw [lawcan (g := []) h2 h1]
  rfl
theorem lawbk {st : NSp} {x : NMk} (h1 : st.1.length = n) (h2 : st.2.length = n) (hx : x.length = n) : (rngN 0 n).map (fun p => if ((x.getD p.toNat 0 - st.2.getD p.toNat 0) + st.1.getD p.toNat 0) > st.1.getD p.toNat 0 then ((x.getD p.toNat 0 - st.2.getD p.toNat 0) + st.1.getD p.toNat 0) else st.1.getD p.toNat 0) = bk st x := by
  refine List.ext_getElem (by simp [rngN, bk_len h1 h2 hx]) fun i hi hi2 => ?_
  have hin : i < n := by simpa [rngN] using hi
  have := bk_gd h1 h2 hx hin
  rw [gD 0 hi2] at this
  rw [this]
  simp only [rngN, List.getElem_map, List.getElem_range]
  rw [show (0 + (i : Int)).toNat = i by omega]
structure Rws (n : Nat) (steps : List NSp) (goal : NMk) (f rs : List NMk) : Prop where
  I : Inv0 n steps goal f
  sub : ∀ r ∈ rs, r ∈ f
  mn : ∀ r ∈ rs, ∀ y ∈ rs, y ≠ r → cov r y = false
  nd : rs.Nodup
  st : (Et Ei).sort rs = rs
  below : ∀ x ∈ f, ∃ r ∈ rs, cov x r = true
  cl : ∀ x ∈ f, ∀ st ∈ steps, ∃ y ∈ f, cov (bk st x) y = true
theorem rws_of {goal : NMk} {f : List NMk} (I : Inv0 n steps goal f) (cl : ∀ x ∈ f, ∀ st ∈ steps, ∃ y ∈ f, cov (bk st x) y = true) : Rws n steps goal f (least f) := by
  have hm : ∀ r, r ∈ least f ↔ r ∈ f ∧ mnl f r = true := fun r => by unfold least; rw [mem_sort, List.mem_filter]
  refine ⟨I, fun r hr => ((hm r).mp hr).1, fun r hr y hy hne => ?_, ?_, ?_, fun x hx => ?_, cl⟩
  · have h1 := ((hm r).mp hr).2
    unfold mnl at h1
    simp only [Bool.not_eq_true', List.any_eq_false, Bool.and_eq_true, decide_eq_false_iff_not, not_and] at h1
    have := h1 y ((hm y).mp hy).1 hne
    simpa using this
  · have hp : (least f).Perm (f.filter (mnl f)) := List.mergeSort_perm _ _
    exact hp.nodup_iff.mpr (I.nd.sublist List.filter_sublist)
  · exact sort_of_pair (sort_pair _ _)
  · obtain ⟨r, hr, q1, q2⟩ := least_below I.sz _ x hx (Nat.le_refl _)
    exact ⟨r, (hm r).mpr ⟨hr, q1⟩, q2⟩
variable {goal : NMk} {f rs : List NMk}
theorem Rws.len (W : Rws n steps goal f rs) : rs.length ≤ 60 := Nat.le_trans (len_sub W.nd W.sub) W.I.len
theorem Rws.sz (W : Rws n steps goal f rs) : ∀ r ∈ rs, r.length = n := fun r hr => W.I.sz r (W.sub r hr)
theorem lm_ok (hn : n ≤ 4) (W : Rws n steps goal f rs) : n_law_least_marks rs = some rs := by
  simp only [n_law_least_marks]
  rw [lcO_filter (tb := fun _ => true) rs (fun x hx => by
    rw [lcO_filter (tb := fun y => !decide (y = x) && cov x y) rs (fun y hy => by rw [under_ok hn (W.sz y hy) (W.sz x hx), bq, andO_some, bq]), bq, zero_any]
    congr 1
    rw [Bool.not_eq_true', List.any_eq_false]
    intro y hy h
    simp only [Bool.and_eq_true, Bool.not_eq_true', decide_eq_false_iff_not] at h
    rw [W.mn x hx y hy h.1] at h
    cases h.2), bq, flt]
  show bnd (some ((Et Ei).sort rs)) _ = _
  rw [bq, W.st]
theorem ln_ok (W : Rws n steps goal f rs) : lnT rs = some (rs.length : Int) := by
  have h := (nub_sub rs).mpr W.nd
  unfold lnT
  rw [h, if_pos (by have := W.len; omega)]
include N in
theorem cl_ok (W : Rws n steps goal f rs) : forR (ρ := Bool) (n_law_b2 (nS, (n : Int), steps) (some rs)) rs () = some (.nx ()) := by
  have hn := N.hi
  obtain ⟨u, e, _⟩ := forR_nx (f := n_law_b2 (nS, (n : Int), steps) (some rs)) (fun _ => True) rs () trivial (fun own ho _ _ => by
    obtain ⟨v, ev, _⟩ := forR_nx (f := n_law_b1 (nS, (n : Int), steps) (some rs) own) (fun _ => True) steps () trivial (fun st hst _ _ => by
      obtain ⟨l1, l2⟩ := N.len _ hst
      have hx := W.sz own ho
      refine ⟨(), ?_, trivial⟩
      simp only [n_law_b1]
      rw [rng0 (n := n) (by omega), bq, lcO_map (g := fun p => if ((own.getD p.toNat 0 - st.2.getD p.toNat 0) + st.1.getD p.toNat 0) > st.1.getD p.toNat 0 then ((own.getD p.toNat 0 - st.2.getD p.toNat 0) + st.1.getD p.toNat 0) else st.1.getD p.toNat 0) (rngN 0 n) (fun p hp => by
        rw [at_gd l1 hp, bq, at_gd hx hp, bq, at_gd l2 hp, bq, bq]), bq, lawbk l1 l2 hx, lvq, bq, lcO_filter (tb := fun r => cov (bk st own) r) rs (fun r hr => by rw [under_ok hn (W.sz r hr) (bk_len l1 l2 hx), bq]), bq, zero_any]
      obtain ⟨y, hy, hc⟩ := W.cl own (W.sub own ho) st hst
      obtain ⟨r, hr, hc2⟩ := W.below y hy
      have : (rs.any fun r => cov (bk st own) r) = true := List.any_eq_true.mpr ⟨r, hr, cov_trans (bk_len l1 l2 hx) (W.I.sz y hy) (W.sz r hr) hc hc2⟩
      rw [this]
      rfl)
    refine ⟨(), ?_, trivial⟩
    simp only [n_law_b2]
    rw [ev, bq]; rfl)
  exact e
end
theorem law_holds (box : Box) : n_law box = some true := by
  simp only [n_law]
  obtain ⟨n, steps, bx1, e1, N, nn, _, _⟩ := net_ok box 3 3 1 (by omega) (by omega) (by omega) (by omega) (by omega) (by omega)
  have hn := N.hi
  obtain ⟨marks, bx2, e2, hm, _⟩ := marks_ok bx1 n (by omega) steps 2 (by omega) (by omega)
  obtain ⟨goal, bx3, e3, hg, _⟩ := marks_ok bx2 n (by omega) steps 2 (by omega) (by omega)
  rw [e1, bq, lvq]
  dsimp only
  rw [e2, bq, lvq]
  dsimp only
  rw [e3, bq, lvq]
  rcases back_ok N hg with e4 | ⟨f, e4, I, cl⟩
  · have e5 : n_decide_cover (nS, (n : Int), steps) marks goal (60 : Int) = some (Sum.inl (("open" : String) : Str)) := by
      simp only [n_decide_cover]
      rw [e4, bq, lvq]
      rfl
    rw [e4, bq, lvq, e5, bq, lvq]
    rw [if_pos (show Option.isNone (none : Option (List NMk)) = true from rfl), same_self (show szD ((Ea (Ac (R1 Es) (A1 (Rc Es (R1 (Eo (Et (Et Ei)) rfl)))) rfl)).enc (Sum.inl (("open" : String) : Str))) = true from rfl), bq]
  · have W := rws_of I cl
    generalize least f = rs at e4 W
    have e5 : n_decide_cover (nS, (n : Int), steps) marks goal (60 : Int) = some (if (rs.any fun r => cov marks r) = true then (Sum.inl (("covered" : String) : Str)) else (Sum.inr ((("never" : String) : Str), some rs))) := by
      simp only [n_decide_cover]
      rw [e4, bq, lvq, if_neg (show ¬ Option.isNone (some rs) = true from by simp), bq, anyO_tt (eb := fun r => cov marks r) rs (fun r _ => by rw [covers_ok, bq]), bq]
    have hor : orO (!decide (rs = rs)) (bnd (some rs) fun a22' => bnd (lnT a22') fun a23' => bnd (some rs) fun a26' => some ((!decide (a23' = (List.length a26' : Int))))) = some false := by
      simp [ln_ok W, bnd_some, orO_f]
    have hgl : (rs.any fun r => cov goal r) = true := by
      obtain ⟨r, hr, hc⟩ := W.below goal W.I.gl
      exact List.any_eq_true.mpr ⟨r, hr, hc⟩
    rw [e4, bq, lvq, e5, bq, lvq, if_neg (show ¬ Option.isNone (some rs) = true from by simp), bq, bq, lm_ok hn W, bq, hor, bq, if_neg (by simp), bq,
      lcO_filter (tb := fun r => cov goal r) rs (fun r hr => by rw [under_ok hn (W.sz r hr) hg, bq]), bq, zero_any, hgl, if_neg (by simp), bq, cl_ok N W, bq, onR_nx, lvq, bq,
      lcO_filter (tb := fun r => cov marks r) rs (fun r hr => by rw [under_ok hn (W.sz r hr) hm, bq]), bq, pos_any]
    have hd : (bnd (if (rs.any fun r => cov marks r) = true then (lv (Sum.inl (("covered" : String) : Str)) fun (due : ((Str) ⊕ (Str × (Option (List (List Int)))))) => some due) else (some (Sum.inr ((("never" : String) : Str), some rs)))) : (((Str) ⊕ (Str × (Option (List (List Int))))) → Option Bool) → Option Bool) = (bnd (some (if (rs.any fun r => cov marks r) = true then (Sum.inl (("covered" : String) : Str)) else (Sum.inr ((("never" : String) : Str), some rs))))) := by
      cases rs.any fun r => cov marks r <;> rfl
    rw [hd, bq]
    have hs : sameO (Ea (Ac (R1 Es) (A1 (Rc Es (R1 (Eo (Et (Et Ei)) rfl)))) rfl)) (if (rs.any fun r => cov marks r) = true then (Sum.inl (("covered" : String) : Str)) else (Sum.inr ((("never" : String) : Str), some rs))) (if (rs.any fun r => cov marks r) = true then (Sum.inl (("covered" : String) : Str)) else (Sum.inr ((("never" : String) : Str), some rs))) = some true := by
      cases rs.any fun r => cov marks r with
      | true => exact same_self rfl
      | false =>
        exact same_self (show szD ((Er (Rc Es (R1 (Eo (Et (Et Ei)) rfl))) rfl).enc ((("never" : String) : Str), some rs)) = true from sz_R (by decide) (by
          simp only [szR_c, szR_1, sz_S, Bool.true_and]
          exact sz_O fun a ha => by
            cases ha
            exact sz_T _ (by have := W.len; omega) fun x hx => sz_T _ (by rw [W.sz x hx]; omega) fun _ _ => rfl))
    rw [hs, bq, if_neg (by simp), e_reach]
    obtain ⟨r, K, er1, er2, rc, hK, hrw⟩ := reach_wn N (most := 25) (by omega) hm (by omega)
    have er1 : P05.n_law_net_reach (nS, (n : Int), steps) marks (25 : Int) = some r := er1
    have hrn : ∀ x ∈ r.1, x.length = n := fun x hx => by
      rw [hrw] at hx
      obtain ⟨e, he, rfl⟩ := List.mem_map.mp hx
      have hI : ∀ k, WI 25 (fun x : NMk => x.length = n) marks (WnI steps 25 marks k) := wn_inv (by omega) hm fun x hx s hs _ => fr_len N hx hs
      exact (hI K).good _ he
    rw [er1, bq, lvq, lcO_filter (tb := fun x => cov x goal) r.1 (fun x hx => by rw [under_ok hn hg (hrn x hx), bq]), bq, lvq, pos_any]
    cases hc : rs.any fun r => cov marks r with
    | true =>
      have hdd : decide ((if true = true then (Sum.inl (("covered" : String) : Str)) else (Sum.inr ((("never" : String) : Str), some rs)) : (Str) ⊕ (Str × (Option (List (List Int))))) = Sum.inl (("covered" : String) : Str)) = true := decide_eq_true rfl
      rw [hdd, Bool.not_true, Bool.and_false, if_neg (by simp)]
      cases hw : r.2 with
      | false => rfl
      | true =>
        obtain ⟨q1, q2⟩ := rc hw
        obtain ⟨w, hwr, hcv⟩ := List.any_eq_true.mp hc
        obtain ⟨y, hy, hyc⟩ := W.I.cv w (W.sub w hwr) r.1 q2 marks q1 hm hcv
        have : (r.1.any fun x => cov x goal) = true := List.any_eq_true.mpr ⟨y, hy, hyc⟩
        rw [this]
        rfl
    | false =>
      have hdd : decide ((if false = true then (Sum.inl (("covered" : String) : Str)) else (Sum.inr ((("never" : String) : Str), some rs)) : (Str) ⊕ (Str × (Option (List (List Int))))) = Sum.inl (("covered" : String) : Str)) = false := decide_eq_false (by simp)
      have hseen : (r.1.any fun x => cov x goal) = false := by
        have hI : ∀ k, WI 25 (fun x : NMk => x.length = n ∧ ∀ w ∈ rs, cov x w = false) marks (WnI steps 25 marks k) := by
          refine wn_inv (by omega) ⟨hm, fun w hw => ?_⟩ fun x hx s hs ho => ⟨fr_len N hx.1 hs, fun w hw => ?_⟩
          · have := List.any_eq_false.mp hc w hw
            simpa using this
          · cases h : cov (frI steps x s) w with
            | false => rfl
            | true =>
              have hwn := W.sz w hw
              have hb := (bk_up N hs hx.1 hwn).mpr ⟨ho, h⟩
              obtain ⟨_, hst⟩ := stepI_at hs
              obtain ⟨l1, l2⟩ := N.len _ hst
              obtain ⟨y, hy, hc1⟩ := W.cl w (W.sub w hw) _ hst
              obtain ⟨w2, hw2, hc2⟩ := W.below y hy
              have hbn := bk_len l1 l2 hwn
              have := cov_trans hx.1 (W.I.sz y hy) (W.sz w2 hw2) (cov_trans hx.1 hbn (W.I.sz y hy) hb hc1) hc2
              rw [hx.2 w2 hw2] at this
              cases this
        rw [List.any_eq_false]
        intro x hx h
        have hx' := hx
        rw [hrw] at hx'
        obtain ⟨e, he, rfl⟩ := List.mem_map.mp hx'
        have hgd := (hI K).good _ he
        obtain ⟨w, hw, hcw⟩ := W.below goal W.I.gl
        have := cov_trans hgd.1 hg (W.sz w hw) h hcw
        rw [hgd.2 w hw] at this
        cases this
      rw [hdd, hseen]
      simp
end P08


set_option Elab.async false
set_option linter.all false
set_option maxRecDepth 100000
set_option maxHeartbeats 20000000
set_option synthInstance.maxHeartbeats 400000
set_option synthInstance.maxSize 4000
open PySem PySem.W PySem.Calls PyProof.Rows
theorem PySem.Challenge.cw_tracehouse_k08_marks_that_are_covered_holds : PySem.Challenge.rw_tracehouse_k08_marks_that_are_covered.Holds := by
  w_on; o_law
  refine HandSHeadRun.head_any (r := OpenLaw.row PySem.Challenge.rw_tracehouse_k08_marks_that_are_covered) (q := view (OpenLaw.row PySem.Challenge.rw_tracehouse_k08_marks_that_are_covered).prog [17]) (H := P08.hk) (ob := P08.ob) (M := 1600) (loose := P08.names) (d := HandSHeadRun.topDef (OpenLaw.row PySem.Challenge.rw_tracehouse_k08_marks_that_are_covered).prog 17) (kwd := []) P08.ob_eq
    (by kernel_rfl) (fun s => by kernel_rfl) P08.run (by kernel_rfl) (by kernel_rfl) (by kernel_rfl) (by rfl) (by first | assumption | decide +kernel) (by decide +kernel) ⟨rfl, rfl, rfl, rfl, rfl, by decide +kernel⟩ ?hw ?hc
  case hw => w_witness2
  case hc =>
    refine LamX.walk_ofTsE (l := PySem.Challenge.rw_tracehouse_k08_marks_that_are_covered) (n := 63) (k := 9) (x := "script") (CX := fun _ => L2.CX0) rfl (by decide) (by kernel_rfl) ⟨rfl, by decide, by decide⟩ ?F (fun _ _ _ _ _ z => z)
    intro w mg fa h Y G hmg0
    obtain ⟨K, KX, c⟩ := Y
    have hmg : mg ("law" : PySem.Str) = some (.ref fa) := by
      have e : (HandSHeadRun.topDef (OpenLaw.row PySem.Challenge.rw_tracehouse_k08_marks_that_are_covered).prog 17).name = ("law" : PySem.Str) := by kernel_rfl
      rw [← e]
      exact hmg0
    exact ⟨K, KX, P08.facts KX G hmg c (fun ns c hc _ _ => P08.law_true P08.law_holds ns c hc)⟩


