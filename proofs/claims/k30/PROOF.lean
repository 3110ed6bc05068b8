import PyProof.Rows.All
import KE.SortData
import KE.SortKeyHeap
import HandS.ForMost
import HandS.Flow
import HandS.Wide
import HandS.Conv
import HandS.TupAny
import HandS.TupMul
import HandS.IsInst
import HandS.Deep
import KE.KNestM
import KE.KeyNested
import KE.KDictKeyed
import HandS.TupLe
import KE.DataEq
import KE.DataCmp
import KE.DataMinMax
import KE.DataIsa
import HandS.GenList
import HandS.AnyAll
import PyProof.TupleOfGen
import PyProof.JoinWalk
import PyProof.SumAny
import HandS.SetKeys
import HandS.SetFor
import HandS.HeadHook1
import HandS.HeadHook2
import HandS.HeadHook3
import HandS.HeadHook4
import HandS.HeadWalk
import HandS.Head0
import HandS.Head1
import HandS.Head2
import HandS.HeadEnd
import KE.GoesNew
import KE.GoesMore
import HandS.TupSets
import KE.KLam
import HandS.SortKw
import PyProof.Rows.SumAny
import HandS.Nested
import KE.DataFind
import KE.KDictDisplayH
import HandS.TupLen
import KE.KDictSum
import KE.KDictWalk
import HandS.Iter
import HandS.Text
import PyProof.Rows.ReprOcc
import HandS.Replace
import PyProof.Rows.StrJoin2
import PySem.Challenge.RW_tracehouse_k30_prefixes_and_rests
set_option Elab.async false
set_option linter.all false
set_option maxRecDepth 100000
/-! sorting tuples some of which are empty -/
namespace PySem.SeqAt
open PySem PyProof.Rows
section
variable {A : Around} {s : Shared}
theorem call_tup_lt {prog : Program} {w : World} {E : Value → Shared → Prop} {Q : Value → Shared → Prop} {l b : Addr} {items items2 : Array Value} {e r : Nat → Bool} (hl : s.heap.IsTuple l items) (hb : s.heap.IsTuple b items2)
    (he : ∀ j (h1 : j < items.size) (h2 : j < items2.size), EqAt A.in1 s items[j] items2[j] (e j)) (hr : ∀ j (h1 : j < items.size) (h2 : j < items2.size), e j = false → RcLt A.in1 s items[j] items2[j] (r j))
    (h : Q (.bool (firstLt e r (decide (items.size < items2.size)) (List.range (min items.size items2.size)))) s) : wpAny (model prog w) A (call (.builtin "tuple.__lt__") [.ref l, .ref b]) Q E s := by
  obtain ⟨⟨c1, dd, x1, sl⟩, ho, hc, n, hd⟩ := id hl
  obtain ⟨⟨c2, dd2, x2, sl2⟩, ho2, hc2, n2, hd2⟩ := id hb
  simp only at hc hd hc2 hd2
  subst hc hd hc2 hd2
  exact call_meets F.slot_tuple_lt ⟨_, ho, rfl⟩ F.entry_tuple_lt (F.args_tuple_lt_2 _ _) (tuple_ltAt l b items items2 n n2 dd dd2 sl sl2 e r) ⟨ho, ho2, he, hr, h⟩
end
end PySem.SeqAt
namespace PySem.W
open PySem PySem.Calls PyProof.Rows PySem.SeqAt
section
variable {prog : Program} {w : World} {A : Around} {E : Value → Shared → Prop} {s : Shared}
theorem oneLt_tup {xs ys : List PyData} {a b : Value} {as bs : List Addr} {Q : Bool → Shared → Prop} (ra : Reads s.heap a (.tuple xs) as) (rb : Reads s.heap b (.tuple ys) bs) (h : alike (.tuple xs) (.tuple ys) = true)
    (hu : A.units + min (PyData.tuple xs).depth (PyData.tuple ys).depth < cLine) (hq : Q (dataLt (.tuple xs) (.tuple ys)) s) : wpAny (model prog w) A (oneLt' true a b) Q E s := by
  have hal : alikeAll xs ys = true := by simpa [alike] using h
  cases ra with
  | @tuple l o vs n _ _ h1 h2 h3 h4 =>
    cases rb with
    | @tuple l' o' vs' n' _ _ k1 k2 k3 k4 =>
      have n1 : vs.size = xs.length := by simpa using ReadsAll.length _ _ _ h4
      have n2 : vs'.size = ys.length := by simpa using ReadsAll.length _ _ _ k4
      rw [dataLt_tuple, ← firstLt_toks xs ys hal, ← n1, ← n2] at hq
      rw [oneLt'_eq]
      simp only [if_true]
      refine wpAny_bind (wpAny_cRoomFor (room_here hu) ?_)
      refine wpAny_bind (wpAny_callSpecialIfBound?_slot (T := "tuple") ⟨_, h1, h2⟩ F.slot_tuple_lt (call_tup_lt (e := pairEq xs ys) (r := fun j => dataLt (xs.getD j .none) (ys.getD j .none)) ⟨_, h1, h2, _, h3⟩ ⟨_, k1, k2, _, k3⟩ (fun j j1 j2 => ?_) (fun j j1 j2 hj => ?_) ?_))
      · have := eqAt_alikeAll xs ys A.in1 s vs.toList vs'.toList _ _ h4 k4 hal (room_in hu) j (by simpa using j1) (by simpa using j2)
        simpa using this
      · have := rcLt_alikeAll xs ys A.in1 s vs.toList vs'.toList _ _ h4 k4 hal (room_in hu) j (by simpa using j1) (by simpa using j2) hj
        simpa using this
      · exact wpAny_truthy_bool hq
def neT : PyData → Bool
  | .tuple [] => false
  | _ => true
theorem firsts_mixed : ∀ (vs : List Value) (ds : List PyData) {Q : List (Option Value) → Shared → Prop}, EachIs (fun v d => ∃ as, Reads s.heap v d as) vs ds → (∀ d ∈ ds, ∃ xs, d = .tuple xs) → (∀ fs : List (Option Value), fs.map Option.isSome = ds.map neT → Q fs s) →
    wpAny (model prog w) A (vs.mapM firstOfTuple') Q E s
  | _, _, Q, .nil, _, h => by rw [List.mapM_nil]; exact wpAny_pure (h [] rfl)
  | v :: vs, d :: ds, Q, .cons ⟨as, r⟩ t, ht, h => by
    obtain ⟨xs, rfl⟩ := ht d List.mem_cons_self
    cases r with
    | @tuple a o ys n _ _ h1 h2 h3 h4 =>
      rw [List.mapM_cons]
      refine wpAny_bind ?_
      rw [kas_first_eq]
      refine wpAny_bind (Looks.here (show Looks (model prog w) s.heap (typeOf (.ref a)) o.cls from (Looks.ld h1).andThen .now) ?_)
      rw [h2, if_neg (by first | decide | simp)]
      refine wpAny_bind (listItems_at h1 h3 (wpAny_pure ?_))
      refine wpAny_bind (firsts_mixed vs ds (Q := fun bs s' => wpAny (model prog w) A (pure (ys[0]? :: bs)) Q E s') t (fun d hd => ht d (List.mem_cons_of_mem _ hd)) fun fs hfs => wpAny_pure (h _ ?_))
      rw [List.map_cons, List.map_cons, hfs]
      congr 1
      have n1 : ys.size = xs.length := by simpa using ReadsAll.length _ _ _ h4
      cases xs with
      | nil =>
        have : ys[0]? = none := Array.getElem?_eq_none (by rw [n1]; simp)
        rw [this]; rfl
      | cons x xs =>
        have hz : 0 < ys.size := by rw [n1]; simp
        rw [Array.getElem?_eq_getElem hz]; rfl
/-- tuples, one of them empty, can be sorted -/
theorem SortsAt.mixed {vs : List Value} {ds : List PyData} (e : EachIs (fun v d => ∃ as, Reads s.heap v d as) vs ds) (hal : AllAlike ds) (ht : ∀ d ∈ ds, ∃ xs, d = .tuple xs) (he : PyData.tuple [] ∈ ds) (hu : ∀ d, d ∈ ds → A.units + d.depth < cLine) : SortsAt prog w A s (dataKind s.heap ds) vs := by
  have room : ∀ {d d' : PyData}, d ∈ ds → A.units + min d.depth d'.depth < cLine := fun {d d'} hd => Nat.lt_of_le_of_lt (Nat.add_le_add_left (Nat.min_le_left _ _) _) (hu d hd)
  refine ⟨fun v hv => ?_, ?_⟩
  · obtain ⟨d, hd, as, r⟩ := e.left v hv
    exact ⟨_, dataKind_some hal hd r⟩
  cases ds with
  | nil => cases he
  | cons d0 ds0 =>
    cases e with
    | @cons v0 _ vs0 _ e0 et =>
    have e : EachIs (fun v d => ∃ as, Reads s.heap v d as) (v0 :: vs0) (d0 :: ds0) := .cons e0 et
    have hno : ∀ (fs : List (Option Value)), fs.map Option.isSome = (d0 :: ds0).map neT → ¬ (fs.toArray.all fun x => x.isSome) = true := fun fs hfs h => by
      rw [List.all_toArray] at h
      have h2 : (fs.map Option.isSome).all id = true := by rw [List.all_map]; exact h
      rw [hfs, List.all_map, List.all_eq_true] at h2
      have := h2 _ he
      simp [neT] at this
    have h0 : ∀ (fs : List (Option Value)), fs.map Option.isSome = (d0 :: ds0).map neT → (fs.toArray[0]?.bind id).isSome = neT d0 := fun fs hfs => by
      cases fs with
      | nil => simp at hfs
      | cons f fs =>
        simp only [List.map_cons, List.cons.injEq] at hfs
        rw [← hfs.1]; simp
    cases hn : neT d0 with
    | true =>
      refine ⟨general', fun E x y a b Q ha hb hq => ?_, fun h2 E Q hq => ?_⟩
      · obtain ⟨d, as, hd, ra, rfl⟩ := dataKind_inv ha
        obtain ⟨d', as', hd', rb, rfl⟩ := dataKind_inv hb
        have hd3 : d ≠ .none := fun z => by obtain ⟨xs, ex⟩ := ht d hd; rw [ex] at z; cases z
        show wpAny (model prog w) A (oneLt' false x y) Q E s
        exact oneLt_alike (fun z => nomatch z) ra rb (hal d hd d' hd') hd3 (room hd) hq
      · rw [kat_kind_eq, List.mapM_toArray, map_eq_pure_bind]
        refine wpAny_bind (wpAny_bind (firsts_mixed _ _ e ht fun fs hfs => wpAny_pure ?_))
        rw [if_neg (hno fs hfs), if_pos (by rw [h0 fs hfs, hn])]
        exact wpAny_pure hq
    | false =>
      refine ⟨oneType', fun E x y a b Q ha hb hq => ?_, fun h2 E Q hq => ?_⟩
      · obtain ⟨d, as, hd, ra, rfl⟩ := dataKind_inv ha
        obtain ⟨d', as', hd', rb, rfl⟩ := dataKind_inv hb
        obtain ⟨xs, rfl⟩ := ht d hd
        obtain ⟨ys, rfl⟩ := ht d' hd'
        show wpAny (model prog w) A (oneLt' true x y) Q E s
        exact oneLt_tup ra rb (hal _ hd _ hd') (room hd) hq
      · rw [kat_kind_eq, List.mapM_toArray, map_eq_pure_bind]
        refine wpAny_bind (wpAny_bind (firsts_mixed _ _ e ht fun fs hfs => wpAny_pure ?_))
        rw [if_neg (hno fs hfs), if_neg (by rw [h0 fs hfs, hn]; decide)]
        rw [oneTypeOnly'_eq, List.mapM_toArray, map_eq_pure_bind]
        refine wpAny_bind (wpAny_bind (wpAny_bind (kas_mapM (r := Value.type "tuple") _ (fun v hv Q' hq' => ?_) (wpAny_pure ?_))))
        · obtain ⟨d, hd, as, r⟩ := e.left v hv
          obtain ⟨xs, rfl⟩ := ht d hd
          exact (looks_reads (M := model prog w) r).here hq'
        · have hall : ((List.map (fun _ => Value.type "tuple") (v0 :: vs0)).toArray.all fun x => x == Value.type "tuple") = true := by
            simp only [List.all_toArray, List.all_map, List.all_eq_true]
            intro _ _
            exact beq_self_eq_true _
          have h01 : (List.map (fun _ => Value.type "tuple") (v0 :: vs0)).toArray[0]? = some (Value.type "tuple") := by simp
          rw [h01]
          simp only [hall, if_true]
          exact wpAny_pure (wpAny_pure hq)
end
/-- tuples of any length, or none is a tuple or None -/
def SortableM (ds : List PyData) : Prop := Sortable ds ∨ ((∀ d ∈ ds, ∃ xs, d = .tuple xs) ∧ PyData.tuple [] ∈ ds)
theorem SortsAt.any {prog : Program} {w : World} {A : Around} {s : Shared} {vs : List Value} {ds : List PyData} (e : EachIs (fun v d => ∃ as, Reads s.heap v d as) vs ds) (hal : AllAlike ds) (hk : SortableM ds) (hu : ∀ d, d ∈ ds → A.units + d.depth < cLine) : SortsAt prog w A s (dataKind s.heap ds) vs := by
  rcases hk with hk | ⟨h1, h2⟩
  · exact SortsAt.data e hal hk hu
  · exact SortsAt.mixed e hal h1 h2 hu
section
variable {prog : Program} {w : World} {A : Around} {E : Value → Shared → Prop} {s : Shared} {β : Type} {vs : List Value} {bs : List β} {enc : β → PyData} {R : Value → β → Prop}
theorem list_sort_dataM {a : Addr} {n : Nat} {Q : Value → Shared → Prop} (ho : s.heap.get? a = some (seqObj "list" vs.toArray n)) (e : EachIs R vs bs) (er : EachIs (fun v b => ∃ as, Reads s.heap v (enc b) as ∧ a ∉ as) vs bs) (hal : AllAlike (bs.map enc)) (hk : SortableM (bs.map enc)) (hL : bs.length ≤ sizeLine)
    (hu : ∀ b, b ∈ bs → A.units + 1 + (enc b).depth < cLine) (h : ∀ out, out.length = bs.length → EachIs R out (bs.mergeSort (dataLe false enc)) → Q .none { s with heap := sortedHeap s.heap a vs (List.toArray out) }) :
    wpAny (model prog w) A (call (.builtin "list.sort") [.ref a]) Q E s := by
  have er2 := each_keepBut (h' := sortingHeap s.heap a vs) (fun _ _ hb q => sortingHeap_old hb q) (fun o q => by rw [ho] at q; rw [← Option.some.inj q]) hal er
  have S := SortsAt.any (prog := prog) (w := w) (A := A.in1) (s := { s with heap := sortingHeap s.heap a vs }) (each_map (R := fun v d => ∃ as, Reads (sortingHeap s.heap a vs) v d as) enc er2) hal hk (bound_map (A := A.in1) hu)
  refine wpAny_call_entry slot_list_sort ⟨_, ho, rfl⟩ entry_list_sort (list_sort_vals ho S (by rw [e.length]; exact hL) ⟨.none, rfl, ?_⟩) (args_list_sort _)
  exact h _ (by rw [sortVals_length false rfl]; exact e.length) (sortVals_data false e er2 hal)
end
end PySem.W


set_option Elab.async false
set_option linter.all false
set_option maxRecDepth 100000
/-! the data of the walk: values without a heap, and what they stand for -/
namespace Z
open PySem PySem.Spec PyProof.Rows L2

inductive D where
  | non | bl (b : Bool) | int (i : Int) | str (x : Str)
  | tup (xs : List D) | lst (xs : List D) | frz (xs : List D)
  | dic (ks vs : List D) | obj (c : Str) (ns : List Str) (xs : List D)
  deriving Inhabited

mutual
def D.same : D → D → Bool
  | .non, .non => true
  | .bl a, .bl b => a == b
  | .int a, .int b => a == b
  | .str a, .str b => a == b
  | .tup a, .tup b => D.sames a b
  | .lst a, .lst b => D.sames a b
  | .frz a, .frz b => D.sames a b
  | .dic a b, .dic c d => D.sames a c && D.sames b d
  | .obj a b c, .obj a' b' c' => a == a' && b == b' && D.sames c c'
  | _, _ => false
def D.sames : List D → List D → Bool
  | [], [] => true
  | x :: xs, y :: ys => D.same x y && D.sames xs ys
  | _, _ => false
end
mutual
theorem D.same_eq : ∀ (a b : D), D.same a b = true → a = b
  | .non, b, h => by cases b <;> simp_all [D.same]
  | .bl _, b, h => by cases b <;> simp_all [D.same]
  | .int _, b, h => by cases b <;> simp_all [D.same]
  | .str _, b, h => by cases b <;> simp_all [D.same]
  | .tup x, b, h => by
    cases b <;> simp only [D.same, Bool.false_eq_true] at h
    rw [D.sames_eq _ _ h]
  | .lst x, b, h => by
    cases b <;> simp only [D.same, Bool.false_eq_true] at h
    rw [D.sames_eq _ _ h]
  | .frz x, b, h => by
    cases b <;> simp only [D.same, Bool.false_eq_true] at h
    rw [D.sames_eq _ _ h]
  | .dic x y, b, h => by
    cases b <;> simp only [D.same, Bool.false_eq_true, Bool.and_eq_true] at h
    rw [D.sames_eq _ _ h.1, D.sames_eq _ _ h.2]
  | .obj x y z, b, h => by
    cases b <;> simp only [D.same, Bool.false_eq_true, Bool.and_eq_true, beq_iff_eq] at h
    rw [D.sames_eq _ _ h.2, h.1.1, h.1.2]
theorem D.sames_eq : ∀ (a b : List D), D.sames a b = true → a = b
  | [], b, h => by cases b <;> simp_all [D.sames]
  | x :: xs, b, h => by
    cases b <;> simp only [D.sames, Bool.false_eq_true, Bool.and_eq_true] at h
    rw [D.same_eq _ _ h.1, D.sames_eq _ _ h.2]
end
mutual
theorem D.same_self : ∀ (a : D), D.same a a = true
  | .non => rfl
  | .bl _ => by simp [D.same]
  | .int _ => by simp [D.same]
  | .str _ => by simp [D.same]
  | .tup x => by simp only [D.same]; exact D.sames_self x
  | .lst x => by simp only [D.same]; exact D.sames_self x
  | .frz x => by simp only [D.same]; exact D.sames_self x
  | .dic x y => by simp only [D.same, Bool.and_eq_true]; exact ⟨D.sames_self x, D.sames_self y⟩
  | .obj x y z => by simp only [D.same, Bool.and_eq_true, beq_self_eq_true, true_and]; exact D.sames_self z
theorem D.sames_self : ∀ (a : List D), D.sames a a = true
  | [] => rfl
  | x :: xs => by simp only [D.sames, Bool.and_eq_true]; exact ⟨D.same_self x, D.sames_self xs⟩
end
instance : DecidableEq D := fun a b =>
  if h : D.same a b = true then isTrue (D.same_eq a b h) else isFalse fun e => h (by rw [e]; exact D.same_self b)

mutual
/-- nothing in it can be changed -/
def D.imm : D → Bool
  | .tup xs => D.imms xs
  | .lst _ => false
  | .dic _ _ => false
  | .obj _ _ _ => false
  | _ => true
def D.imms : List D → Bool
  | [] => true
  | x :: xs => D.imm x && D.imms xs
end
theorem D.imms_iff : ∀ (xs : List D), D.imms xs = true ↔ ∀ x ∈ xs, D.imm x = true
  | [] => by simp [D.imms]
  | x :: xs => by simp [D.imms, D.imms_iff xs]
/-- the fragment, the world -/
structure Fw where
  K : PySem.W.Frag
  w : World
instance : Coe Fw PySem.W.Frag := ⟨Fw.K⟩
abbrev _root_.L2.Cx.F (X : Cx) : Fw := ⟨X.K, X.w⟩
/-- a list that never changes any more -/
def FzAt (K : PySem.W.Frag) (H : Hp) (a : Addr) (xs : List V) : Prop :=
  (∃ o, H a = some (.frz o (.lst xs))) ∨
    ∃ (o : Obj) (its : Array Value) (n : Nat), K.lookup a = some o ∧ o.cls = .type "list" ∧ o.dict = none ∧ o.data = .seq its n ∧ its.size ≤ sizeLine ∧ Vals xs its.toList
theorem FzAt.sq {K : PySem.W.Frag} {H : Hp} {a : Addr} {xs : List V} (h : FzAt K H a xs) : SqL K H a xs := by
  rcases h with ⟨o, h⟩ | h
  · exact .inl (.inr ⟨o, h⟩)
  · exact .inr h

/-- the dict at a has these entries -/
def DicP (a : Addr) (es : Array DictEntry) : Heap → Prop := fun h => ∃ o ep, h.get? a = some o ∧ o.ExactDict ∧ o.data = .dict es ep
def IsDic (φ : Heap → Prop) : Prop := ∃ a es, φ = DicP a es ∧ ∃ h, φ h
theorem isDic_of {a : Addr} {es : Array DictEntry} {h : Heap} (x : DicP a es h) : IsDic (DicP a es) := ⟨a, es, rfl, h, x⟩
theorem notDic_hd {c P : Addr} : ¬ IsDic fun h => PySem.W.CodeHd h c P := by
  rintro ⟨a, es, e, h, x⟩
  have x' : DicP a es h := by rw [← e]; exact x
  obtain ⟨o, ep, ha, hx, hd⟩ := x'
  by_cases hac : @Eq Nat c a
  · have hac : c = a := hac
    subst hac
    obtain ⟨o2, vs, file, tf, flags, tg, inF, text, tt, e2, e3, _⟩ := x
    rw [ha] at e2
    cases e2
    rw [hx.1] at e3
    injection e3 with e3
    exact absurd e3 (by decide)
  · have g : ({ h with objs := h.objs.setIfInBounds a { cls := .none, data := .freed } } : Heap).get? a = none := by
      have hl := Heap.lt_size ha
      simp only [Heap.get?]
      rw [Array.getElem?_setIfInBounds_self_of_lt hl]
    have g2 : ({ h with objs := h.objs.setIfInBounds a { cls := .none, data := .freed } } : Heap).get? c = h.get? c := by
      simp only [Heap.get?]
      rw [Array.getElem?_setIfInBounds_ne (fun z => hac (by have z : @Eq Nat a c := z; exact z.symm))]
    obtain ⟨o2, vs, file, tf, flags, tg, inF, text, tt, e2, r⟩ := x
    have y : PySem.W.CodeHd ({ h with objs := h.objs.setIfInBounds a { cls := .none, data := .freed } } : Heap) c P := ⟨o2, vs, file, tf, flags, tg, inF, text, tt, g2.trans e2, r⟩
    have y' : DicP a es ({ h with objs := h.objs.setIfInBounds a { cls := .none, data := .freed } } : Heap) := by rw [← e]; exact y
    obtain ⟨_, _, e4, _⟩ := y'
    rw [g] at e4; cases e4
mutual
/-- a datum as a key -/
def dNK : D → NestedKey
  | .int i => .num i
  | .str x => .text x
  | .bl b => .num (if b = true then 1 else 0)
  | .tup xs => .tup (dNKs xs)
  | _ => .none
def dNKs : List D → List NestedKey
  | [] => []
  | x :: xs => dNK x :: dNKs xs
end
/-- the entries of a dict -/
def Ents (w : World) : List D → List V → List V → List DictEntry → Prop
  | [], [], [], [] => True
  | k :: ks, kv :: kvs, vv :: vvs, e :: es => e.hash = (dNK k).hash w ∧ RelV kv e.key ∧ RelV vv e.val ∧ Ents w ks kvs vvs es
  | _, _, _, _ => False
/-- a text as the model's data have it -/
def StrOk (x : Str) : Prop := x.length ≤ sizeLine ∧ PyData.strOk x = true
mutual
/-- v stands for the datum; the addresses that are its alone -/
def Rep (K : Fw) (H : Hp) : D → V → List Addr → Prop
  | .non, v, o => v = .non ∧ o = []
  | .bl b, v, o => v = .bl b ∧ o = []
  | .int i, v, o => v = .int i ∧ o = []
  | .str x, v, o => v = .str x ∧ StrOk x ∧ o = []
  | .tup xs, v, o => ∃ a vs, v = .ref a ∧ SqT K H a vs ∧ Reps K H xs vs o
  | .lst xs, v, o => ∃ a vs o', v = .ref a ∧ H a = some (.lst vs) ∧ Reps K H xs vs o' ∧ o = a :: o'
  | .frz xs, v, o => ∃ a vs, v = .ref a ∧ FzAt K H a vs ∧ Reps K H xs vs [] ∧ o = []
  | .dic ks vs, v, o => ∃ a kvs vvs es, v = .ref a ∧ H a = some (.ext (DicP a es)) ∧ IsDic (DicP a es) ∧ (a == sysModules) = false ∧ (ks.Nodup ∧ ks.length ≤ sizeLine) ∧ Reps K H ks kvs [] ∧ Reps K H vs vvs [] ∧ Ents K.w ks kvs vvs es.toList ∧ o = [a]
  | .obj _ _ _, _, _ => False
def Reps (K : Fw) (H : Hp) : List D → List V → List Addr → Prop
  | [], vs, o => vs = [] ∧ o = []
  | x :: xs, vs, o => ∃ v vr o1 o2, vs = v :: vr ∧ Rep K H x v o1 ∧ Reps K H xs vr o2 ∧ o = o1 ++ o2
end

/-- a code object's table: its codes are tracked, and so are their tables -/
inductive GoodT (H : Hp) : Addr → Prop
  | mk (P : Addr) (ps : Array Value) (cf pf : Pos → Addr) (e : H P = some (.tbl ps)) (t : TriplesOk ps.toList)
      (k : ∀ pos cv, codeAmong pos ps.toList = some cv → cv = .ref (cf pos) ∧ H (cf pos) = some (.ext fun h => PySem.W.CodeHd h (cf pos) (pf pos)))
      (g : ∀ pos cv, codeAmong pos ps.toList = some cv → GoodT H (pf pos)) : GoodT H P
theorem GoodT.mono {H H' : Hp} (k : ∀ a u, H a = some u → ((∃ ps, u = .tbl ps) ∨ ∃ φ, u = .ext φ ∧ ¬ IsDic φ) → H' a = some u) {P : Addr} (g : GoodT H P) : GoodT H' P := by
  induction g with
  | mk P ps cf pf e t kk _ ih => exact .mk P ps cf pf (k _ _ e (.inl ⟨_, rfl⟩)) t (fun pos cv h => ⟨(kk pos cv h).1, k _ _ (kk pos cv h).2 (.inr ⟨_, rfl, notDic_hd⟩)⟩) ih
/-- the fragment; the code object that runs -/
structure Kx where
  K : Fw
  cv : Value
abbrev kx (X : Cx) : Kx := ⟨X.F, X.env.code⟩
/-- the code object cv is one whose table is good -/
def CodeNow (K : PySem.W.Frag) (cv : Value) (H : Hp) : Prop := ∀ c, cv = .ref c → ∃ P, (PySem.W.codeHdIn K c P = true ∨ H c = some (.ext fun h => PySem.W.CodeHd h c P)) ∧ GoodT H P
/-- the tables of all code objects of the fragment, and of the one that runs -/
def Tabs (κ : Kx) (H : Hp) : Prop := (∀ c P, PySem.W.codeHdIn κ.K c P = true → GoodT H P) ∧ CodeNow κ.K κ.cv H
def Nt (u : HO) : Prop := ∀ ps, u ≠ .tbl ps
/-- what is shared never changes -/
def Sh : HO → Prop
  | .tup _ => True
  | .frz _ _ => True
  | .ext φ => ¬ IsDic φ
  | _ => False
/-- what one may own -/
def Ow (u : HO) : Prop := ¬ Sh u ∧ Nt u
theorem ow_lst {vs : List V} : Ow (.lst vs) := ⟨fun z => z, fun _ z => nomatch z⟩
theorem ow_dic {φ : Heap → Prop} (h : IsDic φ) : Ow (.ext φ) := ⟨fun z => z h, fun _ z => nomatch z⟩
/-- from H to H' what stands at o and what is shared is kept -/
structure Fr (H H' : Hp) (o : List Addr) : Prop where
  left : ∀ a ∈ o, H' a = H a
  right : ∀ a u, H a = some u → Sh u → H' a = some u
  tab : ∀ P, GoodT H P → GoodT H' P
theorem Fr.sub {H H' : Hp} {o o' : List Addr} (h : Fr H H' o) (s : ∀ a ∈ o', a ∈ o) : Fr H H' o' := ⟨fun a ha => h.left a (s a ha), h.right, h.tab⟩
theorem Fr.rfl {H : Hp} {o : List Addr} : Fr H H o := ⟨fun _ _ => Eq.refl _, fun _ _ e _ => e, fun _ g => g⟩
/-- as much of it as a value needs -/
structure Fr0 (H H' : Hp) (o : List Addr) : Prop where
  left : ∀ a ∈ o, H' a = H a
  right : ∀ a u, H a = some u → Sh u → H' a = some u
theorem Fr0.sub {H H' : Hp} {o o' : List Addr} (h : Fr0 H H' o) (s : ∀ a ∈ o', a ∈ o) : Fr0 H H' o' := ⟨fun a ha => h.left a (s a ha), h.right⟩
theorem Fr.f0 {H H' : Hp} {o : List Addr} (h : Fr H H' o) : Fr0 H H' o := ⟨h.left, h.right⟩
instance {H H' : Hp} {o : List Addr} : Coe (Fr H H' o) (Fr0 H H' o) := ⟨Fr.f0⟩
theorem Sh.nt {u : HO} (h : Sh u) : Nt u := fun ps e => by rw [e] at h; exact h
section
variable {K : Fw} {κ : Kx} {H H' : Hp}
theorem Fr0.sqt {o : List Addr} {a : Addr} {vs : List V} (h : Fr0 H H' o) (q : SqT K H a vs) : SqT K H' a vs := by
  rcases q with (q | ⟨ob, q⟩) | q
  · exact .inl (.inl (h.right _ _ q trivial))
  · exact .inl (.inr ⟨ob, h.right _ _ q trivial⟩)
  · exact .inr q
theorem Fr0.fz {o : List Addr} {a : Addr} {vs : List V} (h : Fr0 H H' o) (q : FzAt K H a vs) : FzAt K H' a vs := by
  rcases q with ⟨ob, q⟩ | q
  · exact .inl ⟨ob, h.right _ _ q trivial⟩
  · exact .inr q
mutual
theorem Rep.fr : ∀ {d : D} {v : V} {o : List Addr}, Rep K H d v o → Fr0 H H' o → Rep K H' d v o
  | .non, _, _, h, f => h
  | .bl _, _, _, h, f => h
  | .int _, _, _, h, f => h
  | .str _, _, _, h, f => h
  | .tup xs, v, o, h, f => by
    obtain ⟨a, vs, e, q, r⟩ := h
    exact ⟨a, vs, e, f.sqt q, Reps.fr r f⟩
  | .lst xs, v, o, h, f => by
    obtain ⟨a, vs, o', e, q, r, rfl⟩ := h
    exact ⟨a, vs, o', e, (f.left a List.mem_cons_self).trans q, Reps.fr r (f.sub fun b hb => List.mem_cons_of_mem _ hb), rfl⟩
  | .frz xs, v, o, h, f => by
    obtain ⟨a, vs, e, q, r, rfl⟩ := h
    exact ⟨a, vs, e, f.fz q, Reps.fr r f, rfl⟩
  | .dic ks vs, v, o, h, f => by
    obtain ⟨a, kvs, vvs, es, e, q, hd, hs, hn, rk, rv, en, rfl⟩ := h
    exact ⟨a, kvs, vvs, es, e, (f.left a List.mem_cons_self).trans q, hd, hs, hn, Reps.fr rk (f.sub fun b hb => nomatch hb), Reps.fr rv (f.sub fun b hb => nomatch hb), en, rfl⟩
  | .obj _ _ _, _, _, h, _ => h
theorem Reps.fr : ∀ {xs : List D} {vs : List V} {o : List Addr}, Reps K H xs vs o → Fr0 H H' o → Reps K H' xs vs o
  | [], _, _, h, f => h
  | x :: xs, _, _, h, f => by
    obtain ⟨v, vr, o1, o2, e, h1, h2, rfl⟩ := h
    exact ⟨v, vr, o1, o2, e, Rep.fr h1 (f.sub fun b hb => List.mem_append_left _ hb), Reps.fr h2 (f.sub fun b hb => List.mem_append_right _ hb), rfl⟩
end
mutual
theorem Rep.own : ∀ {d : D} {v : V} {o : List Addr}, Rep K H d v o → ∀ a ∈ o, ∃ u, H a = some u ∧ Ow u
  | .non, _, _, h, a, ha => by rw [h.2] at ha; cases ha
  | .bl _, _, _, h, a, ha => by rw [h.2] at ha; cases ha
  | .int _, _, _, h, a, ha => by rw [h.2] at ha; cases ha
  | .str _, _, _, h, a, ha => by rw [h.2.2] at ha; cases ha
  | .tup xs, v, o, h, b, hb => by
    obtain ⟨a, vs, e, q, r⟩ := h
    exact Reps.own r b hb
  | .lst xs, v, o, h, b, hb => by
    obtain ⟨a, vs, o', e, q, r, rfl⟩ := h
    rcases List.mem_cons.mp hb with rfl | hb
    · exact ⟨_, q, ow_lst⟩
    · exact Reps.own r b hb
  | .frz xs, v, o, h, b, hb => by
    obtain ⟨a, vs, e, q, r, rfl⟩ := h
    cases hb
  | .dic ks vs, v, o, h, b, hb => by
    obtain ⟨a, kvs, vvs, es, e, q, hd, hs, hn, rk, rv, en, rfl⟩ := h
    cases List.mem_singleton.mp hb
    exact ⟨_, q, ow_dic hd⟩
  | .obj _ _ _, _, _, h, _, _ => h.elim
theorem Reps.own : ∀ {xs : List D} {vs : List V} {o : List Addr}, Reps K H xs vs o → ∀ a ∈ o, ∃ u, H a = some u ∧ Ow u
  | [], _, _, h, a, ha => by rw [h.2] at ha; cases ha
  | x :: xs, _, _, h, a, ha => by
    obtain ⟨v, vr, o1, o2, e, h1, h2, rfl⟩ := h
    rcases List.mem_append.mp ha with ha | ha
    · exact Rep.own h1 a ha
    · exact Reps.own h2 a ha
end
mutual
theorem Rep.imm : ∀ {d : D} {v : V} {o : List Addr}, Rep K H d v o → d.imm = true → o = []
  | .non, _, _, h, _ => h.2
  | .bl _, _, _, h, _ => h.2
  | .int _, _, _, h, _ => h.2
  | .str _, _, _, h, _ => h.2.2
  | .tup xs, v, o, h, i => by
    obtain ⟨a, vs, e, q, r⟩ := h
    exact Reps.imm r i
  | .lst xs, v, o, h, i => by simp [D.imm] at i
  | .frz xs, v, o, h, i => by
    obtain ⟨a, vs, e, q, r, rfl⟩ := h
    rfl
  | .dic _ _, _, _, h, i => by simp [D.imm] at i
  | .obj _ _ _, _, _, h, _ => h.elim
theorem Reps.imm : ∀ {xs : List D} {vs : List V} {o : List Addr}, Reps K H xs vs o → D.imms xs = true → o = []
  | [], _, _, h, _ => h.2
  | x :: xs, _, _, h, i => by
    obtain ⟨v, vr, o1, o2, e, h1, h2, rfl⟩ := h
    simp only [D.imms, Bool.and_eq_true] at i
    rw [Rep.imm h1 i.1, Reps.imm h2 i.2]
    rfl
end
theorem Reps.length : ∀ {xs : List D} {vs : List V} {o : List Addr}, Reps K H xs vs o → vs.length = xs.length
  | [], _, _, h => by rw [h.1]; rfl
  | x :: xs, _, _, h => by
    obtain ⟨v, vr, o1, o2, rfl, h1, h2, rfl⟩ := h
    simp [Reps.length h2]
theorem Reps.append : ∀ {xs ys : List D} {vs ws : List V} {o o' : List Addr}, Reps K H xs vs o → Reps K H ys ws o' → Reps K H (xs ++ ys) (vs ++ ws) (o ++ o')
  | [], _, _, _, _, _, h, h' => by rw [h.1, h.2]; exact h'
  | x :: xs, _, _, _, _, _, h, h' => by
    obtain ⟨v, vr, o1, o2, rfl, h1, h2, rfl⟩ := h
    exact ⟨v, vr ++ _, o1, o2 ++ _, rfl, h1, Reps.append h2 h', by rw [List.append_assoc]⟩
theorem Reps.one {d : D} {v : V} {o : List Addr} (h : Rep K H d v o) : Reps K H [d] [v] o := ⟨v, [], o, [], rfl, h, ⟨rfl, rfl⟩, by simp⟩
/-- the item at a place, and another in its stead -/
theorem Reps.at : ∀ {xs : List D} {vs : List V} {o : List Addr} {i : Nat} {d : D}, Reps K H xs vs o → xs[i]? = some d →
    ∃ v oa o1 ob, vs[i]? = some v ∧ Rep K H d v o1 ∧ o = oa ++ o1 ++ ob ∧
      ∀ H' d' v' o1', Rep K H' d' v' o1' → Fr0 H H' (oa ++ ob) → Reps K H' (xs.set i d') (vs.set i v') (oa ++ o1' ++ ob)
  | [], _, _, _, _, h, e => by simp at e
  | x :: xs, _, _, 0, d, h, e => by
    obtain ⟨v, vr, o1, o2, rfl, h1, h2, rfl⟩ := h
    cases (Option.some.inj e : x = d)
    refine ⟨v, [], o1, o2, rfl, h1, by simp, fun H' d' v' o1' h' f => ?_⟩
    exact ⟨v', vr, o1', o2, rfl, h', h2.fr (f.sub (by simp)), by simp⟩
  | x :: xs, _, _, i + 1, d, h, e => by
    obtain ⟨v, vr, o1, o2, rfl, h1, h2, rfl⟩ := h
    obtain ⟨w, oa, oi, ob, e1, r, rfl, k⟩ := Reps.at (i := i) h2 (by simpa using e)
    refine ⟨w, o1 ++ oa, oi, ob, by simpa using e1, r, by simp, fun H' d' v' o1' h' f => ?_⟩
    refine ⟨v, vr.set i v', o1, oa ++ o1' ++ ob, rfl, h1.fr (f.sub (by simp +contextual)), k H' d' v' o1' h' (f.sub ?_), by simp⟩
    intro a ha
    rcases List.mem_append.mp ha with ha | ha <;> simp [ha]
theorem Reps.get {xs : List D} {vs : List V} {o : List Addr} {i : Nat} {d : D} (h : Reps K H xs vs o) (e : xs[i]? = some d) : ∃ v o1, vs[i]? = some v ∧ Rep K H d v o1 ∧ ∀ a ∈ o1, a ∈ o := by
  obtain ⟨v, oa, o1, ob, e1, r, rfl, _⟩ := h.at e
  exact ⟨v, o1, e1, r, fun a ha => by simp [ha]⟩
theorem Reps.take : ∀ {xs : List D} {vs : List V} (n : Nat), Reps K H xs vs [] → Reps K H (xs.take n) (vs.take n) []
  | xs, _, 0, h => ⟨rfl, rfl⟩
  | [], _, n + 1, h => by rw [h.1]; exact ⟨rfl, rfl⟩
  | x :: xs, _, n + 1, h => by
    obtain ⟨v, vr, o1, o2, rfl, h1, h2, e⟩ := h
    obtain ⟨rfl, rfl⟩ := List.append_eq_nil_iff.mp e.symm
    exact ⟨v, _, [], [], rfl, h1, Reps.take n h2, rfl⟩
theorem Reps.drop : ∀ {xs : List D} {vs : List V} (n : Nat), Reps K H xs vs [] → Reps K H (xs.drop n) (vs.drop n) []
  | xs, _, 0, h => h
  | [], _, n + 1, h => by rw [h.1]; exact ⟨rfl, rfl⟩
  | x :: xs, _, n + 1, h => by
    obtain ⟨v, vr, o1, o2, rfl, h1, h2, e⟩ := h
    obtain ⟨rfl, rfl⟩ := List.append_eq_nil_iff.mp e.symm
    exact Reps.drop n h2
end

/-! ### steps of the heap -/
/-- from H to H': what is not at W is kept; what is tracked stays tracked -/
structure Step (H H' : Hp) (W : List Addr) : Prop where
  keep : ∀ a u, H a = some u → a ∉ W → Nt u → H' a = some u
  dom : ∀ a, H' a = none → H a = none
  tab : ∀ P, GoodT H P → GoodT H' P
theorem Step.refl (H : Hp) (W : List Addr) : Step H H W := ⟨fun _ _ h _ _ => h, fun _ h => h, fun _ g => g⟩
/-- what is newly owned: from o or fresh -/
def Own (H : Hp) (o o' : List Addr) : Prop := ∀ a, o'.count a ≤ o.count a ∨ (H a = none ∧ o'.count a ≤ 1)
def Nd (o : List Addr) : Prop := ∀ a, o.count a ≤ 1
theorem Own.refl (H : Hp) (o : List Addr) : Own H o o := fun _ => .inl (Nat.le_refl _)
theorem Step.trans {H H1 H2 : Hp} {o o1 : List Addr} (s : Step H H1 o) (w : Own H o o1) (t : Step H1 H2 o1) : Step H H2 o where
  tab P g := t.tab P (s.tab P g)
  keep a u e h hn := by
    refine t.keep a u (s.keep a u e h hn) (fun hm => ?_) hn
    rcases w a with w | ⟨w, _⟩
    · have h1 : 0 < o1.count a := List.count_pos_iff.mpr hm
      have h2 : o.count a = 0 := List.count_eq_zero.mpr h
      omega
    · rw [e] at w; cases w
  dom a h := s.dom a (t.dom a h)
theorem Own.trans {H H1 : Hp} {o o1 o2 : List Addr} {W : List Addr} (w1 : Own H o o1) (s : Step H H1 W) (w2 : Own H1 o1 o2) : Own H o o2 := fun a => by
  rcases w2 a with w | ⟨w, q⟩
  · rcases w1 a with z | ⟨z, q⟩
    · exact .inl (Nat.le_trans w z)
    · exact .inr ⟨z, Nat.le_trans w q⟩
  · exact .inr ⟨s.dom a w, q⟩
theorem Own.sub {H : Hp} {o o1 o2 : List Addr} (w : Own H o o1) (h : ∀ a, o2.count a ≤ o1.count a) : Own H o o2 := fun a => by
  rcases w a with z | ⟨z, q⟩
  · exact .inl (Nat.le_trans (h a) z)
  · exact .inr ⟨z, Nat.le_trans (h a) q⟩
theorem Own.nd {H : Hp} {o o' : List Addr} (w : Own H o o') (n : Nd o) : Nd o' := fun a => by
  rcases w a with z | ⟨_, q⟩
  · exact Nat.le_trans z (n a)
  · exact q
/-- all that was tracked is as it was -/
theorem Step.of_same {H H' : Hp} (W : List Addr) (h : ∀ a u, H a = some u → H' a = some u) : Step H H' W :=
  ⟨fun a u e _ _ => h a u e, fun a e => by
    cases q : H a with
    | none => rfl
    | some u => (rw [h a u q] at e; cases e), fun P g => GoodT.mono (fun a u e _ => h a u e) g⟩
theorem Step.new {H : Hp} {p : Addr} {u : HO} {W : List Addr} (h : H p = none) : Step H (upd H p u) W := Step.of_same W fun a v e => by
  rw [upd_ne (ne_of_none e h)]; exact e
theorem Step.writeO {H : Hp} {p : Addr} {u u0 : HO} {W : List Addr} (h : H p = some u0) (ow : Ow u0) (hp : p ∈ W) : Step H (upd H p u) W where
  tab P g := g.mono fun a w e hw => by
    have : a ≠ p := fun z => by
      rw [z, h] at e; cases e
      rcases hw with ⟨ps, hw⟩ | ⟨φ, hw, hn⟩
      · exact ow.2 ps hw
      · rw [hw] at ow; exact ow.1 hn
    rw [upd_ne this]; exact e
  keep a w e hn _ := by rw [upd_ne (show a ≠ p from fun z => hn (z ▸ hp))]; exact e
  dom a e := by
    by_cases z : a = p
    · subst z; rw [upd_same] at e; cases e
    · rw [upd_ne z] at e; exact e
theorem Step.write {H : Hp} {p : Addr} {u : HO} {vs : List V} {W : List Addr} (h : H p = some (.lst vs)) (hp : p ∈ W) : Step H (upd H p u) W := Step.writeO h ow_lst hp
/-- what is not at W is framed -/
theorem Step.fr {H H' : Hp} {W o : List Addr} (s : Step H H' W) (hW : ∀ a ∈ W, ∃ u, H a = some u ∧ ¬ Sh u) (ho : ∀ a ∈ o, ∃ u, H a = some u ∧ Ow u) (hd : ∀ a ∈ o, a ∉ W) : Fr H H' o where
  tab := s.tab
  left a ha := by
    obtain ⟨u, e, hu⟩ := ho a ha
    rw [e]
    exact s.keep a _ e (hd a ha) hu.2
  right a u e hs := s.keep a u e (fun hm => by
    obtain ⟨v, e2, hn⟩ := hW a hm
    rw [e] at e2; cases e2
    exact hn hs) hs.nt
theorem nd_split {o o' : List Addr} (n : Nd (o ++ o')) : ∀ a ∈ o, a ∉ o' := fun a h1 h2 => by
  have h := n a
  rw [List.count_append] at h
  have h3 : 0 < o.count a := List.count_pos_iff.mpr h1
  have h4 : 0 < o'.count a := List.count_pos_iff.mpr h2
  omega
/-- owned by the frame that steps, or by something beside it -/
theorem Rep.step {K : Fw} {H H' : Hp} {d : D} {v : V} {ov o : List Addr} (r : Rep K H d v ov) (s : Step H H' o) (ho : ∀ a ∈ o, ∃ u, H a = some u ∧ ¬ Sh u) (n : ∀ a ∈ ov, a ∉ o) : Rep K H' d v ov :=
  r.fr (s.fr ho r.own n)
theorem Reps.step {K : Fw} {H H' : Hp} {d : List D} {v : List V} {ov o : List Addr} (r : Reps K H d v ov) (s : Step H H' o) (ho : ∀ a ∈ o, ∃ u, H a = some u ∧ ¬ Sh u) (n : ∀ a ∈ ov, a ∉ o) : Reps K H' d v ov :=
  r.fr (s.fr ho r.own n)

theorem Tabs.fr {κ : Kx} {H H' : Hp} {o : List Addr} (h : Tabs κ H) (f : Fr H H' o) : Tabs κ H' := ⟨fun c P e => f.tab P (h.1 c P e), fun c e => by
  obtain ⟨P, z, g⟩ := h.2 c e
  exact ⟨P, z.imp id fun e => f.right _ _ e notDic_hd, f.tab P g⟩⟩
theorem Tabs.step {κ : Kx} {H H' : Hp} {W : List Addr} (h : Tabs κ H) (s : Step H H' W) (hW : ∀ a ∈ W, ∃ u, H a = some u ∧ ¬ Sh u) : Tabs κ H' := ⟨fun c P e => s.tab P (h.1 c P e), fun c e => by
  obtain ⟨P, z, g⟩ := h.2 c e
  refine ⟨P, z.imp id fun e => s.keep _ _ e (fun hm => ?_) (fun _ z => nomatch z), s.tab P g⟩
  obtain ⟨u, e2, n⟩ := hW _ hm
  rw [e] at e2; cases e2; exact n notDic_hd⟩
theorem Tabs.bare {κ : Kx} {H : Hp} (h : Tabs κ H) : Tabs ⟨κ.K, .none⟩ H := ⟨h.1, fun c e => nomatch e⟩
/-! ### the names of a def -/
abbrev DE := List (Option D)
def Envs (κ : Kx) (H : Hp) : List (Option V) → DE → List Addr → Prop
  | [], [], o => o = [] ∧ Tabs κ H
  | _ :: σ, none :: δ, o => Envs κ H σ δ o
  | some v :: σ, some d :: δ, o => ∃ o1 o2, Rep κ.K H d v o1 ∧ Envs κ H σ δ o2 ∧ o = o1 ++ o2
  | _, _, _ => False
section
variable {K : Fw} {κ : Kx} {H H' : Hp}
theorem Envs.length : ∀ {σ : List (Option V)} {δ : DE} {o : List Addr}, Envs κ H σ δ o → σ.length = δ.length
  | [], [], _, _ => rfl
  | none :: σ, none :: δ, _, h => congrArg (· + 1) (Envs.length (σ := σ) (δ := δ) h)
  | some _ :: σ, none :: δ, _, h => congrArg (· + 1) (Envs.length (σ := σ) (δ := δ) h)
  | some v :: σ, some d :: δ, _, h => by
    obtain ⟨o1, o2, _, h2, _⟩ := h
    exact congrArg (· + 1) (Envs.length h2)
  | none :: σ, some d :: δ, _, h => h.elim
  | [], _ :: _, _, h => by simp [Envs] at h
  | _ :: _, [], _, h => by simp [Envs] at h
theorem Envs.own : ∀ {σ : List (Option V)} {δ : DE} {o : List Addr}, Envs κ H σ δ o → ∀ a ∈ o, ∃ u, H a = some u ∧ Ow u
  | [], [], o, h, a, ha => by rw [h.1] at ha; cases ha
  | none :: σ, none :: δ, _, h, a, ha => Envs.own (σ := σ) (δ := δ) h a ha
  | some _ :: σ, none :: δ, _, h, a, ha => Envs.own (σ := σ) (δ := δ) h a ha
  | some v :: σ, some d :: δ, _, h, a, ha => by
    obtain ⟨o1, o2, h1, h2, rfl⟩ := h
    rcases List.mem_append.mp ha with ha | ha
    · exact h1.own a ha
    · exact Envs.own h2 a ha
  | none :: σ, some d :: δ, _, h, _, _ => h.elim
  | [], _ :: _, _, h, _, _ => by simp [Envs] at h
  | _ :: _, [], _, h, _, _ => by simp [Envs] at h
theorem Envs.ok {σ : List (Option V)} {δ : DE} {o : List Addr} (h : Envs κ H σ δ o) : ∀ a ∈ o, ∃ u, H a = some u ∧ ¬ Sh u := fun a ha => by
  obtain ⟨u, e, hu⟩ := h.own a ha
  exact ⟨_, e, hu.1⟩
theorem Envs.fr : ∀ {σ : List (Option V)} {δ : DE} {o : List Addr}, Envs κ H σ δ o → Fr H H' o → Envs κ H' σ δ o
  | [], [], _, h, f => ⟨h.1, h.2.fr f⟩
  | none :: σ, none :: δ, _, h, f => Envs.fr (σ := σ) (δ := δ) h f
  | some _ :: σ, none :: δ, _, h, f => Envs.fr (σ := σ) (δ := δ) h f
  | some v :: σ, some d :: δ, _, h, f => by
    obtain ⟨o1, o2, h1, h2, rfl⟩ := h
    exact ⟨o1, o2, h1.fr (f.f0.sub fun a ha => List.mem_append_left _ ha), Envs.fr h2 (f.sub fun a ha => List.mem_append_right _ ha), rfl⟩
  | none :: σ, some d :: δ, _, h, _ => h.elim
  | [], _ :: _, _, h, _ => by simp [Envs] at h
  | _ :: _, [], _, h, _ => by simp [Envs] at h
theorem Envs.tabs : ∀ {σ : List (Option V)} {δ : DE} {o : List Addr}, Envs κ H σ δ o → Tabs κ H
  | [], [], _, h => h.2
  | none :: σ, none :: δ, _, h => Envs.tabs (σ := σ) (δ := δ) h
  | some _ :: σ, none :: δ, _, h => Envs.tabs (σ := σ) (δ := δ) h
  | some v :: σ, some d :: δ, _, h => by
    obtain ⟨o1, o2, _, h2, _⟩ := h
    exact Envs.tabs h2
  | none :: σ, some d :: δ, _, h => h.elim
  | [], _ :: _, _, h => by simp [Envs] at h
  | _ :: _, [], _, h => by simp [Envs] at h
theorem Envs.bare : ∀ {σ : List (Option V)} {δ : DE} {o : List Addr}, Envs κ H σ δ o → Envs ⟨κ.K, .none⟩ H σ δ o
  | [], [], _, h => ⟨h.1, h.2.bare⟩
  | none :: σ, none :: δ, _, h => Envs.bare (σ := σ) (δ := δ) h
  | some _ :: σ, none :: δ, _, h => Envs.bare (σ := σ) (δ := δ) h
  | some v :: σ, some d :: δ, _, h => by
    obtain ⟨o1, o2, h1, h2, e⟩ := h
    exact ⟨o1, o2, h1, Envs.bare h2, e⟩
  | none :: σ, some d :: δ, _, h => h.elim
  | [], _ :: _, _, h => by simp [Envs] at h
  | _ :: _, [], _, h => by simp [Envs] at h
/-- all that was tracked is kept -/
theorem Envs.same {σ : List (Option V)} {δ : DE} {o : List Addr} (h : Envs κ H σ δ o) (k : ∀ a u, H a = some u → H' a = some u) : Envs κ H' σ δ o :=
  h.fr ⟨fun a ha => by obtain ⟨u, e, _⟩ := h.own a ha; rw [e]; exact k _ _ e, fun a u e _ => k a u e, fun P g => g.mono fun a u e _ => k a u e⟩
/-- the datum at a slot; another in its stead (the value there stays) -/
theorem Envs.at : ∀ {σ : List (Option V)} {δ : DE} {o : List Addr} {i : Nat} {d : D}, Envs κ H σ δ o → δ[i]? = some (some d) →
    ∃ v oa o1 ob, σ[i]? = some (some v) ∧ Rep κ.K H d v o1 ∧ o = oa ++ o1 ++ ob ∧
      (∀ H' d' o1', Rep κ.K H' d' v o1' → Fr H H' (oa ++ ob) → Envs κ H' σ (δ.set i (some d')) (oa ++ o1' ++ ob)) ∧
      (∀ H', Fr H H' (oa ++ ob) → Envs κ H' σ (δ.set i none) (oa ++ ob))
  | [], [], _, _, _, h, e => by simp at e
  | none :: σ, none :: δ, _, 0, _, h, e => by simp at e
  | some _ :: σ, none :: δ, _, 0, _, h, e => by simp at e
  | none :: σ, none :: δ, o, i + 1, d, h, e => by
    obtain ⟨v, oa, o1, ob, e1, r, rfl, k, k'⟩ := Envs.at (σ := σ) (δ := δ) (i := i) (d := d) h (by simpa using e)
    exact ⟨v, oa, o1, ob, by simpa using e1, r, rfl, k, k'⟩
  | some _ :: σ, none :: δ, o, i + 1, d, h, e => by
    obtain ⟨v, oa, o1, ob, e1, r, rfl, k, k'⟩ := Envs.at (σ := σ) (δ := δ) (i := i) (d := d) h (by simpa using e)
    exact ⟨v, oa, o1, ob, by simpa using e1, r, rfl, k, k'⟩
  | some v :: σ, some d0 :: δ, o, 0, d, h, e => by
    obtain ⟨o1, o2, h1, h2, rfl⟩ := h
    cases (Option.some.inj (Option.some.inj e) : d0 = d)
    refine ⟨v, [], o1, o2, rfl, h1, by simp, fun H' d' o1' h' f => ⟨o1', o2, h', h2.fr (f.sub (by simp)), by simp⟩, fun H' f => ?_⟩
    show Envs κ H' σ δ _
    simpa using h2.fr (f.sub (by simp))
  | some v0 :: σ, some d0 :: δ, o, i + 1, d, h, e => by
    obtain ⟨p1, p2, h1, h2, rfl⟩ := h
    obtain ⟨v, oa, o1, ob, e1, r, rfl, k, k'⟩ := Envs.at (σ := σ) (δ := δ) (i := i) (d := d) h2 (by simpa using e)
    refine ⟨v, p1 ++ oa, o1, ob, by simpa using e1, r, by simp, fun H' d' o1' h' f => ?_, fun H' f => ?_⟩
    · exact ⟨p1, oa ++ o1' ++ ob, h1.fr (f.f0.sub (by simp +contextual)), k H' d' o1' h' (f.sub fun a ha => by rcases List.mem_append.mp ha with ha | ha <;> simp [ha]), by simp⟩
    · exact ⟨p1, oa ++ ob, h1.fr (f.f0.sub (by simp +contextual)), k' H' (f.sub fun a ha => by rcases List.mem_append.mp ha with ha | ha <;> simp [ha]), by simp⟩
  | none :: σ, some d :: δ, _, _, _, h, _ => h.elim
  | [], _ :: _, _, _, _, h, _ => by simp [Envs] at h
  | _ :: _, [], _, _, _, h, _ => by simp [Envs] at h
/-- a name is stored: what it had is let go -/
theorem Envs.set : ∀ {σ : List (Option V)} {δ : DE} {o : List Addr} (i : Nat) {d : D} {v : V} {o' : List Addr}, Envs κ H σ δ o → Rep κ.K H d v o' → i < δ.length →
    ∃ o2, Envs κ H (σ.set i (some v)) (δ.set i (some d)) o2 ∧ ∀ a, o2.count a ≤ o.count a + o'.count a
  | [], [], _, _, _, _, _, h, _, hi => by simp at hi
  | s :: σ, none :: δ, o, 0, d, v, o', h, r, hi => by
    have h : Envs κ H σ δ o := by cases s <;> exact h
    exact ⟨o' ++ o, ⟨o', o, r, h, rfl⟩, fun a => by rw [List.count_append]; omega⟩
  | some w :: σ, some d0 :: δ, o, 0, d, v, o', h, r, hi => by
    obtain ⟨p1, p2, h1, h2, rfl⟩ := h
    exact ⟨o' ++ p2, ⟨o', p2, r, h2, rfl⟩, fun a => by rw [List.count_append, List.count_append]; omega⟩
  | s :: σ, none :: δ, o, i + 1, d, v, o', h, r, hi => by
    have h : Envs κ H σ δ o := by cases s <;> exact h
    obtain ⟨o2, q, c⟩ := Envs.set i h r (by simpa using hi)
    refine ⟨o2, ?_, c⟩
    cases s <;> exact q
  | some w :: σ, some d0 :: δ, o, i + 1, d, v, o', h, r, hi => by
    obtain ⟨p1, p2, h1, h2, rfl⟩ := h
    obtain ⟨o2, q, c⟩ := Envs.set i h2 r (by simpa using hi)
    exact ⟨p1 ++ o2, ⟨p1, o2, h1, q, rfl⟩, fun a => by have := c a; rw [List.count_append, List.count_append]; omega⟩
  | none :: σ, some d :: δ, _, _, _, _, _, h, _, _ => h.elim
  | [], _ :: _, _, _, _, _, _, h, _, _ => by simp [Envs] at h
  | _ :: _, [], _, _, _, _, _, h, _, _ => by simp [Envs] at h
end
end Z


set_option Elab.async false
set_option linter.all false
set_option maxRecDepth 100000
/-! what an expression does to the data -/
namespace Z
open PySem PySem.Spec PyProof.Rows L2

/-- a result: a datum of its own, or what stands at a name, some items down -/
inductive R where
  | own (d : D) | at (i : Nat) (p : List Nat)
  deriving Inhabited
def R.short : R → Bool
  | .at _ (_ :: _) => false
  | _ => true
def getP : List Nat → D → Option D
  | [], d => some d
  | j :: p, .lst xs => match xs[j]? with
    | some x => getP p x
    | none => none
  | _ :: _, _ => none
def setP : List Nat → D → D → Option D
  | [], _, e => some e
  | j :: p, .lst xs, e => match xs[j]? with
    | some x => match setP p x e with
      | some x' => some (.lst (xs.set j x'))
      | none => none
    | none => none
  | _ :: _, _, _ => none
def deref (δ : DE) : R → Option D
  | .own d => some d
  | .at i p => match δ[i]? with
    | some (some d) => getP p d
    | _ => none
def PathV (H : Hp) : List Nat → V → V → Prop
  | [], u, v => v = u
  | j :: p, u, v => ∃ a vs u', u = .ref a ∧ H a = some (.lst vs) ∧ vs[j]? = some u' ∧ PathV H p u' v
def Held (K : Fw) (H : Hp) (σ : List (Option V)) : R → V → List Addr → Prop
  | .own d, v, ov => Rep K H d v ov
  | .at i p, v, ov => ov = [] ∧ ∃ u, σ[i]? = some (some u) ∧ PathV H p u v
section
variable {K : Fw} {κ : Kx} {H H' : Hp} {σ : List (Option V)}
theorem PathV.snoc : ∀ {p : List Nat} {u : V} {a : Addr} {vs : List V} {j : Nat} {w : V}, PathV H p u (.ref a) → H a = some (.lst vs) → vs[j]? = some w → PathV H (p ++ [j]) u w
  | [], _, a, vs, j, w, h, h1, h2 => ⟨a, vs, w, (show V.ref a = _ from h).symm, h1, h2, rfl⟩
  | i :: p, _, a, vs, j, w, h, h1, h2 => by
    obtain ⟨b, us, u', e1, e2, e3, q⟩ := h
    exact ⟨b, us, u', e1, e2, e3, PathV.snoc q h1 h2⟩
theorem PathV.keep : ∀ {p : List Nat} {u v : V}, PathV H p u v → (∀ a vs, H a = some (.lst vs) → H' a = some (.lst vs)) → PathV H' p u v
  | [], _, _, h, _ => h
  | j :: p, _, _, h, k => by
    obtain ⟨a, vs, u', e1, e2, e3, q⟩ := h
    exact ⟨a, vs, u', e1, k _ _ e2, e3, PathV.keep q k⟩
/-- what stands at a path, and another in its stead -/
theorem Rep.path : ∀ {p : List Nat} {d : D} {v : V} {o : List Addr} {e : D} {w : V}, Rep K H d v o → getP p d = some e → PathV H p v w →
    ∃ oe or_, Rep K H e w oe ∧ (∀ a, oe.count a + or_.count a = o.count a) ∧
      ∀ H' e' oe' d', Rep K H' e' w oe' → Fr0 H H' or_ → setP p d e' = some d' → ∃ o', Rep K H' d' v o' ∧ ∀ a, o'.count a = oe'.count a + or_.count a
  | [], d, v, o, e, w, r, g, q => by
    cases (Option.some.inj g : d = e)
    cases (show w = v from q)
    refine ⟨o, [], r, by simp, fun H' e' oe' d' r' f s => ?_⟩
    cases (Option.some.inj s : e' = d')
    exact ⟨oe', r', by simp⟩
  | j :: p, d, v, o, e, w, r, g, q => by
    cases d <;> simp only [getP, reduceCtorEq] at g
    rename_i xs
    obtain ⟨a, vs, o', rfl, ha, rs, rfl⟩ := r
    obtain ⟨a', vs', u', e1, ha', hj, q⟩ := q
    cases e1
    rw [ha] at ha'; cases ha'
    cases hx : xs[j]? with
    | none => rw [hx] at g; simp at g
    | some x =>
      rw [hx] at g
      obtain ⟨vj, oa, o1, ob, ev, rx, rfl, k⟩ := rs.at hx
      rw [hj] at ev; cases ev
      obtain ⟨oe, or1, re, hc, k2⟩ := Rep.path rx g q
      refine ⟨oe, a :: (oa ++ or1 ++ ob), re, fun b => ?_, fun H' e' oe' d' r' f s => ?_⟩
      · have := hc b
        simp only [List.count_cons, List.count_append] at this ⊢
        omega
      · simp only [setP, hx] at s
        cases hs : setP p x e' with
        | none => rw [hs] at s; simp at s
        | some x' =>
          rw [hs] at s
          cases (Option.some.inj s : _ = d')
          obtain ⟨o1', rx', hc'⟩ := k2 H' e' oe' x' r' (f.sub (by simp +contextual)) hs
          have hset : vs.set j u' = vs := by
            obtain ⟨hl, e2⟩ := List.getElem?_eq_some_iff.mp hj
            rw [← e2]; exact List.set_getElem_self hl
          have k3 := k H' x' u' o1' rx' (f.sub (by intro b hb; rcases List.mem_append.mp hb with hb | hb <;> simp [hb]))
          rw [hset] at k3
          refine ⟨a :: (oa ++ o1' ++ ob), ⟨a, vs, _, rfl, (f.1 a List.mem_cons_self).trans ha, k3, rfl⟩, fun b => ?_⟩
          have := hc' b
          simp only [List.count_cons, List.count_append] at this ⊢
          omega
theorem Held.deref {δ : DE} {o ov : List Addr} {r : R} {v : V} {d : D} (E : Envs κ H σ δ o) (h : Held κ.K H σ r v ov) (e : deref δ r = some d) : ∃ o', Rep κ.K H d v o' ∧ ∀ a, o'.count a ≤ ov.count a + o.count a := by
  cases r with
  | own d' =>
    cases (Option.some.inj e : d' = d)
    exact ⟨ov, h, fun a => by omega⟩
  | «at» i p =>
    obtain ⟨rfl, u, hu, q⟩ := h
    simp only [Z.deref] at e
    cases hi : δ[i]? with
    | none => rw [hi] at e; simp at e
    | some x =>
      cases x with
      | none => rw [hi] at e; simp at e
      | some d0 =>
        rw [hi] at e
        obtain ⟨v0, oa, o1, ob, e1, r1, rfl, _⟩ := E.at hi
        rw [hu] at e1; cases e1
        obtain ⟨oe, or_, re, hc, _⟩ := r1.path e q
        exact ⟨oe, re, fun a => by have := hc a; simp only [List.count_append, List.count_nil]; omega⟩
theorem Held.step {W ov : List Addr} {r : R} {v : V} (h : Held K H σ r v ov) (s : Step H H' W) (hW : ∀ a ∈ W, ∃ u, H a = some u ∧ ¬ Sh u) (n : ∀ a ∈ ov, a ∉ W) (hq : r.short = true ∨ W = []) : Held K H' σ r v ov := by
  cases r with
  | own d => exact Rep.step h s hW n
  | «at» i p =>
    obtain ⟨e, u, hu, q⟩ := h
    refine ⟨e, u, hu, ?_⟩
    cases p with
    | nil => exact q
    | cons j p =>
      rcases hq with hq | rfl
      · simp [R.short] at hq
      · exact q.keep fun a vs e => s.keep a _ e (by simp) fun _ z => nomatch z
end

/-! ### readings -/
abbrev Den := DE → Option (R × DE)
def Wq (q : Bool) (o : List Addr) : List Addr := if q then [] else o
theorem Wq_ok {κ : Kx} {H : Hp} {σ : List (Option V)} {δ : DE} {o : List Addr} {q : Bool} (E : Envs κ H σ δ o) : ∀ a ∈ Wq q o, ∃ u, H a = some u ∧ ¬ Sh u := fun a ha => by
  cases q
  · exact E.ok a ha
  · cases ha
theorem Wq_sub {q : Bool} {o : List Addr} : ∀ a ∈ Wq q o, a ∈ o := fun a ha => by
  cases q
  · exact ha
  · cases ha
theorem Step.mono {H H' : Hp} {W W' : List Addr} (s : Step H H' W) (h : ∀ a ∈ W, a ∈ W') : Step H H' W' := ⟨fun a u e n => s.keep a u e fun z => n (h a z), s.dom, s.tab⟩
theorem Step.seq {H H1 H2 : Hp} {qa qb : Bool} {o o1 : List Addr} (s : Step H H1 (Wq qa o)) (w : Own H o o1) (t : Step H1 H2 (Wq qb o1)) : Step H H2 (Wq (qa && qb) o) := by
  cases qa with
  | true =>
    cases qb with
    | true => exact Step.trans (o := []) (o1 := []) s (Own.refl _ _) t
    | false => exact Step.trans (s.mono fun a h => nomatch h) w t
  | false =>
    cases qb with
    | true => exact Step.trans s w (t.mono fun a h => nomatch h)
    | false => exact Step.trans s w t
structure Post (κ : Kx) (H : Hp) (σ : List (Option V)) (q : Bool) (o : List Addr) (r : R) (δ' : DE) (v : V) (H' : Hp) (o' ov : List Addr) : Prop where
  step : Step H H' (Wq q o)
  env : Envs κ H' σ δ' o'
  held : Held κ.K H' σ r v ov
  own : Own H o (ov ++ o')
def T (κ : Kx) (q : Bool) (m : Den) : TE := fun σ H Q => ∃ δ o r δ', Envs κ H σ δ o ∧ Nd o ∧ m δ = some (r, δ') ∧
  ∀ v H' o' ov, Post κ H σ q o r δ' v H' o' ov → Q v H'
structure PostA (κ : Kx) (H : Hp) (σ : List (Option V)) (q : Bool) (o : List Addr) (δ' : DE) (H' : Hp) (o' : List Addr) : Prop where
  step : Step H H' (Wq q o)
  env : Envs κ H' σ δ' o'
  own : Own H o o'
/-- a test -/
def TT (κ : Kx) (q : Bool) (m : DE → Option (Bool × DE)) : L2.TT := fun σ H Q => ∃ δ o b δ', Envs κ H σ δ o ∧ Nd o ∧ m δ = some (b, δ') ∧
  ∀ H' o', PostA κ H σ q o δ' H' o' → Q b H'
def HeldL (K : Fw) (H : Hp) (σ : List (Option V)) : List R → List V → List Addr → Prop
  | [], vs, ov => vs = [] ∧ ov = []
  | r :: rs, vs, ov => ∃ v vr o1 o2, vs = v :: vr ∧ Held K H σ r v o1 ∧ HeldL K H σ rs vr o2 ∧ ov = o1 ++ o2
/-- arguments -/
def TAr (κ : Kx) (q : Bool) (m : DE → Option (List R × DE)) : TA := fun σ H Q => ∃ δ o rs δ', Envs κ H σ δ o ∧ Nd o ∧ m δ = some (rs, δ') ∧
  ∀ vs H' o' ov, Step H H' (Wq q o) → Envs κ H' σ δ' o' → HeldL κ.K H' σ rs vs ov → Own H o (ov ++ o') → Q vs H'

theorem PE.imp {X : Cx} {e : Expr} {t t' : TE} (h : PE X e t) (i : ∀ σ H Q, t' σ H Q → t σ H Q) : PE X e t' := ⟨fun pins s σ H Q I hw => h.run pins s σ H Q I (i _ _ _ hw)⟩
theorem PT.imp {X : Cx} {e : Expr} {t t' : L2.TT} (h : PT X e t) (i : ∀ σ H Q, t' σ H Q → t σ H Q) : PT X e t' := ⟨fun pins s σ H Q I hw => h.run pins s σ H Q I (i _ _ _ hw)⟩
theorem PW.imp {X : Cx} {e : Expr} {t t' : L2.TT} (h : PW X e t) (i : ∀ σ H Q, t' σ H Q → t σ H Q) : PW X e t' := ⟨fun w pins s σ H Q I hw => h.run w pins s σ H Q I (i _ _ _ hw)⟩
theorem PA.imp {X : Cx} {e : List Expr} {t t' : TA} (h : PA X e t) (i : ∀ σ H Q, t' σ H Q → t σ H Q) : PA X e t' := ⟨fun p pins s σ H Q I hw => h.run p pins s σ H Q I (i _ _ _ hw)⟩
theorem PS.imp {X : Cx} {e : Stmt} {t t' : TS} (h : PS X e t) (i : ∀ D σ H, t' D σ H → t D σ H) : PS X e t' := ⟨fun pins s σ H D I hw => h.run pins s σ H D I (i _ _ _ hw)⟩
theorem PSs.imp {X : Cx} {e : List Stmt} {t t' : TS} (h : PSs X e t) (i : ∀ D σ H, t' D σ H → t D σ H) : PSs X e t' := ⟨fun pins s σ H D I hw => h.run pins s σ H D I (i _ _ _ hw)⟩

/-! ### names, constants -/
def dVar (i : Nat) : Den := fun δ => match δ[i]? with
  | some (some d) => if d.imm then some (.own d, δ) else some (.at i [], δ)
  | _ => none
def dC (d : D) : Den := fun δ => some (.own d, δ)
section
variable {X : Cx}
theorem own_nil {H : Hp} {o : List Addr} : Own H o ([] ++ o) := Own.refl H o
theorem z_var (i : Nat) {x : Str} {pos : Pos} (hN : X.N[i]? = some x := by rfl) (hv : Vis X.env.scope x := by first | exact Or.inl rfl | exact Or.inr (Or.inl rfl) | exact Or.inr (Or.inr rfl)) (hd : (x == ("__debug__" : Str)) = false := by decide)
    (hcd : (x == ("__classdict__" : Str)) = false := by decide) : PE X (.Name x pos) (T (kx X) true (dVar i)) := by
  refine PE.imp (pe_var hN hv hd hcd) fun σ H Q h => ?_
  obtain ⟨δ, o, r, δ', E, n, hm, q⟩ := h
  simp only [dVar] at hm
  cases hi : δ[i]? with
  | none => rw [hi] at hm; simp at hm
  | some x =>
    cases x with
    | none => rw [hi] at hm; simp at hm
    | some d =>
      rw [hi] at hm
      obtain ⟨v, oa, o1, ob, e1, r1, _, _⟩ := E.at hi
      refine ⟨v, e1, ?_⟩
      by_cases hd : d.imm = true
      · simp only [hd, if_true, Option.some.injEq, Prod.mk.injEq] at hm
        obtain ⟨rfl, rfl⟩ := hm
        have := r1.imm hd
        subst this
        exact q v H o [] ⟨Step.refl _ _, E, r1, own_nil⟩
      · simp only [hd, if_false, Option.some.injEq, Prod.mk.injEq, Bool.false_eq_true] at hm
        obtain ⟨rfl, rfl⟩ := hm
        exact q v H o [] ⟨Step.refl _ _, E, ⟨rfl, v, e1, rfl⟩, own_nil⟩
theorem z_c {e : Expr} {v : V} {d : D} (h : PE X e (tC v)) (r : ∀ K H, Rep K H d v []) : PE X e (T (kx X) true (dC d)) :=
  PE.imp h fun σ H Q h => by
    obtain ⟨δ, o, r', δ', E, n, hm, q⟩ := h
    simp only [dC, Option.some.injEq, Prod.mk.injEq] at hm
    obtain ⟨rfl, rfl⟩ := hm
    exact q v H o [] ⟨Step.refl _ _, E, r _ _, own_nil⟩
theorem z_int {i j pos} : PE X (.Constant (.int i) j pos) (T (kx X) true (dC (.int i))) := z_c pe_int fun _ _ => ⟨rfl, rfl⟩
theorem z_bl {b j pos} : PE X (.Constant (.bool b) j pos) (T (kx X) true (dC (.bl b))) := z_c pe_bl fun _ _ => ⟨rfl, rfl⟩
theorem z_non {j pos} : PE X (.Constant .none j pos) (T (kx X) true (dC .non)) := z_c pe_non fun _ _ => ⟨rfl, rfl⟩
theorem z_str {x : Str} {j pos} (hx : (decide (x.cps.size ≤ 10000) && x.cps.all (· < 0x110000)) = true := by decide +kernel) : PE X (.Constant (.str x) j pos) (T (kx X) true (dC (.str x))) :=
  z_c pe_str fun _ _ => ⟨rfl, ⟨Nat.le_trans (of_decide_eq_true (Bool.and_eq_true_iff.mp hx).1) (by decide), (Bool.and_eq_true_iff.mp hx).2⟩, rfl⟩
end

/-! ### arguments -/
def dANil : DE → Option (List R × DE) := fun δ => some ([], δ)
def dACons (q : Bool) (a : Den) (r : DE → Option (List R × DE)) : DE → Option (List R × DE) := fun δ => match a δ with
  | some (x, δ1) => match r δ1 with
    | some (xs, δ2) => if x.short || q then some (x :: xs, δ2) else none
    | none => none
  | none => none
section
variable {X : Cx} {e : Expr} {es : List Expr} {qa qb : Bool} {ma : Den} {mr : DE → Option (List R × DE)}
theorem own_app {H H1 : Hp} {W o o1 o2 ova ovb : List Addr} (w1 : Own H o (ova ++ o1)) (s : Step H H1 W) (hd : ∀ a ∈ ova, H1 a ≠ none) (w2 : Own H1 o1 (ovb ++ o2)) : Own H o ((ova ++ ovb) ++ o2) := fun a => by
  have h1 := w1 a
  have h2 := w2 a
  simp only [List.count_append] at h1 h2 ⊢
  rcases h2 with h2 | ⟨z, h2⟩
  · rcases h1 with h1 | ⟨z1, h1⟩
    · left; omega
    · right; exact ⟨z1, by omega⟩
  · have hz : ova.count a = 0 := List.count_eq_zero.mpr fun hm => hd a hm z
    exact .inr ⟨s.dom a z, by omega⟩
theorem Held.dom {K : Fw} {H : Hp} {σ : List (Option V)} {r : R} {v : V} {ov : List Addr} (h : Held K H σ r v ov) : ∀ a ∈ ov, H a ≠ none := fun a ha => by
  cases r with
  | own d => obtain ⟨u, e, _⟩ := Rep.own h a ha; rw [e]; simp
  | «at» i p => obtain ⟨rfl, _⟩ := h; cases ha
theorem HeldL.dom {K : Fw} {H : Hp} {σ : List (Option V)} : ∀ {rs : List R} {vs : List V} {ov : List Addr}, HeldL K H σ rs vs ov → ∀ a ∈ ov, H a ≠ none
  | [], _, _, h, a, ha => by rw [h.2] at ha; cases ha
  | r :: rs, _, _, h, a, ha => by
    obtain ⟨v, vr, o1, o2, rfl, h1, h2, rfl⟩ := h
    rcases List.mem_append.mp ha with ha | ha
    · exact h1.dom a ha
    · exact HeldL.dom h2 a ha
theorem HeldL.own {K : Fw} {H : Hp} {σ : List (Option V)} : ∀ {rs : List R} {vs : List V} {ov : List Addr}, HeldL K H σ rs vs ov → ∀ a ∈ ov, ∃ u, H a = some u ∧ Ow u
  | [], _, _, h, a, ha => by rw [h.2] at ha; cases ha
  | .own d :: rs, _, _, h, a, ha => by
    obtain ⟨v, vr, o1, o2, rfl, h1, h2, rfl⟩ := h
    rcases List.mem_append.mp ha with ha | ha
    · exact Rep.own h1 a ha
    · exact HeldL.own h2 a ha
  | .at i p :: rs, _, _, h, a, ha => by
    obtain ⟨v, vr, o1, o2, rfl, ⟨rfl, _⟩, h2, rfl⟩ := h
    exact HeldL.own h2 a ha
theorem own_right {H : Hp} {o ov o' : List Addr} (w : Own H o (ov ++ o')) : Own H o o' := w.sub fun a => by rw [List.count_append]; omega
theorem nd_of {H : Hp} {o ov o' : List Addr} (w : Own H o (ov ++ o')) (n : Nd o) : Nd o' := (own_right w).nd n
theorem apart_of {H : Hp} {o ov o' : List Addr} (w : Own H o (ov ++ o')) (n : Nd o) : ∀ a ∈ ov, a ∉ o' := nd_split (w.nd n)
theorem z_anil : PA X [] (TAr (kx X) true dANil) := PA.imp pa_nil fun σ H Q h => by
  obtain ⟨δ, o, rs, δ', E, n, hm, q⟩ := h
  simp only [dANil, Option.some.injEq, Prod.mk.injEq] at hm
  obtain ⟨rfl, rfl⟩ := hm
  exact q [] H o [] (Step.refl _ _) E ⟨rfl, rfl⟩ own_nil
theorem z_acons (ha : PE X e (T (kx X) qa ma)) (hr : PA X es (TAr (kx X) qb mr)) (hs : starEach (e :: es) X.env = (false, eval e X.env) :: starEach es X.env := by rfl) : PA X (e :: es) (TAr (kx X) (qa && qb) (dACons qb ma mr)) := by
  refine PA.imp (pa_cons ha hr hs) fun σ H Q h => ?_
  obtain ⟨δ, o, rs, δ', E, n, hm, q⟩ := h
  simp only [dACons] at hm
  cases h1 : ma δ with
  | none => rw [h1] at hm; simp at hm
  | some p1 =>
    obtain ⟨x, δ1⟩ := p1
    rw [h1] at hm; dsimp only at hm
    cases h2 : mr δ1 with
    | none => rw [h2] at hm; simp at hm
    | some p2 =>
      obtain ⟨xs, δ2⟩ := p2
      rw [h2] at hm; dsimp only at hm
      by_cases hc : (x.short || qb) = true
      · rw [if_pos hc] at hm
        simp only [Option.some.injEq, Prod.mk.injEq] at hm
        obtain ⟨rfl, rfl⟩ := hm
        refine ⟨δ, o, x, δ1, E, n, h1, fun v H1 o1 ov1 P1 => ?_⟩
        refine ⟨δ1, o1, xs, δ2, P1.env, nd_of P1.own n, h2, fun vs H2 o2 ov2 s2 E2 hl w2 => ?_⟩
        have ap := apart_of P1.own n
        refine q (v :: vs) H2 o2 (ov1 ++ ov2) (P1.step.seq (own_right P1.own) s2) E2 ⟨v, vs, ov1, ov2, rfl, ?_, hl, rfl⟩ (own_app P1.own P1.step P1.held.dom w2)
        refine P1.held.step s2 (Wq_ok P1.env) (fun a ha hw => ap a ha (Wq_sub a hw)) ?_
        simp only [Bool.or_eq_true] at hc
        rcases hc with hc | hc
        · exact .inl hc
        · right; subst hc; rfl
      · rw [if_neg hc] at hm; simp at hm
end
def derefs (δ : DE) : List R → Option (List D)
  | [] => some []
  | r :: rs => match deref δ r, derefs δ rs with
    | some d, some ds => some (d :: ds)
    | _, _ => none
theorem HeldL.derefs {κ : Kx} {H : Hp} {σ : List (Option V)} {δ : DE} {o : List Addr} (E : Envs κ H σ δ o) : ∀ {rs : List R} {vs : List V} {ov : List Addr} {ds : List D}, HeldL κ.K H σ rs vs ov → derefs δ rs = some ds → ∃ o', Reps κ.K H ds vs o'
  | [], _, _, _, h, e => by
    cases (Option.some.inj e)
    exact ⟨[], h.1, rfl⟩
  | r :: rs, _, _, _, h, e => by
    obtain ⟨v, vr, o1, o2, rfl, h1, h2, rfl⟩ := h
    simp only [Z.derefs] at e
    cases e1 : deref δ r with
    | none => rw [e1] at e; simp at e
    | some d =>
      cases e2 : Z.derefs δ rs with
      | none => rw [e1, e2] at e; simp at e
      | some ds =>
        rw [e1, e2] at e
        cases (Option.some.inj e)
        obtain ⟨oa, ra, _⟩ := h1.deref E e1
        obtain ⟨ob, rb⟩ := HeldL.derefs E h2 e2
        exact ⟨oa ++ ob, v, vr, oa, ob, rfl, ra, rb, rfl⟩

/-! ### operators on values that make a datum and change nothing -/
def Fresh (H : Hp) (ov : List Addr) : Prop := ∀ a, ov.count a ≤ 1 ∧ (a ∈ ov → H a = none)
theorem fresh_nil {H : Hp} : Fresh H [] := fun a => ⟨by simp, fun h => nomatch h⟩
theorem fresh_one {H : Hp} {p : Addr} (h : H p = none) : Fresh H [p] := fun a => ⟨by rw [List.count_singleton]; split <;> omega, fun z => by rw [List.mem_singleton.mp z]; exact h⟩
/-- what an operation gives, told by the data -/
def Pr (K : Fw) (f : List D → Option D) (vs : List V) (H : Hp) (Q : VK) : Prop :=
  ∃ ds o d, Reps K H ds vs o ∧ f ds = some d ∧ ∀ v H' ov, (∀ a u, H a = some u → H' a = some u) → Rep K H' d v ov → Fresh H ov → Q v H'
theorem own_fresh {H H' : Hp} {o o' ov : List Addr} {W : List Addr} (w : Own H o o') (s : Step H H' W) (f : Fresh H' ov) (hd : ∀ a ∈ o', H' a ≠ none) : Own H o (ov ++ o') := fun a => by
  rw [List.count_append]
  by_cases h : a ∈ ov
  · have h1 := (f a).2 h
    have h2 : o'.count a = 0 := List.count_eq_zero.mpr fun z => hd a z h1
    have h3 := (f a).1
    exact .inr ⟨s.dom a h1, by omega⟩
  · have h2 : ov.count a = 0 := List.count_eq_zero.mpr h
    rcases w a with w | ⟨z, w⟩
    · left; omega
    · right; exact ⟨z, by omega⟩
theorem Envs.dom {κ : Kx} {H : Hp} {σ : List (Option V)} {δ : DE} {o : List Addr} (E : Envs κ H σ δ o) : ∀ a ∈ o, H a ≠ none := fun a ha => by
  obtain ⟨vs, e, how⟩ := E.own a ha
  rw [e]; simp
theorem Step.same {H H1 H2 : Hp} {W : List Addr} (s : Step H H1 W) (k : ∀ a u, H1 a = some u → H2 a = some u) : Step H H2 W :=
  ⟨fun a u e n z => k a u (s.keep a u e n z), fun a e => s.dom a ((Step.of_same [] k).dom a e), fun P g => (Step.of_same [] k).tab P (s.tab P g)⟩
/-- behind pure work on values: the end of T -/
theorem post_pure {κ : Kx} {H H1 H2 : Hp} {σ : List (Option V)} {q : Bool} {o o1 ov1 ov : List Addr} {d : D} {δ1 : DE} {v : V} (s : Step H H1 (Wq q o)) (E : Envs κ H1 σ δ1 o1) (w : Own H o (ov1 ++ o1))
    (k : ∀ a u, H1 a = some u → H2 a = some u) (r : Rep κ.K H2 d v ov) (f : Fresh H1 ov) : Post κ H σ q o (.own d) δ1 v H2 o1 ov :=
  ⟨s.same k, E.same k, r, own_fresh (own_right w) s f E.dom⟩

def dCall (f : List D → Option D) (a : DE → Option (List R × DE)) : Den := fun δ => match a δ with
  | some (rs, δ') => match derefs δ' rs with
    | some ds => match f ds with
      | some d => some (.own d, δ')
      | none => none
    | none => none
  | none => none
theorem dCall_inv {f : List D → Option D} {m : DE → Option (List R × DE)} {δ δ' : DE} {r : R} (h : dCall f m δ = some (r, δ')) : ∃ rs ds d, m δ = some (rs, δ') ∧ derefs δ' rs = some ds ∧ f ds = some d ∧ r = .own d := by
  simp only [dCall] at h
  cases h1 : m δ with
  | none => rw [h1] at h; simp at h
  | some p =>
    obtain ⟨rs, δ1⟩ := p
    rw [h1] at h; dsimp only at h
    cases h2 : derefs δ1 rs with
    | none => rw [h2] at h; simp at h
    | some ds =>
      rw [h2] at h; dsimp only at h
      cases h3 : f ds with
      | none => rw [h3] at h; simp at h
      | some d =>
        rw [h3] at h
        simp only [Option.some.injEq, Prod.mk.injEq] at h
        obtain ⟨rfl, rfl⟩ := h
        exact ⟨rs, ds, d, rfl, h2, h3, rfl⟩
section
variable {X : Cx} {e a b : Expr} {es : List Expr} {qa qb q : Bool} {ma mb : Den} {mr : DE → Option (List R × DE)} {f : List D → Option D}
/-- a call told by the data: the arguments' reading, then f -/
theorem t_call {κ : Kx} {σ : L2.St} {H : Hp} {Q : VK} (h : T κ q (dCall f mr) σ H Q) : TAr κ q mr σ H fun vs H1 => Pr κ.K f vs H1 Q := by
  obtain ⟨δ, o, r, δ', E, n, hm, k⟩ := h
  obtain ⟨rs, ds, d, h1, h2, h3, rfl⟩ := dCall_inv hm
  refine ⟨δ, o, rs, δ', E, n, h1, fun vs H1 o1 ov1 s1 E1 hl w1 => ?_⟩
  obtain ⟨o', rp⟩ := HeldL.derefs E1 hl h2
  exact ⟨ds, o', d, rp, h3, fun v H2 ov hs r fr => k v H2 o1 ov (post_pure s1 E1 w1 hs r fr)⟩
/-- two operands as two arguments -/
theorem t_two {κ : Kx} {σ : L2.St} {H : Hp} {Q : V → V → Hp → Prop} (h : TAr κ (qa && (qb && true)) (dACons (qb && true) ma (dACons true mb dANil)) σ H fun vs H1 => ∀ x y, vs = [x, y] → Q x y H1) :
    T κ qa ma σ H fun x H1 => T κ qb mb σ H1 fun y H2 => Q x y H2 := by
  obtain ⟨δ, o, rs, δ', E, n, hm, k⟩ := h
  simp only [dACons, dANil] at hm
  cases h1 : ma δ with
  | none => rw [h1] at hm; simp at hm
  | some p1 =>
    obtain ⟨x, δ1⟩ := p1
    rw [h1] at hm; dsimp only at hm
    cases h2 : mb δ1 with
    | none => rw [h2] at hm; simp at hm
    | some p2 =>
      obtain ⟨y, δ2⟩ := p2
      rw [h2] at hm; dsimp only at hm
      simp only [Bool.or_true, if_true] at hm
      by_cases hc : (x.short || (qb && true)) = true
      · rw [if_pos hc] at hm
        simp only [Option.some.injEq, Prod.mk.injEq] at hm
        obtain ⟨rfl, rfl⟩ := hm
        refine ⟨δ, o, x, δ1, E, n, h1, fun v H1 o1 ov1 P1 => ?_⟩
        refine ⟨δ1, o1, y, δ2, P1.env, nd_of P1.own n, h2, fun w H2 o2 ov2 P2 => ?_⟩
        have ap := apart_of P1.own n
        have s := P1.step.seq (own_right P1.own) P2.step
        rw [Bool.and_true] at k hc
        refine k [v, w] H2 o2 (ov1 ++ (ov2 ++ [])) s P2.env ⟨v, [w], ov1, ov2 ++ [], rfl, ?_, ⟨w, [], ov2, [], rfl, P2.held, ⟨rfl, rfl⟩, rfl⟩, rfl⟩ (by rw [List.append_nil]; exact own_app P1.own P1.step P1.held.dom P2.own) v w rfl
        refine P1.held.step P2.step (Wq_ok P1.env) (fun a ha hw => ap a ha (Wq_sub a hw)) ?_
        simp only [Bool.or_eq_true] at hc
        rcases hc with hc | hc
        · exact .inl hc
        · right; subst hc; rfl
      · rw [if_neg hc] at hm; simp at hm
theorem TAr.imp {κ : Kx} {σ : L2.St} {H : Hp} {Q Q' : List V → Hp → Prop} (h : TAr κ q mr σ H Q) (i : ∀ vs H, Q vs H → Q' vs H) : TAr κ q mr σ H Q' := by
  obtain ⟨δ, o, rs, δ', E, n, hm, k⟩ := h
  exact ⟨δ, o, rs, δ', E, n, hm, fun vs H' o' ov a b c d => i _ _ (k vs H' o' ov a b c d)⟩
abbrev d2 (qb : Bool) (ma mb : Den) : DE → Option (List R × DE) := dACons (qb && true) ma (dACons true mb dANil)
theorem z_bin {op : Operator} {pos : Pos} (ho : OpR X (binaryOp op) fun x y => Pr X.F f [x, y]) (ha : PE X a (T (kx X) qa ma)) (hb : PE X b (T (kx X) qb mb)) : PE X (.BinOp a op b pos) (T (kx X) (qa && (qb && true)) (dCall f (d2 qb ma mb))) :=
  PE.imp (pe_op ho ha hb) fun σ H Q h => t_two (Q := fun x y H2 => Pr X.F f [x, y] H2 Q) ((t_call h).imp fun vs H1 p x y e => by rw [← e]; exact p)
theorem z_cmp {op : CmpOp} {pos : Pos} (ho : OpR X (compareOp op) fun x y => Pr X.F f [x, y]) (ha : PE X a (T (kx X) qa ma)) (hb : PE X b (T (kx X) qb mb)) (hm : behindInMarks op b = false := by first | exact nomark _ | rfl) : PE X (.Compare a [op] [b] pos) (T (kx X) (qa && (qb && true)) (dCall f (d2 qb ma mb))) :=
  PE.imp (pe_cmpR ho ha hb hm) fun σ H Q h => t_two (Q := fun x y H2 => Pr X.F f [x, y] H2 Q) ((t_call h).imp fun vs H1 p x y e => by rw [← e]; exact p)
theorem z_callB {id : String} {x : Str} {p pos : Pos} (hc : CallR X (.builtin id) (Pr X.F f)) (hg : Gl X x) (hm : X.mg x = none) (hv : bootBuiltins x = some (.builtin id)) (ha : PA X (e :: es) (TAr (kx X) q mr))
    (hn : x ≠ "__name__" := by decide) (hdb : (x == ("__debug__" : Str)) = false := by decide) (he : starEach (e :: es) X.env = (false, eval e X.env) :: starEach es X.env := by rfl) (hpl : (backTo pos (starEach es X.env)).any (·.1) = false := by rfl) :
    PE X (.Call (.Name x p) (e :: es) [] pos) (T (kx X) q (dCall f mr)) :=
  PE.imp (pe_callB hc hg hm hv ha hn hdb he hpl) fun σ H Q h => t_call h
theorem z_callTy {id : String} {x : Str} {p pos : Pos} (hc : CallR X (.type id) (Pr X.F f)) (hg : Gl X x) (hm : X.mg x = none) (hv : bootBuiltins x = some (.type id)) (ha : PA X (e :: es) (TAr (kx X) q mr))
    (hn : x ≠ "__name__" := by decide) (hdb : (x == ("__debug__" : Str)) = false := by decide) (he : starEach (e :: es) X.env = (false, eval e X.env) :: starEach es X.env := by rfl) (hpl : (backTo pos (starEach es X.env)).any (·.1) = false := by rfl) :
    PE X (.Call (.Name x p) (e :: es) [] pos) (T (kx X) q (dCall f mr)) :=
  PE.imp (pe_callTy hc hg hm hv ha hn hdb he hpl) fun σ H Q h => t_call h
end
end Z


set_option Elab.async false
set_option linter.all false
set_option maxRecDepth 100000
/-! displays, subscripts, tests, calls of the program's own defs -/
namespace Z
open PySem PySem.Spec PyProof.Rows L2

/-! ### operands that are held -/
def allShort : List R → Bool
  | [] => true
  | r :: rs => r.short && allShort rs
def Stk (κ : Kx) (H0 : Hp) (σ : List (Option V)) (q : Bool) (o0 : List Addr) (rs : List R) (vs : List V) (δ : DE) (H : Hp) : Prop :=
  ∃ o ov, Step H0 H (Wq q o0) ∧ Envs κ H σ δ o ∧ HeldL κ.K H σ rs vs ov ∧ Own H0 o0 (ov ++ o)
section
variable {K : Fw} {κ : Kx} {H0 H : Hp} {σ : List (Option V)} {q qa : Bool} {o0 : List Addr} {rs : List R} {vs : List V} {δ δ1 : DE} {ma : Den} {r : R}
theorem HeldL.step : ∀ {rs : List R} {vs : List V} {W ov : List Addr} {H H' : Hp}, HeldL K H σ rs vs ov → Step H H' W → (∀ a ∈ W, ∃ u, H a = some u ∧ ¬ Sh u) → (∀ a ∈ ov, a ∉ W) → (allShort rs = true ∨ W = []) → HeldL K H' σ rs vs ov
  | [], _, _, _, _, _, h, _, _, _, _ => h
  | r :: rs, _, W, _, H, H', h, s, hW, n, hq => by
    obtain ⟨v, vr, o1, o2, rfl, h1, h2, rfl⟩ := h
    refine ⟨v, vr, o1, o2, rfl, h1.step s hW (fun a ha => n a (List.mem_append_left _ ha)) ?_, HeldL.step h2 s hW (fun a ha => n a (List.mem_append_right _ ha)) ?_, rfl⟩
    · rcases hq with hq | hq
      · simp only [allShort, Bool.and_eq_true] at hq; exact .inl hq.1
      · exact .inr hq
    · rcases hq with hq | hq
      · simp only [allShort, Bool.and_eq_true] at hq; exact .inl hq.2
      · exact .inr hq
theorem Stk.start {o : List Addr} (E : Envs κ H σ δ o) : Stk κ H σ true o [] [] δ H := ⟨o, [], Step.refl _ _, E, ⟨rfl, rfl⟩, own_nil⟩
theorem Stk.push {G : VK} (n0 : Nd o0) (S : Stk κ H0 σ q o0 rs vs δ H) (hm : ma δ = some (r, δ1)) (hs : (allShort rs || qa) = true) (k : ∀ v H1, Stk κ H0 σ (q && qa) o0 (r :: rs) (v :: vs) δ1 H1 → G v H1) : T κ qa ma σ H G := by
  obtain ⟨o, ov, s, E, hl, w⟩ := S
  refine ⟨δ, o, r, δ1, E, nd_of w n0, hm, fun v H1 o1 ov1 P => k v H1 ⟨o1, ov1 ++ ov, s.seq (own_right w) P.step, P.env, ⟨v, vs, ov1, ov, rfl, P.held, ?_, rfl⟩, ?_⟩⟩
  · have ap := apart_of w n0
    refine hl.step P.step (Wq_ok E) (fun a ha hw => ap a ha (Wq_sub a hw)) ?_
    simp only [Bool.or_eq_true] at hs
    rcases hs with hs | hs
    · exact .inl hs
    · right; subst hs; rfl
  · refine (own_app w s hl.dom P.own).sub fun a => ?_
    simp only [List.count_append]; omega
theorem Stk.reps {ds : List D} (S : Stk κ H0 σ q o0 rs vs δ H) (e : derefs δ rs = some ds) : ∃ o', Reps κ.K H ds vs o' := by
  obtain ⟨o, ov, s, E, hl, w⟩ := S
  exact hl.derefs E e
/-- the end: a new datum -/
theorem Stk.pure {d : D} {G : VK} (S : Stk κ H0 σ q o0 rs vs δ H) (h : ∀ v H' o' ov, Post κ H0 σ q o0 (.own d) δ v H' o' ov → G v H') {v : V} {H2 : Hp} {ov : List Addr} (k : ∀ a u, H a = some u → H2 a = some u) (r : Rep κ.K H2 d v ov) (f : Fresh H ov) : G v H2 := by
  obtain ⟨o, ov1, s, E, hl, w⟩ := S
  exact h v H2 o ov (post_pure s E w k r f)
end

/-! ### displays -/
def owns : List R → Option (List D)
  | [] => some []
  | .own d :: rs => match owns rs with
    | some ds => some (d :: ds)
    | none => none
  | .at _ _ :: _ => none
theorem HeldL.owns {K : Fw} {H : Hp} {σ : List (Option V)} : ∀ {rs : List R} {vs : List V} {ov : List Addr} {ds : List D}, HeldL K H σ rs vs ov → owns rs = some ds → Reps K H ds vs ov
  | [], _, _, _, h, e => by cases (Option.some.inj e); exact h
  | .own d :: rs, _, _, _, h, e => by
    obtain ⟨v, vr, o1, o2, rfl, h1, h2, rfl⟩ := h
    simp only [Z.owns] at e
    cases e2 : Z.owns rs with
    | none => rw [e2] at e; simp at e
    | some ds =>
      rw [e2] at e
      cases (Option.some.inj e)
      exact ⟨v, vr, o1, o2, rfl, h1, HeldL.owns h2 e2, rfl⟩
  | .at _ _ :: rs, _, _, _, h, e => by simp [Z.owns] at e
def dTup (m : DE → Option (List R × DE)) : Den := fun δ => match m δ with
  | some (rs, δ') => match owns rs with
    | some ds => if ds.length ≤ 1000 then some (.own (.tup ds), δ') else none
    | none => none
  | none => none
def dLst (m : DE → Option (List R × DE)) : Den := fun δ => match m δ with
  | some (rs, δ') => match owns rs with
    | some ds => if ds.length ≤ 1000 then some (.own (.lst ds), δ') else none
    | none => none
  | none => none
section
variable {X : Cx} {es : List Expr} {q : Bool} {m : DE → Option (List R × DE)}
theorem small_sz {n : Nat} (h : n ≤ 1000) : n ≤ sizeLine := Nat.le_trans h (by decide)
theorem new_same {H : Hp} {p : Addr} {u : HO} (h : H p = none) : ∀ a w, H a = some w → upd H p u a = some w := fun a w e => by
  rw [upd_ne (ne_of_none e h)]; exact e
theorem Reps.same {K : Fw} {H H' : Hp} {xs : List D} {vs : List V} {o : List Addr} (h : Reps K H xs vs o) (k : ∀ a u, H a = some u → H' a = some u) : Reps K H' xs vs o :=
  h.fr ⟨fun a ha => by obtain ⟨u, e, _⟩ := h.own a ha; rw [e]; exact k _ _ e, fun a u e _ => k a u e⟩
theorem Rep.same {K : Fw} {H H' : Hp} {d : D} {v : V} {o : List Addr} (h : Rep K H d v o) (k : ∀ a u, H a = some u → H' a = some u) : Rep K H' d v o :=
  h.fr ⟨fun a ha => by obtain ⟨u, e, _⟩ := h.own a ha; rw [e]; exact k _ _ e, fun a u e _ => k a u e⟩
theorem z_tup {k : Nat} {pos : Pos} (h : PA X es (TAr (kx X) q m)) : PE X (.Tuple es k pos) (T (kx X) q (dTup m)) :=
  PE.imp (pe_tup h) fun σ H Q h => by
    obtain ⟨δ, o, r, δ', E, n, hm, k⟩ := h
    simp only [dTup] at hm
    cases h1 : m δ with
    | none => rw [h1] at hm; simp at hm
    | some p =>
      obtain ⟨rs, δ1⟩ := p
      rw [h1] at hm; dsimp only at hm
      cases h2 : owns rs with
      | none => rw [h2] at hm; simp at hm
      | some ds =>
        rw [h2] at hm; dsimp only at hm
        by_cases hc : ds.length ≤ 1000
        · rw [if_pos hc] at hm
          simp only [Option.some.injEq, Prod.mk.injEq] at hm
          obtain ⟨rfl, rfl⟩ := hm
          refine ⟨δ, o, rs, δ1, E, n, h1, fun vs H1 o1 ov1 s1 E1 hl w1 => ?_⟩
          have rp := hl.owns h2
          refine ⟨by rw [rp.length]; exact small_sz hc, fun p hp => ?_⟩
          exact k _ _ o1 ov1 ⟨s1.same (new_same hp), E1.same (new_same hp), ⟨p, vs, rfl, .of upd_same, rp.same (new_same hp)⟩, w1⟩
        · rw [if_neg hc] at hm; simp at hm
theorem z_lst {pos : Pos} (h : PA X es (TAr (kx X) q m)) : PE X (.List es pos) (T (kx X) q (dLst m)) :=
  PE.imp (pe_lst h) fun σ H Q h => by
    obtain ⟨δ, o, r, δ', E, n, hm, k⟩ := h
    simp only [dLst] at hm
    cases h1 : m δ with
    | none => rw [h1] at hm; simp at hm
    | some p =>
      obtain ⟨rs, δ1⟩ := p
      rw [h1] at hm; dsimp only at hm
      cases h2 : owns rs with
      | none => rw [h2] at hm; simp at hm
      | some ds =>
        rw [h2] at hm; dsimp only at hm
        by_cases hc : ds.length ≤ 1000
        · rw [if_pos hc] at hm
          simp only [Option.some.injEq, Prod.mk.injEq] at hm
          obtain ⟨rfl, rfl⟩ := hm
          refine ⟨δ, o, rs, δ1, E, n, h1, fun vs H1 o1 ov1 s1 E1 hl w1 => ?_⟩
          have rp := hl.owns h2
          refine ⟨by rw [rp.length]; exact small_sz hc, fun p hp => ?_⟩
          refine k _ _ o1 (p :: ov1) ⟨s1.same (new_same hp), E1.same (new_same hp), ⟨p, vs, ov1, rfl, upd_same, rp.same (new_same hp), rfl⟩, fun a => ?_⟩
          have hw := w1 a
          have d1 : ∀ a ∈ ov1 ++ o1, H1 a ≠ none := fun a ha => (List.mem_append.mp ha).elim (hl.dom a) (E1.dom a)
          by_cases ha : a = p
          · subst ha
            have z : (ov1 ++ o1).count a = 0 := List.count_eq_zero.mpr fun hm => d1 a hm hp
            rw [List.cons_append, List.count_cons_self, z]
            exact .inr ⟨s1.dom a hp, Nat.le_refl _⟩
          · rw [List.cons_append, List.count_cons_of_ne (fun z => ha z.symm)]
            exact hw
        · rw [if_neg hc] at hm; simp at hm
end

/-! ### subscripts -/
def subD : D → Int → Option D
  | .tup xs, i => atI xs i
  | .lst xs, i => atI xs i
  | .frz xs, i => atI xs i
  | .str x, i => match atI x.cps.toList i with
    | some c => some (.str ⟨#[c]⟩)
    | none => none
  | _, _ => none
def subR (r : R) (d : D) (i : Int) : Option R := match subD d i with
  | some e => if e.imm then some (.own e) else match r, d with
    | .at s p, .lst xs => match ixN xs.length i with
      | some j => some (.at s (p ++ [j]))
      | none => none
    | _, _ => none
  | none => none
def dSub (qb : Bool) (ma mb : Den) : Den := fun δ => match ma δ with
  | some (ra, δ1) => match mb δ1 with
    | some (rb, δ2) => if ra.short || qb then match deref δ2 ra, deref δ2 rb with
      | some d, some (.int i) => match subR ra d i with
        | some r => some (r, δ2)
        | none => none
      | _, _ => none
      else none
    | none => none
  | none => none
theorem strOk_mem {x : Str} (h : PyData.strOk x = true) {c : Nat} (hc : c ∈ x.cps.toList) : c < 0x110000 := by
  have h' : x.cps.all (· < 0x110000) = true := h
  rw [← Array.all_toList, List.all_eq_true] at h'
  exact of_decide_eq_true (h' c hc)
theorem strOk_of {l : List Nat} (h : ∀ c ∈ l, c < 0x110000) : PyData.strOk ⟨l.toArray⟩ = true := by
  show Array.all _ _ = true
  rw [← Array.all_toList, List.all_eq_true]
  exact fun c hc => decide_eq_true (h c hc)
theorem strOk_at {x : Str} (h : PyData.strOk x = true) {i : Int} {c : Nat} (hc : L2.atI x.cps.toList i = some c) : StrOk ⟨#[c]⟩ := by
  refine ⟨by show 1 ≤ sizeLine; decide, strOk_of (l := [c]) fun d hd => ?_⟩
  rw [List.mem_singleton.mp hd]
  unfold L2.atI at hc
  cases hj : ixN x.cps.toList.length i with
  | none => rw [hj] at hc; cases hc
  | some j =>
    rw [hj] at hc
    exact strOk_mem h (List.mem_of_getElem? (show x.cps.toList[j]? = some c from hc))
section
variable {K : Fw} {κ : Kx} {H : Hp}
theorem Reps.atI {xs : List D} {vs : List V} {o : List Addr} {i : Int} {e : D} (h : Reps K H xs vs o) (he : atI xs i = some e) : ∃ v o1, atI vs i = some v ∧ Rep K H e v o1 ∧ ∃ j, ixN xs.length i = some j ∧ vs[j]? = some v ∧ xs[j]? = some e := by
  unfold L2.atI at he ⊢
  cases hj : ixN xs.length i with
  | none => rw [hj] at he; simp at he
  | some j =>
    rw [hj] at he
    obtain ⟨v, o1, e1, r, _⟩ := h.get (i := j) (d := e) (by simpa using he)
    refine ⟨v, o1, ?_, r, j, rfl, e1, by simpa using he⟩
    rw [h.length, hj]
    exact e1
end
section
variable {X : Cx} {a b : Expr} {qa qb : Bool} {ma mb : Den}
theorem z_sub {pos : Pos} (ha : PE X a (T (kx X) qa ma)) (hb : PE X b (T (kx X) qb mb)) (hs : PlainIx b := by exact fun _ _ => rfl) : PE X (.Subscript a b pos) (T (kx X) (qa && qb) (dSub qb ma mb)) := by
  refine PE.imp (pe_ix ix_seq ha hb hs) fun σ H Q h => ?_
  obtain ⟨δ, o, r, δ', E, n, hm, k⟩ := h
  simp only [dSub] at hm
  cases h1 : ma δ with
  | none => rw [h1] at hm; simp at hm
  | some p1 =>
    obtain ⟨ra, δ1⟩ := p1
    rw [h1] at hm; dsimp only at hm
    cases h2 : mb δ1 with
    | none => rw [h2] at hm; simp at hm
    | some p2 =>
      obtain ⟨rb, δ2⟩ := p2
      rw [h2] at hm; dsimp only at hm
      by_cases hc : (ra.short || qb) = true
      · rw [if_pos hc] at hm
        cases h3 : deref δ2 ra with
        | none => rw [h3] at hm; simp at hm
        | some d =>
          cases h4 : deref δ2 rb with
          | none => rw [h3, h4] at hm; simp at hm
          | some db =>
            rw [h3, h4] at hm
            cases db <;> simp only [reduceCtorEq] at hm
            rename_i i
            cases h5 : subR ra d i with
            | none => rw [h5] at hm; simp at hm
            | some rr =>
              rw [h5] at hm
              simp only [Option.some.injEq, Prod.mk.injEq] at hm
              obtain ⟨rfl, rfl⟩ := hm
              refine (Stk.start E).push n h1 (by simp [allShort]) fun x H1 S1 => ?_
              refine S1.push n h2 (by simpa [allShort] using hc) fun y H2 S2 => ?_
              rw [Bool.true_and] at S2
              obtain ⟨o2, ov, s2, E2, ⟨y', vr, oy, oxx, e1, hy, ⟨x', vr2, ox, onil, e2, hx, ⟨e3, e4⟩, e5⟩, e6⟩, w2⟩ := S2
              subst e4 e5 e6 e3
              cases e2; cases e1
              obtain ⟨_, ry, _⟩ := hy.deref E2 h4
              obtain ⟨rfl, rfl⟩ := ry
              obtain ⟨od, rx, _⟩ := hx.deref E2 h3
              have wr : Own H o o2 := own_right w2
              have fin : ∀ (e : D) (v : V), e.imm = true → Rep X.F H2 e v [] → rr = .own e → Q v H2 := fun e v hi re er => by
                subst er
                exact k v H2 o2 [] ⟨s2, E2, re, wr.sub fun a => by simp⟩
              have seqs : ∀ (xs : List D) (vs : List V) (oo : List Addr), Reps X.F H2 xs vs oo → subD d i = atI xs i → (d = .lst xs ∨ ∀ ys, d ≠ .lst ys) → (∀ s p, ra = .at s p → d = .lst xs → ∀ v, atI vs i = some v → ∀ j, ixN xs.length i = some j → vs[j]? = some v → Held X.F H2 σ (.at s (p ++ [j])) v []) →
                  ∃ v, atI vs i = some v ∧ Q v H2 := fun xs vs oo rs hd hdl hp => by
                unfold subR at h5
                rw [hd] at h5
                cases he : atI xs i with
                | none => rw [he] at h5; simp at h5
                | some e =>
                  rw [he] at h5; dsimp only at h5
                  obtain ⟨v, o1, hv, re, j, hj, hvj, _⟩ := rs.atI he
                  refine ⟨v, hv, ?_⟩
                  by_cases hi : e.imm = true
                  · rw [if_pos hi] at h5
                    have := re.imm hi
                    subst this
                    exact fin e v hi re (Option.some.inj h5).symm
                  · rw [if_neg hi] at h5
                    cases hra : ra with
                    | own _ => rw [hra] at h5; simp at h5
                    | «at» s p =>
                      rw [hra] at h5
                      rcases hdl with hdl | hdl
                      · subst hdl
                        simp only [hj, Option.some.injEq] at h5
                        subst h5
                        exact k v H2 o2 [] ⟨s2, E2, hp s p hra rfl v hv j hj hvj, wr.sub fun a => by simp⟩
                      · cases d <;> simp only [reduceCtorEq] at h5
                        exact (hdl _ rfl).elim
              cases d with
              | tup xs =>
                obtain ⟨a1, vs, rfl, hq, rs⟩ := rx
                obtain ⟨v, hv, q⟩ := seqs xs vs _ rs rfl (.inr fun _ z => nomatch z) (fun _ _ _ z => nomatch z)
                exact .inr (.inl ⟨a1, vs, i, v, rfl, rfl, hq, hv, q⟩)
              | lst xs =>
                obtain ⟨a1, vs, o', rfl, hq, rs, _⟩ := rx
                obtain ⟨v, hv, q⟩ := seqs xs vs _ rs rfl (.inl rfl) (fun s p era _ v hv j hj hvj => by
                  subst era
                  obtain ⟨_, u, hu, hp⟩ := hx
                  exact ⟨rfl, u, hu, hp.snoc hq hvj⟩)
                exact .inl ⟨a1, vs, i, v, rfl, rfl, .of hq, hv, q⟩
              | frz xs =>
                obtain ⟨a1, vs, rfl, hq, rs, _⟩ := rx
                obtain ⟨v, hv, q⟩ := seqs xs vs _ rs rfl (.inr fun _ z => nomatch z) (fun _ _ _ z => nomatch z)
                exact .inl ⟨a1, vs, i, v, rfl, rfl, hq.sq, hv, q⟩
              | str z =>
                obtain ⟨rfl, ⟨hz, hz2⟩, _⟩ := rx
                simp only [subR, subD] at h5
                cases hc2 : atI z.cps.toList i with
                | none => rw [hc2] at h5; simp at h5
                | some c =>
                  rw [hc2] at h5
                  simp only [D.imm, if_true, Option.some.injEq] at h5
                  exact .inr (.inr ⟨z, i, c, rfl, rfl, hz, hc2, fin (.str ⟨#[c]⟩) _ rfl ⟨rfl, strOk_at hz2 hc2, rfl⟩ h5.symm⟩)
              | _ => simp [subR, subD] at h5
      · rw [if_neg hc] at hm; simp at hm
end
end Z


set_option Elab.async false
set_option linter.all false
set_option maxRecDepth 100000
/-! tests, choices, slices, calls of the program's own defs -/
namespace Z
open PySem PySem.Spec PyProof.Rows L2

theorem Step.weak {H H' : Hp} {q q' : Bool} {o : List Addr} (s : Step H H' (Wq q o)) (h : q' = true → q = true) : Step H H' (Wq q' o) := by
  cases q' with
  | true => rw [h rfl] at s; exact s
  | false => exact s.mono Wq_sub

/-! ### tests -/
abbrev DenT := DE → Option (Bool × DE)
def truthD : D → Option Bool
  | .non => some false
  | .bl b => some b
  | .int i => some (i != 0)
  | .str x => some ((x.length : Int) != 0)
  | .tup xs => some (!xs.isEmpty)
  | .lst xs => some (!xs.isEmpty)
  | .frz xs => some (!xs.isEmpty)
  | _ => none
def dTv (m : Den) : DenT := fun δ => match m δ with
  | some (r, δ1) => match deref δ1 r with
    | some d => match truthD d with
      | some b => some (b, δ1)
      | none => none
    | none => none
  | none => none
def dAnd (ma mb : DenT) : DenT := fun δ => match ma δ with
  | some (true, δ1) => mb δ1
  | x => x
def dOr (ma mb : DenT) : DenT := fun δ => match ma δ with
  | some (false, δ1) => mb δ1
  | x => x
def dNot (ma : DenT) : DenT := fun δ => match ma δ with
  | some (b, δ1) => some (!b, δ1)
  | none => none
section
variable {K : Fw} {κ : Kx} {σ : L2.St} {H : Hp} {q qa qb : Bool} {ma mb : DenT} {o : List Addr} {δ δ1 : DE} {b : Bool}
theorem empty_reps {xs : List D} {vs : List V} {o : List Addr} (h : Reps K H xs vs o) : (!vs.isEmpty) = !xs.isEmpty := by
  cases xs with
  | nil => rw [h.1]; rfl
  | cons x xs => obtain ⟨v, vr, _, _, rfl, _⟩ := h; rfl
theorem truth_ok {d : D} {v : V} {o : List Addr} {b : Bool} (r : Rep K H d v o) (h : truthD d = some b) : TruV K v H b := by
  cases d with
  | non => obtain ⟨rfl, _⟩ := r; exact (Option.some.inj h).symm
  | bl b => obtain ⟨rfl, _⟩ := r; exact (Option.some.inj h).symm
  | int i => obtain ⟨rfl, _⟩ := r; exact (Option.some.inj h).symm
  | str x => obtain ⟨rfl, hx, _⟩ := r; exact ⟨hx.1, (Option.some.inj h).symm⟩
  | tup xs =>
    obtain ⟨a, vs, rfl, hq, rs⟩ := r
    exact .inr (.inl ⟨vs, hq, by rw [empty_reps rs]; exact (Option.some.inj h).symm⟩)
  | lst xs =>
    obtain ⟨a, vs, o', rfl, hq, rs, _⟩ := r
    exact .inl ⟨vs, .of hq, by rw [empty_reps rs]; exact (Option.some.inj h).symm⟩
  | frz xs =>
    obtain ⟨a, vs, rfl, hq, rs, _⟩ := r
    exact .inl ⟨vs, hq.sq, by rw [empty_reps rs]; exact (Option.some.inj h).symm⟩
  | dic _ _ => cases h
  | obj _ _ _ => exact r.elim
theorem PostA.seq {H1 H2 : Hp} {o1 o2 : List Addr} {δ2 : DE} (P : PostA κ H σ qa o δ1 H1 o1) (P2 : PostA κ H1 σ qb o1 δ2 H2 o2) : PostA κ H σ (qa && qb) o δ2 H2 o2 :=
  ⟨P.step.seq P.own P2.step, P2.env, P.own.trans P.step P2.own⟩
theorem PostA.weak {q' : Bool} {H1 : Hp} {o1 : List Addr} (P : PostA κ H σ q o δ1 H1 o1) (h : q' = true → q = true) : PostA κ H σ q' o δ1 H1 o1 := ⟨P.step.weak h, P.env, P.own⟩
theorem PostA.post {H1 H2 : Hp} {o1 o2 ov : List Addr} {δ2 : DE} {r : R} {v : V} (P : PostA κ H σ qa o δ1 H1 o1) (P2 : Post κ H1 σ qb o1 r δ2 v H2 o2 ov) : Post κ H σ (qa && qb) o r δ2 v H2 o2 ov :=
  ⟨P.step.seq P.own P2.step, P2.env, P2.held, P.own.trans P.step P2.own⟩
theorem Post.weak {q' : Bool} {r : R} {v : V} {H1 : Hp} {o1 ov : List Addr} (P : Post κ H σ q o r δ1 v H1 o1 ov) (h : q' = true → q = true) : Post κ H σ q' o r δ1 v H1 o1 ov := ⟨P.step.weak h, P.env, P.held, P.own⟩
/-- another test behind a test -/
theorem TT.then_ {H0 : Hp} {o0 : List Addr} {Q : Bool → Hp → Prop} (n0 : Nd o0) (P : PostA κ H0 σ qa o0 δ H o) (hm : mb δ = some (b, δ1)) (k : ∀ H' o', PostA κ H0 σ (qa && qb) o0 δ1 H' o' → Q b H') : TT κ qb mb σ H Q :=
  ⟨δ, o, b, δ1, P.env, P.own.nd n0, hm, fun H' o' P2 => k H' o' (P.seq P2)⟩
theorem T.then_ {H0 : Hp} {o0 : List Addr} {Q : VK} {m : Den} {r : R} (n0 : Nd o0) (P : PostA κ H0 σ qa o0 δ H o) (hm : m δ = some (r, δ1)) (k : ∀ v H' o' ov, Post κ H0 σ (qa && qb) o0 r δ1 v H' o' ov → Q v H') : T κ qb m σ H Q :=
  ⟨δ, o, r, δ1, P.env, P.own.nd n0, hm, fun v H' o' ov P2 => k v H' o' ov (P.post P2)⟩
end
section
variable {X : Cx} {a b c : Expr} {rest : List Expr} {q qa qb qc : Bool} {m ma' mb' : Den} {ma mb mc : DenT} {pos : Pos}
theorem z_tv (ha : PE X a (T (kx X) q m)) (he : ∀ whole, isTrue a X.env whole = (do let v ← whole; standAt a.pos; holding [v] (truthy v)) := by intro _; rfl) : PT X a (TT (kx X) q (dTv m)) :=
  PT.imp (pt_truth ha he) fun σ H Q h => by
    obtain ⟨δ, o, b, δ', E, n, hm, k⟩ := h
    simp only [dTv] at hm
    cases h1 : m δ with
    | none => rw [h1] at hm; simp at hm
    | some p =>
      obtain ⟨r, δ1⟩ := p
      rw [h1] at hm; dsimp only at hm
      cases h2 : deref δ1 r with
      | none => rw [h2] at hm; simp at hm
      | some d =>
        rw [h2] at hm; dsimp only at hm
        cases h3 : truthD d with
        | none => rw [h3] at hm; simp at hm
        | some b' =>
          rw [h3] at hm
          simp only [Option.some.injEq, Prod.mk.injEq] at hm
          obtain ⟨rfl, rfl⟩ := hm
          refine ⟨δ, o, r, δ1, E, n, h1, fun v H1 o1 ov P => ?_⟩
          obtain ⟨o', rp, _⟩ := P.held.deref P.env h2
          exact ⟨_, truth_ok rp h3, k H1 o1 ⟨P.step, P.env, own_right P.own⟩⟩
def dTb (m : Den) : DenT := fun δ => match m δ with
  | some (.own (.bl b), δ1) => some (b, δ1)
  | _ => none
theorem isbl {α : Type} {m : Den} {δ : DE} {z : α} {f : Bool → DE → Option α} {g : Option (R × DE) → Option α} (hg : ∀ b δ1, g (some (.own (.bl b), δ1)) = f b δ1) (hn : ∀ x, (∀ b δ1, x ≠ some (.own (.bl b), δ1)) → g x = none) (h : g (m δ) = some z) :
    ∃ b δ1, m δ = some (.own (.bl b), δ1) ∧ f b δ1 = some z := by
  by_cases hx : ∃ b δ1, m δ = some (.own (.bl b), δ1)
  · obtain ⟨b, δ1, e⟩ := hx
    exact ⟨b, δ1, e, by rw [← hg, ← e]; exact h⟩
  · rw [hn _ fun b δ1 e => hx ⟨b, δ1, e⟩] at h
    cases h
/-- a comparison as a test -/
theorem z_tcmp {op : CmpOp} {f : List D → Option D} (ho : OpR X (compareOp op) fun x y => Pr X.F f [x, y]) (ha : PE X a (T (kx X) qa ma')) (hb : PE X b (T (kx X) qb mb')) (hm : behindInMarks op b = false := by first | exact nomark _ | rfl) : PT X (.Compare a [op] [b] pos) (TT (kx X) (qa && (qb && true)) (dTb (dCall f (d2 qb ma' mb')))) :=
  PT.imp (pt_cmpR ho ha hb hm) fun σ H Q h => by
    obtain ⟨δ, o, b', δ', E, n, hm, k⟩ := h
    obtain ⟨c, δ1, h1, h2⟩ := isbl (m := dCall f (d2 qb ma' mb')) (δ := δ) (g := fun x => match x with | some (.own (.bl b), δ1) => some (b, δ1) | _ => none) (f := fun b δ1 => some (b, δ1))
      (fun b δ1 => rfl) (fun x hx => by split <;> first | rfl | exact (hx _ _ rfl).elim) hm
    simp only [Option.some.injEq, Prod.mk.injEq] at h2
    obtain ⟨rfl, rfl⟩ := h2
    refine t_two (Q := fun x y H2 => Pr X.F f [x, y] H2 fun x H' => ∃ k, x = .bl k ∧ Q k H') ((TAr.imp (t_call (f := f) (Q := fun x H' => ∃ k, x = .bl k ∧ Q k H') ⟨δ, o, .own (.bl c), δ1, E, n, h1, fun v H1 o1 ov P => ?_⟩)) fun vs H1 p x y e => by rw [← e]; exact p)
    obtain ⟨rfl, _⟩ := P.held
    exact ⟨c, rfl, k H1 o1 ⟨P.step, P.env, own_right P.own⟩⟩
theorem z_not (ha : PT X a (TT (kx X) qa ma)) : PT X (.UnaryOp .Not a pos) (TT (kx X) qa (dNot ma)) :=
  PT.imp (pt_not ha) fun σ H Q h => by
    obtain ⟨δ, o, b, δ', E, n, hm, k⟩ := h
    simp only [dNot] at hm
    cases h1 : ma δ with
    | none => rw [h1] at hm; simp at hm
    | some p =>
      obtain ⟨c, δ1⟩ := p
      rw [h1] at hm
      simp only [Option.some.injEq, Prod.mk.injEq] at hm
      obtain ⟨rfl, rfl⟩ := hm
      exact ⟨δ, o, c, δ1, E, n, h1, k⟩
theorem z_wand1 (ha : PT X a (TT (kx X) qa ma)) : PW X (.BoolOp .And [a] pos) (TT (kx X) qa ma) := pw_and1 ha
theorem z_wor1 (ha : PT X a (TT (kx X) qa ma)) : PW X (.BoolOp .Or [a] pos) (TT (kx X) qa ma) := pw_or1 ha
theorem z_wand (ha : PT X a (TT (kx X) qa ma)) (hb : PW X (.BoolOp .And (b :: rest) pos) (TT (kx X) qb mb)) : PW X (.BoolOp .And (a :: b :: rest) pos) (TT (kx X) (qa && qb) (dAnd ma mb)) :=
  PW.imp (pw_and ha hb) fun σ H Q h => by
    obtain ⟨δ, o, bb, δ', E, n, hm, k⟩ := h
    simp only [dAnd] at hm
    cases h1 : ma δ with
    | none => rw [h1] at hm; simp at hm
    | some p =>
      obtain ⟨c, δ1⟩ := p
      rw [h1] at hm
      refine ⟨δ, o, c, δ1, E, n, h1, fun H1 o1 P => ?_⟩
      cases c with
      | true =>
        rw [if_pos rfl]
        exact TT.then_ n P hm k
      | false =>
        rw [if_neg Bool.false_ne_true]
        simp only [Option.some.injEq, Prod.mk.injEq] at hm
        obtain ⟨rfl, rfl⟩ := hm
        exact k H1 o1 (P.weak (by simp +contextual))
theorem z_wor (ha : PT X a (TT (kx X) qa ma)) (hb : PW X (.BoolOp .Or (b :: rest) pos) (TT (kx X) qb mb)) : PW X (.BoolOp .Or (a :: b :: rest) pos) (TT (kx X) (qa && qb) (dOr ma mb)) :=
  PW.imp (pw_or ha hb) fun σ H Q h => by
    obtain ⟨δ, o, bb, δ', E, n, hm, k⟩ := h
    simp only [dOr] at hm
    cases h1 : ma δ with
    | none => rw [h1] at hm; simp at hm
    | some p =>
      obtain ⟨c, δ1⟩ := p
      rw [h1] at hm
      refine ⟨δ, o, c, δ1, E, n, h1, fun H1 o1 P => ?_⟩
      cases c with
      | false =>
        rw [if_neg Bool.false_ne_true]
        exact TT.then_ n P hm k
      | true =>
        rw [if_pos rfl]
        simp only [Option.some.injEq, Prod.mk.injEq] at hm
        obtain ⟨rfl, rfl⟩ := hm
        exact k H1 o1 (P.weak (by simp +contextual))
/-- a if c else b -/
def dIfE (mc : DenT) (ma mb : Den) : Den := fun δ => match mc δ with
  | some (true, δ1) => ma δ1
  | some (false, δ1) => mb δ1
  | none => none
theorem z_ife (hc : PT X c (TT (kx X) qc mc)) (ha : PE X a (T (kx X) qa ma')) (hb : PE X b (T (kx X) qb mb')) : PE X (.IfExp c a b pos) (T (kx X) (qc && (qa && qb)) (dIfE mc ma' mb')) :=
  PE.imp (pe_ifExp hc ha hb) fun σ H Q h => by
    obtain ⟨δ, o, r, δ', E, n, hm, k⟩ := h
    simp only [dIfE] at hm
    cases h1 : mc δ with
    | none => rw [h1] at hm; simp at hm
    | some p =>
      obtain ⟨c, δ1⟩ := p
      rw [h1] at hm
      refine ⟨δ, o, c, δ1, E, n, h1, fun H1 o1 P => ?_⟩
      cases c with
      | true =>
        rw [if_pos rfl]
        exact T.then_ (qb := qa) n P hm fun v H' o' ov P2 => k v H' o' ov (P2.weak (by simp +contextual))
      | false =>
        rw [if_neg Bool.false_ne_true]
        exact T.then_ (qb := qb) n P hm fun v H' o' ov P2 => k v H' o' ov (P2.weak (by simp +contextual))
/-- and, or, not as values: of True and False -/
def dAndV (ma mb : Den) : Den := fun δ => match ma δ with
  | some (.own (.bl true), δ1) => mb δ1
  | some (.own (.bl false), δ1) => some (.own (.bl false), δ1)
  | _ => none
def dOrV (ma mb : Den) : Den := fun δ => match ma δ with
  | some (.own (.bl false), δ1) => mb δ1
  | some (.own (.bl true), δ1) => some (.own (.bl true), δ1)
  | _ => none
def dNotV (ma : Den) : Den := fun δ => match ma δ with
  | some (.own (.bl b), δ1) => some (.own (.bl (!b)), δ1)
  | _ => none
theorem Post.toA {κ : Kx} {H : Hp} {σ : L2.St} {o : List Addr} {r : R} {δ1 : DE} {v : V} {H1 : Hp} {o1 ov : List Addr} (P : Post κ H σ q o r δ1 v H1 o1 ov) : PostA κ H σ q o δ1 H1 o1 := ⟨P.step, P.env, own_right P.own⟩
theorem z_one {op : BoolOp} (ha : PE X a (T (kx X) qa ma')) : PE X (.BoolOp op [a] pos) (T (kx X) qa ma') := pe_one ha
theorem z_and (ha : PE X a (T (kx X) qa ma')) (hb : PE X (.BoolOp .And (b :: rest) pos) (T (kx X) qb mb')) : PE X (.BoolOp .And (a :: b :: rest) pos) (T (kx X) (qa && qb) (dAndV ma' mb')) :=
  PE.imp (pe_and ha hb) fun σ H Q h => by
    obtain ⟨δ, o, r, δ', E, n, hm, k⟩ := h
    obtain ⟨c, δ1, h1, h2⟩ := isbl (m := ma') (δ := δ) (g := fun x => match x with | some (.own (.bl true), δ1) => mb' δ1 | some (.own (.bl false), δ1) => some (.own (.bl false), δ1) | _ => none) (f := fun b δ1 => if b then mb' δ1 else some (.own (.bl false), δ1))
      (fun b δ1 => by cases b <;> rfl) (fun x hx => by split <;> first | rfl | exact (hx _ _ rfl).elim) hm
    refine ⟨δ, o, _, δ1, E, n, h1, fun v H1 o1 ov P => ?_⟩
    obtain ⟨rfl, rfl⟩ := P.held
    refine ⟨c, rfl, ?_⟩
    cases c with
    | true =>
      rw [if_pos rfl] at h2 ⊢
      exact T.then_ n P.toA h2 k
    | false =>
      rw [if_neg Bool.false_ne_true] at h2 ⊢
      simp only [Option.some.injEq, Prod.mk.injEq] at h2
      obtain ⟨rfl, rfl⟩ := h2
      exact k _ H1 o1 [] (P.weak (by simp +contextual))
theorem z_or (ha : PE X a (T (kx X) qa ma')) (hb : PE X (.BoolOp .Or (b :: rest) pos) (T (kx X) qb mb')) : PE X (.BoolOp .Or (a :: b :: rest) pos) (T (kx X) (qa && qb) (dOrV ma' mb')) :=
  PE.imp (pe_or ha hb) fun σ H Q h => by
    obtain ⟨δ, o, r, δ', E, n, hm, k⟩ := h
    obtain ⟨c, δ1, h1, h2⟩ := isbl (m := ma') (δ := δ) (g := fun x => match x with | some (.own (.bl false), δ1) => mb' δ1 | some (.own (.bl true), δ1) => some (.own (.bl true), δ1) | _ => none) (f := fun b δ1 => if b then some (.own (.bl true), δ1) else mb' δ1)
      (fun b δ1 => by cases b <;> rfl) (fun x hx => by split <;> first | rfl | exact (hx _ _ rfl).elim) hm
    refine ⟨δ, o, _, δ1, E, n, h1, fun v H1 o1 ov P => ?_⟩
    obtain ⟨rfl, rfl⟩ := P.held
    refine ⟨c, rfl, ?_⟩
    cases c with
    | false =>
      rw [if_neg Bool.false_ne_true] at h2 ⊢
      exact T.then_ n P.toA h2 k
    | true =>
      rw [if_pos rfl] at h2 ⊢
      simp only [Option.some.injEq, Prod.mk.injEq] at h2
      obtain ⟨rfl, rfl⟩ := h2
      exact k _ H1 o1 [] (P.weak (by simp +contextual))
theorem z_notV (ha : PE X a (T (kx X) qa ma')) : PE X (.UnaryOp .Not a pos) (T (kx X) qa (dNotV ma')) :=
  PE.imp (pe_not ha) fun σ H Q h => by
    obtain ⟨δ, o, r, δ', E, n, hm, k⟩ := h
    obtain ⟨c, δ1, h1, h2⟩ := isbl (m := ma') (δ := δ) (g := fun x => match x with | some (.own (.bl b), δ1) => some (R.own (.bl (!b)), δ1) | _ => none) (f := fun b δ1 => some (.own (.bl (!b)), δ1))
      (fun b δ1 => rfl) (fun x hx => by split <;> first | rfl | exact (hx _ _ rfl).elim) hm
    refine ⟨δ, o, _, δ1, E, n, h1, fun v H1 o1 ov P => ?_⟩
    obtain ⟨rfl, rfl⟩ := P.held
    simp only [Option.some.injEq, Prod.mk.injEq] at h2
    obtain ⟨rfl, rfl⟩ := h2
    exact ⟨c, rfl, k _ H1 o1 [] ⟨P.step, P.env, ⟨rfl, rfl⟩, P.own⟩⟩
end
end Z


set_option Elab.async false
set_option linter.all false
set_option maxRecDepth 100000
/-! slices; calls of the program's own defs -/
namespace Z
open PySem PySem.Spec PyProof.Rows L2

/-! ### slices -/
def cutG {α : Type} (xs : List α) (lo hi : Option Int) : List α := (xs.drop (HT.sIx xs.length 0 lo)).take (HT.sIx xs.length xs.length hi - HT.sIx xs.length 0 lo)
theorem cutG_v (xs : List V) (lo hi : Option Int) : cutG xs lo hi = cutV xs lo hi := rfl
def sliceD (lo hi : Option Int) : D → Option D
  | .tup xs => if D.imms xs then some (.tup (cutG xs lo hi)) else none
  | .lst xs => if D.imms xs then some (.lst (cutG xs lo hi)) else none
  | .frz xs => some (.lst (cutG xs lo hi))
  | .str x => some (.str (cutS x lo hi))
  | _ => none
abbrev DenO := DE → Option (Option Int × DE)
def dNoP : DenO := fun δ => some (none, δ)
def dPart (m : Den) : DenO := fun δ => match m δ with
  | some (.own (.int i), δ1) => some (some i, δ1)
  | _ => none
def TOm (κ : Kx) (q : Bool) (m : DenO) : L2.TO := fun σ H Q => ∃ δ o x δ', Envs κ H σ δ o ∧ Nd o ∧ m δ = some (x, δ') ∧ ∀ H' o', PostA κ H σ q o δ' H' o' → Q x H'
def dSlice (qq : Bool) (m : Den) (ml mh : DenO) : Den := fun δ => match m δ with
  | some (r, δ1) => match ml δ1 with
    | some (lo, δ2) => match mh δ2 with
      | some (hi, δ3) => if r.short || qq then match deref δ3 r with
        | some d => match sliceD lo hi d with
          | some e => some (.own e, δ3)
          | none => none
        | none => none
        else none
      | none => none
    | none => none
  | none => none
section
variable {X : Cx} {e : Expr} {lo hi : Option Expr} {q ql qh : Bool} {m : Den} {ml mh : DenO}
theorem PO.imp' {t t' : L2.TO} (h : PO X lo t) (i : ∀ σ H Q, t' σ H Q → t σ H Q) : PO X lo t' := ⟨fun pins s σ H Q I hw => h.run pins s σ H Q I (i _ _ _ hw)⟩
theorem z_ponone : PO X none (TOm (kx X) true dNoP) := PO.imp' po_none fun σ H Q h => by
  obtain ⟨δ, o, x, δ', E, n, hm, k⟩ := h
  simp only [dNoP, Option.some.injEq, Prod.mk.injEq] at hm
  obtain ⟨rfl, rfl⟩ := hm
  exact k H o ⟨Step.refl _ _, E, Own.refl _ _⟩
theorem z_posome (h : PE X e (T (kx X) q m)) : PO X (some e) (TOm (kx X) q (dPart m)) := PO.imp' (po_some h) fun σ H Q h => by
  obtain ⟨δ, o, x, δ', E, n, hm, k⟩ := h
  by_cases hx : ∃ i δ1, m δ = some (.own (.int i), δ1)
  · obtain ⟨i, δ1, e1⟩ := hx
    simp only [dPart, e1, Option.some.injEq, Prod.mk.injEq] at hm
    obtain ⟨rfl, rfl⟩ := hm
    refine ⟨δ, o, _, δ1, E, n, e1, fun v H1 o1 ov P => ?_⟩
    obtain ⟨rfl, _⟩ := P.held
    exact ⟨i, rfl, k H1 o1 P.toA⟩
  · exfalso
    simp only [dPart] at hm
    split at hm
    · rename_i i δ1 e1; exact hx ⟨i, δ1, e1⟩
    · cases hm
theorem reps_cut {K : Fw} {H : Hp} {xs : List D} {vs : List V} (lo hi : Option Int) (h : Reps K H xs vs []) : Reps K H (cutG xs lo hi) (cutV vs lo hi) [] := by
  rw [← cutG_v]
  unfold cutG
  rw [h.length]
  exact Reps.take _ (Reps.drop _ h)
theorem cut_whole {α : Type} (xs : List α) (lo hi : Option Int) (h1 : HT.sIx xs.length 0 lo = 0) (h2 : HT.sIx xs.length xs.length hi = xs.length) : cutG xs lo hi = xs := by
  unfold cutG
  rw [h1, h2]
  simp
theorem cutS_len (x : Str) (lo hi : Option Int) : (cutS x lo hi).length ≤ x.length := cutS_length x lo hi
theorem z_slice {pos p2 : Pos} (he : PE X e (T (kx X) q m)) (hl : PO X lo (TOm (kx X) ql ml)) (hh : PO X hi (TOm (kx X) qh mh)) : PE X (.Subscript e (.Slice lo hi none p2) pos) (T (kx X) (q && (ql && qh)) (dSlice (ql && qh) m ml mh)) := by
  refine PE.imp (pe_slice (SlR.or sl_tupA (SlR.or sl_list sl_str)) he hl hh) fun σ H Q h => ?_
  obtain ⟨δ, o, r, δ', E, n, hm, k⟩ := h
  simp only [dSlice] at hm
  cases h1 : m δ with
  | none => rw [h1] at hm; simp at hm
  | some p1 =>
    obtain ⟨ra, δ1⟩ := p1
    rw [h1] at hm; dsimp only at hm
    cases h2 : ml δ1 with
    | none => rw [h2] at hm; simp at hm
    | some p2 =>
      obtain ⟨lo', δ2⟩ := p2
      rw [h2] at hm; dsimp only at hm
      cases h3 : mh δ2 with
      | none => rw [h3] at hm; simp at hm
      | some p3 =>
        obtain ⟨hi', δ3⟩ := p3
        rw [h3] at hm; dsimp only at hm
        by_cases hc : (ra.short || (ql && qh)) = true
        · rw [if_pos hc] at hm
          cases h4 : deref δ3 ra with
          | none => rw [h4] at hm; simp at hm
          | some d =>
            rw [h4] at hm; dsimp only at hm
            cases h5 : sliceD lo' hi' d with
            | none => rw [h5] at hm; simp at hm
            | some e' =>
              rw [h5] at hm
              simp only [Option.some.injEq, Prod.mk.injEq] at hm
              obtain ⟨rfl, rfl⟩ := hm
              refine ⟨δ, o, ra, δ1, E, n, h1, fun x H1 o1 ov P => ?_⟩
              refine ⟨δ1, o1, lo', δ2, P.env, nd_of P.own n, h2, fun H2 o2 P2 => ?_⟩
              refine ⟨δ2, o2, hi', δ3, P2.env, P2.own.nd (nd_of P.own n), h3, fun H3 o3 P3 => ?_⟩
              have P23 := P2.seq P3
              have hld : Held X.F H3 σ ra x ov := P.held.step P23.step (Wq_ok P.env) (fun a ha hw => apart_of P.own n a ha (Wq_sub a hw)) (by
                simp only [Bool.or_eq_true] at hc
                rcases hc with hc | hc
                · exact .inl hc
                · right; rw [hc]; rfl)
              obtain ⟨od, rx, _⟩ := hld.deref P23.env h4
              have s3 := P.step.seq (own_right P.own) P23.step
              have w3 : Own H o ([] ++ o3) := (own_right P.own).trans P.step P23.own
              have fin : ∀ (v : V) (H4 : Hp) (ov : List Addr), (∀ a u, H3 a = some u → H4 a = some u) → Rep X.F H4 e' v ov → Fresh H3 ov → Q v H4 := fun v H4 ov hs rr f => k v H4 o3 ov (post_pure (ov1 := []) s3 P23.env w3 hs rr f)
              cases d with
              | tup xs =>
                simp only [sliceD] at h5
                by_cases hi : D.imms xs = true
                · rw [if_pos hi] at h5
                  cases (Option.some.inj h5)
                  obtain ⟨a1, vs, rfl, hq, rs⟩ := rx
                  have := rs.imm hi; subst this
                  refine .inl ⟨a1, vs, rfl, hq, fun hw => ?_, fun hw p hp => ?_⟩
                  · refine fin _ H3 [] (fun _ _ e => e) ⟨a1, vs, rfl, hq, ?_⟩ fresh_nil
                    have e := cut_whole xs lo' hi' (by rw [← rs.length]; exact hw.1) (by rw [← rs.length]; exact hw.2)
                    rw [e]; exact rs
                  · exact fin _ _ [] (new_same hp) ⟨p, _, rfl, .of upd_same, (reps_cut lo' hi' rs).same (new_same hp)⟩ fresh_nil
                · rw [if_neg hi] at h5; simp at h5
              | lst xs =>
                simp only [sliceD] at h5
                by_cases hi : D.imms xs = true
                · rw [if_pos hi] at h5
                  cases (Option.some.inj h5)
                  obtain ⟨a1, vs, o', rfl, hq, rs, _⟩ := rx
                  have := rs.imm hi; subst this
                  refine .inr (.inl ⟨a1, vs, rfl, .of hq, fun p hp => ?_⟩)
                  exact fin _ _ [p] (new_same hp) ⟨p, _, [], rfl, upd_same, (reps_cut lo' hi' rs).same (new_same hp), rfl⟩ (fresh_one hp)
                · rw [if_neg hi] at h5; simp at h5
              | frz xs =>
                simp only [sliceD] at h5
                cases (Option.some.inj h5)
                obtain ⟨a1, vs, rfl, hq, rs, _⟩ := rx
                refine .inr (.inl ⟨a1, vs, rfl, hq.sq, fun p hp => ?_⟩)
                exact fin _ _ [p] (new_same hp) ⟨p, _, [], rfl, upd_same, (reps_cut lo' hi' rs).same (new_same hp), rfl⟩ (fresh_one hp)
              | str z =>
                simp only [sliceD] at h5
                cases (Option.some.inj h5)
                obtain ⟨rfl, hz, _⟩ := rx
                exact .inr (.inr ⟨z, rfl, hz.1, fin _ H3 [] (fun _ _ e => e) ⟨rfl, ⟨Nat.le_trans (cutS_len z lo' hi') hz.1, strOk_of fun c hc => strOk_mem hz.2 (List.mem_of_mem_drop (List.mem_of_mem_take hc))⟩, rfl⟩ fresh_nil⟩)
              | _ => simp [sliceD] at h5
        · rw [if_neg hc] at hm; simp at hm
end

/-! ### calls of own defs -/
def roots : List R → List Nat
  | [] => []
  | .own _ :: rs => roots rs
  | .at i _ :: rs => i :: roots rs
def rootsOk : List R → Bool
  | [] => true
  | .own _ :: rs => rootsOk rs
  | .at i _ :: rs => !(roots rs).contains i && rootsOk rs
/-- what the call left of its arguments, put back -/
def puts : DE → List R → List (Option D) → Option DE
  | δ, [], [] => some δ
  | δ, .own _ :: rs, _ :: fs => puts δ rs fs
  | δ, .at i p :: rs, f :: fs => match δ[i]? with
    | some (some d) => match puts (δ.set i none) rs fs with
      | some δ2 => match f with
        | some e => match setP p d e with
          | some d' => some (δ2.set i (some d'))
          | none => none
        | none => match p with
          | [] => some δ2
          | _ :: _ => none
      | none => none
    | _ => none
  | _, _, _ => none
theorem puts_length : ∀ {rs : List R} {δ δ2 : DE} {fs : List (Option D)}, puts δ rs fs = some δ2 → δ2.length = δ.length
  | [], δ, δ2, [], h => by cases (Option.some.inj h); rfl
  | [], _, _, _ :: _, h => by simp [puts] at h
  | .own _ :: rs, δ, δ2, [], h => by simp [puts] at h
  | .own _ :: rs, δ, δ2, f :: fs, h => puts_length (rs := rs) (fs := fs) h
  | .at i p :: rs, δ, δ2, [], h => by simp [puts] at h
  | .at i p :: rs, δ, δ2, f :: fs, h => by
    simp only [puts] at h
    split at h
    · split at h
      · rename_i d hd δ3 h3
        have ih := puts_length h3
        rw [List.length_set] at ih
        split at h
        · split at h
          · cases (Option.some.inj h); rw [List.length_set]; exact ih
          · cases h
        · split at h
          · cases (Option.some.inj h); exact ih
          · cases h
      · cases h
    · cases h
theorem deref_set {δ : DE} {i : Nat} {x : Option D} : ∀ {r : R}, (∀ p, r ≠ .at i p) → deref (δ.set i x) r = deref δ r
  | .own _, _ => rfl
  | .at j p, h => by
    have : i ≠ j := fun e => h p (by rw [e])
    simp only [deref]
    rw [List.getElem?_set_ne this]
theorem derefs_set {δ : DE} {i : Nat} {x : Option D} : ∀ {rs : List R}, i ∉ roots rs → derefs (δ.set i x) rs = derefs δ rs
  | [], _ => rfl
  | .own d :: rs, h => by
    simp only [derefs]
    rw [derefs_set (rs := rs) h]; rfl
  | .at j p :: rs, h => by
    simp only [roots, List.mem_cons, not_or] at h
    simp only [derefs]
    rw [derefs_set (rs := rs) h.2, deref_set fun q e => h.1 (by cases e; rfl)]
section
variable {K : Fw} {κ : Kx} {H : Hp} {σ : List (Option V)}
theorem take_args : ∀ {rs : List R} {vs : List V} {ov o : List Addr} {δ : DE} {ds : List D}, Envs κ H σ δ o → HeldL κ.K H σ rs vs ov → derefs δ rs = some ds → rootsOk rs = true →
    ∃ oA oR, Reps κ.K H ds vs oA ∧ (∀ a, oA.count a + oR.count a = ov.count a + o.count a) ∧
      ∀ H' fs of_, Envs ⟨κ.K, .none⟩ H' (vs.map some) fs of_ → Fr H H' oR → ∀ δ2, puts δ rs fs = some δ2 → ∃ o2, Envs κ H' σ δ2 o2 ∧ ∀ a, o2.count a ≤ of_.count a + oR.count a
  | [], vs, ov, o, δ, ds, E, hl, e, _ => by
    cases (Option.some.inj e)
    obtain ⟨rfl, rfl⟩ := hl
    refine ⟨[], o, ⟨rfl, rfl⟩, by simp, fun H' fs of_ E' f δ2 hp => ?_⟩
    cases fs with
    | nil =>
      cases (Option.some.inj hp)
      exact ⟨o, E.fr f, fun a => by omega⟩
    | cons x fs => simp [puts] at hp
  | .own d :: rs, _, _, o, δ, ds, E, hl, e, hr => by
    obtain ⟨v, vr, o1, o2, rfl, h1, h2, rfl⟩ := hl
    simp only [derefs, deref] at e
    cases e2 : derefs δ rs with
    | none => rw [e2] at e; simp at e
    | some ds' =>
      rw [e2] at e
      cases (Option.some.inj e)
      obtain ⟨oA, oR, ra, hc, k⟩ := take_args E h2 e2 hr
      refine ⟨o1 ++ oA, oR, ⟨v, vr, o1, oA, rfl, h1, ra, rfl⟩, fun a => ?_, fun H' fs of_ E' f δ2 hp => ?_⟩
      · have := hc a
        simp only [List.count_append] at this ⊢
        omega
      · cases fs with
        | nil => simp [puts] at hp
        | cons x fs =>
          cases x with
          | none => exact k H' fs of_ E' f δ2 hp
          | some x =>
            obtain ⟨p1, p2, r1, E2, rfl⟩ := E'
            obtain ⟨o3, E3, c3⟩ := k H' fs p2 E2 f δ2 hp
            exact ⟨o3, E3, fun a => by have := c3 a; rw [List.count_append]; omega⟩
  | .at i p :: rs, _, _, o, δ, ds, E, hl, e, hr => by
    obtain ⟨v, vr, o1, o2, rfl, h1, h2, rfl⟩ := hl
    simp only [derefs] at e
    cases e1 : deref δ (.at i p) with
    | none => rw [e1] at e; simp at e
    | some d1 =>
      cases e2 : derefs δ rs with
      | none => rw [e1, e2] at e; simp at e
      | some ds' =>
        rw [e1, e2] at e
        cases (Option.some.inj e)
        simp only [rootsOk, Bool.and_eq_true, Bool.not_eq_true', List.contains_eq_mem, decide_eq_false_iff_not] at hr
        obtain ⟨hi, hr⟩ := hr
        simp only [deref] at e1
        cases hd : δ[i]? with
        | none => rw [hd] at e1; simp at e1
        | some od =>
          cases od with
          | none => rw [hd] at e1; simp at e1
          | some d =>
            rw [hd] at e1
            obtain ⟨v0, oa, oi, ob, hv0, rd, rfl, _, kn⟩ := E.at hd
            obtain ⟨rfl, u, hu, hp⟩ := h1
            rw [hv0] at hu; cases hu
            obtain ⟨oe, or1, re, hc1, k2⟩ := rd.path e1 hp
            have E1 := kn H Fr.rfl
            obtain ⟨oA, oR, ra, hc, k⟩ := take_args (δ := δ.set i none) E1 h2 (by rw [derefs_set hi]; exact e2) hr
            refine ⟨oe ++ oA, or1 ++ oR, ⟨v, vr, oe, oA, rfl, re, ra, rfl⟩, fun a => ?_, fun H' fs of_ E' f δ2 hp2 => ?_⟩
            · have h3 := hc a
              have h4 := hc1 a
              simp only [List.count_append, List.nil_append] at h3 ⊢
              omega
            · cases fs with
              | nil => simp [puts] at hp2
              | cons x fs =>
                simp only [puts, hd] at hp2
                cases hp3 : puts (δ.set i none) rs fs with
                | none => rw [hp3] at hp2; simp at hp2
                | some δ3 =>
                  rw [hp3] at hp2
                  have f2 : Fr _ H' oR := f.sub fun a ha => List.mem_append_right _ ha
                  have f1 : Fr _ H' or1 := f.sub fun a ha => List.mem_append_left _ ha
                  cases x with
                  | none =>
                    cases p with
                    | nil =>
                      cases (Option.some.inj hp2)
                      obtain ⟨o3, E3, c3⟩ := k H' fs of_ E' f2 _ hp3
                      exact ⟨o3, E3, fun a => by have := c3 a; rw [List.count_append]; omega⟩
                    | cons _ _ => simp at hp2
                  | some x =>
                    dsimp only at hp2
                    cases hs : setP p d x with
                    | none => rw [hs] at hp2; simp at hp2
                    | some d' =>
                      rw [hs] at hp2
                      cases (Option.some.inj hp2)
                      obtain ⟨p1, p2, r1, E2, rfl⟩ := E'
                      obtain ⟨o3, E3, c3⟩ := k H' fs p2 E2 f2 δ3 hp3
                      obtain ⟨o'', r'', c''⟩ := k2 H' x p1 d' r1 f1 hs
                      have hlen := puts_length hp3
                      rw [List.length_set] at hlen
                      obtain ⟨hil, _⟩ := List.getElem?_eq_some_iff.mp hd
                      obtain ⟨o4, E4, c4⟩ := Envs.set i E3 r'' (by omega)
                      have hset : σ.set i (some v0) = σ := by
                        obtain ⟨hl2, e3⟩ := List.getElem?_eq_some_iff.mp hv0
                        rw [← e3]; exact List.set_getElem_self hl2
                      rw [hset] at E4
                      refine ⟨o4, E4, fun a => ?_⟩
                      have g1 := c3 a
                      have g2 := c'' a
                      have g3 := c4 a
                      simp only [List.count_append] at g1 g2 g3 ⊢
                      omega
end
/-- what a def does: its result, and what is left of its arguments (none: not told) -/
abbrev Fn := List D → Option (D × List (Option D))
def spD (K : Fw) (m : Fn) : Sp := fun vs H Q _ => ∃ ds oA r fs, Reps K H ds vs oA ∧ Nd oA ∧ Tabs ⟨K, .none⟩ H ∧ m ds = some (r, fs) ∧
  ∀ v H' ov of_, Step H H' oA → Rep K H' r v ov → Envs ⟨K, .none⟩ H' (vs.map some) fs of_ → Own H oA (ov ++ of_) → Q v H'
def dUser (m : Fn) (ma : DE → Option (List R × DE)) : Den := fun δ => match ma δ with
  | some (rs, δ1) => if rootsOk rs then match derefs δ1 rs with
    | some ds => match m ds with
      | some (r, fs) => match puts δ1 rs fs with
        | some δ2 => some (.own r, δ2)
        | none => none
      | none => none
    | none => none
    else none
  | none => none
section
variable {X : Cx} {e : Expr} {es : List Expr} {q : Bool} {mr : DE → Option (List R × DE)} {m : Fn} {k : Nat} {f : Addr} {fd : FuncData} {ps : List Str} {x : Str} {p pos : Pos}
theorem t_user {σ : L2.St} {H : Hp} {Q : VK} (h : T (kx X) false (dUser m mr) σ H Q) : TAr (kx X) q mr σ H fun vs H1 => spD X.F m (vs ++ []) H1 Q E0 := by
  obtain ⟨δ, o, r, δ', E, n, hm, k⟩ := h
  simp only [dUser] at hm
  cases h1 : mr δ with
  | none => rw [h1] at hm; simp at hm
  | some p1 =>
    obtain ⟨rs, δ1⟩ := p1
    rw [h1] at hm; dsimp only at hm
    by_cases hr : rootsOk rs = true
    · rw [if_pos hr] at hm
      cases h2 : derefs δ1 rs with
      | none => rw [h2] at hm; simp at hm
      | some ds =>
        rw [h2] at hm; dsimp only at hm
        cases h3 : m ds with
        | none => rw [h3] at hm; simp at hm
        | some p3 =>
          obtain ⟨rr, fs⟩ := p3
          rw [h3] at hm; dsimp only at hm
          cases h4 : puts δ1 rs fs with
          | none => rw [h4] at hm; simp at hm
          | some δ2 =>
            rw [h4] at hm
            simp only [Option.some.injEq, Prod.mk.injEq] at hm
            obtain ⟨rfl, rfl⟩ := hm
            refine ⟨δ, o, rs, δ1, E, n, h1, fun vs H1 o1 ov1 s1 E1 hl w1 => ?_⟩
            obtain ⟨oA, oR, ra, hc, kp⟩ := take_args E1 hl h2 hr
            have n1 := w1.nd n
            have nA : Nd oA := fun a => by have h5 := hc a; have h6 := n1 a; rw [List.count_append] at h6; omega
            rw [List.append_nil]
            refine ⟨ds, oA, rr, fs, ra, nA, E1.tabs.bare, h3, fun v H2 ov of_ s2 rv E2 w2 => ?_⟩
            have hd1 : ∀ a ∈ oR, ∃ u, H1 a = some u ∧ Ow u := fun a ha => by
              have h5 := hc a
              have h6 : 0 < oR.count a := List.count_pos_iff.mpr ha
              have h7 : 0 < ov1.count a ∨ 0 < o1.count a := by omega
              exact h7.elim (fun z => hl.own a (List.count_pos_iff.mp z)) (fun z => E1.own a (List.count_pos_iff.mp z))
            have ap : ∀ a ∈ oR, a ∉ oA := fun a ha hb => by
              have h5 := hc a
              have h6 := n1 a
              have h7 : 0 < oR.count a := List.count_pos_iff.mpr ha
              have h8 : 0 < oA.count a := List.count_pos_iff.mpr hb
              rw [List.count_append] at h6
              omega
            have f : Fr H1 H2 oR := s2.fr (fun a ha => by obtain ⟨vs, e, how⟩ := ra.own a ha; exact ⟨_, e, how.1⟩) hd1 ap
            obtain ⟨o2, E3, c3⟩ := kp H2 fs of_ E2 f δ2 h4
            have s3 : Step H H2 o := by
              refine ⟨fun a u e hn hu => ?_, fun a e => s1.dom a (s2.dom a e), fun P g => s2.tab P (s1.tab P g)⟩
              have e1 := s1.keep a u e (fun z => hn (Wq_sub a z)) hu
              refine s2.keep a u e1 (fun z => ?_) hu
              have h5 := hc a
              have h6 : 0 < oA.count a := List.count_pos_iff.mpr z
              rcases w1 a with w | ⟨w, _⟩
              · rw [List.count_append] at w
                exact hn (List.count_pos_iff.mp (by omega))
              · rw [e] at w; cases w
            refine k v H2 o2 ov ⟨s3, E3, rv, fun a => ?_⟩
            have g1 := hc a
            have g2 := c3 a
            have g3 := w1 a
            have g4 := w2 a
            simp only [List.count_append] at g1 g2 g3 g4 ⊢
            rcases g4 with g4 | ⟨z, g4⟩
            · rcases g3 with g3 | ⟨z3, g3⟩
              · left; omega
              · right; exact ⟨z3, by omega⟩
            · have hz : oR.count a = 0 := List.count_eq_zero.mpr fun hb => by
                obtain ⟨u, e, _⟩ := hd1 a hb
                rw [z] at e; cases e
              exact .inr ⟨s1.dom a z, by omega⟩
    · rw [if_neg hr] at hm; simp at hm
theorem z_call (F : FnOk X.prog X.w X.K X.mg X.base CX0 k f fd ps (spD X.F m)) (hr : Room k X.A) (hg : Gl X x) (hm : X.mg x = some (.ref f)) (hk : PySem.W.keepIn X.K (.ref f) = true) (hb : Binds X.K fd ps [])
    (ha : PA X (e :: es) (TAr (kx X) q mr)) (hdb : (x == ("__debug__" : Str)) = false := by decide) (he : starEach (e :: es) X.env = (false, eval e X.env) :: starEach es X.env := by rfl) (hpl : (backTo pos (starEach es X.env)).any (·.1) = false := by rfl) :
    PE X (.Call (.Name x p) (e :: es) [] pos) (T (kx X) false (dUser m mr)) :=
  PE.imp (pe_call F hr hg hm hk hb .nil pass0 ha hdb he hpl) fun σ H Q h => t_user h
end
end Z


set_option Elab.async false
set_option linter.all false
set_option maxRecDepth 100000
/-! statements -/
namespace Z
open PySem PySem.Spec PyProof.Rows L2

inductive Out where
  | nx (δ : DE) | bk (δ : DE) | ct (δ : DE) | rt (d : D) (δ : DE)
  deriving Inhabited
abbrev Blk := DE → Option Out
structure PS0 (κ : Kx) (H : Hp) (σ : L2.St) (kp : Nat → Bool) (o : List Addr) (δ' : DE) (σ' : L2.St) (H' : Hp) (o' : List Addr) : Prop where
  step : Step H H' o
  env : Envs κ H' σ' δ' o'
  own : Own H o o'
  kept : ∀ i, kp i = true → σ'[i]? = σ[i]?
structure PR0 (κ : Kx) (H : Hp) (σ : L2.St) (kp : Nat → Bool) (o : List Addr) (d : D) (δ' : DE) (σ' : L2.St) (v : V) (H' : Hp) (o' ov : List Addr) : Prop where
  step : Step H H' o
  env : Envs κ H' σ' δ' o'
  rep : Rep κ.K H' d v ov
  own : Own H o (ov ++ o')
  kept : ∀ i, kp i = true → σ'[i]? = σ[i]?
def Fin (κ : Kx) (H : Hp) (σ : L2.St) (kp : Nat → Bool) (o : List Addr) (D' : Ends) : Out → Prop
  | .nx δ' => ∀ σ' H' o', PS0 κ H σ kp o δ' σ' H' o' → D'.nx σ' H'
  | .bk δ' => ∀ σ' H' o', PS0 κ H σ kp o δ' σ' H' o' → D'.bk σ' H'
  | .ct δ' => ∀ σ' H' o', PS0 κ H σ kp o δ' σ' H' o' → D'.ct σ' H'
  | .rt d δ' => ∀ σ' v H' o' ov, PR0 κ H σ kp o d δ' σ' v H' o' ov → D'.rt v H'
def TSm (κ : Kx) (kp : Nat → Bool) (m : Blk) : TS := fun D' σ H => ∃ δ o out, Envs κ H σ δ o ∧ Nd o ∧ m δ = some out ∧ Fin κ H σ kp o D' out
section
variable {K : Fw} {κ : Kx} {H H1 H2 : Hp} {σ σ1 σ2 : L2.St} {kp kp' : Nat → Bool} {o o1 o2 : List Addr} {δ δ1 δ2 : DE} {D' : Ends} {out : Out}
theorem PS0.trans (a : PS0 κ H σ kp o δ1 σ1 H1 o1) (b : PS0 κ H1 σ1 kp o1 δ2 σ2 H2 o2) : PS0 κ H σ kp o δ2 σ2 H2 o2 :=
  ⟨a.step.trans a.own b.step, b.env, a.own.trans a.step b.own, fun i h => (b.kept i h).trans (a.kept i h)⟩
theorem PS0.thenR {d : D} {v : V} {ov : List Addr} (a : PS0 κ H σ kp o δ1 σ1 H1 o1) (b : PR0 κ H1 σ1 kp o1 d δ2 σ2 v H2 o2 ov) : PR0 κ H σ kp o d δ2 σ2 v H2 o2 ov :=
  ⟨a.step.trans a.own b.step, b.env, b.rep, a.own.trans a.step b.own, fun i h => (b.kept i h).trans (a.kept i h)⟩
theorem PS0.refl (E : Envs κ H σ δ o) : PS0 κ H σ kp o δ σ H o := ⟨Step.refl _ _, E, Own.refl _ _, fun _ _ => rfl⟩
theorem PS0.weak (a : PS0 κ H σ kp' o δ1 σ1 H1 o1) (h : ∀ i, kp i = true → kp' i = true) : PS0 κ H σ kp o δ1 σ1 H1 o1 := ⟨a.step, a.env, a.own, fun i z => a.kept i (h i z)⟩
theorem PR0.weak {d : D} {v : V} {ov : List Addr} (a : PR0 κ H σ kp' o d δ1 σ1 v H1 o1 ov) (h : ∀ i, kp i = true → kp' i = true) : PR0 κ H σ kp o d δ1 σ1 v H1 o1 ov := ⟨a.step, a.env, a.rep, a.own, fun i z => a.kept i (h i z)⟩
theorem Fin.shift (h : Fin κ H σ kp o D' out) (a : PS0 κ H σ kp o δ1 σ1 H1 o1) : Fin κ H1 σ1 kp o1 D' out := by
  cases out with
  | nx δ' => exact fun σ' H' o' b => h σ' H' o' (a.trans b)
  | bk δ' => exact fun σ' H' o' b => h σ' H' o' (a.trans b)
  | ct δ' => exact fun σ' H' o' b => h σ' H' o' (a.trans b)
  | rt d δ' => exact fun σ' v H' o' ov b => h σ' v H' o' ov (a.thenR b)
theorem Fin.weak (h : Fin κ H σ kp o D' out) (w : ∀ i, kp i = true → kp' i = true) : Fin κ H σ kp' o D' out := by
  cases out with
  | nx δ' => exact fun σ' H' o' b => h σ' H' o' (b.weak w)
  | bk δ' => exact fun σ' H' o' b => h σ' H' o' (b.weak w)
  | ct δ' => exact fun σ' H' o' b => h σ' H' o' (b.weak w)
  | rt d δ' => exact fun σ' v H' o' ov b => h σ' v H' o' ov (b.weak w)
/-- behind an expression -/
theorem PostA.ps {q : Bool} (P : PostA κ H σ q o δ1 H1 o1) : PS0 κ H σ kp o δ1 σ H1 o1 := ⟨P.step.mono Wq_sub, P.env, P.own, fun _ _ => rfl⟩
end
def dSeq (a b : Blk) : Blk := fun δ => match a δ with
  | some (.nx δ1) => b δ1
  | x => x
def dNx : Blk := fun δ => some (.nx δ)
section
variable {X : Cx} {st : Stmt} {rest : List Stmt} {kp kp' : Nat → Bool} {m m1 m2 : Blk} {e : Expr} {q : Bool} {me : Den} {pos : Pos}
theorem z_nil : PSs X [] (TSm (kx X) kp dNx) := PSs.imp pss_nil fun D' σ H ⟨δ, o, out, E, n, hm, f⟩ => by
  cases (Option.some.inj hm)
  exact f σ H o (.refl E)
theorem z_cons (h1 : PS X st (TSm (kx X) kp m1)) (h2 : PSs X rest (TSm (kx X) kp m2)) : PSs X (st :: rest) (TSm (kx X) kp (dSeq m1 m2)) :=
  PSs.imp (pss_cons h1 h2) fun D' σ H ⟨δ, o, out, E, n, hm, f⟩ => by
    simp only [dSeq] at hm
    cases h1 : m1 δ with
    | none => rw [h1] at hm; simp at hm
    | some x =>
      rw [h1] at hm
      cases x with
      | nx δ1 => exact ⟨δ, o, .nx δ1, E, n, h1, fun σ' H' o' P => ⟨δ1, o', out, P.env, P.own.nd n, hm, f.shift P⟩⟩
      | bk δ1 => cases (Option.some.inj hm); exact ⟨δ, o, .bk δ1, E, n, h1, f⟩
      | ct δ1 => cases (Option.some.inj hm); exact ⟨δ, o, .ct δ1, E, n, h1, f⟩
      | rt d δ1 => cases (Option.some.inj hm); exact ⟨δ, o, .rt d δ1, E, n, h1, f⟩
theorem z_sone (h1 : PS X st (TSm (kx X) kp m1)) : PSs X [st] (TSm (kx X) kp m1) := pss_one h1
def dBk : Blk := fun δ => some (.bk δ)
def dCt : Blk := fun δ => some (.ct δ)
def dDrop (m : Den) : Blk := fun δ => match m δ with
  | some (_, δ1) => some (.nx δ1)
  | none => none
theorem z_expr (he : PE X e (T (kx X) q me)) (hs : swapsWith e none pos.line X.env = pure false := by rfl) : PS X (.Expr e pos) (TSm (kx X) kp (dDrop me)) :=
  PS.imp (ps_expr he hs) fun D' σ H ⟨δ, o, out, E, n, hm, f⟩ => by
    simp only [dDrop] at hm
    cases h1 : me δ with
    | none => rw [h1] at hm; simp at hm
    | some p =>
      obtain ⟨r, δ1⟩ := p
      rw [h1] at hm
      cases (Option.some.inj hm)
      exact ⟨δ, o, r, δ1, E, n, h1, fun v H1 o1 ov P => f σ H1 o1 P.toA.ps⟩
/-- a return: a datum of its own, or a name's list, which goes -/
def dRet (kp : Nat → Bool) (m : Den) : Blk := fun δ => match m δ with
  | some (.own d, δ1) => some (.rt d δ1)
  | some (.at i [], δ1) => if kp i then none else match δ1[i]? with
    | some (some d) => some (.rt d (δ1.set i none))
    | _ => none
  | _ => none
theorem z_ret (he : PE X e (T (kx X) q me)) : PS X (.Return (some e) pos) (TSm (kx X) kp (dRet kp me)) :=
  PS.imp (ps_ret he) fun D' σ H ⟨δ, o, out, E, n, hm, f⟩ => by
    simp only [dRet] at hm
    cases h1 : me δ with
    | none => rw [h1] at hm; simp at hm
    | some p =>
      obtain ⟨r, δ1⟩ := p
      rw [h1] at hm
      refine ⟨δ, o, r, δ1, E, n, h1, fun v H1 o1 ov P => ?_⟩
      cases r with
      | own d =>
        cases (Option.some.inj hm)
        exact f σ v H1 o1 ov ⟨P.step.mono Wq_sub, P.env, P.held, P.own, fun _ _ => rfl⟩
      | «at» i p =>
        cases p with
        | cons _ _ => simp at hm
        | nil =>
          dsimp only at hm
          by_cases hk : kp i = true
          · rw [if_pos hk] at hm; simp at hm
          · rw [if_neg hk] at hm
            cases hd : δ1[i]? with
            | none => rw [hd] at hm; simp at hm
            | some x =>
              cases x with
              | none => rw [hd] at hm; simp at hm
              | some d =>
                rw [hd] at hm
                cases (Option.some.inj hm)
                obtain ⟨v0, oa, oi, ob, hv0, rd, e0, _, kn⟩ := P.env.at hd
                obtain ⟨rfl, u, hu, hp⟩ := P.held
                rw [hv0] at hu; cases hu
                cases (show v = v0 from hp)
                refine f σ v H1 (oa ++ ob) oi ⟨P.step.mono Wq_sub, kn H1 Fr.rfl, rd, P.own.sub fun a => ?_, fun _ _ => rfl⟩
                rw [e0]
                simp only [List.count_append, List.nil_append]
                omega
def dRetN : Blk := fun δ => some (.rt .non δ)
def dIf (c : DenT) (a b : Blk) : Blk := fun δ => match c δ with
  | some (true, δ1) => a δ1
  | some (false, δ1) => b δ1
  | none => none
theorem z_if {c : Expr} {a b : List Stmt} {mc : DenT} {ma mb : Blk} (hc : PT X c (TT (kx X) q mc)) (ha : PSs X a (TSm (kx X) kp ma)) (hb : PSs X b (TSm (kx X) kp mb)) : PS X (.If c a b pos) (TSm (kx X) kp (dIf mc ma mb)) :=
  PS.imp (ps_if hc ha hb) fun D' σ H ⟨δ, o, out, E, n, hm, f⟩ => by
    simp only [dIf] at hm
    cases h1 : mc δ with
    | none => rw [h1] at hm; simp at hm
    | some p =>
      obtain ⟨c, δ1⟩ := p
      rw [h1] at hm
      refine ⟨δ, o, c, δ1, E, n, h1, fun H1 o1 P => ?_⟩
      cases c with
      | true =>
        rw [if_pos rfl]
        exact ⟨δ1, o1, out, P.env, P.own.nd n, hm, f.shift P.ps⟩
      | false =>
        rw [if_neg Bool.false_ne_true]
        exact ⟨δ1, o1, out, P.env, P.own.nd n, hm, f.shift P.ps⟩
end

/-! ### targets -/
abbrev Bnd := D → DE → Option DE
abbrev Bnds := List D → DE → Option DE
def TGm (κ : Kx) (kp : Nat → Bool) (b : Bnd) : TG := fun v σ H Q => ∃ δ o d ov δ', Envs κ H σ δ o ∧ Rep κ.K H d v ov ∧ b d δ = some δ' ∧
  ∀ σ' o', Envs κ H σ' δ' o' → (∀ a, o'.count a ≤ ov.count a + o.count a) → ((∀ i, kp i = true → σ'[i]? = σ[i]?) ∧ σ'.length = σ.length) → Q σ' H
def TGsm (κ : Kx) (kp : Nat → Bool) (b : Bnds) : TGs := fun vs σ H Q => ∃ δ o ds ov δ', Envs κ H σ δ o ∧ Reps κ.K H ds vs ov ∧ b ds δ = some δ' ∧
  ∀ σ' o', Envs κ H σ' δ' o' → (∀ a, o'.count a ≤ ov.count a + o.count a) → ((∀ i, kp i = true → σ'[i]? = σ[i]?) ∧ σ'.length = σ.length) → Q σ' H
def bName (i : Nat) : Bnd := fun d δ => if i < δ.length then some (δ.set i (some d)) else none
def bNil : Bnds := fun ds δ => match ds with
  | [] => some δ
  | _ :: _ => none
def bCons (a : Bnd) (r : Bnds) : Bnds := fun ds δ => match ds with
  | [] => none
  | d :: ds => match a d δ with
    | some δ1 => r ds δ1
    | none => none
def bTup (n : Nat) (r : Bnds) : Bnd := fun d δ => match d with
  | .tup ds => if ds.length = n then r ds δ else none
  | _ => none
section
variable {X : Cx} {kp : Nat → Bool} {pos : Pos}
theorem PG.imp {e : Expr} {t t' : TG} (h : PG X e t) (i : ∀ v σ H Q, t' v σ H Q → t v σ H Q) : PG X e t' := ⟨fun pins s σ H v u Q I r hw => h.run pins s σ H v u Q I r (i _ _ _ _ hw)⟩
theorem PGs.imp {e : List Expr} {t t' : TGs} (h : PGs X e t) (i : ∀ v σ H Q, t' v σ H Q → t v σ H Q) : PGs X e t' := ⟨fun pins s σ H v u Q I r hw => h.run pins s σ H v u Q I r (i _ _ _ _ hw)⟩
theorem set_kept {σ : L2.St} {i : Nat} {x : Option V} (hk : kp i = false) : ∀ j, kp j = true → (σ.set i x)[j]? = σ[j]? := fun j hj => by
  have : i ≠ j := fun e => by rw [e, hj] at hk; cases hk
  rw [List.getElem?_set_ne this]
theorem z_gname {i : Nat} {x : Str} (hN : X.N.Nodup) (hi : X.N[i]? = some x) (hx : Loc X.env.scope x) (hk : kp i = false) (hf : X.fn x = true ∨ X.env.scope.names.lookup x = some .local := by first | exact .inl rfl | exact .inr rfl | assumption) : PG X (.Name x pos) (TGm (kx X) kp (bName i)) :=
  PG.imp (pg_name hN hi hx hf) fun v σ H Q ⟨δ, o, d, ov, δ', E, r, hb, k⟩ => by
    simp only [bName] at hb
    by_cases hl : i < δ.length
    · rw [if_pos hl] at hb
      cases (Option.some.inj hb)
      obtain ⟨o2, E2, c⟩ := Envs.set i E r hl
      exact k _ o2 E2 (fun a => by have := c a; omega) ⟨set_kept hk, List.length_set⟩
    · rw [if_neg hl] at hb; cases hb
theorem z_gsnil : PGs X [] (TGsm (kx X) kp bNil) := PGs.imp pgs_nil fun vs σ H Q ⟨δ, o, ds, ov, δ', E, r, hb, k⟩ => by
  cases ds with
  | cons _ _ => simp [bNil] at hb
  | nil =>
    cases (Option.some.inj hb)
    obtain ⟨rfl, rfl⟩ := r
    exact ⟨rfl, k σ o E (fun a => by simp) ⟨fun _ _ => rfl, rfl⟩⟩
theorem z_gscons {e : Expr} {es : List Expr} {b : Bnd} {bs : Bnds} (h1 : PG X e (TGm (kx X) kp b)) (h2 : PGs X es (TGsm (kx X) kp bs)) (hs : (assignEach (e :: es) X.env).map (·.2) = assign e X.env :: (assignEach es X.env).map (·.2) := by rfl) : PGs X (e :: es) (TGsm (kx X) kp (bCons b bs)) :=
  PGs.imp (pgs_cons h1 h2 hs) fun vs σ H Q ⟨δ, o, ds, ov, δ', E, r, hb, k⟩ => by
    cases ds with
    | nil => simp [bCons] at hb
    | cons d ds =>
      obtain ⟨v, vr, o1, o2, rfl, r1, r2, rfl⟩ := r
      simp only [bCons] at hb
      cases h3 : b d δ with
      | none => rw [h3] at hb; simp at hb
      | some δ1 =>
        rw [h3] at hb
        refine ⟨v, vr, rfl, δ, o, d, o1, δ1, E, r1, h3, fun σ1 o3 E3 c3 k3 => ?_⟩
        refine ⟨δ1, o3, ds, o2, δ', E3, r2, hb, fun σ2 o4 E4 c4 k4 => k σ2 o4 E4 (fun a => ?_) ⟨fun i hi => (k4.1 i hi).trans (k3.1 i hi), k4.2.trans k3.2⟩⟩
        have h5 := c3 a
        have h6 := c4 a
        rw [List.count_append]
        omega
theorem z_gtup {es : List Expr} {k n : Nat} {bs : Bnds} (hc : X.calm = true) (h : PGs X es (TGsm (kx X) kp bs)) (hn : (assignEach es X.env).length = n := by rfl) (hst : (assignEach es X.env).findIdx? (·.1) = none := by rfl) : PG X (.Tuple es k pos) (TGm (kx X) kp (bTup n bs)) :=
  PG.imp (pg_tup hc h hn hst) fun v σ H Q ⟨δ, o, d, ov, δ', E, r, hb, k⟩ => by
    cases d <;> simp only [bTup, reduceCtorEq] at hb
    rename_i ds
    by_cases hl : ds.length = n
    · rw [if_pos hl] at hb
      obtain ⟨a, vs, rfl, hq, rs⟩ := r
      exact ⟨a, vs, rfl, hq, rs.length.trans hl, δ, o, ds, ov, δ', E, rs, hb, k⟩
    · rw [if_neg hl] at hb; cases hb
end
def dAsg (b : Bnd) (m : Den) : Blk := fun δ => match m δ with
  | some (.own d, δ1) => match b d δ1 with
    | some δ2 => some (.nx δ2)
    | none => none
  | _ => none
section
variable {X : Cx} {kp : Nat → Bool} {pos : Pos} {tg e : Expr} {q : Bool} {m : Den} {b : Bnd}
theorem t_asg {κ : Kx} {D' : Ends} {σ : L2.St} {H : Hp} (h : TSm κ kp (dAsg b m) D' σ H) : T κ q m σ H fun x H1 => TGm κ kp b x σ H1 D'.nx := by
  obtain ⟨δ, o, out, E, n, hm, f⟩ := h
  simp only [dAsg] at hm
  cases h1 : m δ with
  | none => rw [h1] at hm; simp at hm
  | some p =>
    obtain ⟨r, δ1⟩ := p
    rw [h1] at hm
    cases r with
    | «at» _ _ => simp at hm
    | own d =>
      dsimp only at hm
      cases h2 : b d δ1 with
      | none => rw [h2] at hm; simp at hm
      | some δ2 =>
        rw [h2] at hm
        cases (Option.some.inj hm)
        refine ⟨δ, o, .own d, δ1, E, n, h1, fun v H1 o1 ov P => ?_⟩
        refine ⟨δ1, o1, d, ov, δ2, P.env, P.held, h2, fun σ' o' E' c k => f σ' H1 o' ⟨P.step.mono Wq_sub, E', P.own.sub fun a => ?_, k.1⟩⟩
        rw [List.count_append]; exact c a
theorem z_asg (he : PE X e (T (kx X) q m)) (hg : PG X tg (TGm (kx X) kp b)) (hs : swapsWithSole [tg] e pos.line X.env = pure false := by rfl) (hw : swappedStores [tg] e X.env = pure none := by rfl)
    (h1 : (assignEach [tg] X.env).map (·.2) = [assign tg X.env] := by rfl) : PS X (.Assign [tg] e pos) (TSm (kx X) kp (dAsg b m)) :=
  PS.imp (ps_asg he hg hs hw h1) fun D' σ H h => t_asg h
theorem gname_of {κ : Kx} {i : Nat} {v : V} {σ : L2.St} {H : Hp} {Q : L2.St → Hp → Prop} (hk : kp i = false) (h : TGm κ kp (bName i) v σ H Q) : Q (σ.set i (some v)) H := by
  obtain ⟨δ, o, d, ov, δ', E, r, hb, k⟩ := h
  simp only [bName] at hb
  by_cases hl : i < δ.length
  · rw [if_pos hl] at hb
    cases (Option.some.inj hb)
    obtain ⟨o2, E2, c⟩ := Envs.set i E r hl
    exact k _ o2 E2 (fun a => by have := c a; omega) ⟨set_kept hk, List.length_set⟩
  · rw [if_neg hl] at hb; cases hb
theorem z_set {i : Nat} {x : Str} {pos' : Pos} (hN : X.N.Nodup) (hi : X.N[i]? = some x) (hx : Loc X.env.scope x) (hk : kp i = false) (he : PE X e (T (kx X) q m)) (hs : swapsWith e (some (.Name x pos')) pos.line X.env = pure false := by rfl)
    (hf : X.fn x = true ∨ X.env.scope.names.lookup x = some .local := by first | exact .inl rfl | exact .inr rfl | assumption) : PS X (.Assign [.Name x pos'] e pos) (TSm (kx X) kp (dAsg (bName i) m)) :=
  PS.imp (ps_set hN hi hx he hs hf) fun D' σ H h => by
    obtain ⟨δ, o, r, δ1, E, n, h1, k⟩ := t_asg (q := q) h
    exact ⟨δ, o, r, δ1, E, n, h1, fun v H1 o1 ov P => gname_of hk (k v H1 o1 ov P)⟩
end

/-! ### while -/
def dWhile (mc : DenT) (mb : Blk) : Nat → Blk
  | 0, _ => none
  | n + 1, δ => match mc δ with
    | some (true, δ1) => match mb δ1 with
      | some (.nx δ2) => dWhile mc mb n δ2
      | some (.ct δ2) => dWhile mc mb n δ2
      | some (.bk δ2) => some (.nx δ2)
      | x => x
    | some (false, δ1) => some (.nx δ1)
    | none => none
section
variable {X : Cx} {kp : Nat → Bool} {pos : Pos} {c : Expr} {body : List Stmt} {q : Bool} {mc : DenT} {mb : Blk}
theorem z_while (n : Nat) (hp : PassesOwn (model X.prog X.w) X.A X.env X.xe) (hc : PT X c (TT (kx X) q mc)) (hb : PSs X body (TSm (kx X) kp mb)) : PS X (.While c body [] pos) (TSm (kx X) kp (dWhile mc mb n)) :=
  PS.imp (ps_while hp hc hb) fun D' σ H ⟨δ, o, out, E, nd, hm, f⟩ => by
    refine ⟨fun m σ1 H1 => ∃ δ1 o1, PS0 (kx X) H σ kp o δ1 σ1 H1 o1 ∧ dWhile mc mb m δ1 = some out, ⟨n, δ, o, .refl E, hm⟩, fun m σ1 H1 hW => ?_⟩
    obtain ⟨δ1, o1, P1, h1⟩ := hW
    cases m with
    | zero => simp [dWhile] at h1
    | succ m =>
      simp only [dWhile] at h1
      cases h2 : mc δ1 with
      | none => rw [h2] at h1; simp at h1
      | some p =>
        obtain ⟨b, δ2⟩ := p
        rw [h2] at h1
        refine ⟨δ1, o1, b, δ2, P1.env, P1.own.nd nd, h2, fun H2 o2 P2 => ?_⟩
        have P12 : PS0 (kx X) H σ kp o δ2 σ1 H2 o2 := P1.trans P2.ps
        cases b with
        | true =>
          dsimp only at h1
          show if true = true then _ else _
          rw [if_pos rfl]
          refine ⟨fun σ3 H3 => ∃ δ3 o3, PS0 (kx X) H σ kp o δ3 σ3 H3 o3 ∧ dWhile mc mb m δ3 = some out, fun σ3 H3 ⟨δ3, o3, P3, h3⟩ => ⟨m, Nat.lt_succ_self _, δ3, o3, P3, h3⟩, ?_⟩
          cases h3 : mb δ2 with
          | none => rw [h3] at h1; simp at h1
          | some x =>
            rw [h3] at h1
            refine ⟨δ2, o2, x, P12.env, P12.own.nd nd, h3, ?_⟩
            cases x with
            | nx δ3 => exact fun σ3 H3 o3 P3 => ⟨δ3, o3, P12.trans P3, h1⟩
            | ct δ3 => exact fun σ3 H3 o3 P3 => ⟨δ3, o3, P12.trans P3, h1⟩
            | bk δ3 =>
              cases (Option.some.inj h1)
              exact fun σ3 H3 o3 P3 => f σ3 H3 o3 (P12.trans P3)
            | rt d δ3 =>
              cases (Option.some.inj h1)
              exact fun σ3 v H3 o3 ov P3 => f σ3 v H3 o3 ov (P12.thenR P3)
        | false =>
          show if false = true then _ else _
          rw [if_neg Bool.false_ne_true]
          cases (Option.some.inj h1)
          exact f σ1 H2 o2 P12
end

/-! ### for -/
/-- what is walked: its items, and the names whose lists have to stay as they are -/
structure Src where
  xs : List D
  gs : List (Nat × D)
  deriving Inhabited
abbrev DenS := DE → Option (Src × DE)
def gOk : List (Nat × D) → DE → Bool
  | [], _ => true
  | (i, d) :: gs, δ => decide (δ[i]? = some (some d)) && gOk gs δ
/-- while the heap is so, the iterator gives the items -/
def SrcOk (K : Fw) (σ : L2.St) (src : Src) (J : It) (H1 : Hp) (ov : List Addr) : Prop :=
  ∀ i H', (∀ a ∈ ov, H' a = H1 a) → (∀ a u, H1 a = some u → Sh u → H' a = some u) → (∀ p ∈ src.gs, ∃ v o, σ[p.1]? = some (some v) ∧ Rep K H' p.2 v o) →
    (∀ x, src.xs[i]? = some x → J.go i H' ∧ ∀ v H'', J.yld i H' v H'' → (∀ a u, H' a = some u → H'' a = some u) ∧ Rep K H'' x v []) ∧ (src.xs.length ≤ i → J.stop i H')
def TIm (κ : Kx) (q : Bool) (m : DenS) : TI := fun σ H R => ∃ δ o src δ', Envs κ H σ δ o ∧ Nd o ∧ m δ = some (src, δ') ∧
  ∀ J H1 o1 ov, Step H H1 (Wq q o) → Envs κ H1 σ δ' o1 → Own H o (ov ++ o1) → (∀ a ∈ ov, ∃ u, H1 a = some u ∧ Ow u) → SrcOk κ.K σ src J H1 ov → src.xs.length ≤ sizeLine → R J H1
def dForL (gs : List (Nat × D)) (b : Bnd) (mb : Blk) : List D → Blk
  | [], δ => if gOk gs δ then some (.nx δ) else none
  | x :: xs, δ => if gOk gs δ then match b x δ with
    | some δ1 => match mb δ1 with
      | some (.nx δ2) => dForL gs b mb xs δ2
      | some (.ct δ2) => dForL gs b mb xs δ2
      | some (.bk δ2) => some (.nx δ2)
      | z => z
    | none => none
    else none
/-- the walked names are among the kept ones -/
def gsIn (kp : Nat → Bool) : List (Nat × D) → Bool
  | [] => true
  | p :: gs => kp p.1 && gsIn kp gs
theorem gsIn_mem {kp : Nat → Bool} : ∀ {gs : List (Nat × D)}, gsIn kp gs = true → ∀ p ∈ gs, kp p.1 = true
  | [], _, _, hp => nomatch hp
  | q :: gs, h, p, hp => by
    simp only [gsIn, Bool.and_eq_true] at h
    rcases List.mem_cons.mp hp with rfl | hp
    · exact h.1
    · exact gsIn_mem h.2 p hp
def dFor (kp : Nat → Bool) (ms : DenS) (b : Bnd) (mb : Blk) : Blk := fun δ => match ms δ with
  | some (src, δ1) => if gsIn kp src.gs then dForL src.gs b mb src.xs δ1 else none
  | none => none
theorem gOk_rep {κ : Kx} {H : Hp} {σ : L2.St} {δ : DE} {o : List Addr} (E : Envs κ H σ δ o) : ∀ {gs : List (Nat × D)}, gOk gs δ = true → ∀ p ∈ gs, ∃ v o, σ[p.1]? = some (some v) ∧ Rep κ.K H p.2 v o
  | [], _, p, hp => nomatch hp
  | (i, d) :: gs, h, p, hp => by
    simp only [gOk, Bool.and_eq_true, decide_eq_true_eq] at h
    rcases List.mem_cons.mp hp with rfl | hp
    · obtain ⟨v, oa, oi, ob, hv, r, _⟩ := E.at h.1
      exact ⟨v, oi, hv, r⟩
    · exact gOk_rep E h.2 p hp
section
variable {X : Cx} {kp kp' : Nat → Bool} {pos : Pos} {tg iter : Expr} {body : List Stmt} {q : Bool} {ms : DenS} {b : Bnd} {mb : Blk}
theorem z_for (hp : PassesOwn (model X.prog X.w) X.A X.env X.xe) (hc : X.calm = true) (hi : PI X tg iter (TIm (kx X) q ms)) (hg : PG X tg (TGm (kx X) kp' b)) (hb : PSs X body (TSm (kx X) kp' mb)) (hw : ∀ i, kp i = true → kp' i = true)
    (hs : ∀ x, foldedSetIterable iter X.env x = pure x := by intro _; rfl) : PS X (.For tg iter body [] pos) (TSm (kx X) kp (dFor kp' ms b mb)) :=
  PS.imp (ps_for hp hc hi hg hb hs) fun D' σ H ⟨δ, o, out, E, n, hm, f0⟩ => by
    have f := f0.weak hw
    simp only [dFor] at hm
    cases h1 : ms δ with
    | none => rw [h1] at hm; simp at hm
    | some p =>
      obtain ⟨src, δ1⟩ := p
      rw [h1] at hm; dsimp only at hm
      by_cases hk0 : gsIn kp' src.gs = true
      case neg => rw [if_neg hk0] at hm; cases hm
      rw [if_pos hk0] at hm
      have hk := gsIn_mem hk0
      refine ⟨δ, o, src, δ1, E, n, h1, fun J H1 o1 ov s1 E1 w1 hov S _ => ?_⟩
      have P1 : PS0 (kx X) H σ kp' o δ1 σ H1 o1 := ⟨s1.mono Wq_sub, E1, own_right w1, fun _ _ => rfl⟩
      have n1 := w1.nd n
      -- W: at turn i
      refine ⟨fun i m σ2 H2 => m + i = src.xs.length ∧ ∃ δ2 o2, PS0 (kx X) H1 σ kp' o1 δ2 σ2 H2 o2 ∧ Step H1 H2 o1 ∧ dForL src.gs b mb (src.xs.drop i) δ2 = some out, ⟨src.xs.length, rfl, δ1, o1, .refl E1, .refl _ _, hm⟩, fun i m σ2 H2 hW => ?_⟩
      obtain ⟨hl, δ2, o2, P2, s2, h2⟩ := hW
      have P12 := P1.trans P2
      have pin : ∀ a ∈ ov, H2 a = H1 a := fun a ha => by
        obtain ⟨u, e, how⟩ := hov a ha
        rw [e]
        exact s2.keep a _ e (nd_split n1 a ha) how.2
      have shr : ∀ a u, H1 a = some u → Sh u → H2 a = some u := fun a u e hu => s2.keep a u e (fun z => by
        obtain ⟨vs, e2, how⟩ := E1.own a z
        rw [e] at e2; cases e2; exact how.1 hu) hu.nt
      have gk : gOk src.gs δ2 = true → ∀ p ∈ src.gs, ∃ v o, σ[p.1]? = some (some v) ∧ Rep X.F H2 p.2 v o := fun hg p hp => by
        obtain ⟨v, o, hv, r⟩ := gOk_rep P2.env hg p hp
        exact ⟨v, o, by rw [← P2.kept _ (hk p hp)]; exact hv, r⟩
      by_cases hi : i < src.xs.length
      · have hx : src.xs[i]? = some src.xs[i] := List.getElem?_eq_getElem hi
        rw [List.drop_eq_getElem_cons hi] at h2
        simp only [dForL] at h2
        by_cases hg : gOk src.gs δ2 = true
        · rw [if_pos hg] at h2
          obtain ⟨go, _⟩ := S i H2 pin shr (gk hg)
          obtain ⟨go, yl⟩ := go _ hx
          cases h3 : b src.xs[i] δ2 with
          | none => rw [h3] at h2; simp at h2
          | some δ3 =>
            rw [h3] at h2; dsimp only at h2
            refine .inr ⟨go, fun σ' H' => ∃ δ4 o4, PS0 (kx X) H1 σ kp' o1 δ4 σ' H' o4 ∧ Step H1 H' o1 ∧ dForL src.gs b mb (src.xs.drop (i + 1)) δ4 = some out, fun σ' H' ⟨δ4, o4, P4, s4, h4⟩ => ⟨m - 1, by omega, by omega, δ4, o4, P4, s4, h4⟩, fun v H3 hy => ?_⟩
            obtain ⟨sm, rv⟩ := yl v H3 hy
            have s3 : Step H1 H3 o1 := s2.same sm
            refine ⟨δ2, o2, src.xs[i], [], δ3, P2.env.same sm, rv, h3, fun σ3 o3 E3 c3 k3 => ?_⟩
            have P3 : PS0 (kx X) H1 σ kp' o1 δ3 σ3 H3 o3 := ⟨s3, E3, P2.own.sub fun a => by have := c3 a; simp only [List.count_nil] at this; omega, fun j hj => (k3.1 j hj).trans (P2.kept j hj)⟩
            cases h4 : mb δ3 with
            | none => rw [h4] at h2; simp at h2
            | some x =>
              rw [h4] at h2
              refine ⟨δ3, o3, x, E3, P3.own.nd (own_right w1 |>.nd n), h4, ?_⟩
              cases x with
              | nx δ4 => exact fun σ4 H4 o4 P4 => ⟨δ4, o4, P3.trans P4, (P3.trans P4).step, h2⟩
              | ct δ4 => exact fun σ4 H4 o4 P4 => ⟨δ4, o4, P3.trans P4, (P3.trans P4).step, h2⟩
              | bk δ4 =>
                cases (Option.some.inj h2)
                exact fun σ4 H4 o4 P4 => f0 σ4 H4 o4 ((P1.trans (P3.trans P4)).weak hw)
              | rt d δ4 =>
                cases (Option.some.inj h2)
                exact fun σ4 v H4 o4 ov P4 => f0 σ4 v H4 o4 ov ((P1.thenR (P3.thenR P4)).weak hw)
        · rw [if_neg hg] at h2; cases h2
      · have hd : src.xs.drop i = [] := List.drop_eq_nil_of_le (by omega)
        rw [hd] at h2
        simp only [dForL] at h2
        by_cases hg : gOk src.gs δ2 = true
        · rw [if_pos hg] at h2
          cases (Option.some.inj h2)
          exact .inl ⟨(S i H2 pin shr (gk hg)).2 (by omega), f0 σ2 H2 o2 (P12.weak hw)⟩
        · rw [if_neg hg] at h2; cases h2
end
end Z


set_option Elab.async false
set_option linter.all false
set_option maxRecDepth 100000
/-! defs; what is walked; lists that change -/
namespace Z
open PySem PySem.Spec PyProof.Rows L2

/-! ### a def -/
def fins (kp : Nat → Bool) : Nat → Nat → DE → List (Option D)
  | _, 0, _ => []
  | i, n + 1, [] => none :: fins kp (i + 1) n []
  | i, n + 1, x :: δ => (if kp i then x else none) :: fins kp (i + 1) n δ
def env0 (nN np : Nat) (ds : List D) : DE := ds.map some ++ List.replicate (nN - np) none
def dFn (nN np : Nat) (kp : Nat → Bool) (m : Blk) : Fn := fun ds => if ds.length = np then match m (env0 nN np ds) with
  | some (.nx δ') => some (.non, fins kp 0 np δ')
  | some (.rt d δ') => some (d, fins kp 0 np δ')
  | _ => none
  else none
section
variable {K : Fw} {κ : Kx} {H : Hp}
theorem envs_none (tb : Tabs κ H) : ∀ (n : Nat), Envs κ H (List.replicate n none) (List.replicate n none) []
  | 0 => ⟨rfl, tb⟩
  | n + 1 => envs_none tb n
theorem envs_start : ∀ {ds : List D} {vs : List V} {o : List Addr} (n : Nat), Reps κ.K H ds vs o → Tabs κ H → Envs κ H (vs.map some ++ List.replicate n none) (ds.map some ++ List.replicate n none) o
  | [], _, _, n, h, tb => by rw [h.1, h.2]; exact envs_none tb n
  | d :: ds, _, _, n, h, tb => by
    obtain ⟨v, vr, o1, o2, rfl, h1, h2, rfl⟩ := h
    exact ⟨o1, o2, h1, envs_start n h2 tb, rfl⟩
theorem envs_fins (kp : Nat → Bool) : ∀ {vs : List V} {σ : L2.St} {δ : DE} {o : List Addr} (j : Nat), Envs κ H σ δ o → (∀ i v, vs[i]? = some v → kp (j + i) = true → σ[i]? = some (some v)) →
    ∃ o', Envs κ H (vs.map some) (fins kp j vs.length δ) o' ∧ ∀ a, o'.count a ≤ o.count a
  | [], _, _, _, j, E, _ => ⟨[], ⟨rfl, E.tabs⟩, fun a => by simp⟩
  | v :: vs, [], [], o, j, E, h => by
    obtain ⟨o', E', c⟩ := envs_fins kp (vs := vs) (σ := []) (δ := []) (o := []) (j + 1) ⟨rfl, E.2⟩ fun i w hi hk => by
      have := h (i + 1) w (by simpa using hi) (by rw [show j + (i + 1) = j + 1 + i by omega]; exact hk)
      simp at this
    refine ⟨o', E', fun a => ?_⟩
    have := c a
    simp only [List.count_nil] at this
    omega
  | v :: vs, s :: σ, x :: δ, o, j, E, h => by
    have hr : ∀ i w, vs[i]? = some w → kp (j + 1 + i) = true → σ[i]? = some (some w) := fun i w hi hk => by
      have := h (i + 1) w (by simpa using hi) (by rw [show j + (i + 1) = j + 1 + i by omega]; exact hk)
      simpa using this
    cases x with
    | none =>
      have E : Envs κ H σ δ o := by cases s <;> exact E
      obtain ⟨o', E', c⟩ := envs_fins kp (j + 1) E hr
      refine ⟨o', ?_, c⟩
      show Envs κ H (some v :: vs.map some) ((if kp j then none else none) :: _) o'
      rw [ite_self]; exact E'
    | some d =>
      cases s with
      | none => exact E.elim
      | some w =>
        obtain ⟨o1, o2, r, E2, rfl⟩ := E
        obtain ⟨o', E', c⟩ := envs_fins kp (j + 1) E2 hr
        by_cases hk : kp j = true
        · have hv := h 0 v rfl hk
          simp only [List.getElem?_cons_zero, Option.some.injEq] at hv
          subst hv
          refine ⟨o1 ++ o', ?_, fun a => by have := c a; rw [List.count_append, List.count_append]; omega⟩
          show Envs κ H (some w :: vs.map some) ((if kp j then some d else none) :: _) _
          rw [if_pos hk]
          exact ⟨o1, o', r, E', rfl⟩
        · refine ⟨o', ?_, fun a => by have := c a; rw [List.count_append]; omega⟩
          show Envs κ H (some v :: vs.map some) ((if kp j then some d else none) :: _) o'
          rw [if_neg hk]; exact E'
  | v :: vs, [], _ :: _, _, _, E, _ => by simp [Envs] at E
  | v :: vs, _ :: _, [], _, _, E, _ => by simp [Envs] at E
end
section
variable {P : Program} {w : World} {K : Fw} {κ : Kx} {mg : Str → Option Value} {base : Heap}
/-- a def of the program stands at f, its code object in the fragment -/
structure FunZ (K : PySem.W.Frag) (qual : Str) (params : Arguments) (body : List Stmt) (scope : Scope) (f : Addr) (fd : FuncData) : Prop where
  ex : ∃ (x : Str) (oc : Value) (od : Option Addr) (dV kV doc pm : Value) (an : Option Addr) (ct : Value) (osl : Array (Option Value)) (c P : Addr),
    fd = PySem.W.fnOf x qual params body scope dV kV doc pm an (.ref c) ct ∧ K.lookup f = some ⟨oc, od, .func fd, osl⟩ ∧ PySem.W.codeIn K (.ref c) qual = true ∧ PySem.W.codeHdIn K c P = true
theorem z_def {qual : Str} {params : Arguments} {body : List Stmt} {scope : Scope} {f : Addr} {fd : FuncData} {N ps : List Str} {k : Nat} {kp : Nat → Bool} {m : Blk} (F : FunZ K qual params body scope f fd) (S : FnScope N ps scope)
    (hb : ∀ (cc : Addr) (A : Around) (outer : List Env) (s : Shared) (H : Hp) (E : XK), Room k (A.deeper (envOfC qual scope s.heap.objs.size f (.ref cc))) → PSs (cxOf CX0 P w K mg base N qual scope f (.ref cc) A outer s H E).nox body (TSm ⟨K, .ref cc⟩ kp m)) :
    FnOk P w K mg base CX0 (k + 1) f fd ps (spD K (dFn N.length ps.length kp m)) := by
  obtain ⟨x, oc, od, dV, kV, doc, pm, an, ct, osl, cc, PP, rfl, lk, hcd, hhd⟩ := F.ex
  refine fn_of lk hcd S (fun vs H Q E h => ?_) fun A outer s H vs Q E hr h => ⟨_, (hb cc A outer s H E hr).nox, ?_⟩
  · obtain ⟨ds, oA, r, fs, ra, n, _, hm, _⟩ := h
    simp only [dFn] at hm
    by_cases hl : ds.length = ps.length
    · rw [ra.length]; exact hl
    · rw [if_neg hl] at hm; cases hm
  · obtain ⟨ds, oA, r, fs, ra, n, tb, hm, k⟩ := h
    simp only [dFn] at hm
    by_cases hl : ds.length = ps.length
    · rw [if_pos hl] at hm
      have hl2 : vs.length = ps.length := ra.length.trans hl
      have E0 : Envs ⟨K, .ref cc⟩ H (L2.start N vs) (env0 N.length ps.length ds) oA := by
        unfold L2.start env0
        rw [hl2]; exact envs_start _ ra ⟨tb.1, fun c e => by cases e; exact ⟨PP, .inl hhd, tb.1 _ _ hhd⟩⟩
      have kept : ∀ {σ' : L2.St}, (∀ i, kp i = true → σ'[i]? = (L2.start N vs)[i]?) → ∀ i v, vs[i]? = some v → kp (0 + i) = true → σ'[i]? = some (some v) := fun h i v hi hk => by
        rw [Nat.zero_add] at hk
        rw [h i hk]
        unfold L2.start
        obtain ⟨hlt, _⟩ := List.getElem?_eq_some_iff.mp hi
        rw [List.getElem?_append_left (by simpa using hlt), List.getElem?_map, hi]; rfl
      cases h1 : m (env0 N.length ps.length ds) with
      | none => rw [h1] at hm; simp at hm
      | some out =>
        rw [h1] at hm
        refine ⟨env0 N.length ps.length ds, oA, out, E0, n, h1, ?_⟩
        cases out with
        | nx δ' =>
          simp only [Option.some.injEq, Prod.mk.injEq] at hm
          obtain ⟨rfl, rfl⟩ := hm
          intro σ' H' o' P
          obtain ⟨of_, Ef, c⟩ := envs_fins kp 0 P.env (kept P.kept)
          rw [hl2] at Ef
          exact k .non H' [] of_ P.step ⟨rfl, rfl⟩ Ef.bare (P.own.sub c)
        | rt d δ' =>
          simp only [Option.some.injEq, Prod.mk.injEq] at hm
          obtain ⟨rfl, rfl⟩ := hm
          intro σ' v H' o' ov P
          obtain ⟨of_, Ef, c⟩ := envs_fins kp 0 P.env (kept P.kept)
          rw [hl2] at Ef
          exact k v H' ov of_ P.step P.rep Ef.bare (P.own.sub fun a => by have := c a; simp only [List.count_append]; omega)
        | bk δ' => simp at hm
        | ct δ' => simp at hm
    · rw [if_neg hl] at hm; cases hm
end

/-! ### what is walked -/
def rangeD (lo : Int) (n : Nat) : List D := (List.range n).map fun (k : Nat) => D.int (lo + (k : Int))
theorem rangeD_get {lo : Int} {n i : Nat} {x : D} (h : (rangeD lo n)[i]? = some x) : i < n ∧ x = .int (lo + i) := by
  unfold rangeD at h
  rw [List.getElem?_map] at h
  cases q : (List.range n)[i]? with
  | none => rw [q] at h; simp at h
  | some k =>
    rw [q] at h
    obtain ⟨hl, e⟩ := List.getElem?_eq_some_iff.mp q
    rw [List.getElem_range] at e
    rw [List.length_range] at hl
    subst e
    exact ⟨hl, (Option.some.inj h).symm⟩
theorem rangeD_len (lo : Int) (n : Nat) : (rangeD lo n).length = n := by simp [rangeD]
def sRange (m : DE → Option (List R × DE)) : DenS := fun δ => match m δ with
  | some ([.own (.int j)], δ') => if -1000000 ≤ j ∧ j ≤ 1000000 then some (⟨rangeD 0 j.toNat, []⟩, δ') else none
  | some ([.own (.int i), .own (.int j)], δ') => if -1000000 ≤ i ∧ i ≤ 1000000 ∧ -1000000 ≤ j ∧ j ≤ 1000000 then some (⟨rangeD i (j - i).toNat, []⟩, δ') else none
  | _ => none
theorem src_range {K : Fw} {σ : L2.St} {H : Hp} {ov : List Addr} (lo : Int) (n : Nat) : SrcOk K σ ⟨rangeD lo n, []⟩ (Itr lo n) H ov := fun i H' _ _ _ =>
  ⟨fun x hx => by
    obtain ⟨hi, rfl⟩ := rangeD_get hx
    exact ⟨hi, fun v H'' hy => by obtain ⟨rfl, rfl⟩ := hy; exact ⟨fun _ _ e => e, rfl, rfl⟩⟩, fun h => by rw [rangeD_len] at h; exact h⟩
section
variable {X : Cx} {tg a b l : Expr} {q : Bool} {m : DE → Option (List R × DE)} {ml : Den} {p pos : Pos}
theorem big_sz : 2000000 ≤ sizeLine := by decide
/-- the lists and tuples are as long as the model has them -/
def HL (K : PySem.W.Frag) (H : Hp) : Prop := (∀ a vs, SqL K H a vs → vs.length ≤ sizeLine) ∧ ∀ a vs, SqT K H a vs → vs.length ≤ sizeLine
theorem inv_hl {pins : List (Addr × Obj)} {σ : L2.St} {H : Hp} {s : Shared} (I : Inv X pins σ H s) : HL X.K H := ⟨fun a vs h => by obtain ⟨_, _, _, z⟩ := I.list h; exact z, fun a vs h => by obtain ⟨_, _, _, z⟩ := I.tuple h; exact z⟩
theorem PI.ok {iter : Expr} {t : TI} (h : PI X tg iter t) : PI X tg iter (fun σ H R => t σ H fun J H1 => HL X.K H1 → R J H1) := ⟨fun pins s σ H R I hw =>
  thn (h.run pins s σ H _ I hw) fun v s1 h1 => thn h1 fun itv s2 ⟨it, fp, tn, J, H', e1, I', T', t0, f', r⟩ => ⟨it, fp, tn, J, H', e1, I', T', t0, f', r (inv_hl I')⟩⟩
theorem PI.imp {iter : Expr} {t t' : TI} (h : PI X tg iter t) (i : ∀ σ H R, t' σ H R → t σ H R) : PI X tg iter t' := ⟨fun pins s σ H R I hw => h.run pins s σ H R I (i _ _ _ hw)⟩
theorem sRange_inv {δ δ' : DE} {src : Src} (h : sRange m δ = some (src, δ')) : (∃ j, m δ = some ([.own (.int j)], δ') ∧ (-1000000 ≤ j ∧ j ≤ 1000000) ∧ src = ⟨rangeD 0 j.toNat, []⟩) ∨
    ∃ i j, m δ = some ([.own (.int i), .own (.int j)], δ') ∧ (-1000000 ≤ i ∧ i ≤ 1000000 ∧ -1000000 ≤ j ∧ j ≤ 1000000) ∧ src = ⟨rangeD i (j - i).toNat, []⟩ := by
  unfold sRange at h
  split at h
  · rename_i j δ1 e
    split at h
    · rename_i hc
      simp only [Option.some.injEq, Prod.mk.injEq] at h
      obtain ⟨rfl, rfl⟩ := h
      exact .inl ⟨j, e, hc, rfl⟩
    · cases h
  · rename_i i j δ1 e
    split at h
    · rename_i hc
      simp only [Option.some.injEq, Prod.mk.injEq] at h
      obtain ⟨rfl, rfl⟩ := h
      exact .inr ⟨i, j, e, hc, rfl⟩
    · cases h
  · cases h
theorem z_range1 (hg : Gl X "range") (hm : X.mg "range" = none) (ha : PA X [a] (TAr (kx X) q m)) (hs : starEach [a] X.env = [(false, eval a X.env)] := by rfl) (h1 : ∀ δ rs δ', m δ = some (rs, δ') → rs.length = 1) : PI X tg (.Call (.Name "range" p) [a] [] pos) (TIm (kx X) q (sRange m)) :=
  PI.imp (pi_range1 hg hm ha hs) fun σ H R ⟨δ, o, src, δ', E, n, h, k⟩ => by
    rcases sRange_inv h with ⟨j, e, hc, rfl⟩ | ⟨i, j, e, hc, rfl⟩
    · refine ⟨δ, o, _, δ', E, n, e, fun vs H1 o1 ov s1 E1 hl w1 => ?_⟩
      obtain ⟨v, vr, oa, ob, rfl, ⟨rfl, rfl⟩, ⟨rfl, rfl⟩, rfl⟩ := hl
      exact ⟨j, rfl, by omega, by omega, k _ H1 o1 [] s1 E1 w1 (fun a ha => nomatch ha) (src_range 0 _) (by rw [rangeD_len]; exact Nat.le_trans (by omega) big_sz)⟩
    · exact absurd (h1 _ _ _ e) (by simp)
theorem z_range2 (hg : Gl X "range") (hm : X.mg "range" = none) (ha : PA X [a, b] (TAr (kx X) q m)) (h2 : ∀ δ rs δ', m δ = some (rs, δ') → rs.length = 2)
    (hs : starEach [a, b] X.env = [(false, eval a X.env), (false, eval b X.env)] := by rfl) (hs2 : starEach [b] X.env = [(false, eval b X.env)] := by rfl) : PI X tg (.Call (.Name "range" p) [a, b] [] pos) (TIm (kx X) q (sRange m)) :=
  PI.imp (pi_range2 hg hm ha hs hs2) fun σ H R ⟨δ, o, src, δ', E, n, h, k⟩ => by
    rcases sRange_inv h with ⟨j, e, hc, rfl⟩ | ⟨i, j, e, hc, rfl⟩
    · exact absurd (h2 _ _ _ e) (by simp)
    · refine ⟨δ, o, _, δ', E, n, e, fun vs H1 o1 ov s1 E1 hl w1 => ?_⟩
      obtain ⟨v, vr, oa, ob, rfl, ⟨rfl, rfl⟩, ⟨v2, vr2, oa2, ob2, rfl, ⟨rfl, rfl⟩, ⟨rfl, rfl⟩, rfl⟩, rfl⟩ := hl
      exact ⟨i, j, rfl, by omega, k _ H1 o1 [] s1 E1 w1 (fun a ha => nomatch ha) (src_range i _) (by rw [rangeD_len]; exact Nat.le_trans (by omega) big_sz)⟩
theorem acons_len1 {qb : Bool} {ma : Den} {δ δ' : DE} {rs : List R} (h : dACons qb ma dANil δ = some (rs, δ')) : rs.length = 1 := by
  simp only [dACons, dANil] at h
  split at h
  · split at h
    · simp only [Option.some.injEq, Prod.mk.injEq] at h; rw [← h.1]; rfl
    · cases h
  · cases h
theorem acons_len2 {qa qb : Bool} {ma mb : Den} {δ δ' : DE} {rs : List R} (h : dACons qa ma (dACons qb mb dANil) δ = some (rs, δ')) : rs.length = 2 := by
  rw [dACons] at h
  split at h
  · split at h
    · rename_i e
      have := acons_len1 e
      split at h
      · simp only [Option.some.injEq, Prod.mk.injEq] at h; rw [← h.1]; simp [this]
      · cases h
    · cases h
  · cases h

/-- a sequence as it comes -/
def chars (x : Str) : List D := x.cps.toList.map fun c => D.str ⟨#[c]⟩
def sSeq (m : Den) : DenS := fun δ => match m δ with
  | some (.own (.tup xs), δ') => if D.imms xs then some (⟨xs, []⟩, δ') else none
  | some (.own (.lst xs), δ') => if D.imms xs then some (⟨xs, []⟩, δ') else none
  | some (.own (.frz xs), δ') => if D.imms xs then some (⟨xs, []⟩, δ') else none
  | some (.own (.str x), δ') => some (⟨chars x, []⟩, δ')
  | some (.at i [], δ') => match δ'[i]? with
    | some (some (.lst xs)) => if D.imms xs then some (⟨xs, [(i, .lst xs)]⟩, δ') else none
    | _ => none
  | _ => none
theorem item_of {K : Fw} {H : Hp} {xs : List D} {vs : List V} {i : Nat} {x : D} (r : Reps K H xs vs []) (e : xs[i]? = some x) : ∃ v, vs[i]? = some v ∧ Rep K H x v [] := by
  obtain ⟨v, o1, e1, r1, hs⟩ := r.get e
  refine ⟨v, e1, ?_⟩
  have : o1 = [] := by
    cases o1 with
    | nil => rfl
    | cons a l => exact nomatch hs a List.mem_cons_self
  rw [this] at r1; exact r1
theorem src_list {K : Fw} {σ : L2.St} {H : Hp} {ov : List Addr} {xs : List D} {gs : List (Nat × D)} {a : Addr}
    (h : ∀ H', (∀ a ∈ ov, H' a = H a) → (∀ a u, H a = some u → Sh u → H' a = some u) → (∀ p ∈ gs, ∃ v o, σ[p.1]? = some (some v) ∧ Rep K H' p.2 v o) → ∃ vs, SqL K H' a vs ∧ Reps K H' xs vs []) : SrcOk K σ ⟨xs, gs⟩ (Itl K a) H ov := fun i H' h1 h2 h3 => by
  obtain ⟨vs, hq, r⟩ := h H' h1 h2 h3
  refine ⟨fun x hx => ?_, fun hl => ⟨vs, hq, by rw [r.length]; exact hl⟩⟩
  obtain ⟨v, hv, rv⟩ := item_of r hx
  refine ⟨⟨vs, v, hq, hv⟩, fun w H'' hy => ?_⟩
  obtain ⟨rfl, hy⟩ := hy
  have := hy vs hq
  rw [hv] at this; cases this
  exact ⟨fun _ _ e => e, rv⟩
theorem src_tup {K : Fw} {σ : L2.St} {H : Hp} {ov : List Addr} {xs : List D} {gs : List (Nat × D)} {a : Addr}
    (h : ∀ H', (∀ a ∈ ov, H' a = H a) → (∀ a u, H a = some u → Sh u → H' a = some u) → (∀ p ∈ gs, ∃ v o, σ[p.1]? = some (some v) ∧ Rep K H' p.2 v o) → ∃ vs, SqT K H' a vs ∧ Reps K H' xs vs []) : SrcOk K σ ⟨xs, gs⟩ (Itt K a) H ov := fun i H' h1 h2 h3 => by
  obtain ⟨vs, hq, r⟩ := h H' h1 h2 h3
  refine ⟨fun x hx => ?_, fun hl => ⟨vs, hq, by rw [r.length]; exact hl⟩⟩
  obtain ⟨v, hv, rv⟩ := item_of r hx
  refine ⟨⟨vs, v, hq, hv⟩, fun w H'' hy => ?_⟩
  obtain ⟨rfl, hy⟩ := hy
  have := hy vs hq
  rw [hv] at this; cases this
  exact ⟨fun _ _ e => e, rv⟩
theorem fr_of {H H' : Hp} {ov : List Addr} (h1 : ∀ a ∈ ov, H' a = H a) (h2 : ∀ a u, H a = some u → Sh u → H' a = some u) : Fr0 H H' ov := ⟨h1, h2⟩
theorem sSeq_inv {δ δ' : DE} {src : Src} (h : sSeq ml δ = some (src, δ')) : (∃ xs, ml δ = some (.own (.tup xs), δ') ∧ D.imms xs = true ∧ src = ⟨xs, []⟩) ∨ (∃ xs, ml δ = some (.own (.lst xs), δ') ∧ D.imms xs = true ∧ src = ⟨xs, []⟩) ∨
    (∃ xs, ml δ = some (.own (.frz xs), δ') ∧ D.imms xs = true ∧ src = ⟨xs, []⟩) ∨ (∃ x, ml δ = some (.own (.str x), δ') ∧ src = ⟨chars x, []⟩) ∨ (∃ i xs, ml δ = some (.at i [], δ') ∧ δ'[i]? = some (some (.lst xs)) ∧ D.imms xs = true ∧ src = ⟨xs, [(i, .lst xs)]⟩) := by
  unfold sSeq at h
  split at h
  · split at h
    · simp only [Option.some.injEq, Prod.mk.injEq] at h; obtain ⟨rfl, rfl⟩ := h; exact .inl ⟨_, by assumption, by assumption, rfl⟩
    · cases h
  · split at h
    · simp only [Option.some.injEq, Prod.mk.injEq] at h; obtain ⟨rfl, rfl⟩ := h; exact .inr (.inl ⟨_, by assumption, by assumption, rfl⟩)
    · cases h
  · split at h
    · simp only [Option.some.injEq, Prod.mk.injEq] at h; obtain ⟨rfl, rfl⟩ := h; exact .inr (.inr (.inl ⟨_, by assumption, by assumption, rfl⟩))
    · cases h
  · simp only [Option.some.injEq, Prod.mk.injEq] at h; obtain ⟨rfl, rfl⟩ := h; exact .inr (.inr (.inr (.inl ⟨_, by assumption, rfl⟩)))
  · split at h
    · split at h
      · simp only [Option.some.injEq, Prod.mk.injEq] at h; obtain ⟨rfl, rfl⟩ := h; exact .inr (.inr (.inr (.inr ⟨_, _, by assumption, by assumption, by assumption, rfl⟩)))
      · cases h
    · cases h
  · cases h
theorem z_seq (hl : PE X l (T (kx X) q ml)) : PI X tg l (TIm (kx X) q (sSeq ml)) := ⟨fun pins s σ H R I hw => by
  obtain ⟨δ, o, src, δ', E, n, h, k⟩ := hw
  rcases sSeq_inv h with ⟨xs, e, hi, rfl⟩ | ⟨xs, e, hi, rfl⟩ | ⟨xs, e, hi, rfl⟩ | ⟨x, e, rfl⟩ | ⟨i, xs, e, hd, hi, rfl⟩
  · refine (PI.ok (pi_tup hl)).run pins s σ H R I ⟨δ, o, _, δ', E, n, e, fun v H1 o1 ov P => ?_⟩
    obtain ⟨a, vs, rfl, hq, r⟩ := P.held
    have := r.imm hi; subst this
    exact ⟨a, rfl, ⟨vs, hq⟩, fun hz => k _ H1 o1 [] P.step P.env P.own (fun a ha => nomatch ha) (src_tup fun H' h1 h2 h3 => ⟨vs, (fr_of h1 h2).sqt hq, r.fr (fr_of h1 h2)⟩) (by rw [← r.length]; exact hz.2 _ _ hq)⟩
  · refine (PI.ok (pi_list hl)).run pins s σ H R I ⟨δ, o, _, δ', E, n, e, fun v H1 o1 ov P => ?_⟩
    obtain ⟨a, vs, o', rfl, hq, r, rfl⟩ := P.held
    have := r.imm hi; subst this
    refine ⟨a, rfl, ⟨vs, .of hq⟩, fun hz => k _ H1 o1 [a] P.step P.env P.own (fun b hb => by rw [List.mem_singleton.mp hb]; exact ⟨_, hq, ow_lst⟩) (src_list fun H' h1 h2 h3 => ⟨vs, .of ((h1 a List.mem_cons_self).trans hq), r.fr ((fr_of h1 h2).sub fun b hb => nomatch hb)⟩) (by rw [← r.length]; exact hz.1 _ _ (.of hq))⟩
  · refine (PI.ok (pi_list hl)).run pins s σ H R I ⟨δ, o, _, δ', E, n, e, fun v H1 o1 ov P => ?_⟩
    obtain ⟨a, vs, rfl, hq, r, rfl⟩ := P.held
    exact ⟨a, rfl, ⟨vs, hq.sq⟩, fun hz => k _ H1 o1 [] P.step P.env P.own (fun a ha => nomatch ha) (src_list fun H' h1 h2 h3 => ⟨vs, ((fr_of h1 h2).fz hq).sq, r.fr (fr_of h1 h2)⟩) (by rw [← r.length]; exact hz.1 _ _ hq.sq)⟩
  · refine (PI.ok (pi_str hl)).run pins s σ H R I ⟨δ, o, _, δ', E, n, e, fun v H1 o1 ov P => ?_⟩
    obtain ⟨rfl, hz, rfl⟩ := P.held
    refine ⟨x, rfl, fun _ => k _ H1 o1 [] P.step P.env P.own (fun a ha => nomatch ha) (fun i H' h1 h2 h3 => ⟨fun y hy => ?_, fun hl => by simpa [chars, Its] using hl⟩) (by simpa [chars, Str.length] using hz.1)⟩
    unfold chars at hy
    rw [List.getElem?_map, Array.getElem?_toList] at hy
    cases hc : x.cps[i]? with
    | none => rw [hc] at hy; simp at hy
    | some c =>
      rw [hc] at hy
      cases (Option.some.inj hy)
      refine ⟨(Array.getElem?_eq_some_iff.mp hc).1, fun v H'' hv => ?_⟩
      obtain ⟨rfl, c', hc', rfl⟩ := hv
      rw [hc] at hc'; cases hc'
      exact ⟨fun _ _ e => e, rfl, ⟨by show 1 ≤ sizeLine; decide, strOk_of (l := [c]) fun d hd => by rw [List.mem_singleton.mp hd]; exact strOk_mem hz.2 (Array.mem_toList_iff.mpr (Array.mem_of_getElem? hc))⟩, rfl⟩
  · refine (PI.ok (pi_list hl)).run pins s σ H R I ⟨δ, o, _, δ', E, n, e, fun v H1 o1 ov P => ?_⟩
    obtain ⟨rfl, u, hu, hp⟩ := P.held
    cases (show v = u from hp)
    obtain ⟨v0, oa, oi, ob, hv0, rd, e0, _, _⟩ := P.env.at hd
    rw [hu] at hv0; cases hv0
    obtain ⟨a, vs, o', rfl, hq, r, _⟩ := rd
    refine ⟨a, rfl, ⟨vs, .of hq⟩, fun hz => k _ H1 o1 [] P.step P.env P.own (fun b hb => nomatch hb) (src_list fun H' h1 h2 h3 => ?_) (by rw [← r.length]; exact hz.1 _ _ (.of hq))⟩
    obtain ⟨v2, o2, hv2, r2⟩ := h3 _ List.mem_cons_self
    rw [hu] at hv2; cases hv2
    obtain ⟨a2, vs2, o2', e2, hq2, rr2, _⟩ := r2
    cases e2
    have := rr2.imm hi; subst this
    exact ⟨vs2, .of hq2, rr2⟩⟩
end

/-! ### lists that change -/
section
variable {K : Fw} {κ : Kx} {H : Hp} {σ : L2.St}
/-- the list at a place of the names, and another content in its stead -/
theorem Envs.mut {δ : DE} {o : List Addr} {s : Nat} {p : List Nat} {d0 : D} {xs : List D} {v : V} {ov : List Addr} (E : Envs κ H σ δ o) (hh : Held κ.K H σ (.at s p) v ov) (hd : δ[s]? = some (some d0)) (hg : getP p d0 = some (.lst xs)) :
    ∃ a vs oxs, v = .ref a ∧ H a = some (.lst vs) ∧ Reps κ.K H xs vs oxs ∧ a ∈ o ∧ (∀ b, oxs.count b ≤ o.count b) ∧
      ∀ ov xs' vs' oxs' d', Nd (ov ++ o) → Reps κ.K H xs' vs' oxs' → (∀ b, oxs'.count b ≤ oxs.count b + ov.count b) → setP p d0 (.lst xs') = some d' → ∃ o', Envs κ (upd H a (.lst vs')) σ (δ.set s (some d')) o' ∧ ∀ b, o'.count b ≤ ov.count b + o.count b := by
  obtain ⟨_, u, hu, hp⟩ := hh
  obtain ⟨v0, oa, oi, ob, hv0, rd, rfl, kr, _⟩ := E.at hd
  rw [hu] at hv0; cases hv0
  obtain ⟨oe, or_, re, hc, k2⟩ := rd.path hg hp
  obtain ⟨a, vs, oxs, rfl, ha, rs, rfl⟩ := re
  have hca := hc a
  rw [List.count_cons_self] at hca
  refine ⟨a, vs, oxs, rfl, ha, rs, ?_, fun b => ?_, fun ov xs' vs' oxs' d' n r' c' hs => ?_⟩
  · refine List.count_pos_iff.mp ?_
    simp only [List.count_append]; omega
  · have h1 := hc b
    have h2 : oxs.count b ≤ (a :: oxs).count b := List.count_le_count_cons
    simp only [List.count_append]; omega
  · have nn := fun b => n b
    simp only [List.count_append] at nn
    have na := nn a
    have nax : a ∉ oxs' := fun hm => by
      have h1 := c' a
      have h2 : 0 < oxs'.count a := List.count_pos_iff.mpr hm
      omega
    have fra : ∀ (l : List Addr), a ∉ l → Fr H (upd H a (.lst vs')) l := fun l hl => ⟨fun b hb => upd_ne (fun e => hl (e ▸ hb)), fun b w e hw => by
      have : b ≠ a := fun z => by rw [z, ha] at e; cases e; exact hw
      rw [upd_ne this]; exact e, (Step.write (W := [a]) ha List.mem_cons_self).tab⟩
    have nar : a ∉ or_ := fun hm => by
      have h2 : 0 < or_.count a := List.count_pos_iff.mpr hm
      omega
    have nab : a ∉ oa ++ ob := fun hm => by
      have h2 : 0 < (oa ++ ob).count a := List.count_pos_iff.mpr hm
      rw [List.count_append] at h2
      omega
    obtain ⟨o1', r1, c1⟩ := k2 (upd H a (.lst vs')) (.lst xs') (a :: oxs') d' ⟨a, vs', oxs', rfl, upd_same, r'.fr (fra _ nax), rfl⟩ (fra _ nar) hs
    refine ⟨oa ++ o1' ++ ob, kr _ d' o1' r1 (fra _ nab), fun b => ?_⟩
    have h1 := hc b
    have h2 := c1 b
    have h3 := c' b
    simp only [List.count_append, List.count_cons] at h1 h2 h3 ⊢
    omega
end
/-- a change of the list that the first operand stands for -/
def mutD (δ : DE) (r : R) (f : List D → Option (List D)) : Option DE := match r with
  | .at s p => match δ[s]? with
    | some (some d0) => match getP p d0 with
      | some (.lst xs) => match f xs with
        | some xs' => match setP p d0 (.lst xs') with
          | some d' => some (δ.set s (some d'))
          | none => none
        | none => none
      | _ => none
    | _ => none
  | _ => none
theorem mutD_inv {δ δ' : DE} {r : R} {f : List D → Option (List D)} (h : mutD δ r f = some δ') : ∃ s p d0 xs xs' d', r = .at s p ∧ δ[s]? = some (some d0) ∧ getP p d0 = some (.lst xs) ∧ f xs = some xs' ∧ setP p d0 (.lst xs') = some d' ∧ δ' = δ.set s (some d') := by
  unfold mutD at h
  split at h
  · split at h
    · split at h
      · split at h
        · split at h
          · cases (Option.some.inj h)
            exact ⟨_, _, _, _, _, _, rfl, by assumption, by assumption, by assumption, by assumption, rfl⟩
          · cases h
        · cases h
      · cases h
    · cases h
  · cases h
def isLst (δ : DE) (r : R) : Bool := match deref δ r with
  | some (.lst _) => true
  | _ => false
def dAppend (qe : Bool) (mo me : Den) : Den := fun δ => match mo δ with
  | some (ro, δ1) => match me δ1 with
    | some (.own d, δ2) => if (ro.short || qe) && isLst δ1 ro then match mutD δ2 ro fun xs => if xs.length < 1000000 then some (xs ++ [d]) else none with
      | some δ3 => some (.own .non, δ3)
      | none => none
      else none
    | _ => none
  | none => none
theorem isLst_ty {κ : Kx} {H : Hp} {σ : L2.St} {δ : DE} {o ov : List Addr} {r : R} {v : V} (E : Envs κ H σ δ o) (h : Held κ.K H σ r v ov) (e : isLst δ r = true) : tyV κ.K "list" v H := by
  unfold isLst at e
  split at e
  · rename_i xs e1
    obtain ⟨o', ⟨a, vs, o2, rfl, hq, _⟩, _⟩ := h.deref E e1
    exact .inl ⟨rfl, vs, .of hq⟩
  · cases e
section
variable {X : Cx} {eo e : Expr} {qo qe : Bool} {mo me : Den} {apos cpos : Pos}
theorem t_append {σ : L2.St} {H : Hp} {Q : VK} (h : T (kx X) false (dAppend qe mo me) σ H Q) : tBM X.K "list" rAppend (T (kx X) qo mo) (TAr (kx X) (qe && true) (dACons true me dANil)) σ H Q := by
  obtain ⟨δ, o, r, δ', E, n, hm, k⟩ := h
  simp only [dAppend] at hm
  cases h1 : mo δ with
  | none => rw [h1] at hm; simp at hm
  | some p1 =>
    obtain ⟨ro, δ1⟩ := p1
    rw [h1] at hm; dsimp only at hm
    cases h2 : me δ1 with
    | none => rw [h2] at hm; simp at hm
    | some p2 =>
      obtain ⟨re, δ2⟩ := p2
      rw [h2] at hm
      cases re with
      | «at» _ _ => simp at hm
      | own d =>
        dsimp only at hm
        by_cases hc0 : ((ro.short || qe) && isLst δ1 ro) = true
        · rw [if_pos hc0] at hm
          obtain ⟨hc, hil⟩ := Bool.and_eq_true_iff.mp hc0
          cases h3 : mutD δ2 ro fun xs => if xs.length < 1000000 then some (xs ++ [d]) else none with
          | none => rw [h3] at hm; simp at hm
          | some δ3 =>
            rw [h3] at hm
            simp only [Option.some.injEq, Prod.mk.injEq] at hm
            obtain ⟨rfl, rfl⟩ := hm
            obtain ⟨s, p, d0, xs, xs', d', rfl, hd, hg, hf, hs, rfl⟩ := mutD_inv h3
            by_cases hlen : xs.length < 1000000
            · rw [if_pos hlen] at hf
              cases (Option.some.inj hf)
              refine ⟨δ, o, _, δ1, E, n, h1, fun v H1 o1 ov1 P1 => ⟨?_, ?_⟩⟩
              · exact isLst_ty P1.env P1.held hil
              · refine ⟨δ1, o1, [.own d], δ2, P1.env, nd_of P1.own n, by simp only [dACons, dANil, h2, Bool.or_true, if_true], fun vs H2 o2 ov2 s2 E2 hl w2 => ?_⟩
                rw [Bool.and_true] at s2
                have hh : Held X.F H2 σ (.at s p) v ov1 := P1.held.step s2 (Wq_ok P1.env) (fun a ha hw => apart_of P1.own n a ha (Wq_sub a hw)) (by
                  simp only [Bool.or_eq_true] at hc
                  rcases hc with hc | hc
                  · exact .inl hc
                  · right; subst hc; rfl)
                obtain ⟨y, vr, oy, onil, rfl, ry, ⟨rfl, rfl⟩, rfl⟩ := hl
                rw [List.append_nil] at w2
                obtain ⟨a, vs, oxs, rfl, ha, rs, hao, hcx, km⟩ := Envs.mut E2 hh hd hg
                have n2 := w2.nd (nd_of P1.own n)
                obtain ⟨o3, E3, c3⟩ := km oy (xs ++ [d]) (vs ++ [y]) (oxs ++ oy) d' n2 (rs.append (.one ry)) (fun b => Nat.le_of_eq (by rw [List.count_append])) hs
                refine ⟨a, vs, y, rfl, rfl, ha, by rw [rs.length]; exact Nat.lt_of_lt_of_le hlen (by decide), ?_⟩
                have w12 := own_app P1.own P1.step P1.held.dom w2
                have s12 : Step H H2 o := ((P1.step.seq (own_right P1.own) s2).mono Wq_sub)
                refine k _ _ o3 [] ⟨?_, E3, ⟨rfl, rfl⟩, fun b => ?_⟩
                · refine ⟨fun b u e hn hu => ?_, fun b e => ?_, fun P g => (Step.write (W := [a]) ha List.mem_cons_self).tab P (s12.tab P g)⟩
                  · have e2 := s12.keep b u e hn hu
                    have : b ≠ a := fun z => by
                      subst z
                      rcases w12 b with w | ⟨w, _⟩
                      · have h5 : 0 < o2.count b := List.count_pos_iff.mpr hao
                        simp only [List.count_append] at w
                        have h6 : 0 < o.count b := by omega
                        exact hn (List.count_pos_iff.mp h6)
                      · rw [e] at w; cases w
                    rw [upd_ne this]; exact e2
                  · by_cases z : b = a
                    · subst z; rw [upd_same] at e; cases e
                    · rw [upd_ne z] at e; exact s12.dom b e
                · have g1 := c3 b
                  have g2 := w12 b
                  simp only [List.count_append, List.nil_append] at g1 g2 ⊢
                  rcases g2 with g2 | ⟨z, g2⟩
                  · left; omega
                  · right; exact ⟨z, by omega⟩
            · rw [if_neg hlen] at hf; cases hf
        · rw [if_neg hc0] at hm; simp at hm
end
end Z


set_option Elab.async false
set_option linter.all false
set_option maxRecDepth 100000
/-! stores to items, methods of lists; operators by the data -/
namespace Z
open PySem PySem.Spec PyProof.Rows L2

section
variable {K : Fw} {κ : Kx} {H H2 : Hp} {σ : L2.St}
/-- behind a change of the list at a place -/
theorem mut_end {δ2 : DE} {o o2 ovr ov : List Addr} {s : Nat} {p : List Nat} {d0 : D} {xs : List D} {v : V} (n : Nd o) (s12 : Step H H2 o) (E2 : Envs κ H2 σ δ2 o2) (w : Own H o (ovr ++ o2)) (hh : Held κ.K H2 σ (.at s p) v ov) (hd : δ2[s]? = some (some d0)) (hg : getP p d0 = some (.lst xs)) :
    ∃ a vs oxs, v = .ref a ∧ H2 a = some (.lst vs) ∧ Reps κ.K H2 xs vs oxs ∧ (∀ b, oxs.count b ≤ o2.count b) ∧
      ∀ xs' vs' oxs' d', Reps κ.K H2 xs' vs' oxs' → (∀ b, oxs'.count b ≤ oxs.count b + ovr.count b) → setP p d0 (.lst xs') = some d' →
        ∃ o3, Step H (upd H2 a (.lst vs')) o ∧ Envs κ (upd H2 a (.lst vs')) σ (δ2.set s (some d')) o3 ∧ Own H o o3 := by
  obtain ⟨a, vs, oxs, rfl, ha, rs, hao, hcx, km⟩ := Envs.mut E2 hh hd hg
  refine ⟨a, vs, oxs, rfl, ha, rs, hcx, fun xs' vs' oxs' d' r' c' hs => ?_⟩
  obtain ⟨o3, E3, c3⟩ := km ovr xs' vs' oxs' d' (w.nd n) r' c' hs
  refine ⟨o3, ⟨fun b u e hn hu => ?_, fun b e => ?_, fun P g => (Step.write (W := [a]) ha List.mem_cons_self).tab P (s12.tab P g)⟩, E3, fun b => ?_⟩
  · have e2 := s12.keep b u e hn hu
    have : b ≠ a := fun z => by
      subst z
      rcases w b with w | ⟨w, _⟩
      · have h5 : 0 < o2.count b := List.count_pos_iff.mpr hao
        simp only [List.count_append] at w
        have h6 : 0 < o.count b := by omega
        exact hn (List.count_pos_iff.mp h6)
      · rw [e] at w; cases w
    rw [upd_ne this]; exact e2
  · by_cases z : b = a
    · subst z; rw [upd_same] at e; cases e
    · rw [upd_ne z] at e; exact s12.dom b e
  · have g1 := c3 b
    have g2 := w b
    simp only [List.count_append] at g1 g2 ⊢
    rcases g2 with g2 | ⟨z, g2⟩
    · left; omega
    · right; exact ⟨z, by omega⟩
end

/-- o[i] = e -/
def dSetI (qo qi : Bool) (mo mi me : Den) : Blk := fun δ => match me δ with
  | some (.own d, δ1) => match mo δ1 with
    | some (ro, δ2) => match mi δ2 with
      | some (.own (.int k), δ3) => if ro.short || qi then match mutD δ3 ro fun xs => match ixN xs.length k with
          | some j => some (xs.set j d)
          | none => none with
        | some δ4 => some (.nx δ4)
        | none => none
        else none
      | _ => none
    | none => none
  | _ => none
theorem dSetI_inv {qo qi : Bool} {mo mi me : Den} {δ : DE} {out : Out} (h : dSetI qo qi mo mi me δ = some out) : ∃ d δ1 ro δ2 k δ3 δ4, me δ = some (.own d, δ1) ∧ mo δ1 = some (ro, δ2) ∧ mi δ2 = some (.own (.int k), δ3) ∧ (ro.short || qi) = true ∧
    (mutD δ3 ro fun xs => match ixN xs.length k with
          | some j => some (xs.set j d)
          | none => none) = some δ4 ∧ out = .nx δ4 := by
  unfold dSetI at h
  split at h
  · split at h
    · split at h
      · split at h
        · split at h
          · cases (Option.some.inj h)
            exact ⟨_, _, _, _, _, _, _, by assumption, by assumption, by assumption, by assumption, by assumption, rfl⟩
          · cases h
        · cases h
      · cases h
    · cases h
  · cases h
theorem Reps.setI {K : Fw} {H : Hp} : ∀ {xs : List D} {vs : List V} {o : List Addr} (j : Nat) {d : D} {y : V} {oy : List Addr}, Reps K H xs vs o → Rep K H d y oy → ∃ o', Reps K H (xs.set j d) (vs.set j y) o' ∧ ∀ b, o'.count b ≤ o.count b + oy.count b
  | [], _, _, _, _, _, _, h, _ => ⟨[], by rw [h.1]; exact ⟨rfl, rfl⟩, fun b => by simp⟩
  | x :: xs, _, _, 0, d, y, oy, h, r => by
    obtain ⟨v, vr, o1, o2, rfl, h1, h2, rfl⟩ := h
    exact ⟨oy ++ o2, ⟨y, vr, oy, o2, rfl, r, h2, rfl⟩, fun b => by simp only [List.count_append]; omega⟩
  | x :: xs, _, _, j + 1, d, y, oy, h, r => by
    obtain ⟨v, vr, o1, o2, rfl, h1, h2, rfl⟩ := h
    obtain ⟨o', r', c⟩ := Reps.setI j h2 r
    exact ⟨o1 ++ o', ⟨v, vr.set j y, o1, o', rfl, h1, r', rfl⟩, fun b => by have := c b; simp only [List.count_append]; omega⟩
section
variable {X : Cx} {eo ei e : Expr} {qo qi q : Bool} {mo mi me : Den} {kp : Nat → Bool} {pos pos' : Pos}
theorem z_setI (he : PE X e (T (kx X) q me)) (ho : PE X eo (T (kx X) qo mo)) (hi : PE X ei (T (kx X) qi mi))
    (ha : ∀ v, assign (.Subscript eo ei pos') X.env v = (do
      let ov ← holding [v] (eval eo X.env)
      let iv ← holding [v, ov] (eval ei X.env)
      standAt pos'
      holding [v, ov, iv] (setItem ov iv v)
      release [v, ov, iv] []) := by intro _; rfl)
    (hs : swapsWithSole [.Subscript eo ei pos'] e pos.line X.env = pure false := by rfl) (hw : swappedStores [.Subscript eo ei pos'] e X.env = pure none := by rfl)
    (h1 : (assignEach [.Subscript eo ei pos'] X.env).map (·.2) = [assign (.Subscript eo ei pos') X.env] := by rfl) : PS X (.Assign [.Subscript eo ei pos'] e pos) (TSm (kx X) kp (dSetI qo qi mo mi me)) :=
  PS.imp (ps_asg he (pg_sub ho hi set_list ha) hs hw h1) fun D' σ H ⟨δ, o, out, E, n, hm, f⟩ => by
    obtain ⟨d, δ1, ro, δ2, k, δ3, δ4, g1, g2, g3, hc, h3, rfl⟩ := dSetI_inv hm
    obtain ⟨s, p, d0, xs, xs', d', rfl, hd, hg, hf, hst, rfl⟩ := mutD_inv h3
    refine (Stk.start E).push n g1 (by simp [allShort]) fun y H1 S1 => ?_
    refine S1.push n g2 (by simp [allShort, R.short]) fun x H2 S2 => ?_
    refine S2.push n g3 ?_ fun w H3 S3 => ?_
    · simp only [allShort, R.short, Bool.and_true]; exact hc
    · obtain ⟨o3, ov, s3, E3, ⟨w', vr, ow, ox1, e1, hw1, ⟨x', vr2, ox, oy1, e2, hx, ⟨y', vr3, oy, on, e3, hy, ⟨e4, e5⟩, e6⟩, e7⟩, e8⟩, w3⟩ := S3
      subst e5 e6 e7 e8 e4
      cases e3; cases e2; cases e1
      obtain ⟨rfl, rfl⟩ := hw1
      have hx0 := hx.1
      subst hx0
      have w4 : Own H o (oy ++ o3) := by simpa using w3
      obtain ⟨a, vs, oxs, rfl, haa, rs, _, km⟩ := mut_end n (s3.mono Wq_sub) E3 w4 hx hd hg
      cases hj : ixN xs.length k with
      | none => rw [hj] at hf; simp at hf
      | some j =>
        rw [hj] at hf
        cases (Option.some.inj hf)
        obtain ⟨o', r', c'⟩ := rs.setI j (d := d) hy
        obtain ⟨o5, s5, E5, w5⟩ := km _ _ o' d' r' c' hst
        exact ⟨a, vs, k, j, rfl, rfl, haa, by rw [rs.length]; exact hj, f σ _ o5 ⟨s5, E5, w5, fun _ _ => rfl⟩⟩
theorem z_append (ho : PE X eo (T (kx X) qo mo)) (he : PE X e (T (kx X) qi me)) {apos cpos : Pos} (hs : starEach [e] X.env = (false, eval e X.env) :: starEach [] X.env := by rfl)
    (hbase : attributeBase eo "append" X.env (eval eo X.env) = eval eo X.env := by rfl)
    (hfew : ((backTo cpos (starEach [e] X.env)).all (fun x => !x.1) && (backToKw cpos (keywordEach [] X.env)).all (fun x => x.1.isSome)
      && decide ([e].length + ([] : List Keyword).length + (if ([] : List Keyword).isEmpty then 0 else 1) < 30)) = true := by rfl)
    (hline : (apos.endLine == cpos.line) = true := by rfl) (hplain : (backTo cpos (starEach [] X.env)).any (·.1) = false := by rfl) :
    PE X (.Call (.Attribute eo "append" apos) [e] [] cpos) (T (kx X) false (dAppend qi mo me)) :=
  PE.imp (pe_bm PySem.F.plainAttrs_list PySem.F.slot_list_append PySem.F.type_list_append mt_append ho (z_acons he z_anil hs) hbase hfew hline hs hplain) fun σ H Q h => t_append h
end

/-! ### operators by the data: the rules -/
theorem pr_end {K : Fw} {f : List D → Option D} {vs : List V} {H : Hp} {Q : VK} (h : Pr K f vs H Q) : ∃ ds o d, Reps K H ds vs o ∧ f ds = some d ∧ (∀ v, Rep K H d v [] → Q v H) ∧ ∀ v H' ov, (∀ a u, H a = some u → H' a = some u) → Rep K H' d v ov → Fresh H ov → Q v H' := by
  obtain ⟨ds, o, d, r, e, k⟩ := h
  exact ⟨ds, o, d, r, e, fun v rv => k v H [] (fun _ _ e => e) rv fresh_nil, k⟩
theorem reps2 {K : Fw} {H : Hp} {ds : List D} {x y : V} {o : List Addr} (h : Reps K H ds [x, y] o) : ∃ a b oa ob, ds = [a, b] ∧ Rep K H a x oa ∧ Rep K H b y ob := by
  cases ds with
  | nil => exact absurd h.1 (by simp)
  | cons a ds =>
    obtain ⟨v, vr, o1, o2, e, h1, h2, _⟩ := h
    cases e
    cases ds with
    | nil => exact absurd h2.1 (by simp)
    | cons b ds =>
      obtain ⟨v, vr, o3, o4, e, h3, h4, _⟩ := h2
      cases e
      cases ds with
      | nil => exact ⟨a, b, o1, o3, rfl, h1, h3⟩
      | cons c ds => obtain ⟨v, vr, _, _, e, _⟩ := h4; cases e
theorem reps1 {K : Fw} {H : Hp} {ds : List D} {x : V} {o : List Addr} (h : Reps K H ds [x] o) : ∃ a oa, ds = [a] ∧ Rep K H a x oa := by
  cases ds with
  | nil => exact absurd h.1 (by simp)
  | cons a ds =>
    obtain ⟨v, vr, o1, o2, e, h1, h2, _⟩ := h
    cases e
    cases ds with
    | nil => exact ⟨a, o1, rfl, h1⟩
    | cons c ds => obtain ⟨v, vr, _, _, e, _⟩ := h2; cases e

def fAdd : List D → Option D
  | [.int i, .int j] => some (.int (i + j))
  | [.str a, .str b] => if a.length + b.length ≤ 1000000 then some (.str (a ++ b)) else none
  | [.tup a, .tup b] => if D.imms a && D.imms b && decide (a.length + b.length ≤ 1000000) then some (.tup (a ++ b)) else none
  | [.lst a, .lst b] => if D.imms a && D.imms b && decide (a.length + b.length ≤ 1000000) then some (.lst (a ++ b)) else none
  | _ => none
theorem m_sz {n : Nat} (h : n ≤ 1000000) : n ≤ sizeLine := Nat.le_trans h (by decide)
section
variable {X : Cx}
theorem Rep.listAt {K : Fw} {H : Hp} {xs : List D} {v : V} {o : List Addr} (r : Rep K H (.lst xs) v o) : ∃ a vs o', v = .ref a ∧ SqL K H a vs ∧ Reps K H xs vs o' := by
  obtain ⟨a, vs, o', e, hq, rs, _⟩ := r
  exact ⟨a, vs, o', e, .of hq, rs⟩
theorem Rep.frzAt {K : Fw} {H : Hp} {xs : List D} {v : V} {o : List Addr} (r : Rep K H (.frz xs) v o) : ∃ a vs, v = .ref a ∧ SqL K H a vs ∧ Reps K H xs vs [] := by
  obtain ⟨a, vs, e, hq, rs, _⟩ := r
  exact ⟨a, vs, e, hq.sq, rs⟩
theorem Reps.imm' {K : Fw} {H : Hp} {xs : List D} {vs : List V} {o : List Addr} (r : Reps K H xs vs o) (h : D.imms xs = true) : Reps K H xs vs [] := by
  have := r.imm h
  subst this; exact r
theorem list_cat {pins : List (Addr × Obj)} {s : Shared} {σ : L2.St} {H : Hp} {Q : VK} {xs ys : List D} {vs ws : List V} {a b : Addr} (I : Inv X pins σ H s) (ha : H a = some (.lst vs)) (hb : H b = some (.lst ws)) (ra : Reps X.F H xs vs []) (rb : Reps X.F H ys ws []) (hz : xs.length + ys.length ≤ 1000000)
    (k : ∀ v H' ov, (∀ a u, H a = some u → H' a = some u) → Rep X.F H' (.lst (xs ++ ys)) v ov → Fresh H ov → Q v H') : wpAny (model X.prog X.w) X.A (binaryOp .Add (.ref a) (.ref b)) (EP X pins σ Q) X.xe s :=
  op_cat pins s σ H (.ref a) (.ref b) (.ref a) (.ref b) Q I rfl rfl ⟨a, b, vs, ws, rfl, rfl, ha, hb, by rw [ra.length, rb.length]; exact m_sz hz, fun p hp => k _ _ [p] (new_same hp) ⟨p, vs ++ ws, [], rfl, upd_same, (ra.append rb).same (new_same hp), rfl⟩ (fresh_one hp)⟩
theorem strOk_app {a b : Str} (ha : PyData.strOk a = true) (hb : PyData.strOk b = true) : PyData.strOk (a ++ b) = true := by
  have e : a ++ b = ⟨(a.cps.toList ++ b.cps.toList).toArray⟩ := by
    show (⟨a.cps ++ b.cps⟩ : Str) = _
    congr 1
    apply Array.toList_inj.mp
    simp
  rw [e]
  exact strOk_of fun c hc => (List.mem_append.mp hc).elim (strOk_mem ha) (strOk_mem hb)
theorem o_add : OpR X (binaryOp .Add) fun x y => Pr X.F fAdd [x, y] := by
  intro pins s σ H x y v u Q I rx ry h
  obtain ⟨ds, o, d, r, e, k0, k⟩ := pr_end h
  obtain ⟨a, b, oa, ob, rfl, ra, rb⟩ := reps2 r
  unfold fAdd at e
  split at e
  · rename_i i j he
    cases he
    cases (Option.some.inj e)
    obtain ⟨rfl, _⟩ := ra
    obtain ⟨rfl, _⟩ := rb
    exact op_add pins s σ H _ _ v u Q I rx ry ⟨i, j, rfl, rfl, k0 _ ⟨rfl, rfl⟩⟩
  · rename_i i j he
    cases he
    split at e
    · rename_i hl
      cases (Option.some.inj e)
      obtain ⟨rfl, si, _⟩ := ra
      obtain ⟨rfl, sj, _⟩ := rb
      exact op_add_str pins s σ H _ _ v u Q I rx ry ⟨i, j, rfl, rfl, m_sz hl, k0 _ ⟨rfl, ⟨by rw [show (i ++ j).length = i.length + j.length from Array.size_append ..]; exact m_sz hl, strOk_app si.2 sj.2⟩, rfl⟩⟩
    · cases e
  · rename_i i j he
    cases he
    split at e
    · rename_i hc
      simp only [Bool.and_eq_true, decide_eq_true_eq] at hc
      obtain ⟨⟨h1, h2⟩, h3⟩ := hc
      cases (Option.some.inj e)
      obtain ⟨pa, va, rfl, qa, sa⟩ := ra
      obtain ⟨pb, vb, rfl, qb, sb⟩ := rb
      have sa := sa.imm' h1
      have sb := sb.imm' h2
      refine op_catA pins s σ H _ _ v u Q I rx ry ⟨pa, pb, va, vb, rfl, rfl, qa, qb, by rw [sa.length, sb.length]; exact m_sz h3, fun h => k0 _ ?_, fun h h' => k0 _ ?_, fun h h' p hp => k _ _ [] (new_same hp) ⟨p, _, rfl, .of upd_same, (sa.append sb).same (new_same hp)⟩ fresh_nil⟩
      · subst h
        have : i = [] := List.eq_nil_of_length_eq_zero (by rw [← sa.length]; rfl)
        subst this
        exact ⟨pb, vb, rfl, qb, sb⟩
      · subst h'
        have : j = [] := List.eq_nil_of_length_eq_zero (by rw [← sb.length]; rfl)
        subst this
        rw [List.append_nil]
        exact ⟨pa, va, rfl, qa, sa⟩
    · cases e
  · rename_i i j he
    cases he
    split at e
    · rename_i hc
      simp only [Bool.and_eq_true, decide_eq_true_eq] at hc
      obtain ⟨⟨h1, h2⟩, h3⟩ := hc
      cases (Option.some.inj e)
      obtain ⟨pa, va, _, rfl, qa, sa, _⟩ := ra
      obtain ⟨pb, vb, _, rfl, qb, sb, _⟩ := rb
      cases rx; cases ry
      exact list_cat I qa qb (sa.imm' h1) (sb.imm' h2) h3 k
    · cases e
  · cases e
/-- two ints -/
def fI2 (g : Int → Int → Option D) : List D → Option D
  | [.int i, .int j] => g i j
  | _ => none
theorem fI2_inv {g : Int → Int → Option D} {K : Fw} {H : Hp} {x y : V} {Q : VK} (h : Pr K (fI2 g) [x, y] H Q) : ∃ i j d, x = .int i ∧ y = .int j ∧ g i j = some d ∧ (∀ v, Rep K H d v [] → Q v H) := by
  obtain ⟨ds, o, d, r, e, k0, _⟩ := pr_end h
  obtain ⟨a, b, oa, ob, rfl, ra, rb⟩ := reps2 r
  unfold fI2 at e
  split at e
  · rename_i i j he
    cases he
    obtain ⟨rfl, _⟩ := ra
    obtain ⟨rfl, _⟩ := rb
    exact ⟨i, j, d, rfl, rfl, e, k0⟩
  · cases e
theorem o_sub : OpR X (binaryOp .Sub) fun x y => Pr X.F (fI2 fun i j => some (.int (i - j))) [x, y] := by
  intro pins s σ H x y v u Q I rx ry h
  obtain ⟨i, j, d, rfl, rfl, e, k0⟩ := fI2_inv h
  cases (Option.some.inj e)
  exact op_sub pins s σ H _ _ v u Q I rx ry ⟨i, j, rfl, rfl, k0 _ ⟨rfl, rfl⟩⟩
def fMul : List D → Option D
  | [.int i, .int j] => if -(2 ^ 64) < i ∧ i < 2 ^ 64 ∨ -(2 ^ 64) < j ∧ j < 2 ^ 64 then some (.int (i * j)) else none
  | [.lst a, .int j] => if D.imms a ∧ -1000000 ≤ j ∧ j ≤ 1000000 ∧ a.length * j.toNat ≤ 1000000 then some (.lst (List.replicate j.toNat a).flatten) else none
  | _ => none
theorem reps_flat {K : Fw} {H : Hp} {xs : List D} {vs : List V} (r : Reps K H xs vs []) : ∀ n : Nat, Reps K H (List.replicate n xs).flatten (List.replicate n vs).flatten []
  | 0 => ⟨rfl, rfl⟩
  | n + 1 => by
    rw [List.replicate_succ, List.flatten_cons, List.replicate_succ, List.flatten_cons]
    exact r.append (reps_flat r n)
theorem o_mul : OpR X (binaryOp .Mult) fun x y => Pr X.F fMul [x, y] := by
  intro pins s σ H x y v u Q I rx ry h
  obtain ⟨ds, o, d, r, e, k0, k⟩ := pr_end h
  obtain ⟨a, b, oa, ob, rfl, ra, rb⟩ := reps2 r
  unfold fMul at e
  split at e
  · rename_i i j he
    cases he
    split at e
    · rename_i hc
      cases (Option.some.inj e)
      obtain ⟨rfl, _⟩ := ra
      obtain ⟨rfl, _⟩ := rb
      exact op_mul pins s σ H _ _ v u Q I rx ry ⟨i, j, rfl, rfl, hc, k0 _ ⟨rfl, rfl⟩⟩
    · cases e
  · rename_i i j he
    cases he
    split at e
    · rename_i hc
      obtain ⟨h1, h2, h3, h4⟩ := hc
      cases (Option.some.inj e)
      obtain ⟨pa, va, _, rfl, qa, sa, _⟩ := ra
      obtain ⟨rfl, _⟩ := rb
      have sa := sa.imm' h1
      refine op_rep pins s σ H _ _ v u Q I rx ry ⟨pa, j, va, rfl, rfl, qa, by omega, by omega, by rw [sa.length]; exact m_sz h4, fun p hp => ?_⟩
      exact k _ _ [p] (new_same hp) ⟨p, _, [], rfl, upd_same, (reps_flat sa _).same (new_same hp), rfl⟩ (fresh_one hp)
    · cases e
  · cases e
theorem o_fdiv : OpR X (binaryOp .FloorDiv) fun x y => Pr X.F (fI2 fun i j => if j ≠ 0 ∧ j.natAbs < 1073741824 then some (.int (i.fdiv j)) else none) [x, y] := by
  intro pins s σ H x y v u Q I rx ry h
  obtain ⟨i, j, d, rfl, rfl, e, k0⟩ := fI2_inv h
  split at e
  · rename_i hc
    cases (Option.some.inj e)
    exact op_fdivN pins s σ H _ _ v u Q I rx ry ⟨i, j, rfl, rfl, hc, k0 _ ⟨rfl, rfl⟩⟩
  · cases e
theorem o_mod : OpR X (binaryOp .Mod) fun x y => Pr X.F (fI2 fun i j => if j ≠ 0 then some (.int (i.fmod j)) else none) [x, y] := by
  intro pins s σ H x y v u Q I rx ry h
  obtain ⟨i, j, d, rfl, rfl, e, k0⟩ := fI2_inv h
  split at e
  · rename_i hc
    cases (Option.some.inj e)
    exact op_modN pins s σ H _ _ v u Q I rx ry ⟨i, j, rfl, rfl, hc, k0 _ ⟨rfl, rfl⟩⟩
  · cases e
theorem o_pow : OpR X (binaryOp .Pow) fun x y => Pr X.F (fI2 fun i j => if 0 ≤ j ∧ j ≤ 1000000 ∧ i.natAbs < 2 ^ 64 then some (.int (i ^ j.toNat)) else none) [x, y] := by
  intro pins s σ H x y v u Q I rx ry h
  obtain ⟨i, j, d, rfl, rfl, e, k0⟩ := fI2_inv h
  split at e
  · rename_i hc
    cases (Option.some.inj e)
    exact op_pow pins s σ H _ _ v u Q I rx ry ⟨i, j, rfl, rfl, hc, k0 _ ⟨rfl, rfl⟩⟩
  · cases e
end
end Z


set_option Elab.async false
set_option linter.all false
set_option maxRecDepth 100000
/-! comparisons and built-in functions by the data -/
namespace Z
open PySem PySem.Spec PyProof.Rows L2

mutual
def toPy : D → PyData
  | .non => .none
  | .bl b => .bool b
  | .int i => .int i
  | .str x => .str x
  | .tup xs => .tuple (toPys xs)
  | .lst xs => .list (toPys xs)
  | .frz xs => .list (toPys xs)
  | .dic ks vs => .dict ((toPys ks).zip (toPys vs))
  | .obj _ _ _ => .none
def toPys : List D → List PyData
  | [] => []
  | x :: xs => toPy x :: toPys xs
end
theorem toPys_map : ∀ xs : List D, toPys xs = xs.map toPy
  | [] => rfl
  | x :: xs => by rw [toPys, toPys_map xs]; rfl
mutual
/-- how deep; a dict is deeper than anything that is compared -/
def D.dp : D → Nat
  | .tup xs => D.dps xs + 1
  | .lst xs => D.dps xs + 1
  | .frz xs => D.dps xs + 1
  | .dic _ _ => 100
  | _ => 0
def D.dps : List D → Nat
  | [] => 0
  | x :: xs => max (D.dp x) (D.dps xs)
end
mutual
theorem dp_eq : ∀ d : D, D.dp d < 100 → (toPy d).depth = D.dp d
  | .non, _ => by simp [toPy, PyData.depth, D.dp]
  | .bl _, _ => by simp [toPy, PyData.depth, D.dp]
  | .int _, _ => by simp [toPy, PyData.depth, D.dp]
  | .str _, _ => by simp [toPy, PyData.depth, D.dp]
  | .tup xs, h => by simp only [D.dp] at h; simp [toPy, PyData.depth, D.dp, dps_eq xs (by omega)]
  | .lst xs, h => by simp only [D.dp] at h; simp [toPy, PyData.depth, D.dp, dps_eq xs (by omega)]
  | .frz xs, h => by simp only [D.dp] at h; simp [toPy, PyData.depth, D.dp, dps_eq xs (by omega)]
  | .dic _ _, h => by simp [D.dp] at h
  | .obj _ _ _, _ => by simp [toPy, PyData.depth, D.dp]
theorem dps_eq : ∀ ds : List D, D.dps ds < 100 → PyData.depthAll (toPys ds) = D.dps ds
  | [], _ => by simp [toPys, PyData.depthAll, D.dps]
  | x :: xs, h => by simp only [D.dps] at h; simp [toPys, PyData.depthAll, D.dps, dp_eq x (by omega), dps_eq xs (by omega)]
end
def dep (d : D) : Bool := decide (D.dp d ≤ 60)
theorem dep_lt {d : D} (h : dep d = true) : D.dp d < 100 := by have := of_decide_eq_true h; omega
theorem dep_le {d : D} (h : dep d = true) : (toPy d).depth ≤ 60 := by have := of_decide_eq_true h; rw [dp_eq d (dep_lt h)]; exact this
def eqD (a b : D) : Bool := PyData.eqv (toPy a) (toPy b)
section
variable {K : Fw} {κ : Kx} {H : Hp}
mutual
theorem Rep.dp : ∀ {d : D} {v : V} {o : List Addr}, Rep K H d v o → D.dp d < 100 → Dp K H v (toPy d)
  | .non, _, _, h, _ => by rw [h.1]; exact .non
  | .bl b, _, _, h, _ => by rw [h.1]; exact .bl b
  | .int b, _, _, h, _ => by rw [h.1]; exact .int b
  | .str b, _, _, h, _ => by rw [h.1]; exact .str b
  | .tup xs, _, _, h, g => by
    obtain ⟨a, vs, rfl, hq, r⟩ := h
    exact .tup hq (Reps.dp r (by simp only [D.dp] at g; omega))
  | .lst xs, _, _, h, g => by
    obtain ⟨a, vs, o', rfl, hq, r, _⟩ := h
    exact .lst (.of hq) (Reps.dp r (by simp only [D.dp] at g; omega))
  | .frz xs, _, _, h, g => by
    obtain ⟨a, vs, rfl, hq, r, _⟩ := h
    exact .lst hq.sq (Reps.dp r (by simp only [D.dp] at g; omega))
  | .dic _ _, _, _, h, g => by simp [D.dp] at g
  | .obj _ _ _, _, _, h, _ => h.elim
theorem Reps.dp : ∀ {d : List D} {v : List V} {o : List Addr}, Reps K H d v o → D.dps d < 100 → DpAll K H v (toPys d)
  | [], _, _, h, _ => by rw [h.1]; exact .nil
  | x :: xs, _, _, h, g => by
    obtain ⟨v, vr, o1, o2, rfl, h1, h2, _⟩ := h
    exact .cons (Rep.dp h1 (by simp only [D.dps] at g; omega)) (Reps.dp h2 (by simp only [D.dps] at g; omega))
end
mutual
theorem Rep.lay : ∀ {d : D} {v : V} {o : List Addr}, Rep K H d v o → D.dp d < 100 → (toPy d).canLay0 = true
  | .non, _, _, h, _ => by simp [toPy, PyData.canLay0]
  | .bl b, _, _, h, _ => by simp [toPy, PyData.canLay0]
  | .int b, _, _, h, _ => by simp [toPy, PyData.canLay0]
  | .str b, _, _, h, _ => by simp only [toPy, PyData.canLay0]; exact h.2.1.2
  | .tup xs, _, _, h, g => by
    obtain ⟨a, vs, rfl, hq, r⟩ := h
    simp only [toPy, PyData.canLay0]; exact Reps.lay r (by simp only [D.dp] at g; omega)
  | .lst xs, _, _, h, g => by
    obtain ⟨a, vs, o', rfl, hq, r, _⟩ := h
    simp only [toPy, PyData.canLay0]; exact Reps.lay r (by simp only [D.dp] at g; omega)
  | .frz xs, _, _, h, g => by
    obtain ⟨a, vs, rfl, hq, r, _⟩ := h
    simp only [toPy, PyData.canLay0]; exact Reps.lay r (by simp only [D.dp] at g; omega)
  | .dic _ _, _, _, h, g => by simp [D.dp] at g
  | .obj _ _ _, _, _, h, _ => h.elim
theorem Reps.lay : ∀ {d : List D} {v : List V} {o : List Addr}, Reps K H d v o → D.dps d < 100 → PyData.canLayAll0 (toPys d) = true
  | [], _, _, h, _ => by simp [toPys, PyData.canLayAll0]
  | x :: xs, _, _, h, g => by
    obtain ⟨v, vr, o1, o2, rfl, h1, h2, _⟩ := h
    simp only [toPys, PyData.canLayAll0, Bool.and_eq_true]
    exact ⟨Rep.lay h1 (by simp only [D.dps] at g; omega), Reps.lay h2 (by simp only [D.dps] at g; omega)⟩
end
theorem Rep.shaped {d : D} {v : V} {o : List Addr} (r : Rep K H d v o) (h : dep d = true) : SeqAt.shaped (toPy d) = true := by
  show ((toPy d).canLay0 && decide ((toPy d).depth ≤ 64)) = true
  rw [Bool.and_eq_true]
  have := dep_le h
  exact ⟨r.lay (dep_lt h), decide_eq_true (by omega)⟩
theorem ents_vals {w : World} : ∀ {ks : List D} {kvs vvs : List V} {es : List DictEntry}, Ents w ks kvs vvs es → Vals kvs (es.map (·.key)) ∧ Vals vvs (es.map (·.val))
  | [], [], [], [], _ => ⟨.nil, .nil⟩
  | _ :: _, _ :: _, _ :: _, _ :: _, h => ⟨.cons h.2.1 (ents_vals h.2.2.2).1, .cons h.2.2.1 (ents_vals h.2.2.2).2⟩
  | [], [], [], _ :: _, h => h.elim
  | [], [], _ :: _, _, h => h.elim
  | [], _ :: _, _, _, h => h.elim
  | _ :: _, [], _, _, h => h.elim
  | _ :: _, _ :: _, [], _, h => h.elim
  | _ :: _, _ :: _, _ :: _, [], h => h.elim
theorem zip_both {α β : Type} : ∀ (xs : List α) (ys : List β), xs.length = ys.length → (xs.zip ys).map (·.1) = xs ∧ (xs.zip ys).map (·.2) = ys
  | [], [], _ => ⟨rfl, rfl⟩
  | x :: xs, y :: ys, h => by
    obtain ⟨h1, h2⟩ := zip_both xs ys (by simpa using h)
    exact ⟨by simp [h1], by simp [h2]⟩
  | [], _ :: _, h => by simp at h
  | _ :: _, [], h => by simp at h
theorem toPys_length : ∀ xs : List D, (toPys xs).length = xs.length := fun xs => by rw [toPys_map, List.length_map]
theorem ents_length {w : World} : ∀ {ks : List D} {kvs vvs : List V} {es : List DictEntry}, Ents w ks kvs vvs es → kvs.length = ks.length ∧ vvs.length = ks.length ∧ es.length = ks.length
  | [], [], [], [], _ => ⟨rfl, rfl, rfl⟩
  | _ :: _, _ :: _, _ :: _, _ :: _, h => by
    obtain ⟨h1, h2, h3⟩ := ents_length h.2.2.2
    simp [h1, h2, h3]
  | [], [], [], _ :: _, h => h.elim
  | [], [], _ :: _, _, h => h.elim
  | [], _ :: _, _, _, h => h.elim
  | _ :: _, [], _, _, h => h.elim
  | _ :: _, _ :: _, [], _, h => h.elim
  | _ :: _, _ :: _, _ :: _, [], h => h.elim
mutual
theorem Rep.reads {X : Cx} {pins : List (Addr × Obj)} {s : Shared} {σ : L2.St} {H : Hp} (I : Inv X pins σ H s) : ∀ {d : D} {v : V} {u : Value} {o : List Addr}, Rep X.F H d v o → RelV v u → ∃ as, Reads s.heap u (toPy d) as
  | .non, _, _, _, h, r => by obtain ⟨rfl, _⟩ := h; cases r; exact ⟨_, Reads.none⟩
  | .bl b, _, _, _, h, r => by obtain ⟨rfl, _⟩ := h; cases r; exact ⟨_, Reads.bool b⟩
  | .int b, _, u, _, h, r => by obtain ⟨rfl, _⟩ := h; obtain ⟨t, rfl⟩ := (show ∃ t, u = Value.int _ t from r); exact ⟨_, Reads.int b t⟩
  | .str b, _, u, _, h, r => by obtain ⟨rfl, _⟩ := h; obtain ⟨t, rfl⟩ := (show ∃ t, u = Value.str _ t from r); exact ⟨_, Reads.str b t⟩
  | .tup xs, _, _, _, h, r => by
    obtain ⟨a, vs, rfl, hq, rs⟩ := h
    cases r
    obtain ⟨its, rv, ⟨ob, e1, e2, n, e3⟩, _⟩ := I.tuple hq
    obtain ⟨as, g⟩ := Reps.reads I rs rv
    exact ⟨_, Reads.tuple e1 e2 e3 (by simpa using g)⟩
  | .lst xs, _, _, _, h, r => by
    obtain ⟨a, vs, o', rfl, hq, rs, _⟩ := h
    cases r
    obtain ⟨its, rv, ⟨ob, n, e1, e2, _, e3⟩, _⟩ := I.list (SqL.of hq)
    obtain ⟨as, g⟩ := Reps.reads I rs rv
    exact ⟨_, Reads.list e1 e2 e3 (by simpa using g)⟩
  | .frz xs, _, _, _, h, r => by
    obtain ⟨a, vs, rfl, hq, rs, _⟩ := h
    cases r
    obtain ⟨its, rv, ⟨ob, n, e1, e2, _, e3⟩, _⟩ := I.list hq.sq
    obtain ⟨as, g⟩ := Reps.reads I rs rv
    exact ⟨_, Reads.list e1 e2 e3 (by simpa using g)⟩
  | .dic ks vs, _, _, _, h, r => by
    obtain ⟨a, kvs, vvs, es, rfl, hq, hd, hs, hn, rk, rv, en, rfl⟩ := h
    cases r
    obtain ⟨ob, ep, e1, e2, e3⟩ := (I.hok a _ hq).1
    obtain ⟨v1, v2⟩ := ents_vals en
    obtain ⟨as, g1⟩ := Reps.reads I rk v1
    obtain ⟨bs, g2⟩ := Reps.reads I rv v2
    obtain ⟨l1, l2, _⟩ := ents_length en
    have hl : (toPys ks).length = (toPys vs).length := by rw [toPys_length, toPys_length, ← rv.length]; exact l2.symm
    obtain ⟨z1, z2⟩ := zip_both _ _ hl
    exact ⟨_, Reads.dict e1 e2.1 e3 (by rw [z1]; exact g1) (by rw [z2]; exact g2)⟩
  | .obj _ _ _, _, _, _, h, _ => h.elim
theorem Reps.reads {X : Cx} {pins : List (Addr × Obj)} {s : Shared} {σ : L2.St} {H : Hp} (I : Inv X pins σ H s) : ∀ {ds : List D} {vs : List V} {us : List Value} {o : List Addr}, Reps X.F H ds vs o → Vals vs us → ∃ as, ReadsAll s.heap us (toPys ds) as
  | [], _, _, _, h, r => by rw [h.1] at r; cases r; exact ⟨_, ReadsAll.nil⟩
  | x :: xs, _, _, _, h, r => by
    obtain ⟨v, vr, o1, o2, rfl, h1, h2, _⟩ := h
    cases r with
    | cons r1 r2 =>
      obtain ⟨as, g1⟩ := Rep.reads I h1 r1
      obtain ⟨bs, g2⟩ := Reps.reads I h2 r2
      exact ⟨_, ReadsAll.cons g1 g2⟩
end
end

def fEq : List D → Option D
  | [a, b] => if dep a && dep b then some (.bl (eqD a b)) else none
  | _ => none
def fNe : List D → Option D
  | [a, b] => if dep a && dep b then some (.bl (!eqD a b)) else none
  | _ => none
def isNone : D → Bool
  | .non => true
  | _ => false
def fIs : List D → Option D
  | [a, .non] => some (.bl (isNone a))
  | [.bl a, .bl b] => some (.bl (decide (a = b)))
  | _ => none
def fIsNot : List D → Option D
  | [a, .non] => some (.bl (!isNone a))
  | [.bl a, .bl b] => some (.bl (!decide (a = b)))
  | _ => none
def anyEq (xs : List D) (x : D) : Bool := xs.any fun y => eqD y x
def fIn : List D → Option D
  | [x, .lst xs] => if dep x && dep (.lst xs) then some (.bl (anyEq xs x)) else none
  | [x, .frz xs] => if dep x && dep (.frz xs) then some (.bl (anyEq xs x)) else none
  | [x, .tup xs] => if dep x && dep (.tup xs) then some (.bl (anyEq xs x)) else none
  | [.str i, .str j] => some (.bl (!(Builtin.Str.occurrences j i 0 j.length 1).isEmpty))
  | _ => none
def fNotIn : List D → Option D
  | [x, .lst xs] => if dep x && dep (.lst xs) then some (.bl (!anyEq xs x)) else none
  | [x, .frz xs] => if dep x && dep (.frz xs) then some (.bl (!anyEq xs x)) else none
  | [x, .tup xs] => if dep x && dep (.tup xs) then some (.bl (!anyEq xs x)) else none
  | [.str i, .str j] => some (.bl (!(!(Builtin.Str.occurrences j i 0 j.length 1).isEmpty)))
  | _ => none
/-- can be compared by < -/
def cmpOk (a b : D) : Bool := PySem.W.alike (toPy a) (toPy b) && dep a && dep b && match a with
  | .int _ => true
  | .str _ => true
  | .bl _ => true
  | .tup _ => true
  | .lst _ => true
  | .frz _ => true
  | _ => false
def ltD (a b : D) : Bool := PySem.W.dataLt (toPy a) (toPy b)
def fCmp (g : D → D → Bool) : List D → Option D
  | [a, b] => if cmpOk a b then some (.bl (g a b)) else none
  | _ => none
section
variable {X : Cx}
theorem any_toPys (xs : List D) (x : D) : (toPys xs).any (fun z => PyData.eqv z (toPy x)) = anyEq xs x := by
  rw [toPys_map, List.any_map]; rfl
theorem o_eq (hu : X.A.units + 64 < cLine) : OpR X (compareOp .Eq) fun x y => Pr X.F fEq [x, y] := by
  intro pins s σ H x y v u Q I rx ry h
  obtain ⟨ds, o, d, r, e, k0, k⟩ := pr_end h
  obtain ⟨a, b, oa, ob, rfl, ra, rb⟩ := reps2 r
  simp only [fEq] at e
  split at e
  · rename_i hc
    simp only [Bool.and_eq_true] at hc
    cases (Option.some.inj e)
    exact op_eqD hu pins s σ H x y v u Q I rx ry ⟨_, _, ra.dp (dep_lt hc.1), rb.dp (dep_lt hc.2), ra.shaped hc.1, rb.shaped hc.2, k0 _ ⟨rfl, rfl⟩⟩
  · cases e
theorem o_ne (hu : X.A.units + 64 < cLine) : OpR X (compareOp .NotEq) fun x y => Pr X.F fNe [x, y] := by
  intro pins s σ H x y v u Q I rx ry h
  obtain ⟨ds, o, d, r, e, k0, k⟩ := pr_end h
  obtain ⟨a, b, oa, ob, rfl, ra, rb⟩ := reps2 r
  simp only [fNe] at e
  split at e
  · rename_i hc
    simp only [Bool.and_eq_true] at hc
    cases (Option.some.inj e)
    exact op_neD hu pins s σ H x y v u Q I rx ry ⟨_, _, ra.dp (dep_lt hc.1), rb.dp (dep_lt hc.2), ra.shaped hc.1, rb.shaped hc.2, k0 _ ⟨rfl, rfl⟩⟩
  · cases e
theorem rep_non {K : Fw} {H : Hp} {a : D} {x : V} {o : List Addr} (r : Rep K H a x o) : isNone a = decide (x = .non) := by
  cases a with
  | non => rw [r.1]; rfl
  | bl _ => rw [r.1]; rfl
  | int _ => rw [r.1]; rfl
  | str _ => rw [r.1]; rfl
  | tup _ => obtain ⟨_, _, rfl, _⟩ := r; rfl
  | lst _ => obtain ⟨_, _, _, rfl, _⟩ := r; rfl
  | frz _ => obtain ⟨_, _, rfl, _⟩ := r; rfl
  | dic _ _ => obtain ⟨_, _, _, _, rfl, _⟩ := r; rfl
  | obj _ _ _ => exact r.elim
theorem o_is : OpR X (compareOp .Is) fun x y => Pr X.F fIs [x, y] := by
  intro pins s σ H x y v u Q I rx ry h
  obtain ⟨ds, o, d, r, e, k0, k⟩ := pr_end h
  obtain ⟨a, b, oa, ob, rfl, ra, rb⟩ := reps2 r
  unfold fIs at e
  split at e
  · rename_i a' he
    cases he
    cases (Option.some.inj e)
    obtain ⟨rfl, _⟩ := rb
    exact op_isN pins s σ H x _ v u Q I rx ry ⟨rfl, by rw [← rep_non ra]; exact k0 _ ⟨rfl, rfl⟩⟩
  · rename_i a' b' he
    cases he
    cases (Option.some.inj e)
    obtain ⟨rfl, _⟩ := ra
    obtain ⟨rfl, _⟩ := rb
    exact op_is_bl pins s σ H _ _ v u Q I rx ry ⟨a', b', rfl, rfl, k0 _ ⟨rfl, rfl⟩⟩
  · cases e
theorem o_isnot : OpR X (compareOp .IsNot) fun x y => Pr X.F fIsNot [x, y] := by
  intro pins s σ H x y v u Q I rx ry h
  obtain ⟨ds, o, d, r, e, k0, k⟩ := pr_end h
  obtain ⟨a, b, oa, ob, rfl, ra, rb⟩ := reps2 r
  unfold fIsNot at e
  split at e
  · rename_i a' he
    cases he
    cases (Option.some.inj e)
    obtain ⟨rfl, _⟩ := rb
    exact op_notN pins s σ H x _ v u Q I rx ry ⟨rfl, by rw [← rep_non ra]; exact k0 _ ⟨rfl, rfl⟩⟩
  · rename_i a' b' he
    cases he
    cases (Option.some.inj e)
    obtain ⟨rfl, _⟩ := ra
    obtain ⟨rfl, _⟩ := rb
    exact op_isnot_bl pins s σ H _ _ v u Q I rx ry ⟨a', b', rfl, rfl, k0 _ ⟨rfl, rfl⟩⟩
  · cases e
theorem o_in (hu : X.A.units + 65 < cLine) : OpR X (compareOp .In) fun x y => Pr X.F fIn [x, y] := by
  intro pins s σ H x y v u Q I rx ry h
  obtain ⟨ds, o, d, r, e, k0, k⟩ := pr_end h
  obtain ⟨a, b, oa, ob, rfl, ra, rb⟩ := reps2 r
  have lists : ∀ (xs : List D), toPy b = .list (toPys xs) → dep a = true → dep b = true → d = .bl (anyEq xs a) → wpAny (model X.prog X.w) X.A (compareOp .In v u) (EP X pins σ Q) X.xe s := fun xs hb h1 h2 hd => by
    subst hd
    have rb2 := rb.dp (dep_lt h2)
    have sb := rb.shaped h2
    rw [hb] at rb2 sb
    exact op_inD hu pins s σ H x y v u Q I rx ry ⟨_, _, ra.dp (dep_lt h1), rb2, ra.shaped h1, sb, by rw [any_toPys]; exact k0 _ ⟨rfl, rfl⟩⟩
  unfold fIn at e
  split at e
  · rename_i a' xs he
    cases he
    split at e
    · rename_i hc
      simp only [Bool.and_eq_true] at hc
      exact lists xs rfl hc.1 hc.2 (Option.some.inj e).symm
    · cases e
  · rename_i a' xs he
    cases he
    split at e
    · rename_i hc
      simp only [Bool.and_eq_true] at hc
      exact lists xs rfl hc.1 hc.2 (Option.some.inj e).symm
    · cases e
  · rename_i a' xs he
    cases he
    split at e
    · rename_i hc
      simp only [Bool.and_eq_true] at hc
      cases (Option.some.inj e)
      obtain ⟨as, h1⟩ := Rep.reads I ra rx
      obtain ⟨bs, h2⟩ := Rep.reads I rb ry
      have hl := rb.lay (dep_lt hc.2)
      have hd2 := dep_le hc.1
      simp only [toPy] at h2 hl
      refine SeqAt.in_tuple_reads h2 h1 (by simpa [PyData.canLay0] using hl) (ra.lay (dep_lt hc.1)) (by have := Nat.min_le_right (PyData.depthAll (toPys xs)) (toPy a).depth; omega) ?_
      rw [any_toPys]
      exact ⟨.bl _, H, I, rfl, k0 _ ⟨rfl, rfl⟩⟩
    · cases e
  · rename_i i j he
    cases he
    cases (Option.some.inj e)
    obtain ⟨rfl, _⟩ := ra
    obtain ⟨rfl, _⟩ := rb
    exact op_in_str pins s σ H _ _ v u Q I rx ry ⟨i, j, rfl, rfl, k0 _ ⟨rfl, rfl⟩⟩
  · cases e
theorem o_notIn (hu : X.A.units + 65 < cLine) : OpR X (compareOp .NotIn) fun x y => Pr X.F fNotIn [x, y] := by
  intro pins s σ H x y v u Q I rx ry h
  obtain ⟨ds, o, d, r, e, k0, k⟩ := pr_end h
  obtain ⟨a, b, oa, ob, rfl, ra, rb⟩ := reps2 r
  have lists : ∀ (xs : List D), toPy b = .list (toPys xs) → dep a = true → dep b = true → d = .bl (!anyEq xs a) → wpAny (model X.prog X.w) X.A (compareOp .NotIn v u) (EP X pins σ Q) X.xe s := fun xs hb h1 h2 hd => by
    subst hd
    have rb2 := rb.dp (dep_lt h2)
    have sb := rb.shaped h2
    rw [hb] at rb2 sb
    exact op_notInD hu pins s σ H x y v u Q I rx ry ⟨_, _, ra.dp (dep_lt h1), rb2, ra.shaped h1, sb, by rw [any_toPys]; exact k0 _ ⟨rfl, rfl⟩⟩
  unfold fNotIn at e
  split at e
  · rename_i a' xs he
    cases he
    split at e
    · rename_i hc
      simp only [Bool.and_eq_true] at hc
      exact lists xs rfl hc.1 hc.2 (Option.some.inj e).symm
    · cases e
  · rename_i a' xs he
    cases he
    split at e
    · rename_i hc
      simp only [Bool.and_eq_true] at hc
      exact lists xs rfl hc.1 hc.2 (Option.some.inj e).symm
    · cases e
  · rename_i a' xs he
    cases he
    split at e
    · rename_i hc
      simp only [Bool.and_eq_true] at hc
      cases (Option.some.inj e)
      obtain ⟨as, h1⟩ := Rep.reads I ra rx
      obtain ⟨bs, h2⟩ := Rep.reads I rb ry
      have hl := rb.lay (dep_lt hc.2)
      have hd2 := dep_le hc.1
      simp only [toPy] at h2 hl
      refine SeqAt.notIn_tuple_reads h2 h1 (by simpa [PyData.canLay0] using hl) (ra.lay (dep_lt hc.1)) (by have := Nat.min_le_right (PyData.depthAll (toPys xs)) (toPy a).depth; omega) ?_
      rw [any_toPys]
      exact ⟨.bl _, H, I, rfl, k0 _ ⟨rfl, rfl⟩⟩
    · cases e
  · rename_i i j he
    cases he
    cases (Option.some.inj e)
    obtain ⟨rfl, _⟩ := ra
    obtain ⟨rfl, _⟩ := rb
    exact op_notin_str pins s σ H _ _ v u Q I rx ry ⟨i, j, rfl, rfl, k0 _ ⟨rfl, rfl⟩⟩
  · cases e
theorem cmp_inv {K : Fw} {g : D → D → Bool} {H : Hp} {x y : V} {Q : VK} (h : Pr K (fCmp g) [x, y] H Q) : ∃ a b oa ob, Rep K H a x oa ∧ Rep K H b y ob ∧ PySem.W.alike (toPy a) (toPy b) = true ∧ toPy a ≠ .none ∧ (dep a = true ∧ dep b = true) ∧ Q (.bl (g a b)) H := by
  obtain ⟨ds, o, d, r, e, k0, k⟩ := pr_end h
  obtain ⟨a, b, oa, ob, rfl, ra, rb⟩ := reps2 r
  simp only [fCmp] at e
  split at e
  · rename_i hc
    cases (Option.some.inj e)
    simp only [cmpOk, Bool.and_eq_true] at hc
    obtain ⟨⟨⟨h1, h2⟩, h3⟩, h4⟩ := hc
    refine ⟨a, b, oa, ob, ra, rb, h1, ?_, ⟨h2, h3⟩, k0 _ ⟨rfl, rfl⟩⟩
    cases a <;> simp_all [toPy]
  · cases e
theorem o_lt (hu : X.A.units + 64 < cLine) : OpR X (compareOp .Lt) fun x y => Pr X.F (fCmp fun a b => ltD a b) [x, y] := by
  intro pins s σ H x y v u Q I rx ry h
  obtain ⟨a, b, oa, ob, ra, rb, h1, h2, h3, q⟩ := cmp_inv h
  obtain ⟨as, g1⟩ := Rep.reads I ra rx
  obtain ⟨bs, g2⟩ := Rep.reads I rb ry
  have h5 := dep_le h3.1
  exact PySem.W.lt_data g1 g2 h1 h2 (by omega) ⟨.bl _, H, I, rfl, q⟩
theorem o_gt (hu : X.A.units + 64 < cLine) : OpR X (compareOp .Gt) fun x y => Pr X.F (fCmp fun a b => ltD b a) [x, y] := by
  intro pins s σ H x y v u Q I rx ry h
  obtain ⟨a, b, oa, ob, ra, rb, h1, h2, h3, q⟩ := cmp_inv h
  obtain ⟨as, g1⟩ := Rep.reads I ra rx
  obtain ⟨bs, g2⟩ := Rep.reads I rb ry
  have h5 := dep_le h3.1
  exact PySem.W.gt_data g1 g2 h1 h2 (by omega) ⟨.bl _, H, I, rfl, q⟩
theorem o_ge (hu : X.A.units + 64 < cLine) : OpR X (compareOp .GtE) fun x y => Pr X.F (fCmp fun a b => !ltD a b) [x, y] := by
  intro pins s σ H x y v u Q I rx ry h
  obtain ⟨a, b, oa, ob, ra, rb, h1, h2, h3, q⟩ := cmp_inv h
  obtain ⟨as, g1⟩ := Rep.reads I ra rx
  obtain ⟨bs, g2⟩ := Rep.reads I rb ry
  have h5 := dep_le h3.1
  exact PySem.W.ge_data g1 g2 h1 h2 (by omega) ⟨.bl _, H, I, rfl, q⟩

/-! ### built-in functions -/
def lenD : D → Option Nat
  | .str x => some x.length
  | .tup xs => some xs.length
  | .lst xs => some xs.length
  | .frz xs => some xs.length
  | _ => none
def fLen : List D → Option D
  | [a] => match lenD a with
    | some n => some (.int n)
    | none => none
  | _ => none
theorem one_inv {K : Fw} {f : List D → Option D} {vs : List V} {H : Hp} {Q : VK} (h : Pr K f vs H Q) (h1 : ∀ ds d, f ds = some d → ∃ a, ds = [a]) : ∃ a x oa d, vs = [x] ∧ Rep K H a x oa ∧ f [a] = some d ∧ (∀ v, Rep K H d v [] → Q v H) ∧ ∀ v H' ov, (∀ a u, H a = some u → H' a = some u) → Rep K H' d v ov → Fresh H ov → Q v H' := by
  obtain ⟨ds, o, d, r, e, k0, k⟩ := pr_end h
  obtain ⟨a, rfl⟩ := h1 ds d e
  obtain ⟨v, vr, o1, o2, rfl, ra, ⟨rfl, _⟩, _⟩ := r
  exact ⟨a, v, o1, d, rfl, ra, e, k0, k⟩
theorem c_len : CallR X (.builtin "len") (Pr X.F fLen) := by
  intro pins s σ H xs us Q I r h
  obtain ⟨a, x, oa, d, rfl, ra, e, k0, k⟩ := one_inv h fun ds d e => by
    cases ds with
    | nil => simp [fLen] at e
    | cons a ds => cases ds with
      | nil => exact ⟨a, rfl⟩
      | cons b ds => simp [fLen] at e
  simp only [fLen] at e
  cases hl : lenD a with
  | none => rw [hl] at e; simp at e
  | some n =>
    rw [hl] at e
    cases (Option.some.inj e)
    refine call_len pins s σ H _ us Q I r ⟨x, n, rfl, ?_, k0 _ ⟨rfl, rfl⟩⟩
    cases a <;> simp only [lenD, reduceCtorEq, Option.some.injEq] at hl
    · obtain ⟨rfl, hs, _⟩ := ra
      exact ⟨hs.1, hl.symm⟩
    · obtain ⟨p, vs, rfl, hq, rs⟩ := ra
      exact .inr ⟨vs, hq, by rw [rs.length]; exact hl.symm⟩
    · obtain ⟨p, vs, _, rfl, hq, rs, _⟩ := ra
      exact .inl ⟨vs, .of hq, by rw [rs.length]; exact hl.symm⟩
    · obtain ⟨p, vs, rfl, hq, rs, _⟩ := ra
      exact .inl ⟨vs, hq.sq, by rw [rs.length]; exact hl.symm⟩
def fInt : List D → Option D
  | [.int i] => some (.int i)
  | [.bl b] => some (.int (if b then 1 else 0))
  | _ => none
theorem c_int : CallR X (.type "int") (Pr X.F fInt) := by
  intro pins s σ H xs us Q I r h
  obtain ⟨ds, o, d, rr, e, k0, k⟩ := pr_end h
  unfold fInt at e
  split at e
  · cases (Option.some.inj e)
    obtain ⟨v, vr, o1, o2, rfl, ⟨rfl, _⟩, ⟨rfl, _⟩, _⟩ := rr
    exact call_int1 pins s σ H _ us Q I r (.inl ⟨_, rfl, k0 _ ⟨rfl, rfl⟩⟩)
  · cases (Option.some.inj e)
    obtain ⟨v, vr, o1, o2, rfl, ⟨rfl, _⟩, ⟨rfl, _⟩, _⟩ := rr
    exact call_int1 pins s σ H _ us Q I r (.inr ⟨_, rfl, k0 _ ⟨rfl, rfl⟩⟩)
  · cases e
def fTuple : List D → Option D
  | [.lst xs] => if D.imms xs then some (.tup xs) else none
  | [.frz xs] => some (.tup xs)
  | [.tup xs] => if D.imms xs then some (.tup xs) else none
  | _ => none
theorem c_tuple : CallR X (.type "tuple") (Pr X.F fTuple) := by
  intro pins s σ H xs us Q I r h
  obtain ⟨ds, o, d, rr, e, k0, k⟩ := pr_end h
  have lists : ∀ (a : Addr) (vs : List V) (ys : List D), xs = [.ref a] → SqL X.K H a vs → Reps X.F H ys vs [] → d = .tup ys → wpAny (model X.prog X.w) X.A (call (.type "tuple") us) (EP X pins σ Q) X.xe s := fun a vs ys hx hq rs hd => by
    subst hx hd
    exact call_tuple_of pins s σ H _ us Q I r ⟨a, vs, rfl, .inl ⟨hq, fun l hl => k _ _ [] (new_same hl) ⟨l, vs, rfl, .of upd_same, rs.same (new_same hl)⟩ fresh_nil⟩⟩
  unfold fTuple at e
  split at e
  · rename_i ys
    split at e
    · rename_i hi
      obtain ⟨v, vr, o1, o2, rfl, ⟨a, vs, o', rfl, hq, rs, _⟩, ⟨rfl, _⟩, _⟩ := rr
      exact lists a vs ys rfl (.of hq) (rs.imm' hi) (Option.some.inj e).symm
    · cases e
  · rename_i ys
    obtain ⟨v, vr, o1, o2, rfl, ⟨a, vs, rfl, hq, rs, _⟩, ⟨rfl, _⟩, _⟩ := rr
    exact lists a vs ys rfl hq.sq rs (Option.some.inj e).symm
  · rename_i ys
    split at e
    · rename_i hi
      obtain ⟨v, vr, o1, o2, rfl, ⟨a, vs, rfl, hq, rs⟩, ⟨rfl, _⟩, _⟩ := rr
      cases (Option.some.inj e)
      exact call_tuple_of pins s σ H _ us Q I r ⟨a, vs, rfl, .inr ⟨hq, k0 _ ⟨a, vs, rfl, hq, rs.imm' hi⟩⟩⟩
    · cases e
  · cases e
end
end Z


set_option Elab.async false
set_option linter.all false
set_option maxRecDepth 100000
/-! isinstance; least and greatest; sums -/
namespace Z
open PySem PySem.Spec PyProof.Rows L2

def fIsa (g : PyData → Bool) : List D → Option D
  | [a] => some (.bl (g (toPy a)))
  | _ => none
section
variable {X : Cx} {e : Expr} {q : Bool} {m : Den} {p p2 pos : Pos}
/-- what isinstance is asked of -/
structure IsaT (T : String) (g : PyData → Bool) : Prop where
  run : ∀ {prog : Program} {w : World} {A : Around} {E : Value → Shared → Prop} {s : Shared} {v : Value} {d : PyData} {as : List Addr} {Q : Value → Shared → Prop}, Reads s.heap v d as → (∀ tk, s.toks ≤ tk → Q (.bool (g d)) { s with toks := tk }) →
    wpAny (model prog w) A (call (.builtin "isinstance") [v, .type T]) Q E s
theorem isa_tuple : IsaT "tuple" PyData.isTuple := ⟨fun r h => PySem.W.isinstance_tuple_data r h⟩
theorem isa_bool : IsaT "bool" PyData.isBool := ⟨fun r h => PySem.W.isinstance_bool_data r h⟩
theorem isa_int : IsaT "int" PyData.isInt := ⟨fun r h => PySem.W.isinstance_int_data r h⟩
theorem isa_str : IsaT "str" PyData.isStr := ⟨fun r h => PySem.W.isinstance_str_data r h⟩
theorem c_isa {T : String} {g : PyData → Bool} (t : IsaT T g) : CallR X (.builtin "isinstance") fun xs H Q => ∃ x, xs = [x, .ty T] ∧ Pr X.F (fIsa g) [x] H Q := by
  intro pins s σ H xs us Q I r h
  obtain ⟨x, rfl, h⟩ := h
  obtain ⟨ds, o, d, rr, e, k0, k⟩ := pr_end h
  obtain ⟨a, oa, rfl, ra⟩ := reps1 rr
  cases (Option.some.inj e)
  cases r with
  | cons r1 r2 =>
    cases r2 with
    | cons r3 r4 =>
      cases r4
      cases r3
      obtain ⟨as, g1⟩ := Rep.reads I ra r1
      exact t.run g1 fun tk _ => ⟨.bl _, H, I.tok tk, rfl, k0 _ ⟨rfl, rfl⟩⟩
theorem z_isa {T : String} {x : Str} {g : PyData → Bool} (t : IsaT T g) (hg : Gl X "isinstance") (hm : X.mg "isinstance" = none) (hv : bootBuiltins "isinstance" = some (.builtin "isinstance")) (hg2 : Gl X x) (hm2 : X.mg x = none) (hv2 : bootBuiltins x = some (.type T))
    (he : PE X e (Z.T (kx X) q m)) (hn2 : x ≠ "__name__" := by decide) (hdb2 : (x == ("__debug__" : Str)) = false := by decide)
    (hs : starEach [e, .Name x p2] X.env = (false, eval e X.env) :: starEach [.Name x p2] X.env := by rfl) (hs2 : starEach [.Name x p2] X.env = (false, eval (.Name x p2) X.env) :: starEach [] X.env := by rfl) (hpl : (backTo pos (starEach [.Name x p2] X.env)).any (·.1) = false := by rfl) :
    PE X (.Call (.Name "isinstance" p) [e, .Name x p2] [] pos) (Z.T (kx X) (q && true) (dCall (fIsa g) (dACons true m dANil))) :=
  PE.imp (pe_callB (c_isa t) hg hm hv (pa_cons he (pa_cons (pe_bltn (v := .ty T) hg2 hm2 hv2 rfl hn2 hdb2) pa_nil hs2) hs) (by decide) (by decide) hs hpl) fun σ H Q h => by
    obtain ⟨δ, o, r, δ', E, n, hm, k⟩ := t_call h
    simp only [dACons, dANil] at hm
    cases h1 : m δ with
    | none => rw [h1] at hm; simp at hm
    | some p1 =>
      obtain ⟨x, δ1⟩ := p1
      rw [h1] at hm
      simp only [Bool.or_true, if_true, Option.some.injEq, Prod.mk.injEq] at hm
      obtain ⟨rfl, rfl⟩ := hm
      rw [Bool.and_true] at k
      exact ⟨δ, o, x, δ1, E, n, h1, fun v H1 o1 ov1 P1 => ⟨v, rfl, k [v] H1 o1 (ov1 ++ []) P1.step P1.env ⟨v, [], ov1, [], rfl, P1.held, ⟨rfl, rfl⟩, rfl⟩ (by rw [List.append_nil]; exact P1.own)⟩⟩
end

/-! ### min, max of data -/
mutual
/-- no list in it -/
def D.nol : D → Bool
  | .tup xs => D.nols xs
  | .lst _ => false
  | .frz _ => false
  | .dic _ _ => false
  | .obj _ _ _ => false
  | _ => true
def D.nols : List D → Bool
  | [] => true
  | x :: xs => D.nol x && D.nols xs
end
theorem D.nols_iff : ∀ (xs : List D), D.nols xs = true ↔ ∀ x ∈ xs, D.nol x = true
  | [] => by simp [D.nols]
  | x :: xs => by simp [D.nols, D.nols_iff xs]
mutual
theorem D.nol_imm : ∀ (d : D), d.nol = true → d.imm = true
  | .tup xs, h => by simp only [D.nol, D.imm] at h ⊢; exact D.nols_imms xs h
  | .non, _ => rfl
  | .bl _, _ => rfl
  | .int _, _ => rfl
  | .str _, _ => rfl
  | .lst _, h => by simp [D.nol] at h
  | .frz _, h => by simp [D.nol] at h
  | .dic _ _, h => by simp [D.nol] at h
  | .obj _ _ _, h => by simp [D.nol] at h
theorem D.nols_imms : ∀ (xs : List D), D.nols xs = true → D.imms xs = true
  | [], _ => rfl
  | x :: xs, h => by
    simp only [D.nols, D.imms, Bool.and_eq_true] at h ⊢
    exact ⟨D.nol_imm x h.1, D.nols_imms xs h.2⟩
end
mutual
theorem toPy_inj : ∀ (a b : D), a.nol = true → b.nol = true → toPy a = toPy b → a = b
  | .tup xs, b, ha, hb, h => by
    cases b <;> simp only [toPy, reduceCtorEq] at h
    · simp only [PyData.tuple.injEq] at h
      rw [toPys_inj xs _ ha hb h]
    all_goals simp [D.nol] at hb
  | .non, b, _, hb, h => by cases b <;> simp_all [toPy, D.nol]
  | .bl _, b, _, hb, h => by cases b <;> simp_all [toPy, D.nol]
  | .int _, b, _, hb, h => by cases b <;> simp_all [toPy, D.nol]
  | .str _, b, _, hb, h => by cases b <;> simp_all [toPy, D.nol]
  | .lst _, _, ha, _, _ => by simp [D.nol] at ha
  | .frz _, _, ha, _, _ => by simp [D.nol] at ha
  | .dic _ _, _, ha, _, _ => by simp [D.nol] at ha
  | .obj _ _ _, _, ha, _, _ => by simp [D.nol] at ha
theorem toPys_inj : ∀ (a b : List D), D.nols a = true → D.nols b = true → toPys a = toPys b → a = b
  | [], b, _, _, h => by cases b <;> simp_all [toPys]
  | x :: xs, b, ha, hb, h => by
    cases b with
    | nil => simp [toPys] at h
    | cons y ys =>
      simp only [D.nols, Bool.and_eq_true, toPys, List.cons.injEq] at ha hb h
      rw [toPy_inj x y ha.1 hb.1 h.1, toPys_inj xs ys ha.2 hb.2 h.2]
end
/-- all can be compared with one another -/
def cmpAll (xs : List D) : Bool := D.nols xs && xs.all fun x => xs.all fun y => cmpOk x y
def minD (x : D) (xs : List D) : D := xs.foldl (fun a y => if ltD y a then y else a) x
def maxD (x : D) (xs : List D) : D := xs.foldl (fun a y => if ltD a y then y else a) x
def itemsD : D → Option (List D)
  | .tup xs => some xs
  | .lst xs => some xs
  | .frz xs => some xs
  | _ => none
def fMin : List D → Option D
  | [a] => match itemsD a with
    | some (x :: xs) => if cmpAll (x :: xs) then some (minD x xs) else none
    | _ => none
  | a :: b :: r => if cmpAll (a :: b :: r) then some (minD a (b :: r)) else none
  | _ => none
def fMax : List D → Option D
  | [a] => match itemsD a with
    | some (x :: xs) => if cmpAll (x :: xs) then some (maxD x xs) else none
    | _ => none
  | a :: b :: r => if cmpAll (a :: b :: r) then some (maxD a (b :: r)) else none
  | _ => none
theorem minD_py (x : D) (xs : List D) : toPy (minD x xs) = PySem.W.minD (toPy x) (toPys xs) := by
  rw [toPys_map]
  unfold minD PySem.W.minD
  induction xs generalizing x with
  | nil => rfl
  | cons y ys ih =>
    rw [List.foldl_cons, List.map_cons, List.foldl_cons, ih]
    congr 1
    show toPy (if PySem.W.dataLt (toPy y) (toPy x) = true then y else x) = _
    split <;> rfl
theorem maxD_py (x : D) (xs : List D) : toPy (maxD x xs) = PySem.W.maxD (toPy x) (toPys xs) := by
  rw [toPys_map]
  unfold maxD PySem.W.maxD
  induction xs generalizing x with
  | nil => rfl
  | cons y ys ih =>
    rw [List.foldl_cons, List.map_cons, List.foldl_cons, ih]
    congr 1
    show toPy (if PySem.W.dataLt (toPy x) (toPy y) = true then y else x) = _
    split <;> rfl
theorem minD_mem (x : D) (xs : List D) : minD x xs ∈ x :: xs := by
  unfold minD
  induction xs generalizing x with
  | nil => simp
  | cons y ys ih =>
    rw [List.foldl_cons]
    have := ih (if ltD y x then y else x)
    split at this
    · rcases List.mem_cons.mp this with h | h
      · rw [if_pos (by assumption)]; rw [h]; simp
      · rw [if_pos (by assumption)]; simp [h]
    · rcases List.mem_cons.mp this with h | h
      · rw [if_neg (by assumption)]; rw [h]; simp
      · rw [if_neg (by assumption)]; simp [h]
theorem maxD_mem (x : D) (xs : List D) : maxD x xs ∈ x :: xs := by
  unfold maxD
  induction xs generalizing x with
  | nil => simp
  | cons y ys ih =>
    rw [List.foldl_cons]
    have := ih (if ltD x y then y else x)
    split at this
    · rcases List.mem_cons.mp this with h | h
      · rw [if_pos (by assumption)]; rw [h]; simp
      · rw [if_pos (by assumption)]; simp [h]
    · rcases List.mem_cons.mp this with h | h
      · rw [if_neg (by assumption)]; rw [h]; simp
      · rw [if_neg (by assumption)]; simp [h]
theorem cmpAll_alike {xs : List D} (h : cmpAll xs = true) : PySem.W.AlikeAll (toPys xs) ∧ PyData.depthAll (toPys xs) ≤ 60 := by
  simp only [cmpAll, Bool.and_eq_true, List.all_eq_true] at h
  obtain ⟨hn, h⟩ := h
  rw [toPys_map]
  refine ⟨⟨fun a ha b hb => ?_, fun a ha => ?_⟩, ?_⟩
  · obtain ⟨x, hx, rfl⟩ := List.mem_map.mp ha
    obtain ⟨y, hy, rfl⟩ := List.mem_map.mp hb
    have := h x hx y hy
    simp only [cmpOk, Bool.and_eq_true] at this
    exact this.1.1.1
  · obtain ⟨x, hx, rfl⟩ := List.mem_map.mp ha
    have := h x hx x hx
    simp only [cmpOk, Bool.and_eq_true] at this
    have h4 := this.2
    cases x <;> simp_all [toPy]
  · have hd : ∀ x ∈ xs, (toPy x).depth ≤ 60 := fun x hx => by
      have := h x hx x hx
      simp only [cmpOk, Bool.and_eq_true] at this
      exact dep_le this.1.1.2
    clear h hn
    induction xs with
    | nil => simp [PyData.depthAll]
    | cons x xs ih =>
      simp only [List.map_cons, PyData.depthAll]
      have h1 := hd x List.mem_cons_self
      have h2 := ih fun y hy => hd y (List.mem_cons_of_mem _ hy)
      omega
section
variable {X : Cx}
theorem vals_at {us : List Value} {vs : List V} {i : Nat} {u : Value} (r : Vals vs us) (h : us[i]? = some u) : ∃ v, vs[i]? = some v ∧ RelV v u := by
  cases hv : vs[i]? with
  | none => rw [r.none_of hv] at h; cases h
  | some v =>
    obtain ⟨u', h', ru⟩ := r.get hv
    rw [h] at h'; cases h'
    exact ⟨v, rfl, ru⟩
mutual
theorem Rep.layN {K : Fw} {H : Hp} : ∀ {d : D} {v : V} {o : List Addr}, Rep K H d v o → d.nol = true → (toPy d).canLay0 = true
  | .non, _, _, h, _ => by simp [toPy, PyData.canLay0]
  | .bl b, _, _, h, _ => by simp [toPy, PyData.canLay0]
  | .int b, _, _, h, _ => by simp [toPy, PyData.canLay0]
  | .str b, _, _, h, _ => by simp only [toPy, PyData.canLay0]; exact h.2.1.2
  | .tup xs, _, _, h, g => by
    obtain ⟨a, vs, rfl, hq, r⟩ := h
    simp only [toPy, PyData.canLay0]; exact Reps.layN r g
  | .lst xs, _, _, h, g => by simp [D.nol] at g
  | .frz xs, _, _, h, g => by simp [D.nol] at g
  | .dic _ _, _, _, h, g => by simp [D.nol] at g
  | .obj _ _ _, _, _, h, _ => h.elim
theorem Reps.layN {K : Fw} {H : Hp} : ∀ {d : List D} {v : List V} {o : List Addr}, Reps K H d v o → D.nols d = true → PyData.canLayAll0 (toPys d) = true
  | [], _, _, h, _ => by simp [toPys, PyData.canLayAll0]
  | x :: xs, _, _, h, g => by
    obtain ⟨v, vr, o1, o2, rfl, h1, h2, _⟩ := h
    simp only [D.nols, Bool.and_eq_true] at g
    simp only [toPys, PyData.canLayAll0, Bool.and_eq_true]
    exact ⟨Rep.layN h1 g.1, Reps.layN h2 g.2⟩
end
/-- an item that reads as a datum of the list is that datum -/
theorem item_eq {pins : List (Addr × Obj)} {s : Shared} {σ : L2.St} {H : Hp} {xs : List D} {vs : List V} {us : List Value} {i : Nat} {u : Value} {d : D} {h' : Heap} {bs : List Addr} (I : Inv X pins σ H s) (rs : Reps X.F H xs vs []) (rv : Vals vs us) (hn : D.nols xs = true) (hd : d.nol = true) (hi : us[i]? = some u) (hr : Reads h' u (toPy d) bs)
    (hk : ∀ b o, s.heap.get? b = some o → h'.get? b = some o) : ∃ v, RelV v u ∧ Rep X.F H d v [] := by
  obtain ⟨v, hv, ru⟩ := vals_at rv hi
  have hil : i < xs.length := by
    have := (List.getElem?_eq_some_iff.mp hv).1
    rw [rs.length] at this; exact this
  obtain ⟨v', hv', rr⟩ := item_of rs (List.getElem?_eq_getElem hil)
  rw [hv] at hv'; cases hv'
  obtain ⟨as, g⟩ := Rep.reads I rr ru
  have e : toPy xs[i] = toPy d := SeqAt.plain_unique _ _ u as bs (PyData.plain_of_canLay0 _ (Rep.layN rr ((D.nols_iff xs).mp hn _ (List.getElem_mem hil)))) (Reads.keeps hk g) hr
  have := toPy_inj _ _ ((D.nols_iff xs).mp hn _ (List.getElem_mem hil)) hd e
  rw [this] at rr
  exact ⟨v, ru, rr⟩
theorem seq_items {K : Fw} {H : Hp} {a : D} {v : V} {o : List Addr} {xs : List D} (r : Rep K H a v o) (h : itemsD a = some xs) (hi : D.imms xs = true) : ∃ p vs, v = .ref p ∧ (SqL K H p vs ∨ SqT K H p vs) ∧ Reps K H xs vs [] := by
  cases a <;> simp only [itemsD, reduceCtorEq, Option.some.injEq] at h
  · subst h
    obtain ⟨p, vs, rfl, hq, rs⟩ := r
    exact ⟨p, vs, rfl, .inr hq, rs.imm' hi⟩
  · subst h
    obtain ⟨p, vs, _, rfl, hq, rs, _⟩ := r
    exact ⟨p, vs, rfl, .inl (.of hq), rs.imm' hi⟩
  · subst h
    obtain ⟨p, vs, rfl, hq, rs, _⟩ := r
    exact ⟨p, vs, rfl, .inl hq.sq, rs⟩
end
end Z


set_option Elab.async false
set_option linter.all false
set_option maxRecDepth 100000
/-! list comprehensions -/
namespace Z
open PySem PySem.Spec PyProof.Rows L2

def wipeD (δ : DE) : List Nat → DE
  | [] => δ
  | v :: vs => (wipeD δ vs).set v none
/-- the block's own names as they were ahead of it -/
def restD (δ0 : DE) : DE → List Nat → DE
  | δ2, [] => δ2
  | δ2, v :: vs => restD δ0 (δ2.set v (match (wipeD δ0 vs)[v]? with | some x => x | none => none)) vs
section
variable {K : Fw} {κ : Kx} {H H1 H2 : Hp}
theorem wipeD_len (δ : DE) : ∀ vs : List Nat, (wipeD δ vs).length = δ.length
  | [] => rfl
  | v :: vs => by rw [wipeD, List.length_set, wipeD_len δ vs]
/-- a slot that isn't told -/
theorem Envs.sig : ∀ {σ : L2.St} {δ : DE} {o : List Addr} (v : Nat) (x : Option V), Envs κ H σ δ o → (∀ d, δ[v]? ≠ some (some d)) → Envs κ H (σ.set v x) δ o
  | [], [], _, _, _, h, _ => h
  | s :: σ, none :: δ, o, 0, x, h, _ => by
    cases x <;> cases s <;> exact h
  | some w :: σ, some d :: δ, o, 0, x, h, hn => absurd rfl (hn d)
  | none :: σ, none :: δ, o, v + 1, x, h, hn => Envs.sig (σ := σ) (δ := δ) v x h fun d e => hn d (by simpa using e)
  | some w :: σ, none :: δ, o, v + 1, x, h, hn => Envs.sig (σ := σ) (δ := δ) v x h fun d e => hn d (by simpa using e)
  | some w :: σ, some d :: δ, o, v + 1, x, h, hn => by
    obtain ⟨o1, o2, h1, h2, e⟩ := h
    exact ⟨o1, o2, h1, Envs.sig v x h2 fun d e => hn d (by simpa using e), e⟩
  | none :: σ, some d :: δ, _, _, _, h, _ => h.elim
  | [], _ :: _, _, _, _, h, _ => by simp [Envs] at h
  | _ :: _, [], _, _, _, h, _ => by simp [Envs] at h
theorem set_none_same {δ : DE} {v : Nat} (h : ∀ d, δ[v]? ≠ some (some d)) : δ.set v none = δ := by
  by_cases hl : v < δ.length
  · have e : δ[v] = none := by
      cases q : δ[v] with
      | none => rfl
      | some d => exact absurd (by rw [List.getElem?_eq_getElem hl, q]) (h d)
    rw [← e]; exact List.set_getElem_self hl
  · exact List.set_eq_of_length_le (by omega)
theorem set_none_get {δ : DE} (v : Nat) : ∀ d, (δ.set v none)[v]? ≠ some (some d) := fun d e => by
  by_cases hl : v < δ.length
  · rw [List.getElem?_set_self hl] at e; simp at e
  · rw [List.getElem?_eq_none (by simpa using hl)] at e; cases e
theorem Envs.drop {σ : L2.St} {δ : DE} {o : List Addr} (v : Nat) (E : Envs κ H σ δ o) : ∃ o', Envs κ H σ (δ.set v none) o' ∧ ∀ a, o'.count a ≤ o.count a := by
  by_cases h : ∃ d, δ[v]? = some (some d)
  · obtain ⟨d, h⟩ := h
    obtain ⟨w, oa, o1, ob, _, _, rfl, _, k⟩ := E.at h
    exact ⟨oa ++ ob, k H Fr.rfl, fun a => by simp only [List.count_append]; omega⟩
  · rw [set_none_same fun d e => h ⟨d, e⟩]
    exact ⟨o, E, fun _ => Nat.le_refl _⟩
theorem Envs.wipe : ∀ {σ : L2.St} {δ : DE} {o : List Addr} (vs : List Nat), Envs κ H σ δ o → ∃ ow, Envs κ H (wipe σ vs) (wipeD δ vs) ow ∧ ∀ a, ow.count a ≤ o.count a
  | σ, δ, o, [], E => ⟨o, E, fun _ => Nat.le_refl _⟩
  | σ, δ, o, v :: vs, E => by
    obtain ⟨ow, Ew, c⟩ := Envs.wipe vs E
    obtain ⟨o', E', c'⟩ := Ew.drop v
    refine ⟨o', ?_, fun a => Nat.le_trans (c' a) (c a)⟩
    exact Envs.sig v none E' (set_none_get v)
/-- the block's own names put back -/
theorem Envs.rest : ∀ (vs : List Nat) {σ : L2.St} {δ : DE} {o : List Addr}, Envs κ H1 σ δ o → Nd o → ∃ (ow od : List Addr), Envs κ H1 (L2.wipe σ vs) (wipeD δ vs) ow ∧ (∀ a, ow.count a + od.count a ≤ o.count a) ∧ (∀ a ∈ od, H1 a ≠ none) ∧
    ∀ {H2 : Hp} {δ2 : DE} {o2 : List Addr}, Step H1 H2 ow → Envs κ H2 (L2.wipe σ vs) δ2 o2 → ∃ o3, Envs κ H2 σ (restD δ δ2 vs) o3 ∧ ∀ a, o3.count a ≤ o2.count a + od.count a
  | [], σ, δ, o, E, n => ⟨o, [], E, fun a => by simp, (fun a ha => nomatch ha), fun {H2 δ2 o2} s E2 => ⟨o2, E2, fun a => by simp⟩⟩
  | v :: vs, σ, δ, o, E, n => by
    obtain ⟨ow, od, Ew, c, dm, k⟩ := Envs.rest vs E n
    have nw : Nd ow := fun a => by have := c a; have := n a; omega
    by_cases h : ∃ d, (wipeD δ vs)[v]? = some (some d)
    · obtain ⟨d, h⟩ := h
      obtain ⟨w, oa, o1, ob, hw, r, rfl, _, kn⟩ := Ew.at h
      have Ev := kn H1 Fr.rfl
      have hvl : v < (wipeD δ vs).length := (List.getElem?_eq_some_iff.mp h).1
      have tr : ∀ a ∈ o1, H1 a ≠ none := fun a ha => by obtain ⟨vs, e, how⟩ := r.own a ha; rw [e]; simp
      refine ⟨oa ++ ob, o1 ++ od, Envs.sig v none Ev (set_none_get v), fun a => ?_, fun a ha => (List.mem_append.mp ha).elim (tr a) (dm a), fun {H2 δ2 o2} s E2 => ?_⟩
      · have := c a; simp only [List.count_append] at this ⊢; omega
      · have hd1 : ∀ a ∈ o1, a ∉ oa ++ ob := fun a h1 h2 => by
          have g1 : 0 < o1.count a := List.count_pos_iff.mpr h1
          have g2 : 0 < (oa ++ ob).count a := List.count_pos_iff.mpr h2
          have g3 := nw a
          simp only [List.count_append] at g2 g3
          omega
        have r2 : Rep κ.K H2 d w o1 := r.step s (fun a ha => Ew.ok a (by rcases List.mem_append.mp ha with z | z <;> simp [z])) hd1
        have hl2 : δ2.length = δ.length := by
          rw [← E2.length, wipe_length, ← E.length]
        obtain ⟨o3, E3, c3⟩ := Envs.set v E2 r2 (by rw [hl2, ← wipeD_len δ vs]; exact hvl)
        have hs : (L2.wipe σ (v :: vs)).set v (some w) = L2.wipe σ vs := by
          show ((L2.wipe σ vs).set v none).set v (some w) = _
          rw [List.set_set]
          obtain ⟨hl, e⟩ := List.getElem?_eq_some_iff.mp hw
          rw [← e]; exact List.set_getElem_self hl
        rw [hs] at E3
        have s3 : Step H1 H2 (oa ++ o1 ++ ob) := s.mono fun a ha => by rcases List.mem_append.mp ha with z | z <;> simp [z]
        obtain ⟨o4, E4, c4⟩ := k s3 E3
        refine ⟨o4, ?_, fun a => ?_⟩
        · show Envs κ H2 σ (restD δ (δ2.set v (match (wipeD δ vs)[v]? with | some x => x | none => none)) vs) o4
          rw [h]; exact E4
        · have g := c3 a
          have g2 := c4 a
          rw [List.count_append]; omega
    · have hn : ∀ d, (wipeD δ vs)[v]? ≠ some (some d) := fun d e => h ⟨d, e⟩
      refine ⟨ow, od, ?_, c, dm, fun {H2 δ2 o2} s E2 => ?_⟩
      · show Envs κ H1 ((L2.wipe σ vs).set v none) ((wipeD δ vs).set v none) ow
        rw [set_none_same hn]
        exact Envs.sig v none Ew hn
      · obtain ⟨o2', E2', c2'⟩ := E2.drop v
        have E3 : Envs κ H2 (L2.wipe σ vs) (δ2.set v none) o2' := by
          have e : L2.wipe σ vs = (L2.wipe σ (v :: vs)).set v ((L2.wipe σ vs)[v]?.getD none) := by
            show _ = ((L2.wipe σ vs).set v none).set v _
            rw [List.set_set]
            by_cases hl : v < (L2.wipe σ vs).length
            · rw [List.getElem?_eq_getElem hl]; exact (List.set_getElem_self hl).symm
            · exact (List.set_eq_of_length_le (by omega)).symm
          rw [e]
          exact Envs.sig v _ E2' (set_none_get v)
        obtain ⟨o4, E4, c4⟩ := k s E3
        refine ⟨o4, ?_, fun a => ?_⟩
        · show Envs κ H2 σ (restD δ (δ2.set v (match (wipeD δ vs)[v]? with | some x => x | none => none)) vs) o4
          have : (match (wipeD δ vs)[v]? with | some x => x | none => none) = (none : Option D) := by
            cases q : (wipeD δ vs)[v]? with
            | none => rfl
            | some x => cases x with
              | none => rfl
              | some d => exact absurd q (hn d)
          rw [this]; exact E4
        · have g := c2' a
          have g2 := c4 a
          omega
end
/-- one turn after another: what the elements are -/
def dLcL (gs : List (Nat × D)) (vs : List Nat) (b : Bnd) (mt : DenT) (me : Den) : List D → DE → Option (List D × DE)
  | [], δ => if gOk gs δ then some ([], δ) else none
  | x :: xs, δ => if gOk gs δ then match b x δ with
    | some δ1 => match mt δ1 with
      | some (false, δ2) => dLcL gs vs b mt me xs (wipeD δ2 vs)
      | some (true, δ2) => match me δ2 with
        | some (.own d, δ3) => match dLcL gs vs b mt me xs (wipeD δ3 vs) with
          | some (ds, δ4) => some (d :: ds, δ4)
          | none => none
        | _ => none
      | none => none
    | none => none
    else none
def kpOut (vs : List Nat) : Nat → Bool := fun i => !vs.contains i
def dLc (vs : List Nat) (ms : DenS) (b : Bnd) (mt : DenT) (me : Den) : Den := fun δ => match ms δ with
  | some (src, δ1) => if gsIn (kpOut vs) src.gs then match dLcL src.gs vs b mt me src.xs (wipeD δ1 vs) with
    | some (ds, δ2) => some (.own (.lst ds), restD δ1 δ2 vs)
    | none => none
    else none
  | none => none
def dYes : DenT := fun δ => some (true, δ)
theorem wipe_get {σ : L2.St} {i : Nat} : ∀ {vs : List Nat}, i ∉ vs → (L2.wipe σ vs)[i]? = σ[i]?
  | [], _ => rfl
  | v :: vs, h => by
    simp only [List.mem_cons, not_or] at h
    show ((L2.wipe σ vs).set v none)[i]? = _
    rw [List.getElem?_set_ne (Ne.symm h.1), wipe_get h.2]
theorem wipe_in {σ : L2.St} {i : Nat} : ∀ {vs : List Nat}, i ∈ vs → i < σ.length → (L2.wipe σ vs)[i]? = some none
  | v :: vs, h, hl => by
    show ((L2.wipe σ vs).set v none)[i]? = _
    by_cases e : v = i
    · subst e
      rw [List.getElem?_set_self (by rw [wipe_length]; exact hl)]
    · rw [List.getElem?_set_ne e]
      exact wipe_in ((List.mem_cons.mp h).resolve_left (Ne.symm e)) hl
theorem wipe_same {σ σ2 : L2.St} {vs : List Nat} (hl : σ2.length = σ.length) (h : ∀ i, i ∉ vs → σ2[i]? = σ[i]?) : L2.wipe σ2 vs = L2.wipe σ vs := by
  apply List.ext_getElem?
  intro i
  by_cases hi : i ∈ vs
  · by_cases hn : i < σ.length
    · rw [wipe_in hi hn, wipe_in hi (by omega)]
    · rw [List.getElem?_eq_none (by rw [wipe_length]; omega), List.getElem?_eq_none (by rw [wipe_length]; omega)]
  · rw [wipe_get hi, wipe_get hi, h i hi]
theorem wipe_wipe (σ : L2.St) (vs : List Nat) : L2.wipe (L2.wipe σ vs) vs = L2.wipe σ vs := wipe_same (wipe_length σ vs) fun i hi => wipe_get hi
section
variable {X : Cx} {elt tg iter c : Expr} {ifs : List Expr} {q qt qe : Bool} {ms : DenS} {b : Bnd} {mt : DenT} {me : Den} {vs : List Nat}
theorem PTs.imp {t t' : L2.TT} (h : PTs X ifs t) (i : ∀ σ H Q, t' σ H Q → t σ H Q) : PTs X ifs t' := ⟨fun pins s σ H Q I hw => h.run pins s σ H Q I (i _ _ _ hw)⟩
theorem z_tsnil : PTs X [] (TT (kx X) true dYes) := PTs.imp pts_nil fun σ H Q ⟨δ, o, bb, δ', E, n, hm, k⟩ => by
  simp only [dYes, Option.some.injEq, Prod.mk.injEq] at hm
  obtain ⟨rfl, rfl⟩ := hm
  exact k H o ⟨Step.refl _ _, E, Own.refl _ _⟩
theorem z_tsone (h : PT X c (TT (kx X) qt mt)) : PTs X [c] (TT (kx X) qt mt) := pts_one h
/-- the reading of a comprehension -/
theorem t_lc {κ : Kx} {σ : L2.St} {H : Hp} {Q : VK} (h : T κ false (dLc vs ms b mt me) σ H Q) : tLc (TIm κ q ms) (TGm κ (kpOut vs) b) (TT κ qt mt) (T κ qe me) vs σ H Q := by
  obtain ⟨δ, o, r, δ', E, n, hm, k⟩ := h
  simp only [dLc] at hm
  cases h1 : ms δ with
  | none => rw [h1] at hm; simp at hm
  | some p =>
    obtain ⟨src, δ1⟩ := p
    rw [h1] at hm; dsimp only at hm
    by_cases hk0 : gsIn (kpOut vs) src.gs = true
    case neg => rw [if_neg hk0] at hm; cases hm
    rw [if_pos hk0] at hm
    have hk : ∀ p ∈ src.gs, p.1 ∉ vs := fun p hp => by
      have := gsIn_mem hk0 p hp
      simpa [kpOut] using this
    cases h2 : dLcL src.gs vs b mt me src.xs (wipeD δ1 vs) with
    | none => rw [h2] at hm; simp at hm
    | some p2 =>
      obtain ⟨ds, δe⟩ := p2
      rw [h2] at hm
      simp only [Option.some.injEq, Prod.mk.injEq] at hm
      obtain ⟨rfl, rfl⟩ := hm
      refine ⟨δ, o, src, δ1, E, n, h1, fun J H1 o1 ov s1 E1 w1 hov S hlen => fun D hD => ?_⟩
      have n1 := w1.nd n
      have no1 : Nd o1 := (own_right w1).nd n
      obtain ⟨ow, od, Ew, cw, hod, kr⟩ := Envs.rest vs E1 no1
      have nw : Nd ow := fun a => by have := cw a; have := no1 a; omega
      have hlw : (wipeD δ1 vs).length = σ.length := by rw [wipeD_len, ← E1.length]
      -- the heap is so at turn i
      refine ⟨fun i m H' => m + i = src.xs.length ∧ ∃ accV accD oacc δ2 o2 rest, accV.length ≤ i ∧ H' D = some (.lst accV) ∧ Reps κ.K H' accD accV oacc ∧ Envs κ H' (L2.wipe σ vs) δ2 o2 ∧ Step H1 H' ow ∧ Own H1 ow (oacc ++ o2) ∧ D ∉ oacc ++ o2 ∧
        dLcL src.gs vs b mt me (src.xs.drop i) δ2 = some (rest, δe) ∧ accD ++ rest = ds, ⟨src.xs.length, rfl, [], [], [], wipeD δ1 vs, ow, ds, Nat.le_refl _, upd_same, ⟨rfl, rfl⟩, Ew.same (new_same hD), Step.new hD, Own.refl _ _, fun hm => Ew.dom D hm hD, h2, rfl⟩, fun i m H' hW => ?_⟩
      obtain ⟨hmi, accV, accD, oacc, δ2, o2, rest, hacc, hHD, ra, E2, s2, w2, hDn, h3, hds⟩ := hW
      have n2 := w2.nd nw
      have pin : ∀ a ∈ ov, H' a = H1 a := fun a ha => by
        obtain ⟨u, e, how⟩ := hov a ha
        rw [e]
        refine s2.keep a _ e (fun hz => nd_split n1 a ha ?_) how.2
        have h5 : 0 < ow.count a := List.count_pos_iff.mpr hz
        have h6 := cw a
        exact List.count_pos_iff.mp (show 0 < o1.count a by omega)
      have shr : ∀ a u, H1 a = some u → Sh u → H' a = some u := fun a u e hu => s2.keep a u e (fun z => by
        obtain ⟨vs, e2, how⟩ := Ew.own a z
        rw [e] at e2; cases e2; exact how.1 hu) hu.nt
      have gk : gOk src.gs δ2 = true → ∀ p ∈ src.gs, ∃ v o, σ[p.1]? = some (some v) ∧ Rep κ.K H' p.2 v o := fun hg p hp => by
        obtain ⟨v, o, hv, r⟩ := gOk_rep E2 hg p hp
        exact ⟨v, o, by rw [← wipe_get (σ := σ) (hk p hp)]; exact hv, r⟩
      by_cases hi : i < src.xs.length
      · have hx : src.xs[i]? = some src.xs[i] := List.getElem?_eq_getElem hi
        rw [List.drop_eq_getElem_cons hi] at h3
        simp only [dLcL] at h3
        by_cases hg : gOk src.gs δ2 = true
        case neg => rw [if_neg hg] at h3; cases h3
        rw [if_pos hg] at h3
        obtain ⟨go, _⟩ := S i H' pin shr (gk hg)
        obtain ⟨go, yl⟩ := go _ hx
        cases h4 : b src.xs[i] δ2 with
        | none => rw [h4] at h3; simp at h3
        | some δ3 =>
          rw [h4] at h3; dsimp only at h3
          refine .inr ⟨go, fun H6 => ∃ accV accD oacc δ2 o2 rest, accV.length ≤ i + 1 ∧ H6 D = some (.lst accV) ∧ Reps κ.K H6 accD accV oacc ∧ Envs κ H6 (L2.wipe σ vs) δ2 o2 ∧ Step H1 H6 ow ∧ Own H1 ow (oacc ++ o2) ∧ D ∉ oacc ++ o2 ∧
            dLcL src.gs vs b mt me (src.xs.drop (i + 1)) δ2 = some (rest, δe) ∧ accD ++ rest = ds, fun H6 hN => ⟨m - 1, by omega, by omega, hN⟩, fun v H3 hy => ?_⟩
          obtain ⟨sm, rv⟩ := yl v H3 hy
          have s3 : Step H1 H3 ow := s2.same sm
          refine ⟨δ2, o2, src.xs[i], [], δ3, E2.same sm, rv, h4, fun σ3 o3 E3 c3 k3 => ?_⟩
          have c3' : ∀ a, o3.count a ≤ o2.count a := fun a => by have := c3 a; simp only [List.count_nil] at this; omega
          have hw3 : L2.wipe σ3 vs = L2.wipe σ vs := by
            rw [← wipe_wipe σ vs]
            exact wipe_same k3.2 fun j hj => k3.1 j (by simpa [kpOut] using hj)
          refine ⟨hw3, ?_⟩
          have w3 : Own H1 ow (oacc ++ o3) := w2.sub fun a => by rw [List.count_append, List.count_append]; have := c3' a; omega
          have hD3 : D ∉ oacc ++ o3 := fun hm => hDn (by
            rcases List.mem_append.mp hm with z | z
            · exact List.mem_append_left _ z
            · have h5 : 0 < o3.count D := List.count_pos_iff.mpr z
              have h6 := c3' D
              exact List.mem_append_right _ (List.count_pos_iff.mp (show 0 < o2.count D by omega)))
          have n3 : Nd (oacc ++ o3) := w3.nd nw
          have no3 : Nd o3 := fun a => by have := n3 a; rw [List.count_append] at this; omega
          cases h5 : mt δ3 with
          | none => rw [h5] at h3; simp at h3
          | some p5 =>
            obtain ⟨bt, δ4⟩ := p5
            rw [h5] at h3
            refine ⟨δ3, o3, bt, δ4, E3, no3, h5, fun H4 o4 P4 => ?_⟩
            -- what stays through a step of the block
            have stay : ∀ {H5 : Hp} {o5 ov5 : List Addr}, Step H3 H5 o3 → Own H3 o3 (ov5 ++ o5) → (∀ a ∈ ov5 ++ o5, H5 a ≠ none) → H5 D = some (.lst accV) ∧ Reps κ.K H5 accD accV oacc ∧ Step H1 H5 ow ∧ Own H1 ow (oacc ++ (ov5 ++ o5)) ∧ D ∉ oacc ++ (ov5 ++ o5) := fun {H5 o5 ov5} st wt hdom => by
              have hD5 : D ∉ o3 := fun z => hD3 (List.mem_append_right _ z)
              have hHD3 : H3 D = some (.lst accV) := sm _ _ hHD
              have ra3 : Reps κ.K H3 accD accV oacc := ra.same sm
              refine ⟨st.keep D _ hHD3 hD5 (fun _ z => nomatch z), ra3.step st E3.ok (nd_split n3), s3.trans (own_right w3) st, fun a => ?_, fun hm => ?_⟩
              · have g1 := w3 a
                have g2 := wt a
                simp only [List.count_append] at g1 g2 ⊢
                rcases g2 with g2 | ⟨z, g2⟩
                · rcases g1 with g1 | ⟨z1, g1⟩
                  · left; omega
                  · right; exact ⟨z1, by omega⟩
                · have : oacc.count a = 0 := List.count_eq_zero.mpr fun hm => by
                    obtain ⟨vs, e, how⟩ := ra3.own a hm
                    rw [z] at e; cases e
                  right; exact ⟨s3.dom a z, by omega⟩
              · rcases List.mem_append.mp hm with z | z
                · exact hD3 (List.mem_append_left _ z)
                · have g : 0 < (ov5 ++ o5).count D := List.count_pos_iff.mpr z
                  rcases wt D with y | ⟨y, _⟩
                  · exact hD5 (List.count_pos_iff.mp (show 0 < o3.count D by omega))
                  · rw [hHD3] at y; cases y
            cases bt with
            | false =>
              show if false = true then _ else _
              rw [if_neg Bool.false_ne_true]
              dsimp only at h3
              obtain ⟨g1, g2, g3, g4, g5⟩ := stay (ov5 := []) (P4.step.mono Wq_sub) P4.own (fun a ha => P4.env.dom a ha)
              obtain ⟨o6, E6, c6⟩ := P4.env.wipe vs
              rw [hw3] at E6
              refine ⟨accV, accD, oacc, wipeD δ4 vs, o6, rest, by omega, g1, g2, E6, g3, g4.sub fun a => ?_, fun hm => g5 ?_, h3, hds⟩
              · have := c6 a; simp only [List.count_append, List.nil_append]; omega
              · rcases List.mem_append.mp hm with z | z
                · exact List.mem_append_left _ z
                · have h7 : 0 < o6.count D := List.count_pos_iff.mpr z
                  have h8 := c6 D
                  exact List.mem_append_right _ (List.count_pos_iff.mp (show 0 < ([] ++ o4).count D by rw [List.nil_append]; omega))
            | true =>
              show if true = true then _ else _
              rw [if_pos rfl]
              dsimp only at h3
              cases h6 : me δ4 with
              | none => rw [h6] at h3; simp at h3
              | some p6 =>
                obtain ⟨re, δ5⟩ := p6
                rw [h6] at h3
                cases re with
                | «at» _ _ => simp at h3
                | own d =>
                  dsimp only at h3
                  cases h7 : dLcL src.gs vs b mt me (src.xs.drop (i + 1)) (wipeD δ5 vs) with
                  | none => rw [h7] at h3; simp at h3
                  | some p7 =>
                    obtain ⟨rest', δe'⟩ := p7
                    rw [h7] at h3
                    simp only [Option.some.injEq, Prod.mk.injEq] at h3
                    obtain ⟨rfl, rfl⟩ := h3
                    refine T.then_ (qb := qe) no3 P4 h6 fun y H5 o5 oy P5 => ?_
                    obtain ⟨g1, g2, g3, g4, g5⟩ := stay (P5.step.mono Wq_sub) P5.own (fun a ha => (List.mem_append.mp ha).elim (P5.held.dom a) (P5.env.dom a))
                    refine ⟨accV, g1, by omega, ?_⟩
                    obtain ⟨o6, E6, c6⟩ := P5.env.wipe vs
                    rw [hw3] at E6
                    have rep6 := g2.append (Reps.one P5.held)
                    have fr6 : ∀ (l : List Addr), D ∉ l → Fr H5 (upd H5 D (.lst (accV ++ [y]))) l := fun l hl => ⟨fun a ha => upd_ne (fun e => hl (e ▸ ha)), fun a w e hw => by
                      have : a ≠ D := fun z => by rw [z, g1] at e; cases e; exact hw
                      rw [upd_ne this]; exact e, (Step.write (W := [D]) g1 List.mem_cons_self).tab⟩
                    have hDo : D ∉ oacc ++ oy := fun hm => g5 (by
                      rcases List.mem_append.mp hm with z | z
                      · exact List.mem_append_left _ z
                      · exact List.mem_append_right _ (List.mem_append_left _ z))
                    have hD6 : D ∉ o6 := fun z => by
                      have h8 : 0 < o6.count D := List.count_pos_iff.mpr z
                      have h9 := c6 D
                      exact g5 (List.mem_append_right _ (List.mem_append_right _ (List.count_pos_iff.mp (show 0 < o5.count D by omega))))
                    refine ⟨accV ++ [y], accD ++ [d], oacc ++ oy, wipeD δ5 vs, o6, rest', by simp; omega, upd_same, rep6.fr (fr6 _ hDo), E6.fr (fr6 _ hD6), ⟨fun a u e hn hu => ?_, fun a e => ?_, fun P g => (Step.write (W := [D]) g1 List.mem_cons_self).tab P (g3.tab P g)⟩, g4.sub fun a => ?_, fun hm => ?_, h7, by rw [List.append_assoc]; exact hds⟩
                    · have : a ≠ D := fun z => by rw [z, hD] at e; cases e
                      rw [upd_ne this]; exact g3.keep a u e hn hu
                    · by_cases z : a = D
                      · rw [z, upd_same] at e; cases e
                      · rw [upd_ne z] at e; exact g3.dom a e
                    · have := c6 a; simp only [List.count_append]; omega
                    · rcases List.mem_append.mp hm with z | z
                      · exact hDo z
                      · exact hD6 z
      · have hd : src.xs.drop i = [] := List.drop_eq_nil_of_le (by omega)
        rw [hd] at h3
        simp only [dLcL] at h3
        by_cases hg : gOk src.gs δ2 = true
        case neg => rw [if_neg hg] at h3; cases h3
        rw [if_pos hg] at h3
        simp only [Option.some.injEq, Prod.mk.injEq] at h3
        obtain ⟨rfl, rfl⟩ := h3
        rw [List.append_nil] at hds
        subst hds
        obtain ⟨o3, E3, c3⟩ := kr s2 E2
        have sH : Step H H' o := (s1.mono Wq_sub).trans (own_right w1) (s2.mono fun a ha => by
          have h5 : 0 < ow.count a := List.count_pos_iff.mpr ha
          have h6 := cw a
          exact List.count_pos_iff.mp (show 0 < o1.count a by omega))
        refine .inl ⟨(S i H' pin shr (gk hg)).2 (by omega), k _ H' o3 (D :: oacc) ⟨sH, E3, ⟨D, accV, oacc, rfl, hHD, ra, rfl⟩, fun a => ?_⟩⟩
        have g1 := w2 a
        have g2 := c3 a
        have g3 := cw a
        have g4 := w1 a
        simp only [List.count_append] at g1 g4 ⊢
        have g5 : od.count a = 0 ∨ H1 a ≠ none := by
          by_cases z : a ∈ od
          · exact .inr (hod a z)
          · exact .inl (List.count_eq_zero.mpr z)
        by_cases ha : a = D
        · subst ha
          have z1 : oacc.count a = 0 := List.count_eq_zero.mpr fun z => hDn (List.mem_append_left _ z)
          have z2 : o2.count a = 0 := List.count_eq_zero.mpr fun z => hDn (List.mem_append_right _ z)
          have z3 : od.count a = 0 := g5.resolve_right (fun z => z hD)
          rw [List.count_cons_self]
          exact .inr ⟨s1.dom a hD, by omega⟩
        · rw [List.count_cons_of_ne (Ne.symm ha)]
          rcases g1 with g1 | ⟨z, g1⟩
          · rcases g4 with g4 | ⟨z4, g4⟩
            · left; omega
            · right; exact ⟨z4, by omega⟩
          · have z3 : od.count a = 0 := g5.resolve_right (fun y => y z)
            exact .inr ⟨s1.dom a z, by omega⟩
theorem z_lc {scope : Scope} {own : List (Str × Nat)} {pos : Pos} (hc : X.calm = true) (hN : X.N.Nodup) (hi : PI X tg iter (TIm (kx X) q ms)) (ok : BlkOk X.N X.env.scope scope own)
    (hg : ∀ (s : Shared) (H : Hp) (C : Addr) (cl : List (Str × Addr)) (fp : List Addr), PG (X.blk s H scope (compEnvC scope cl C X.env) fp) tg (TGm (kx X) (kpOut (own.map (·.2))) b)) (ht : ∀ (s : Shared) (H : Hp) (C : Addr) (cl : List (Str × Addr)) (fp : List Addr), PTs (X.blk s H scope (compEnvC scope cl C X.env) fp) ifs (TT (kx X) qt mt))
    (he : ∀ (s : Shared) (H : Hp) (C : Addr) (cl : List (Str × Addr)) (fp : List Addr), PE (X.blk s H scope (compEnvC scope cl C X.env) fp) elt (T (kx X) qe me)) (hs : ∀ x, foldedSetIterable iter X.env x = pure x := by intro _; rfl) :
    PE X (.ListComp elt [⟨tg, iter, ifs, 0⟩] scope pos) (T (kx X) false (dLc (own.map (·.2)) ms b mt me)) :=
  PE.imp (pe_lc hc hN hi ok hg ht he hs) fun σ H Q h => t_lc h
/-- name = [..], the name a local -/
theorem z_setLc {i : Nat} {y : Str} {py : Pos} {scope : Scope} {own : List (Str × Nat)} {pos spos : Pos} {kp : Nat → Bool} (hc : X.calm = true) (hN : X.N.Nodup) (hy : X.N[i]? = some y) (hyl : X.env.scope.names.lookup y = some .local) (hk : kp i = false)
    (hsw : swapsWith (.ListComp elt [⟨tg, iter, ifs, 0⟩] scope pos) (some (.Name y py)) spos.line X.env = pure true) (hi : PI X tg iter (TIm (kx X) q ms)) (ok : BlkOk X.N X.env.scope scope own)
    (hg : ∀ (s : Shared) (H : Hp) (C : Addr) (cl : List (Str × Addr)) (fp : List Addr), PG (X.blk s H scope (compEnvC scope cl C X.env) fp) tg (TGm (kx X) (kpOut (own.map (·.2))) b)) (ht : ∀ (s : Shared) (H : Hp) (C : Addr) (cl : List (Str × Addr)) (fp : List Addr), PTs (X.blk s H scope (compEnvC scope cl C X.env) fp) ifs (TT (kx X) qt mt))
    (he : ∀ (s : Shared) (H : Hp) (C : Addr) (cl : List (Str × Addr)) (fp : List Addr), PE (X.blk s H scope (compEnvC scope cl C X.env) fp) elt (T (kx X) qe me)) (hs : ∀ x, foldedSetIterable iter X.env x = pure x := by intro _; rfl) :
    PS X (.Assign [.Name y py] (.ListComp elt [⟨tg, iter, ifs, 0⟩] scope pos) spos) (TSm (kx X) kp (dAsg (bName i) (dLc (own.map (·.2)) ms b mt me))) :=
  PS.imp (ps_setLc hc hN hy hyl hsw hi ok hg ht he hs) fun D' σ H h => t_lc (by
    obtain ⟨δ, o, r, δ1, E, n, h1, k⟩ := t_asg (q := false) h
    exact ⟨δ, o, r, δ1, E, n, h1, fun v H1 o1 ov P => gname_of hk (k v H1 o1 ov P)⟩)
end
end Z


set_option Elab.async false
set_option linter.all false
set_option maxRecDepth 100000
/-! generator expressions: the code object, the frame -/
namespace Z
open PySem PySem.Spec PyProof.Rows L2

/-- the module of built-ins, as a new frame asks it -/
def BMod (base : Heap) (mg : Str → Option Value) : Prop := ∃ (bm : Addr) (ob : Obj), mg "__builtins__" = some (.ref bm) ∧ bm ≠ builtinsNs ∧ base.get? bm = some ob ∧ ob.cls = .type "module" ∧ ob.dict = some builtinsNs ∧ ob.data = .plain
theorem among_snoc {pos q : Pos} {c : Value} (l : List Value) (h : TriplesOk l) : codeAmong q (l ++ [rawInt pos.line, rawInt pos.col, c]) =
    match codeAmong q l with
    | some v => some v
    | none => codeAmong q [rawInt pos.line, rawInt pos.col, c] := by
  fun_induction TriplesOk l with
  | case1 => simp [codeAmong]
  | case2 a t b u x rest ih =>
    simp only [List.cons_append, codeAmong]
    split
    · rfl
    · exact ih h
  | case3 l h1 h2 => exact h.elim
theorem among_one {pos q : Pos} {c v : Value} (h : codeAmong q [rawInt pos.line, rawInt pos.col, c] = some v) : v = c := by
  simp only [codeAmong, rawInt] at h
  split at h
  · exact (Option.some.inj h).symm
  · cases h
/-- a table has a new code: all that was good is good -/
theorem GoodT.grow {H H' : Hp} {P c1 P1 : Addr} {ps : Array Value} {pos : Pos} (hP : H P = some (.tbl ps)) (hP' : H' P = some (.tbl (ps ++ #[rawInt pos.line, rawInt pos.col, .ref c1])))
    (hc : H' c1 = some (.ext fun h => PySem.W.CodeHd h c1 P1)) (h1 : H' P1 = some (.tbl #[])) (keep : ∀ a u, H a = some u → a ≠ P → H' a = some u) {Q : Addr} (g : GoodT H Q) : GoodT H' Q := by
  have new : GoodT H' P1 := .mk P1 #[] (fun _ => 0) (fun _ => 0) h1 trivial (fun pos cv h => by simp [codeAmong] at h) (fun pos cv h => by simp [codeAmong] at h)
  induction g with
  | mk Q qs cf pf e t kk _ ih =>
    have hcf : ∀ q cv, codeAmong q qs.toList = some cv → cv = .ref (cf q) ∧ H' (cf q) = some (.ext fun h => PySem.W.CodeHd h (cf q) (pf q)) := fun q cv h => by
      obtain ⟨h2, h3⟩ := kk q cv h
      refine ⟨h2, keep _ _ h3 fun z => ?_⟩
      rw [z, hP] at h3; cases h3
    by_cases hQ : Q = P
    · subst hQ
      rw [hP] at e; cases e
      have hl : (ps ++ #[rawInt pos.line, rawInt pos.col, Value.ref c1]).toList = ps.toList ++ [rawInt pos.line, rawInt pos.col, .ref c1] := by simp
      refine .mk Q _ (fun q => if (codeAmong q ps.toList).isSome then cf q else c1) (fun q => if (codeAmong q ps.toList).isSome then pf q else P1) hP' (by rw [hl]; exact TriplesOk_snoc _ _ _ _ t) (fun q cv h => ?_) fun q cv h => ?_
      · rw [hl, among_snoc _ t] at h
        cases ha : codeAmong q ps.toList with
        | some v =>
          rw [ha] at h
          dsimp only at h
          cases h
          simp only [Option.isSome_some, if_true]
          exact hcf q _ ha
        | none =>
          rw [ha] at h
          dsimp only at h
          have := among_one h
          subst this
          simp only [Option.isSome_none, Bool.false_eq_true, if_false]
          exact ⟨trivial, hc⟩
      · rw [hl, among_snoc _ t] at h
        cases ha : codeAmong q ps.toList with
        | some v =>
          simp only [Option.isSome_some, if_true]
          exact ih q v ha
        | none =>
          simp only [Option.isSome_none, Bool.false_eq_true, if_false]
          exact new
    · exact .mk Q qs cf pf (keep _ _ e hQ) t hcf ih
section
variable {X : Cx} {pins : List (Addr × Obj)} {σ : L2.St} {H : Hp} {s : Shared}
theorem hd_stable {c P : Addr} : ∀ h1 h2 : Heap, PySem.W.CodeHd h1 c P → (∀ o, h1.get? c = some o → h2.get? c = some o) → PySem.W.CodeHd h2 c P := fun h1 h2 ⟨o, vs, file, tf, flags, tg, inF, text, tt, e, r⟩ k => ⟨o, vs, file, tf, flags, tg, inF, text, tt, k _ e, r⟩
/-- the code object of a generator expression: found, or made -/
theorem gen_code {cc : Addr} {δ : DE} {o : List Addr} {gpos : Pos} {qn : Str} {scope : Scope} {E : Value → Shared → Prop} {Q : Value → Shared → Prop} (hcode : X.env.code = .ref cc) (I : Inv X pins σ H s) (En : Envs (kx X) H σ δ o)
    (hQ : ∀ c' P' H' s', Inv X pins σ H' s' → Step H H' [] → Fr H H' o → (∀ b, H b = none → b < s.heap.objs.size → H' b = none) → H' c' = some (.ext fun h => PySem.W.CodeHd h c' P') → GoodT H' P' → s.heap.objs.size ≤ s'.heap.objs.size → (∀ b o, H b = none → s.heap.get? b = some o → s'.heap.get? b = some o) → Q (.ref c') s') :
    wpAny (model X.prog X.w) X.A (genexprCode X.env gpos qn scope) Q E s := by
  obtain ⟨P, hhd, gP⟩ := En.tabs.2 cc hcode
  have hd : PySem.W.CodeHd s.heap cc P := by
    rcases hhd with z | z
    · exact PySem.W.codeHd_of_K I.kIn z
    · exact (I.hok cc _ z).1
  cases gP with
  | mk _ ps cf pf e t kk gg =>
  have hPs : s.heap.get? P = some { cls := .none, data := .fields ps } := I.hok P _ e
  cases hf : codeAmong gpos ps.toList with
  | some cv =>
    obtain ⟨rfl, hc⟩ := kk _ _ hf
    exact wpAny_genexprCode_hit hcode (hd.code hPs t) hf (hQ _ _ H s I (.refl _ _) .rfl (fun b hb _ => hb) hc (gg _ _ hf) (Nat.le_refl _) fun _ _ _ e => e)
  | none =>
    refine wpAny_genexprCodeX hcode (hd.code hPs t) (hd.tab hPs) hf fun c1 h' tk hx hge hlt hco' _ htab' ⟨P1, hP1, hco1, htab1⟩ => ?_
    have hP1' : h'.get? P1 = some { cls := .none, data := .fields #[] } := htab1.2
    have hcd1 : PySem.W.CodeHd h' c1 P1 := .of hco1 htab1
    have ne1 : c1 ≠ P1 := by
      obtain ⟨_, _, _, _, _, _, _, _, _, _, _, _, _, _, _, _, _, _, z⟩ := hcd1
      exact z
    have nf1 : H c1 = none := I.hok.fresh hge
    have nf2 : H P1 = none := I.hok.fresh hP1
    have nP1 : P ≠ c1 := ne_of_none e nf1
    have nP2 : P ≠ P1 := ne_of_none e nf2
    let H' : Hp := upd (upd (upd H P (.tbl (ps ++ #[rawInt gpos.line, rawInt gpos.col, .ref c1]))) c1 (.ext fun h => PySem.W.CodeHd h c1 P1)) P1 (.tbl #[])
    have eP : H' P = some (.tbl (ps ++ #[rawInt gpos.line, rawInt gpos.col, .ref c1])) := by
      show upd _ _ _ _ = _
      rw [upd_ne nP2, upd_ne nP1, upd_same]
    have ec : H' c1 = some (.ext fun h => PySem.W.CodeHd h c1 P1) := by
      show upd _ _ _ _ = _
      rw [upd_ne ne1, upd_same]
    have e1 : H' P1 = some (.tbl #[]) := upd_same
    have eo : ∀ b, b ≠ P → b ≠ c1 → b ≠ P1 → H' b = H b := fun b n1 n2 n3 => by
      show upd _ _ _ _ = _
      rw [upd_ne n3, upd_ne n2, upd_ne n1]
    have keep : ∀ a u, H a = some u → a ≠ P → H' a = some u := fun a u ea n => by
      rw [eo a n (ne_of_none ea nf1) (ne_of_none ea nf2)]; exact ea
    have old : ∀ b o, s.heap.get? b = some o → b ≠ c1 ∧ b ≠ P1 := fun b o eb => by
      have := Heap.lt_size eb
      exact ⟨fun z => by subst z; exact absurd (Nat.lt_of_lt_of_le this hge) (Nat.lt_irrefl _), fun z => by subst z; exact absurd (Nat.lt_of_lt_of_le this hP1) (Nat.lt_irrefl _)⟩
    have nP : ∀ b u, H b = some u → (∀ qs, u ≠ .tbl qs) → b ≠ P := fun b u eb hn z => by
      rw [z, e] at eb; cases eb; exact hn _ rfl
    have nN : ∀ b, H b = none → b ≠ P := fun b eb z => by rw [z, e] at eb; cases eb
    have un : Un X.fs [] H H' s.heap h' := by
      refine ⟨fun b o eb hb _ _ => hx b o (nN b hb) eb, fun b o eb hb _ _ => ⟨o.slots, hx b o (nN b hb) eb⟩, fun b o eb hb _ => ?_, fun b o eb _ => ?_, fun b xs eb => keep b _ eb (nP b _ eb fun _ z => nomatch z), fun b o u eb => keep b _ eb (nP b _ eb fun _ z => nomatch z), fun b qs eb => ?_⟩
      · rw [eo b (nN b hb) (old b o eb).1 (old b o eb).2]; exact hb
      · by_cases hb : b = P
        · rw [hb]; exact ⟨_, htab'.2⟩
        · exact ⟨o, hx b o hb eb⟩
      · by_cases hb : b = P
        · rw [hb, e] at eb; cases eb
          exact ⟨_, by rw [hb]; exact eP⟩
        · exact ⟨#[], by rw [keep b _ eb hb]; simp⟩
    have hok : HOk X.prog X.w H' h' := fun a u ea => by
      by_cases ha : a = P
      · rw [ha, eP] at ea; cases ea; rw [ha]; exact htab'.2
      · by_cases ha1 : a = c1
        · rw [ha1, ec] at ea; cases ea
          rw [ha1]
          obtain ⟨ob, vs, file, tf, flags, tg, inF, text, tt, eo1, r⟩ := id hcd1
          exact ⟨hcd1, ⟨ob, eo1⟩, hd_stable⟩
        · by_cases ha2 : a = P1
          · rw [ha2, e1] at ea; cases ea; rw [ha2]; exact hP1'
          · rw [eo a ha ha1 ha2] at ea
            refine (I.hok a u ea).stay (fun b v hb eb => hx b v ?_ eb) (fun b eb => keep b _ eb (nP b _ eb fun _ z => nomatch z)) fun b xs eb => keep b _ eb (nP b _ eb fun _ z => nomatch z)
            rcases hb with rfl | hb
            · exact ha
            · exact nP b _ hb fun _ z => nomatch z
    have gr : ∀ Q, GoodT H Q → GoodT H' Q := fun Q g => g.grow e eP ec e1 keep
    refine hQ c1 P1 H' _ (I.un (t' := tk) un hok) ⟨fun a u ea _ hn => keep a u ea (nP a u ea hn), fun a ea => ?_, gr⟩ ⟨fun a ha => ?_, fun a u ea hs => keep a u ea (nP a u ea hs.nt), gr⟩ (fun b hb hl => ?_) ec (.mk P1 #[] (fun _ => 0) (fun _ => 0) e1 trivial (fun _ _ h => by simp [codeAmong] at h) (fun _ _ h => by simp [codeAmong] at h)) (Nat.le_trans hge (Nat.le_of_lt hlt)) fun b o hb eb => hx b o (nN b hb) eb
    · cases q : H a with
      | none => rfl
      | some u =>
        by_cases ha : a = P
        · rw [ha, eP] at ea; cases ea
        · rw [keep a u q ha] at ea; cases ea
    · obtain ⟨vs, ea, how⟩ := En.own a ha
      rw [ea]; exact keep a _ ea (nP a _ ea how.2)
    · rw [eo b (nN b hb) (fun z => by subst z; exact absurd (Nat.lt_of_lt_of_le hl hge) (Nat.lt_irrefl _)) (fun z => by subst z; exact absurd (Nat.lt_of_lt_of_le hl hP1) (Nat.lt_irrefl _))]; exact hb
end
end Z


set_option Elab.async false
set_option linter.all false
set_option maxRecDepth 100000
/-! generator expressions: the generator's own frame -/
namespace Z
open PySem PySem.Spec PyProof.Rows L2

/-- the context of a generator's frame that was made at s -/
abbrev _root_.L2.Cx.gen (X : Cx) (A : Around) (s : Shared) (H : Hp) (scope : Scope) (cenv : Env) (fp : List Addr) : Cx :=
  { X with A := A, s_0 := s, H_0 := H, env := cenv, outer := X.stack, stack := cenv :: X.stack, ex := fp, fn := fun x => scope.names.lookup x == some .cell, pn := [], xe := fun _ _ => False }
theorem newEnv_gen {M : Model} {A : Around} {E : Value → Shared → Prop} {s : Shared} {scope : Scope} {cl : List (Str × Addr)} {env : Env} {it code : Value} {bi : Addr} {Q : Env → Shared → Prop} (hk : scope.kind = .function) (h0 : scope.names.lookup (".0" : Str) = some NameKind.local)
    (hQ : ∀ h' tk, h'.Ns s.heap.objs.size (fun y => if y = ".0" then some it else none) → Heap.SameBut s.heap.objs.size (pushCells (s.heap.push { cls := .type "frame", data := .dict #[] }) scope.names) h' →
      Q (genEnv scope (cellsFrom (s.heap.objs.size + 1) scope.names cl) s.heap.objs.size code bi env) { s with heap := h', toks := tk }) :
    wpAny M A (newFunctionEnv scope env.globals cl [((".0" : Str), it)] (env.qual ++ "<genexpr>.") none code none bi) Q E s := by
  simp only [newFunctionEnv, Option.isSome_none, Bool.false_eq_true, if_false]
  refine wpAny_bind (wpAny_alloc ?_)
  refine wpAny_bind (wpAny_layCells _ (fun name kind cells => by cases hkc : kind == NameKind.cell <;> simp [hkc]) _ _ _ _ ?_)
  rw [show ({ s with heap := s.heap.push { cls := .type "frame", data := .dict #[] } } : Shared).heap.objs.size = s.heap.objs.size + 1 from Heap.size_push ..]
  simp only [List.forIn_cons, List.forIn_nil]
  refine wpAny_bind (wpAny_bind (wpAny_bind (wpAny_storeName_local (m := fun _ => none) h0 ((Heap.Ns.new s.heap (.type "frame")).keeps (pushCells_keeps _ _)) (fun h' hn hs => ?_) (by simp [hk]))))
  exact wpAny_pure (wpAny_pure (wpAny_pure (hQ h' _ hn hs)))
section
variable {X : Cx} {pins : List (Addr × Obj)} {σ : L2.St} {H : Hp} {s : Shared}
theorem gen_start {A : Around} {scope : Scope} {own : List (Str × Nat)} {fp : List Addr} {code : Value} {it : Value} {h' h5 : Heap} {g5 : Array GenState} {t5 : Nat} (I : Inv X pins σ H s) (ok : BlkOk X.N X.env.scope scope own) (hN : X.N.Nodup) (hfp : ∀ b ∈ fp, FpOk X pins H b ∧ b < s.heap.objs.size)
    (hA : A.frames = some (genEnv scope (cellsFrom (s.heap.objs.size + 1) scope.names (cloFrom X.env.cells scope.names [])) s.heap.objs.size code builtinsNs X.env :: X.stack)) (hh : A.handled = none)
    (hn : h'.Ns s.heap.objs.size (fun y => if y = ".0" then some it else none)) (hs : Heap.SameBut s.heap.objs.size (pushCells (s.heap.push { cls := .type "frame", data := .dict #[] }) scope.names) h') (h5k : ∀ b o, h'.get? b = some o → h5.get? b = some o) (hg : AllBare g5) :
    Inv (X.gen A s H scope (genEnv scope (cellsFrom (s.heap.objs.size + 1) scope.names (cloFrom X.env.cells scope.names [])) s.heap.objs.size code builtinsNs X.env) fp) [] (wipe σ (own.map (·.2))) H { s with heap := h5, gens := g5, toks := t5 } := by
  have hfree : ∀ y ∈ scope.names, y.2 = .free → ∃ c, X.env.cells.lookup y.1 = some c := fun y hy e => by
    rcases ok.free y hy e with k | k
    · exact I.ok.has _ (.inl k)
    · exact I.ok.has _ (.inr k)
  generalize hcenv : genEnv scope (cellsFrom (s.heap.objs.size + 1) scope.names (cloFrom X.env.cells scope.names [])) s.heap.objs.size code builtinsNs X.env = cenv at *
  have hlc : ∀ b o, b ≠ s.heap.objs.size → (pushCells (s.heap.push { cls := .type "frame", data := .dict #[] }) scope.names).get? b = some o → h5.get? b = some o := fun b o hb e => h5k b o (hs.extBut b o hb e)
  have kp : ∀ b o, s.heap.get? b = some o → h5.get? b = some o := fun b o e => hlc b o (Nat.ne_of_lt (Heap.lt_size e)) (pushCells_keeps _ _ _ _ (Heap.get?_push_of_some _ e))
  have hL : cenv.locals = s.heap.objs.size := by rw [← hcenv]; rfl
  have hcl : cenv.cells = cellsFrom (s.heap.objs.size + 1) scope.names (cloFrom X.env.cells scope.names []) := by rw [← hcenv]; rfl
  have hsc : cenv.scope = scope := by rw [← hcenv]; rfl
  rw [← Heap.size_push s.heap { cls := .type "frame", data := .dict #[] }] at hcl
  have cm : ∀ {y c}, (y, c) ∈ cloFrom X.env.cells scope.names [] → X.env.cells.lookup y = some c ∧ c < s.heap.objs.size := fun {y c} hm => by
    rcases cloFrom_mem hm with hm | ⟨h1, rfl⟩
    · cases hm
    · obtain ⟨c, hc⟩ := hfree _ h1 rfl
      rw [hc]
      obtain ⟨w, z⟩ := I.cell _ _ hc
      exact ⟨rfl, z.lt⟩
  have mem : ∀ {y c}, cenv.cells.lookup y = some c → (X.env.cells.lookup y = some c ∧ c < s.heap.objs.size) ∨ (s.heap.objs.size + 1 ≤ c ∧ CellAt h5 c none) := fun {y c} e => by
    rw [hcl] at e
    rcases cells_mem (PySem.mem_of_lookup e) with hm | ⟨_, h2, o, h3, h4⟩
    · exact .inl (cm hm)
    · rw [Heap.size_push] at h2
      exact .inr ⟨h2, o, hlc c o (Nat.ne_of_gt h2) h3, h4⟩
  have look : ∀ {y}, scope.names.lookup y = some .free → ∃ c, cenv.cells.lookup y = some c ∧ X.env.cells.lookup y = some c := fun {y} hl => by
    have hy : (y, NameKind.free) ∈ scope.names := PySem.mem_of_lookup hl
    obtain ⟨c', e'⟩ := mem_lookup (cells_acc (names := scope.names) (n := (s.heap.push { cls := .type "frame", data := .dict #[] }).objs.size) (cloFrom_has (cells := X.env.cells) (acc := []) hy))
    rw [← hcl] at e'
    refine ⟨c', e', ?_⟩
    rw [hcl] at e'
    rcases cells_mem (PySem.mem_of_lookup e') with hm | ⟨h1, _, _⟩
    · exact (cm hm).1
    · have := ok.uniq _ h1
      rw [hl] at this; cases this
  have okB : (X.gen A s H scope cenv fp).Ok := by
    refine ⟨I.ok.mod, by show cenv.scope.kind = _; rw [hsc]; exact ok.kind, by show cenv.globals = _; rw [← hcenv]; exact I.ok.glob, by show cenv.builtins = _; rw [← hcenv]; rfl, by show s.heap.objs.size ≤ cenv.locals; rw [hL]; exact Nat.le_refl _,
      fun y z c e1 e2 => ?_, fun y hy => ?_, fun y c z e => ?_, fun _ => hh, hA, .inr ⟨rfl, by show cenv.frame = some cenv.locals; rw [← hcenv]; rfl⟩, fun b hb => ⟨?_, fun y c e z => ?_⟩, I.bs, Nat.le_trans I.ok.bsz I.sz, fun b o e hb => ?_, fun b hb z => ?_, I.stack, I.stkFree⟩
    · have e1 : cenv.cells.lookup y = some c := e1
      have e2 : cenv.cells.lookup z = some c := e2
      rw [hcl] at e1 e2
      refine cells_inj (fun p hp => ?_) (fun y z c a b => I.ok.inj y z c (cm a).1 (cm b).1) (PySem.mem_of_lookup e1) (PySem.mem_of_lookup e2)
      rw [Heap.size_push]
      exact Nat.lt_succ_of_lt (cm (y := p.1) (c := p.2) hp).2
    · show ∃ c, cenv.cells.lookup y = some c
      have hy : cenv.scope.names.lookup y = some .cell ∨ cenv.scope.names.lookup y = some .free := hy
      rw [hsc] at hy
      rcases hy with e | e
      · obtain ⟨c, hm⟩ := cells_has (n := (s.heap.push { cls := .type "frame", data := .dict #[] }).objs.size) (acc := cloFrom X.env.cells scope.names []) (PySem.mem_of_lookup e)
        obtain ⟨c', e'⟩ := mem_lookup hm
        exact ⟨c', by rw [hcl]; exact e'⟩
      · obtain ⟨c, h1, _⟩ := look e
        exact ⟨c, h1⟩
    · have z : (scope.names.lookup y == some NameKind.cell) = true := z
      have z : scope.names.lookup y = some .cell := by simpa using z
      have e : cenv.cells.lookup y = some c := e
      rw [hcl] at e
      rcases cells_mem (PySem.mem_of_lookup e) with hm | ⟨_, h2, _⟩
      · rcases cloFrom_mem hm with hm | ⟨h1, _⟩
        · cases hm
        · have q := ok.uniq _ h1
          rw [z] at q; cases q
      · rw [Heap.size_push] at h2
        exact Nat.le_of_succ_le h2
    · show b ≠ cenv.locals
      rw [hL]; exact Nat.ne_of_lt (hfp b hb).2
    · have e : cenv.cells.lookup y = some c := e
      rcases mem e with ⟨h1, _⟩ | ⟨h1, _⟩
      · exact (hfp b hb).1.2.2.2.2.1 y c h1 z
      · have h2 : s.heap.objs.size + 1 ≤ b := by rw [← z]; exact h1
        exact absurd (Nat.lt_of_lt_of_le (hfp b hb).2 (Nat.le_of_succ_le h2)) (Nat.lt_irrefl _)
    · rcases (hfp b hb).1.2.2.2.1 with z | z
      · exact I.ok.noex b o e z
      · exact absurd (Nat.lt_of_lt_of_le (Heap.lt_size e) (Nat.le_trans I.ok.bsz z)) (Nat.lt_irrefl _)
    · rcases List.mem_cons.mp (I.stkSub b z) with z | z
      · exact (hfp b hb).1.2.1 z
      · exact (hfp b hb).1.2.2.1 z
  refine ⟨okB, rfl, hg, Un.kept kp, ⟨(fun y => if y = ".0" then some it else none), ?_, fun i y av e1 e2 e3 => ?_⟩, fun y c e => ?_, ?_, fun y c e => ?_, fun p hp => ?_, I.hok.kept kp, by rw [wipe_length]; exact I.len⟩
  · show Heap.Ns _ cenv.locals _
    rw [hL]
    exact hn.keeps h5k
  · obtain ⟨e2, hne⟩ := wipe_some e2
    have e3 : Vis cenv.scope y := e3
    rw [hsc] at e3
    have hfr : scope.names.lookup y = some .free := by
      have no : ∀ k, scope.names.lookup y = some k → ¬ (k = .local ∨ k = .cell) := fun k e hh => by
        rcases ok.own _ (PySem.mem_of_lookup e) hh with e' | e'
        · obtain ⟨p, hp, hpy⟩ := List.mem_map.mp e'
          have e3 := ok.ix p hp
          have : p.1 = y := hpy
          rw [this] at e3
          exact hne (List.mem_map.mpr ⟨p, hp, nodup_ix hN e3 e1⟩)
        · exact e' (List.mem_of_getElem? e1)
      rcases e3 with e3 | e3 | e3
      · exact absurd (.inl rfl) (no _ e3)
      · exact absurd (.inr rfl) (no _ e3)
      · exact e3
    obtain ⟨m, hnm, hl⟩ := I.loc
    have hvis : Vis X.env.scope y := (ok.free _ (PySem.mem_of_lookup hfr) rfl).elim (fun k => .inr (.inl k)) (fun k => .inr (.inr k))
    obtain ⟨w, r, q⟩ := hl i y av e1 e2 hvis
    refine ⟨w, r, .inr ⟨.inr (by show cenv.scope.names.lookup y = _; rw [hsc]; exact hfr), ?_⟩⟩
    obtain ⟨c, h1, h2⟩ := look hfr
    rcases q with ⟨k, _⟩ | ⟨_, c', e', z⟩
    · have k : X.env.scope.names.lookup y = some .local := k
      rcases ok.free _ (PySem.mem_of_lookup hfr) rfl with k' | k' <;> rw [show X.env.scope.names.lookup y = _ from k'] at k <;> cases k
    · rw [h2] at e'; cases e'
      exact ⟨c, h1, z.keeps kp⟩
  · have e : cenv.cells.lookup y = some c := e
    rcases mem e with ⟨h1, _⟩ | ⟨_, z⟩
    · obtain ⟨w, z⟩ := I.cell y c h1
      exact ⟨w, z.keeps kp⟩
    · exact ⟨_, z⟩
  · show H cenv.locals = none
    rw [hL]; exact I.hok.fresh (Nat.le_refl _)
  · have e : cenv.cells.lookup y = some c := e
    rcases mem e with ⟨h1, _⟩ | ⟨h1, _⟩
    · exact I.freeC y c h1
    · exact I.hok.fresh (Nat.le_of_succ_le h1)
  · exact absurd (show p ∈ ([] : List (Addr × Obj)) ++ [] from hp) (by simp)
theorem over_gen {A : Around} {elt : Expr} {gs : List Comprehension} {scope : Scope} {pos : Pos} {it acc : Value} {cenv : Env} : A.over (.compLoop (.GeneratorExp elt gs scope pos) 0 it acc cenv) [] = A.deeper cenv := by rfl
end
end Z


set_option Elab.async false
set_option linter.all false
set_option maxRecDepth 100000
/-! generator expressions: the turns -/
namespace Z
open PySem PySem.Spec PyProof.Rows L2

/-- what one item of the walked thing gives: nothing told, nothing handed out, or a datum -/
def gx (vs : List Nat) (b : Bnd) (mt : DenT) (me : Den) (δw : DE) (x : D) : Option (Option D) := match b x δw with
  | some δ3 => match mt δ3 with
    | some (false, δ4) => if wipeD δ4 vs = δw then some none else none
    | some (true, δ4) => match me δ4 with
      | some (.own d, δ5) => if wipeD δ5 vs = δw ∧ d.imm = true then some (some d) else none
      | _ => none
    | none => none
  | none => none
/-- what is handed out, up to the first that ends the walk -/
def dG (stop : D → Bool) (f : D → Option (Option D)) : List D → Option (List D)
  | [] => some []
  | x :: xs => match f x with
    | none => none
    | some none => dG stop f xs
    | some (some d) => if stop d then some [d] else match dG stop f xs with
      | some r => some (d :: r)
      | none => none
theorem Envs.cv {κ : Kx} {cv : Value} {H : Hp} : ∀ {σ : List (Option V)} {δ : DE} {o : List Addr}, Envs κ H σ δ o → CodeNow κ.K cv H → Envs ⟨κ.K, cv⟩ H σ δ o
  | [], [], _, h, c => ⟨h.1, h.2.1, c⟩
  | none :: σ, none :: δ, _, h, c => Envs.cv (σ := σ) (δ := δ) h c
  | some _ :: σ, none :: δ, _, h, c => Envs.cv (σ := σ) (δ := δ) h c
  | some v :: σ, some d :: δ, _, h, c => by
    obtain ⟨o1, o2, h1, h2, e⟩ := h
    exact ⟨o1, o2, h1, Envs.cv h2 c, e⟩
  | none :: σ, some d :: δ, _, h, _ => h.elim
  | [], _ :: _, _, h, _ => by simp [Envs] at h
  | _ :: _, [], _, h, _ => by simp [Envs] at h
theorem rest_wipe (δ : DE) : ∀ vs : List Nat, restD δ (wipeD δ vs) vs = δ
  | [] => rfl
  | v :: vs => by
    show restD δ (((wipeD δ vs).set v none).set v (match (wipeD δ vs)[v]? with | some x => x | none => none)) vs = δ
    rw [List.set_set]
    have : (wipeD δ vs).set v (match (wipeD δ vs)[v]? with | some x => x | none => none) = wipeD δ vs := by
      by_cases hl : v < (wipeD δ vs).length
      · rw [List.getElem?_eq_getElem hl]; exact List.set_getElem_self hl
      · exact List.set_eq_of_length_le (by omega)
    rw [this]
    exact rest_wipe δ vs
theorem pinsAt_eq {L : List Addr} {h h' : Heap} (k : ∀ b ∈ L, ∃ o, h.get? b = some o ∧ h'.get? b = some o) : pinsAt L h' = pinsAt L h := by
  unfold pinsAt
  induction L with
  | nil => rfl
  | cons b L ih =>
    obtain ⟨o, e1, e2⟩ := k b List.mem_cons_self
    rw [List.filterMap_cons, List.filterMap_cons, e1, e2, ih fun b hb => k b (List.mem_cons_of_mem _ hb)]
theorem _root_.L2.Inv.gens {X : Cx} {pins : List (Addr × Obj)} {σ : L2.St} {H : Hp} {s : Shared} (I : Inv X pins σ H s) {g : Array GenState} (h : AllBare g) : Inv X pins σ H { s with gens := g } :=
  ⟨I.ok, I.os, h, I.base, I.loc, I.cell, I.free, I.freeC, I.pin, I.hok, I.len⟩

/-- the consumer's lists hold these data -/
def Keeps (K : Fw) (S : List Addr) (gd : List D) (H : Hp) (s : Shared) : Prop := ∀ b ∈ S, ∃ acc c gv, s.heap.get? b = some (lstObj acc c) ∧ Vals gv acc.toList ∧ Reps K H gd gv [] ∧ H b = none
/-- a generator's turn i is due: its frame's context, the names and data that it has, what is pinned -/
structure GInv (Xg : Cx) (σw : L2.St) (δw : DE) (fp : List Addr) (tn : Nat → Heap → Prop) (H1 : Hp) (ow : List Addr) (L : List Addr) (S : List Addr) (gd : List D) (pins : List (Addr × Obj)) (i : Nat) (H : Hp) (s : Shared) : Prop where
  inv : Inv Xg pins σw H s
  trn : tn i s.heap
  nof : ∀ b ∈ fp, H b = none
  env : ∃ o', Envs (kx Xg) H σw δw o' ∧ Own H1 ow o'
  step : Step H1 H ow
  live : ∀ b ∈ L, ∃ o, s.heap.get? b = some o
  apart : ∀ p ∈ pins, p.1 ∉ fp
  held : Keeps Xg.F S gd H s
/-- at the end -/
structure GEnd (Xg : Cx) (σw : L2.St) (δw : DE) (H1 : Hp) (ow : List Addr) (S : List Addr) (gd : List D) (pins : List (Addr × Obj)) (H : Hp) (s : Shared) : Prop where
  inv : Inv Xg pins σw H s
  env : ∃ o', Envs (kx Xg) H σw δw o' ∧ Own H1 ow o'
  step : Step H1 H ow
  held : Keeps Xg.F S gd H s
theorem GInv.fin {Xg : Cx} {σw : L2.St} {δw : DE} {fp : List Addr} {tn : Nat → Heap → Prop} {H1 : Hp} {ow L S : List Addr} {gd : List D} {pins : List (Addr × Obj)} {i : Nat} {H : Hp} {s : Shared} (G : GInv Xg σw δw fp tn H1 ow L S gd pins i H s) : GEnd Xg σw δw H1 ow S gd pins H s := ⟨G.inv, G.env, G.step, G.held⟩
def GPr (Xg : Cx) (σw : L2.St) (δw : DE) (H1 : Hp) (ow : List Addr) (L S : List Addr) (cd : Nat → List D) (R0 : List D) : Nat → Shared → Shared → Prop := fun n s₀ s => n = 1 ∧ ∃ H, GEnd Xg σw δw H1 ow S (cd R0.length) (pinsAt L s₀.heap) H s
section
variable {Xg : Cx} {σ : L2.St} {δw : DE} {fp : List Addr} {tn : Nat → Heap → Prop} {H1 : Hp} {ow L Sc vs : List Addr} {cd : Nat → List D} {stop : D → Bool} {R0 : List D} {Ac : Around} {cenv : Env} {elt tg iter : Expr} {ifs : List Expr} {scope : Scope} {pos : Pos} {it : Addr} {J : It} {xs : List D} {b : Bnd} {mt : DenT} {me : Den} {qt qe : Bool}
end
end Z


set_option Elab.async false
set_option linter.all false
set_option maxRecDepth 100000
/-! generator expressions: begun, asked for the next item, made -/
namespace Z
open PySem PySem.Spec PyProof.Rows L2

section
variable {Xg : Cx} {σw : L2.St} {δw : DE} {fp : List Addr} {tn : Nat → Heap → Prop} {H1 : Hp} {ow L Sc vs : List Addr} {cd : Nat → List D} {gd : List D} {stop : D → Bool} {R0 : List D}
theorem GInv.gens {pins : List (Addr × Obj)} {i : Nat} {H : Hp} {s : Shared} (G : GInv Xg σw δw fp tn H1 ow L Sc gd pins i H s) {g : Array GenState} (h : AllBare g) : GInv Xg σw δw fp tn H1 ow L Sc gd pins i H { s with gens := g } :=
  ⟨G.inv.gens h, G.trn, G.nof, G.env, G.step, G.live, G.apart, G.held⟩
theorem GInv.pin {i : Nat} {H : Hp} {s₀ s : Shared} (G : GInv Xg σw δw fp tn H1 ow L Sc gd (pinsAt L s₀.heap) i H s) (hL : ∀ b ∈ L, ∃ o, s₀.heap.get? b = some o) : pinsAt L s.heap = pinsAt L s₀.heap := pinsAt_eq fun b hb => by
  obtain ⟨o, e⟩ := hL b hb
  exact ⟨o, e, (G.inv.pin (b, o) (List.mem_append_right _ (mem_pinsAt hb e))).1⟩
theorem GInv.at {i : Nat} {H : Hp} {s₀ s : Shared} {b : Addr} {o : Obj} (G : GInv Xg σw δw fp tn H1 ow L Sc gd (pinsAt L s₀.heap) i H s) (hb : b ∈ L) (e : s₀.heap.get? b = some o) : s.heap.get? b = some o := (G.inv.pin (b, o) (List.mem_append_right _ (mem_pinsAt hb e))).1
theorem GEnd.at {H : Hp} {s₀ s : Shared} {b : Addr} {o : Obj} (G : GEnd Xg σw δw H1 ow Sc gd (pinsAt L s₀.heap) H s) (hb : b ∈ L) (e : s₀.heap.get? b = some o) : s.heap.get? b = some o := (G.inv.pin (b, o) (List.mem_append_right _ (mem_pinsAt hb e))).1
end
section
variable {Xg : Cx} {σ : L2.St} {δw : DE} {fp : List Addr} {tn : Nat → Heap → Prop} {H1 : Hp} {ow L Sc vs : List Addr} {cd : Nat → List D} {stop : D → Bool} {R0 : List D} {Ac : Around} {cenv : Env} {elt tg iter : Expr} {ifs : List Expr} {scope : Scope} {pos : Pos} {it : Addr} {J : It} {xs : List D} {b : Bnd} {mt : DenT} {me : Den} {qt qe : Bool}
end
end Z


set_option Elab.async false
set_option linter.all false
set_option maxRecDepth 100000
/-! generator expressions: what a consumer sees of one -/
namespace Z
open PySem PySem.Spec PyProof.Rows L2

/-- back in the def's context -/
structure Back (X : Cx) (pins : List (Addr × Obj)) (σ : L2.St) (δ : DE) (o : List Addr) (Hx : Hp) (H : Hp) (s : Shared) : Prop where
  inv : Inv X pins σ H s
  env : ∃ o', Envs (kx X) H σ δ o' ∧ Own Hx o o'
  step : Step Hx H o
/-- the consumer has changed its own objects S, or made new ones -/
structure Chg (S : List Addr) (s s' : Shared) : Prop where
  os : s'.os = s.os
  gens : s'.gens = s.gens
  keep : ∀ b o, b ∉ S → s.heap.get? b = some o → s'.heap.get? b = some o
  own : ∀ b ∈ S, ∃ o, s'.heap.get? b = some o ∧ ∀ v, o.data ≠ .cell v
theorem Chg.refl {S : List Addr} {s : Shared} (h : ∀ b ∈ S, ∃ o, s.heap.get? b = some o ∧ ∀ v, o.data ≠ .cell v) : Chg S s s := ⟨rfl, rfl, fun _ _ _ e => e, h⟩
/-- the consumer's objects stay -/
def Sk (S : List Addr) (s s' : Shared) : Prop := ∀ b ∈ S, ∀ o, s.heap.get? b = some o → s'.heap.get? b = some o
/-- the generator a, of which r is still to come; cd: what the consumer's lists hold when it asks for the j-th -/
def GSt (X : Cx) (pins : List (Addr × Obj)) (σ : L2.St) (δ : DE) (o : List Addr) (Hx : Hp) (A : Around) (a : Addr) (stop : D → Bool) (S : List Addr) (cd : Nat → List D) : Nat → List D → Hp → Shared → Prop
  | j, [], H, s => Back X pins σ δ o Hx H s ∧ s.TypeIs (.ref a) "generator" ∧ ∀ (s'' : Shared) (E : Value → Shared → Prop) (Q : Option Value → Shared → Prop), Chg S s s'' → Keeps X.F S (cd j) H s'' →
      (∀ s' H', Back X pins σ δ o Hx H' s' → Sk S s'' s' → Keeps X.F S (cd j) H' s' → Q none s') → wpAny (model X.prog X.w) A (pyNext (.ref a)) Q E s''
  | j, d :: r, H, s => Back X pins σ δ o Hx H s ∧ s.TypeIs (.ref a) "generator" ∧ ∀ (s'' : Shared) (E : Value → Shared → Prop) (Q : Option Value → Shared → Prop), Chg S s s'' → Keeps X.F S (cd j) H s'' →
      (∀ v x s' H', RelV x v → Rep X.F H' d x [] → Back X pins σ δ o Hx H' s' → Sk S s'' s' → Keeps X.F S (cd j) H' s' → (stop d = false → GSt X pins σ δ o Hx A a stop S cd (j + 1) r H' s') → Q (some v) s') → wpAny (model X.prog X.w) A (pyNext (.ref a)) Q E s''
theorem GSt.back {X : Cx} {pins : List (Addr × Obj)} {σ : L2.St} {δ : DE} {o : List Addr} {Hx : Hp} {A : Around} {a : Addr} {stop : D → Bool} {S : List Addr} {cd : Nat → List D} {j : Nat} {r : List D} {H : Hp} {s : Shared} (h : GSt X pins σ δ o Hx A a stop S cd j r H s) : Back X pins σ δ o Hx H s := by
  cases r with
  | nil => exact h.1
  | cons d r => exact h.1
theorem GSt.ty {X : Cx} {pins : List (Addr × Obj)} {σ : L2.St} {δ : DE} {o : List Addr} {Hx : Hp} {A : Around} {a : Addr} {stop : D → Bool} {S : List Addr} {cd : Nat → List D} {j : Nat} {r : List D} {H : Hp} {s : Shared} (h : GSt X pins σ δ o Hx A a stop S cd j r H s) : s.TypeIs (.ref a) "generator" := by
  cases r with
  | nil => exact h.2.1
  | cons d r => exact h.2.1
theorem Chg.trans {S : List Addr} {s s' s'' : Shared} (h : Chg S s s') (k : Chg S s' s'') : Chg S s s'' := ⟨k.os.trans h.os, k.gens.trans h.gens, fun b o hb e => k.keep b o hb (h.keep b o hb e), k.own⟩
/-- the consumer has done something meanwhile -/
theorem GSt.chg {X : Cx} {pins : List (Addr × Obj)} {σ : L2.St} {δ : DE} {o : List Addr} {Hx : Hp} {A : Around} {a : Addr} {stop : D → Bool} {S : List Addr} {cd : Nat → List D} {j : Nat} {r : List D} {H : Hp} {s s2 : Shared} (h : GSt X pins σ δ o Hx A a stop S cd j r H s) (c : Chg S s s2) (B : Back X pins σ δ o Hx H s2) (t : s2.TypeIs (.ref a) "generator") : GSt X pins σ δ o Hx A a stop S cd j r H s2 := by
  cases r with
  | nil => exact ⟨B, t, fun s'' E Q k => h.2.2 s'' E Q (c.trans k)⟩
  | cons d r => exact ⟨B, t, fun s'' E Q k => h.2.2 s'' E Q (c.trans k)⟩
section
variable {X : Cx} {pins : List (Addr × Obj)} {σ : L2.St} {δ1 : DE} {o1 ow od : List Addr} {Hx : Hp} {sB : Shared} {vs : List Nat} {scope : Scope} {cenv : Env} {fp : List Addr} {tn : Nat → Heap → Prop} {stop : D → Bool} {S : List Addr} {cd : Nat → List D} {gd : List D} {A Ag : Around} {a g : Addr}
theorem back_of (IB : Inv X pins σ Hx sB) (hfp : ∀ b ∈ fp, FpOk X pins Hx b) (En : Envs (kx X) Hx σ δ1 o1) (cw : ∀ a, ow.count a + od.count a ≤ o1.count a) (hod : ∀ a ∈ od, Hx a ≠ none) (hok : ∀ a ∈ ow, ∃ u, Hx a = some u ∧ ¬ Sh u)
    (kr : ∀ {H2 : Hp} {δ2 : DE} {o2 : List Addr}, Step Hx H2 ow → Envs (kx X) H2 (L2.wipe σ vs) δ2 o2 → ∃ o3, Envs (kx X) H2 σ (restD δ1 δ2 vs) o3 ∧ ∀ a, o3.count a ≤ o2.count a + od.count a) {pg : List (Addr × Obj)} {H : Hp} {s : Shared}
    (G : GEnd (X.gen Ag sB Hx scope cenv fp) (L2.wipe σ vs) (wipeD δ1 vs) Hx ow S gd pg H s) : Back X pins σ δ1 o1 Hx H s := by
  obtain ⟨I, ⟨o', E', w'⟩, st, _⟩ := G
  refine ⟨IB.call' (ch := fp) I.os I.base I.hok I.bare fun b hb => ⟨(hfp b hb).2.2.2.1, (hfp b hb).2.1, (hfp b hb).2.2.2.2.1, (hfp b hb).2.2.2.2.2⟩, ?_, st.mono fun a ha => ?_⟩
  · have E2 : Envs (kx X) H (L2.wipe σ vs) (wipeD δ1 vs) o' := Envs.cv (cv := X.env.code) E' (En.tabs.step st hok).2
    obtain ⟨o3, E3, c3⟩ := kr st E2
    rw [rest_wipe] at E3
    refine ⟨o3, E3, fun a => ?_⟩
    have h1 := c3 a
    have h2 := cw a
    rcases w' a with w | ⟨z, w⟩
    · left; omega
    · have : od.count a = 0 := List.count_eq_zero.mpr fun hm => hod a hm z
      right; exact ⟨z, by omega⟩
  · have h1 : 0 < ow.count a := List.count_pos_iff.mpr ha
    have h2 := cw a
    exact List.count_pos_iff.mp (show 0 < o1.count a by omega)
end
end Z


set_option Elab.async false
set_option linter.all false
set_option maxRecDepth 100000
/-! generator expressions: made -/
namespace Z
open PySem PySem.Spec PyProof.Rows L2

theorem inv_same {X : Cx} {pins : List (Addr × Obj)} {σ : L2.St} {H : Hp} {s s' : Shared} (I : Inv X pins σ H s) (h : s'.heap = s.heap) (g : s'.gens = s.gens) (o : s'.os = s.os) : Inv X pins σ H s' := by
  obtain ⟨h', g', d', t', o'⟩ := s'
  obtain ⟨h0, g0, d0, t0, o0⟩ := s
  cases h; cases g; cases o
  exact ⟨I.ok, I.os, I.bare, I.base, I.loc, I.cell, I.free, I.freeC, I.pin, I.hok, I.len⟩
/-- the generator expression's scope -/
structure GSc (scope : Scope) : Prop where
  co : scope.isCoroutine = false
  dot : scope.names.lookup (".0" : Str) = some NameKind.local
/-- the generator that stands at a may be walked -/
def GMk (X : Cx) (pins : List (Addr × Obj)) (σ : L2.St) (δ1 : DE) (o1 : List Addr) (Hx : Hp) (k : Nat) (a : Addr) (stop : D → Bool) (R0 : List D) (s5 : Shared) : Prop :=
  s5.TypeIs (.ref a) "generator" ∧ a < s5.heap.objs.size ∧ Back X pins σ δ1 o1 Hx Hx s5 ∧ ∀ (A : Around) (S : List Addr) (cd : Nat → List D) (s6 : Shared), A.handled = none → A.depth < recursionLimit → (∀ e, Room k (A.in1.deeper e)) → A.frames = some X.stack → (∀ b ∈ S, s5.heap.objs.size ≤ b) → Chg S s5 s6 → Keeps X.F S (cd 0) Hx s6 → GSt X pins σ δ1 o1 Hx A a stop S cd 0 R0 Hx s6
section
variable {X : Cx} {pins : List (Addr × Obj)} {σ : L2.St} {H : Hp} {s : Shared} {elt tg iter : Expr} {ifs : List Expr} {scope : Scope} {own : List (Str × Nat)} {pos : Pos} {ms : DenS} {b : Bnd} {mt : DenT} {me : Den} {q qt qe : Bool} {k : Nat} {stop : D → Bool}
end
end Z


set_option Elab.async false
set_option linter.all false
set_option maxRecDepth 100000
/-! all, any of a generator expression -/
namespace Z
open PySem PySem.Spec PyProof.Rows L2

/-- a plain value's truth -/
def truthS : D → Option Bool
  | .non => some false
  | .bl b => some b
  | .int i => some (i != 0)
  | .str x => some ((x.length : Int) != 0)
  | _ => none
def allT : List D → Option Bool
  | [] => some true
  | d :: r => match truthS d with
    | some true => allT r
    | x => x
def stopAll (d : D) : Bool := match truthS d with | some true => false | _ => true
def dFold (f : List D → Option D) (m : DE → Option (List D × DE)) : Den := fun δ => match m δ with
  | some (r, δ1) => match f r with
    | some d => some (.own d, δ1)
    | none => none
  | none => none
def fAll (r : List D) : Option D := (allT r).map .bl
theorem truth_s {M : Program} {w : World} {A : Around} {K : Fw} {H : Hp} {d : D} {x : V} {v : Value} {o : List Addr} {b : Bool} {s : Shared} {E : Value → Shared → Prop} {Q : Bool → Shared → Prop} (h : truthS d = some b) (r : Rep K H d x o) (rx : RelV x v) (hQ : ∀ tk, Q b { s with toks := tk }) : wpAny (model M w) A (truthy v) Q E s := by
  cases d <;> simp only [truthS, reduceCtorEq, Option.some.injEq] at h
  · obtain ⟨rfl, _⟩ := r
    obtain rfl : v = Value.none := rx
    subst h
    exact truthy_none (hQ s.toks)
  · obtain ⟨rfl, _⟩ := r
    obtain rfl : v = Value.bool _ := rx
    subst h
    exact wpAny_truthy_bool (hQ s.toks)
  · obtain ⟨rfl, _⟩ := r
    obtain ⟨t, rfl⟩ := (show ∃ t, v = Value.int _ t from rx)
    subst h
    exact P.truthy_int (hQ s.toks)
  · obtain ⟨rfl, hz, _⟩ := r
    obtain ⟨t, rfl⟩ := (show ∃ t, v = Value.str _ t from rx)
    subst h
    exact P.truthy_str (by have := hz.1; have h2 : sizeLine < 2 ^ 63 := by decide
                           omega) (hQ _)
theorem iter_gen {M : Program} {w : World} {A : Around} {a : Addr} {s : Shared} {E : Value → Shared → Prop} {Q : Value → Shared → Prop} (ty : s.TypeIs (.ref a) "generator") (h : Q (.ref a) s) : wpAny (model M w) A (pyIter (.ref a)) Q E s := by
  refine wpAny_pyIter_slot ty slot_gen_iter (wpAny_call_entry slot_gen_iter ty entry_gen_iter ?_ (args_gen_iter _))
  show wpAny _ _ (ret (.ref a)) _ _ s
  exact wpAny_pure ⟨_, rfl, "generator", _, ty, slot_gen_next.lookup, h⟩
section
variable {X : Cx} {pins : List (Addr × Obj)} {σ : L2.St} {δ : DE} {o : List Addr} {Hx : Hp} {A : Around} {a : Addr}
theorem Back.tok {H : Hp} {s : Shared} (B : Back X pins σ δ o Hx H s) (t : Nat) : Back X pins σ δ o Hx H { s with toks := t } := ⟨B.inv.tok t, B.env, B.step⟩
theorem chg_tok {s : Shared} (t : Nat) : Chg [] s { s with toks := t } := ⟨rfl, rfl, fun _ _ _ e => e, fun b hb => nomatch hb⟩
theorem keeps_none {K : Fw} {gd : List D} {H : Hp} {s : Shared} : Keeps K [] gd H s := fun b hb => nomatch hb
theorem all_loop {cd : Nat → List D} {R : Result → Shared → Prop} {bo : Bool} : ∀ (r : List D) (j : Nat) (H : Hp) (s : Shared), GSt X pins σ δ o Hx A.in1 a stopAll [] cd j r H s → allT r = some bo → (∀ s' H', Back X pins σ δ o Hx H' s' → R (.ok (.ret (.bool bo))) s') →
    codeAny (model X.prog X.w) A (.builtin "all.loop" ⟨[.ref a], []⟩) R s
  | [], j, H, s, g, hb, hR => by
    cases (Option.some.inj hb : true = bo)
    refine codeAny_builtin F.entry_all_loop ?_
    rw [Around.under_plainId F.plain_all_loop _]
    show wpAny _ A.in1 (pyNext (.ref a) >>= _) _ _ s
    refine wpAny_bind (g.2.2 s _ _ (.refl fun b hb => nomatch hb) keeps_none fun s' H' B _ _ => ?_)
    exact wpAny_bind (wpAny_rule (wpAny_pure (hR s' H' B)))
  | d :: r, j, H, s, g, hb, hR => by
    refine codeAny_builtin F.entry_all_loop ?_
    rw [Around.under_plainId F.plain_all_loop _]
    show wpAny _ A.in1 (pyNext (.ref a) >>= _) _ _ s
    refine wpAny_bind (g.2.2 s _ _ (.refl fun b hb => nomatch hb) keeps_none fun v x s' H' rx rep B _ _ gn => ?_)
    simp only [allT] at hb
    cases ht : truthS d with
    | none => rw [ht] at hb; cases hb
    | some bt =>
      rw [ht] at hb
      refine wpAny_bind (wpAny_holding (truth_s ht rep rx fun tk => ?_))
      refine wpAny_bind (wpAny_letGo ?_)
      cases bt with
      | true =>
        simp only [if_true]
        have g2 := gn (by simp [stopAll, ht])
        exact wpAny_pure ⟨plainId_quiet F.plain_all_loop _, all_loop r (j + 1) H' _ (g2.chg (chg_tok tk) (B.tok tk) g2.ty) hb hR⟩
      | false =>
        cases (Option.some.inj hb : false = bo)
        simp only [Bool.false_eq_true, if_false]
        exact wpAny_bind (wpAny_rule (wpAny_pure (hR _ H' (B.tok tk))))
end
/-- a judgement of a generator expression that a consumer will walk -/
structure PGx (X : Cx) (k : Nat) (e : Expr) (stop : D → Bool) (m : DE → Option (List D × DE)) : Prop where
  run : ∀ (pins : List (Addr × Obj)) (s : Shared) (σ : L2.St) (H : Hp) (δ : DE) (o : List Addr) (R0 : List D) (δ1 : DE) (Q : Value → Shared → Prop), Inv X pins σ H s → Envs (kx X) H σ δ o → Nd o → m δ = some (R0, δ1) →
    (∀ a s5 Hx o1, Step H Hx o → Envs (kx X) Hx σ δ1 o1 → Own H o o1 → R0.length ≤ sizeLine → GMk X pins σ δ1 o1 Hx k a stop R0 s5 → Q (.ref a) s5) → wpAny (model X.prog X.w) X.A (eval e X.env) Q X.xe s
section
variable {X : Cx} {elt tg iter : Expr} {ifs : List Expr} {scope : Scope} {own : List (Str × Nat)} {pos : Pos} {ms : DenS} {b : Bnd} {mt : DenT} {me : Den} {q qt qe : Bool} {k : Nat} {stop : D → Bool}
theorem room_gen {A : Around} (hr : Room (k + 1) A) : ∀ e, Room k (A.in1.in1.deeper e) := fun e => ⟨hr.hd, by have := hr.dp; show A.depth + 1 + 3 * k + 5 < _; omega, by have := hr.un; show A.units + 1 + 1 + 3 + 16 * k + 200 < _; omega⟩
end
end Z


set_option Elab.async false
set_option linter.all false
set_option maxRecDepth 100000
/-! tuple, sum, join of a generator expression -/
namespace Z
open PySem PySem.Spec PyProof.Rows L2
open AutoSeq1 (wpAny_loadPart')

def never (_ : D) : Bool := false
section
variable {X : Cx} {pins : List (Addr × Obj)} {σ : L2.St} {δ : DE} {o : List Addr} {Hx : Hp} {A : Around} {a : Addr}
/-- the consumer's own list changes -/
theorem Back.own {H : Hp} {s : Shared} {h' : Heap} {b : Addr} (B : Back X pins σ δ o Hx H s) (hf : FpOk X pins H b) (k : ∀ c ob, c ≠ b → s.heap.get? c = some ob → h'.get? c = some ob) (t : Nat) : Back X pins σ δ o Hx H { s with heap := h', toks := t } :=
  ⟨B.inv.turned (it := b) k hf.1 hf.2.1 hf.2.2.2.1 hf.2.2.2.2.1 hf.2.2.2.2.2, B.env, B.step⟩
theorem FpOk.at {H H' : Hp} {b : Addr} (h : FpOk X pins H b) (hn : H' b = none) : FpOk X pins H' b := ⟨hn, h.2⟩
end
section
variable {X : Cx} {k : Nat}
end
end Z


set_option Elab.async false
set_option linter.all false
set_option maxRecDepth 100000
/-! sorted -/
namespace Z
open PySem PySem.Spec PyProof.Rows L2

def isTupN : D → Bool
  | .tup _ => true
  | _ => false
def isPlainS : D → Bool
  | .bl _ => true
  | .int _ => true
  | .str _ => true
  | _ => false
/-- the items may be sorted -/
def sortOk (ds : List D) : Bool := D.nols ds && (ds.all dep && ((ds.all fun x => ds.all fun y => PySem.W.alike (toPy x) (toPy y)) && (ds.all isTupN || ds.all isPlainS)))
def sortD (ds : List D) : List D := ds.mergeSort (PySem.W.dataLe false toPy)
mutual
theorem reads_nol {h : Heap} : ∀ {d : D} {v : Value} {as : List Addr}, d.nol = true → Reads h v (toPy d) as → as = []
  | .non, _, _, _, r => by cases r; rfl
  | .bl _, _, _, _, r => by cases r; rfl
  | .int _, _, _, _, r => by cases r; rfl
  | .str _, _, _, _, r => by cases r; rfl
  | .tup xs, _, _, n, r => by
    cases r with
    | tuple _ _ _ q => exact readsAll_nol (xs := xs) n q
  | .lst _, _, _, n, _ => by simp [D.nol] at n
  | .frz _, _, _, n, _ => by simp [D.nol] at n
  | .dic _ _, _, _, n, _ => by simp [D.nol] at n
  | .obj _ _ _, _, _, n, _ => by simp [D.nol] at n
theorem readsAll_nol {h : Heap} : ∀ {xs : List D} {vs : List Value} {as : List Addr}, D.nols xs = true → ReadsAll h vs (toPys xs) as → as = []
  | [], _, _, _, r => by cases r; rfl
  | x :: xs, _, _, n, r => by
    simp only [D.nols, Bool.and_eq_true] at n
    cases r with
    | cons r1 r2 => rw [reads_nol n.1 r1, readsAll_nol n.2 r2]; rfl
end
section
variable {X : Cx} {pins : List (Addr × Obj)} {σ : L2.St} {H : Hp} {s : Shared}
theorem each_of (I : Inv X pins σ H s) : ∀ {ds : List D} {gv : List V} {acc : List Value}, Vals gv acc → Reps X.F H ds gv [] → D.nols ds = true →
    PySem.W.EachIs (fun v (p : D × V) => RelV p.2 v ∧ Rep X.F H p.1 p.2 []) acc (ds.zip gv) ∧ PySem.W.EachIs (fun v (p : D × V) => Reads s.heap v (toPy p.1) []) acc (ds.zip gv)
  | [], _, _, va, re, _ => by
    obtain ⟨rfl, _⟩ := re
    cases va
    exact ⟨.nil, .nil⟩
  | d :: ds, _, _, va, re, n => by
    obtain ⟨v, vr, o1, o2, rfl, r1, r2, e⟩ := re
    obtain ⟨rfl, rfl⟩ := List.append_eq_nil_iff.mp e.symm
    simp only [D.nols, Bool.and_eq_true] at n
    cases va with
    | cons h1 h2 =>
      obtain ⟨g1, g2⟩ := each_of I h2 r2 n.2
      obtain ⟨as, ra⟩ := Rep.reads I r1 h1
      have := reads_nol n.1 ra
      subst this
      exact ⟨.cons ⟨h1, r1⟩ g1, .cons ra g2⟩
theorem each_imp {α β : Type} {R R' : α → β → Prop} : ∀ {as : List α} {bs : List β}, PySem.W.EachIs R as bs → (∀ a b, R a b → R' a b) → PySem.W.EachIs R' as bs
  | _, _, .nil, _ => .nil
  | _, _, .cons h t, k => .cons (k _ _ h) (each_imp t k)
theorem of_each {K : Fw} {H : Hp} : ∀ {acc : List Value} {ps : List (D × V)}, PySem.W.EachIs (fun v (p : D × V) => RelV p.2 v ∧ Rep K H p.1 p.2 []) acc ps → Vals (ps.map (·.2)) acc ∧ Reps K H (ps.map (·.1)) (ps.map (·.2)) []
  | _, _, .nil => ⟨.nil, rfl, rfl⟩
  | _, _, .cons h t => by
    obtain ⟨g1, g2⟩ := of_each t
    exact ⟨.cons h.1 g1, _, _, [], [], rfl, h.2, g2, rfl⟩
theorem zip_fst : ∀ {ds : List D} {gv : List V}, gv.length = ds.length → (ds.zip gv).map (·.1) = ds
  | [], _, _ => rfl
  | d :: ds, [], h => by simp at h
  | d :: ds, v :: gv, h => by
    simp only [List.zip_cons_cons, List.map_cons]
    rw [zip_fst (by simpa using h)]
/-- what is collected, sorted into a new list -/
theorem sorted_by {A : Around} {v : Value} {E : Value → Shared → Prop} {Q : Value → Shared → Prop} (hu : A.units + 70 < cLine)
    (hcol : wpAny (model X.prog X.w) A.in1 (collect v) (fun acc s1 => ∃ ds H1 gv, sortOk ds = true ∧ ds.length ≤ sizeLine ∧ Inv X pins σ H1 s1 ∧ Vals gv acc ∧ Reps X.F H1 ds gv [] ∧
      ∀ p gv' s2, H1 p = none → Inv X pins σ (upd H1 p (.lst gv')) s2 → Reps X.F H1 (sortD ds) gv' [] → Q (.ref p) s2) E s) : wpAny (model X.prog X.w) A (call (.builtin "sorted") [v]) Q E s := by
  refine Calls.call_function_entry kind_sorted plain_sorted entry_sorted (args_sorted1 _) ?_
  unfold Builtin.«sorted»
  refine wpAny_bind (m := checkCount "sorted" 1 1 _) (wpAny_pure ?_)
  refine wpAny_bind (thn hcol fun acc s1 ⟨ds, H1, gv, hs, hl, I1, va, re, hQ⟩ => ?_)
  simp only [sortOk, Bool.and_eq_true] at hs
  obtain ⟨hn, hdp, hal, hso⟩ := hs
  have hlen : acc.length = ds.length := by rw [← va.length, re.length]
  have hzl : (ds.zip gv).length = ds.length := by rw [List.length_zip, re.length, Nat.min_self]
  refine wpAny_bind (wpAny_newList ?_ (by rw [hlen]; exact hl))
  obtain ⟨e1, e2⟩ := each_of I1 va re hn
  have hoL : (s1.heap.push (seqObj "list" acc.toArray 0)).get? s1.heap.objs.size = some (seqObj "list" acc.toArray 0) := Heap.get?_push_size _ rfl
  have hmem : ∀ p ∈ ds.zip gv, p.1 ∈ ds := fun p hp => (List.of_mem_zip (a := p.1) (b := p.2) hp).1
  simp only [List.all_eq_true] at hal hdp
  have hA : PySem.W.AllAlike ((ds.zip gv).map fun p => toPy p.1) := fun d hd d' hd' => by
    obtain ⟨p, hp, rfl⟩ := List.mem_map.mp hd
    obtain ⟨p', hp', rfl⟩ := List.mem_map.mp hd'
    exact hal _ (hmem p hp) _ (hmem p' hp')
  have hS : PySem.W.SortableM ((ds.zip gv).map fun p => toPy p.1) := by
    rw [Bool.or_eq_true, List.all_eq_true, List.all_eq_true] at hso
    rcases hso with hso | hso
    · have tup : ∀ d ∈ (ds.zip gv).map (fun p => toPy p.1), ∃ xs, d = PyData.tuple xs := fun d hd => by
        obtain ⟨p, hp, rfl⟩ := List.mem_map.mp hd
        have := hso _ (hmem p hp)
        obtain ⟨d0, v0⟩ := p
        dsimp only at this ⊢
        cases d0 <;> simp only [isTupN, Bool.false_eq_true] at this
        exact ⟨_, rfl⟩
      by_cases he : PyData.tuple [] ∈ (ds.zip gv).map (fun p => toPy p.1)
      · exact .inr ⟨tup, he⟩
      · refine .inl (.inl fun d hd => ?_)
        obtain ⟨xs, rfl⟩ := tup d hd
        cases xs with
        | nil => exact absurd hd he
        | cons x r => exact ⟨x, r, rfl⟩
    · refine .inl (.inr fun d hd => ?_)
      obtain ⟨p, hp, rfl⟩ := List.mem_map.mp hd
      have := hso _ (hmem p hp)
      obtain ⟨d0, v0⟩ := p
      dsimp only at this ⊢
      cases d0 <;> simp_all [isPlainS, toPy]
  refine wpAny_bind (wpAny_holding (PySem.W.list_sort_dataM (R := fun v (p : D × V) => RelV p.2 v ∧ Rep X.F H1 p.1 p.2 []) (enc := fun p => toPy p.1) (bs := ds.zip gv) hoL e1 (each_imp e2 fun v p r => ⟨[], Reads.keeps (fun _ _ e => Heap.get?_push_of_some _ e) r, by simp⟩) hA hS (by rw [hzl]; exact hl)
    (fun p hp => by have := dep_le (hdp _ (hmem p hp)); show A.units + 1 + 1 + (toPy p.1).depth < cLine; omega) fun out ho eo => ?_))
  obtain ⟨c, hc⟩ := sortedHeap_at (vs := acc) (out := List.toArray out) hoL
  obtain ⟨v1, r1⟩ := of_each eo
  have hmap : ((ds.zip gv).mergeSort (PySem.W.dataLe false fun p : D × V => toPy p.1)).map (·.1) = sortD ds := by
    have := List.map_mergeSort (r := PySem.W.dataLe false fun p : D × V => toPy p.1) (s := PySem.W.dataLe false toPy) (f := fun p : D × V => p.1) (l := ds.zip gv) (fun a _ b _ => rfl)
    rw [this, zip_fst re.length]; rfl
  rw [hmap] at r1
  have hn1 : H1 s1.heap.objs.size = none := I1.hok.fresh (Nat.le_refl _)
  refine wpAny_pure ⟨_, rfl, hQ s1.heap.objs.size _ _ hn1 ?_ r1⟩
  have old : ∀ b u, s1.heap.get? b = some u → (sortedHeap (s1.heap.push (seqObj "list" acc.toArray 0)) s1.heap.objs.size acc (List.toArray out)).get? b = some u := fun b u e => by
    have hlt := Heap.lt_size e
    rw [sortedHeap_old (Nat.ne_of_lt hlt) (by rw [size_push']; exact Nat.lt_succ_of_lt hlt)]
    exact Heap.get?_push_of_some _ e
  exact I1.laid (t' := s1.toks) old (Nat.le_refl _) ⟨by rw [List.length_map, List.length_mergeSort, hzl]; exact hl, out, c, v1, hc⟩
end
def fSort (r : List D) : Option D := if sortOk r then some (.lst (sortD r)) else none
section
variable {X : Cx} {k : Nat}
end
end Z


set_option Elab.async false
set_option linter.all false
set_option maxRecDepth 100000
/-! sorted of a sequence; x += e -/
namespace Z
open PySem PySem.Spec PyProof.Rows L2

def fSort1 : List D → Option D
  | [a] => match itemsD a with
    | some xs => fSort xs
    | none => none
  | _ => none
section
variable {X : Cx}
theorem c_sorted (hu : X.A.units + 70 < cLine) : CallR X (.builtin "sorted") (Pr X.F fSort1) := by
  intro pins s σ H xs us Q I r h
  obtain ⟨a, x, oa, d, rfl, ra, e, k0, k⟩ := one_inv h fun ds d e => by
    cases ds with
    | nil => simp [fSort1] at e
    | cons a ds => cases ds with
      | nil => exact ⟨a, rfl⟩
      | cons b ds => simp [fSort1] at e
  simp only [fSort1] at e
  cases hi : itemsD a with
  | none => rw [hi] at e; simp at e
  | some ys =>
    rw [hi] at e
    simp only [fSort] at e
    by_cases hs : sortOk ys = true
    case neg => rw [if_neg hs] at e; cases e
    rw [if_pos hs] at e
    cases (Option.some.inj e : D.lst (sortD ys) = d)
    have hn : D.nols ys = true := by simp only [sortOk, Bool.and_eq_true] at hs; exact hs.1
    obtain ⟨p, vs, rfl, hq, rs⟩ := seq_items ra hi (D.nols_imms _ hn)
    cases r with
    | cons r1 r2 =>
      cases r2
      cases r1
      have fin : ∀ (its : List Value) (T : String) (ob : Obj) (m : Nat), (T = "list" ∨ T = "tuple") → s.heap.get? p = some ob → ob.cls = .type T → ob.data = .seq its.toArray m → Vals vs its → ys.length ≤ sizeLine → wpAny (model X.prog X.w) X.A (call (.builtin "sorted") [.ref p]) (EP X pins σ Q) X.xe s := fun its T ob m hT e1 e2 e3 rv hl => by
        have hz : its.toArray.size ≤ sizeLine := by rw [List.size_toArray, ← rv.length, rs.length]; exact hl
        refine sorted_by (X := X) (pins := pins) (σ := σ) hu (wpAny_collect_seq p hT e1 e2 e3 (fun h' hk => ?_) hz)
        have I2 := I.kept (t' := s.toks) hk
        refine ⟨ys, H, vs, hs, hl, I2, by simpa using rv, rs, fun q gv' s2 hp I3 r3 => ⟨.ref q, _, I3, rfl, ?_⟩⟩
        exact k (.ref q) _ [q] (new_same hp) ⟨q, gv', [], rfl, upd_same, r3.same (new_same hp), rfl⟩ (fresh_one hp)
      rcases hq with hq | hq
      · obtain ⟨its, rv, hp, hz⟩ := I.list hq
        obtain ⟨ob, n, e1, e2, _, e4⟩ := hp
        exact fin its "list" ob n (.inl rfl) e1 e2 e4 rv (by rw [← rs.length]; exact hz)
      · obtain ⟨its, rv, hp, hz⟩ := I.tuple hq
        obtain ⟨ob, e1, e2, n, e4⟩ := hp
        exact fin its "tuple" ob n (.inr rfl) e1 e2 e4 rv (by rw [← rs.length]; exact hz)
end
/-- x op= e, ints -/
def dAug (i : Nat) (g : Int → Int → Int) (m : Den) : Blk := fun δ => match δ[i]? with
  | some (some (.int a)) => match m δ with
    | some (.own (.int b), δ1) => if i < δ1.length then some (.nx (δ1.set i (some (.int (g a b))))) else none
    | _ => none
  | _ => none
section
variable {X : Cx} {kp : Nat → Bool} {e : Expr} {q : Bool} {m : Den} {pos : Pos}
theorem z_aug {i : Nat} {x : Str} {op : Operator} {g : Int → Int → Int} {pos' : Pos} (hN : X.N.Nodup) (hi : X.N[i]? = some x) (hx : Loc X.env.scope x) (hk : kp i = false) (he : PE X e (T (kx X) q m)) (ho : PIp X op (ipI g)) (hf : X.fn x = true ∨ X.env.scope.names.lookup x = some .local := by first | exact .inl rfl | exact .inr rfl | assumption) :
    PS X (.AugAssign (.Name x pos') op e pos) (TSm (kx X) kp (dAug i g m)) :=
  PS.imp (ps_aug hN hi hx he ho hf) fun D' σ H ⟨δ, o, out, E, n, hm, f⟩ => by
    simp only [dAug] at hm
    cases h1 : δ[i]? with
    | none => rw [h1] at hm; simp at hm
    | some od =>
    cases od with
    | none => rw [h1] at hm; simp at hm
    | some d =>
    cases d <;> rw [h1] at hm <;> simp only [reduceCtorEq] at hm
    rename_i a
    cases h2 : m δ with
    | none => rw [h2] at hm; simp at hm
    | some p =>
    obtain ⟨r, δ1⟩ := p
    rw [h2] at hm
    cases r with
    | «at» _ _ => simp at hm
    | own d =>
    cases d <;> simp only [reduceCtorEq] at hm
    rename_i b
    by_cases hl : i < δ1.length
    case neg => rw [if_neg hl] at hm; cases hm
    rw [if_pos hl] at hm
    cases (Option.some.inj hm)
    obtain ⟨v, oa, o1, ob, hv, rd, _⟩ := E.at h1
    obtain ⟨rfl, _⟩ := rd
    refine ⟨.int a, hv, δ, o, .own (.int b), δ1, E, n, h2, fun w H1 o2 ov P => ?_⟩
    obtain ⟨rfl, rfl⟩ := P.held
    refine ⟨a, b, rfl, rfl, ?_⟩
    obtain ⟨o3, E3, c3⟩ := Envs.set i P.env (show Rep (kx X).K H1 (.int (g a b)) (.int (g a b)) [] from ⟨rfl, rfl⟩) hl
    refine f _ H1 o3 ⟨P.step.mono Wq_sub, E3, (own_right P.own).sub fun a => by have := c3 a; simpa using this, fun j hj => ?_⟩
    rw [List.getElem?_set_ne]
    intro z; subst z; rw [hk] at hj; cases hj
end
end Z


set_option Elab.async false
set_option linter.all false
set_option maxRecDepth 100000
/-! list.extend of a new list -/
namespace Z
open PySem PySem.Spec PyProof.Rows L2

section
variable {X : Cx} {eo e : Expr} {qo qe : Bool} {mo me : Den} {apos cpos : Pos}
end
end Z


set_option Elab.async false
set_option linter.all false
set_option maxRecDepth 100000
set_option maxHeartbeats 4000000
/-! sets of ints and texts that are sorted -/
namespace Z
open PySem PySem.Spec PyProof.Rows L2

def memK (ks : List Key) (j : Key) : Bool := ks.any fun x => decide (x = j)
theorem memK_iff {ks : List Key} {j : Key} : memK ks j = true ↔ j ∈ ks := by simp [memK]
theorem memK_next {ks : List Key} {i : Nat} {z : Key} (h : ks[i]? = some z) (j : Key) : memK (ks.take (i + 1)) j = (memK (ks.take i) j || decide (j = z)) := by
  rw [Bool.eq_iff_iff, Bool.or_eq_true, memK_iff, memK_iff, decide_eq_true_eq, List.take_add_one, h]
  simp
def keyK (e : Int × Value) : Key := match e.2 with
  | .int k _ => .inl k
  | .str x _ => .inr x
  | _ => .inl 0
def GoodK (w : World) (e : Int × Value) : Prop := ∃ k, keyIs k e.2 = true ∧ e.1 = keyH w k
theorem goodK_key {w : World} {e : Int × Value} {k : Key} (h : keyIs k e.2 = true) : keyK e = k := by
  rcases keyIs_shape h with ⟨i, t, rfl, q⟩ | ⟨x, t, rfl, q⟩ <;> (unfold keyK; rw [q])
theorem scan_key {k : Key} {v : Value} (h : keyIs k v = true) : v.scannable = true := by
  rcases keyIs_shape h with ⟨i, t, rfl, rfl⟩ | ⟨x, t, rfl, rfl⟩ <;> rfl
theorem goodK_elems {P : Program} {w : World} {l : List (Int × Value)} (g : ∀ e ∈ l, GoodK w e) : ElemsOf (mixKind P w) l := fun e he => by
  obtain ⟨k, h1, h2⟩ := g e he
  exact ⟨⟨k, h1, h2⟩, scan_key h1⟩
theorem goodK_is {w : World} {e : Int × Value} (g : GoodK w e) (k : Key) : keyIs k e.2 = true ↔ keyK e = k := by
  obtain ⟨k0, h1, h2⟩ := g
  constructor
  · exact goodK_key (w := w)
  · intro z
    rw [goodK_key (w := w) h1] at z
    rw [← z]; exact h1
theorem goodK_mem {w : World} {l : List (Int × Value)} (g : ∀ e ∈ l, GoodK w e) (k : Key) : k ∈ l.map keyK ↔ ∃ e ∈ l, keyIs k e.2 = true := by
  rw [List.mem_map]
  exact ⟨fun ⟨e, he, q⟩ => ⟨e, he, (goodK_is (g e he) k).2 q⟩, fun ⟨e, he, q⟩ => ⟨e, he, (goodK_is (g e he) k).1 q⟩⟩
/-- the set at a holds the keys of S; it can be walked -/
def SetM (w : World) (h : Heap) (a : Addr) (S : Key → Bool) (n : Nat) : Prop :=
  ∃ o es ep t, h.get? a = some o ∧ o.ExactSet ∧ o.data = .set es ep t ∧ (∀ e ∈ es.toList, GoodK w e) ∧ (es.toList.map keyK).Nodup ∧ (∀ k, S k = true ↔ k ∈ es.toList.map keyK) ∧
    es.size < scanBound ∧ t.fits es.size = true ∧ es.size = n ∧ Ris t.place.toList ∧ (w.params.followText "set-order" = true ∨ t.led = true)
theorem SetM.at {w : World} {h h' : Heap} {a : Addr} {S : Key → Bool} {n : Nat} (R : SetM w h a S n) (k : ∀ o, h.get? a = some o → h'.get? a = some o) : SetM w h' a S n := by
  obtain ⟨o, es, ep, t, ho, r⟩ := R
  exact ⟨o, es, ep, t, k o ho, r⟩
theorem SetM.congr {w : World} {h : Heap} {a : Addr} {S S' : Key → Bool} {n : Nat} (R : SetM w h a S n) (e : ∀ k, S' k = S k) : SetM w h a S' n := by
  have q : S' = S := funext e
  rw [q]; exact R
section
variable {P : Program} {w : World} {A : Around} {E : Value → Shared → Prop} {s : Shared} {a : Addr} {S : Key → Bool} {n : Nat}
theorem setM_tail {g : Bool → Sem Unit} (hg : ∀ (b : Bool) (s₁ : Shared) (Q' : Unit → Shared → Prop), Q' () s₁ → wpAny (model P w) A (g b) Q' E s₁)
    {o : Obj} {es : Array (Int × Value)} {ep : Nat} {t : SetTable} (ho : s.heap.get? a = some o) (hex : o.ExactSet) (hd : o.data = .set es ep t)
    {es1 : Array (Int × Value)} {t2 : SetTable} {S' : Key → Bool} (g1 : ∀ e ∈ es1.toList, GoodK w e) (nd1 : (es1.toList.map keyK).Nodup) (m1 : ∀ k, S' k = true ↔ k ∈ es1.toList.map keyK)
    (hb1 : es1.size < scanBound) (hf2 : t2.fits es1.size = true) (hr : Ris t2.place.toList) (hl : w.params.followText "set-order" = true ∨ t2.led = true) {wasDummy : Bool} {R : Option Bool → Shared → Prop}
    (hR : ∀ h', Heap.SameBut a s.heap h' → SetM w h' a S' es1.size → R (some true) { s with heap := h' }) :
    wpAny (model P w) A (do
        storeSet a es1 t2
        if (!wasDummy && t2.tooFull) = true then do
            g (relayAll t2 es1 (SetTable.grown es1.size)).2.2
            storeSet a (relayAll t2 es1 (SetTable.grown es1.size)).1 (relayAll t2 es1 (SetTable.grown es1.size)).2.1
            pure (some true)
          else pure (some true)) R E s := by
  refine wpAny_bind (wpAny_storeSet_of ho hd ?_ (fits_of_scanBound hb1))
  have ho1 := store_at (es' := es1) (t' := t2) ho hd
  have sb1 := Heap.SameBut.update s.heap a (Obj.putSet es1 t2)
  split
  · have pm := relayAll_perm t2 es1 (SetTable.grown es1.size)
    have hf3 := relayAll_fits t2 es1 (SetTable.grown es1.size)
    have hr3 := relayAll_ris t2 es1 (SetTable.grown es1.size)
    have hl3 := relayAll_led t2 es1 (SetTable.grown es1.size)
    generalize relayAll t2 es1 (SetTable.grown es1.size) = Y at pm hf3 hr3 hl3 ⊢
    obtain ⟨es2, t3, gave⟩ := Y
    dsimp only at pm hf3 hr3 hl3 ⊢
    have hsz : es2.size = es1.size := by rw [← Array.length_toList, pm.length_eq, Array.length_toList]
    have hb2 : es2.size < scanBound := by rw [hsz]; exact hb1
    refine wpAny_bind (hg _ _ _ ?_)
    refine wpAny_bind (wpAny_storeSet_of ho1 rfl ?_ (fits_of_scanBound hb2))
    have ho2 := store_at (es' := es2) (t' := t3) ho1 rfl
    refine wpAny_pure (hR _ (sb1.trans (Heap.SameBut.update _ a _)) ?_)
    exact ⟨_, es2, _, t3, ho2, hex, rfl, fun e he => g1 e (pm.mem_iff.mp he), (pm.map keyK).nodup_iff.mpr nd1, fun k => (m1 k).trans (pm.map keyK).mem_iff.symm, hb2, hf3, hsz, hr3,
      hl.imp id fun z => by rw [hl3]; exact z⟩
  · exact wpAny_pure (hR _ sb1 ⟨_, es1, _, t2, ho1, hex, rfl, g1, nd1, m1, hb1, hf2, rfl, hr, hl⟩)
theorem setM_add {k : Key} {v : Value} {Q : Bool → Shared → Prop} (hkey : keyIs k v = true) (R : SetM w s.heap a S n) (room : n + 1 < scanBound)
    (hQ : ∀ h', Heap.SameBut a s.heap h' → SetM w h' a (fun j => S j || decide (j = k)) (if S k = true then n else n + 1) → Q (!S k) { s with heap := h' }) :
    wpAny (model P w) A (setAddHashed a v ((mixKind P w).hash k)) Q E s := by
  obtain ⟨o, es, ep, t, ho, hex, hd, g, nd, hm, hb, hf, hn, hr, hl⟩ := R
  have hkey' : (mixKind P w).is k v = true := hkey
  have hsc : v.scannable = true := scan_key hkey
  have hel : ElemsOf (mixKind P w) es.toList := goodK_elems g
  unfold setAddHashed setAddHashedIn
  refine wpAny_holding (wpAny_bind (wpAny_setState_of ho hd hf ?_))
  dsimp only
  rw [byScan_of hsc hb hel]
  simp only [↓reduceIte]
  unfold setAddByScan
  refine wpAny_bind ?_
  refine wpAny_bind (wpAny_rule ?_)
  refine wpAny_bind (wpAny_setScan_of hkey' ho hd hf hel ?_)
  cases hfi : List.findIdx? (fun e => (mixKind P w).is k e.2) es.toList with
  | some j =>
    dsimp only
    obtain ⟨hj, pj, _⟩ := List.findIdx?_eq_some_iff_getElem.mp hfi
    have hSk : S k = true := (hm k).2 ((goodK_mem g k).2 ⟨es.toList[j], List.getElem_mem hj, pj⟩)
    refine wpAny_pure (wpAny_pure ?_)
    have q := hQ s.heap (Heap.SameBut.refl a s.heap) ⟨o, es, ep, t, ho, hex, hd, g, nd, fun i => by
      rw [Bool.or_eq_true, decide_eq_true_eq, ← hm i]
      exact ⟨fun z => z.elim id (fun e => e ▸ hSk), .inl⟩, hb, hf, by rw [if_pos hSk]; exact hn, hr, hl⟩
    rw [hSk] at q
    exact q
  | none =>
    dsimp only
    have hnk : k ∉ es.toList.map keyK := fun z => by
      obtain ⟨e, he, q⟩ := (goodK_mem g k).1 z
      have c := List.findIdx?_eq_none_iff.mp hfi e he
      rw [show (mixKind P w).is k e.2 = keyIs k e.2 from rfl, q] at c
      cases c
    have hSk : S k = false := by
      cases q : S k with
      | false => rfl
      | true => exact absurd ((hm k).1 q) hnk
    have hgw : ∀ (b : Bool) {s₁ : Shared} {Q' : Unit → Shared → Prop}, Q' () s₁ → wpAny (model P w) A (match b with | true => rule "set.scan.the-table-gave-way" | false => pure ()) Q' E s₁ :=
      fun b s₁ Q' q => by cases b <;> first | exact wpAny_pure q | exact wpAny_rule q
    have pm := layNew_perm t es ((mixKind P w).hash k) v
    have hf1 := layNew_fits t es ((mixKind P w).hash k) v
    have hr1 := layNew_ris t es ((mixKind P w).hash k) v hr
    have hl1 := layNew_led t es ((mixKind P w).hash k) v
    generalize layNew t es ((mixKind P w).hash k) v = Y at pm hf1 hr1 hl1 ⊢
    obtain ⟨es1, t1, wasDummy, gave⟩ := Y
    dsimp only at pm hf1 hr1 hl1 ⊢
    rw [Array.toList_push] at pm
    have pc : es1.toList.Perm (((mixKind P w).hash k, v) :: es.toList) := pm.trans (List.perm_append_singleton _ _)
    have pk : (es1.toList.map keyK).Perm (k :: es.toList.map keyK) := by
      have := pc.map keyK
      rw [List.map_cons, show keyK ((mixKind P w).hash k, v) = k from goodK_key (w := w) (e := ((mixKind P w).hash k, v)) hkey] at this
      exact this
    have g1 : ∀ e ∈ es1.toList, GoodK w e := fun e he => by
      rcases List.mem_cons.mp (pc.mem_iff.mp he) with z | z
      · rw [z]; exact ⟨k, hkey, rfl⟩
      · exact g e z
    have nd1 : (es1.toList.map keyK).Nodup := pk.nodup_iff.mpr (List.nodup_cons.mpr ⟨hnk, nd⟩)
    have m1 : ∀ i, (S i || decide (i = k)) = true ↔ i ∈ es1.toList.map keyK := fun i => by
      rw [Bool.or_eq_true, decide_eq_true_eq, hm i, pk.mem_iff, List.mem_cons]
      exact Or.comm
    have hsz : es1.size = n + 1 := by rw [← Array.length_toList, pc.length_eq, List.length_cons, Array.length_toList, hn]
    have hb1 : es1.size < scanBound := by rw [hsz]; exact room
    have hled : w.params.followText "set-order" = true ∨ t1.led = true := hl.imp id fun z => by rw [hl1]; exact z
    have fin : ∀ h', Heap.SameBut a s.heap h' → SetM w h' a (fun j => S j || decide (j = k)) es1.size → Q true { s with heap := h' } := fun h' sb r => by
      have q := hQ h' sb
      rw [hSk] at q
      rw [hsz] at r
      exact q r
    refine wpAny_bind (hgw _ ?_)
    split
    · refine wpAny_bind ?_
      rw [hashByValue_scannable 8 hsc]
      refine wpAny_pure ?_
      refine setM_tail ?_ ho hex hd g1 nd1 m1 hb1 ?_ ?_ ?_ ?_
      · intro b s₁ Q' q; cases b <;> first | exact wpAny_pure q | exact wpAny_rule q
      · first | (split <;> first | exact hf1 | exact SetTable.fits_plain_off hf1) | exact hf1
      · first | (split <;> exact hr1) | exact hr1
      · first | (split <;> exact hled) | exact hled
      · intro h' sb r; dsimp only; exact wpAny_pure (fin h' sb r)
    · refine wpAny_bind (wpAny_pure ?_)
      simp only [↓reduceIte]
      refine setM_tail ?_ ho hex hd g1 nd1 m1 hb1 hf1 hr1 hled ?_
      · intro b s₁ Q' q; cases b <;> first | exact wpAny_pure q | exact wpAny_rule q
      · intro h' sb r; dsimp only; exact wpAny_pure (fin h' sb r)
theorem setM_new {ks : List Key} {h : Heap} (ho : h.get? a = some { cls := .type "set", dict := none, data := .set #[] 0 (.fresh 0 0 (!w.params.followText "set-order")) }) : SetM w h a (fun j => memK (ks.take 0) j) 0 :=
  ⟨_, #[], 0, _, ho, ⟨rfl, rfl, rfl⟩, rfl, (fun e he => by simp at he), (by simp), (fun k => by simp [memK]), (by decide), (by rfl), rfl, List.Pairwise.nil, by
    show _ ∨ (!w.params.followText "set-order") = true
    cases w.params.followText "set-order"
    · exact .inr rfl
    · exact .inl rfl⟩
theorem setM_loop {I : Addr} {fp wr : List Addr} {G : Array GenState → Array GenState → Prop} {n : Nat} {Pv : Nat → Value → Prop} {St : Nat → Shared → Prop} {R : Result → Shared → Prop}
    (W : WalksS P w A.in1 I fp wr G n Pv St) (S : Addr) (hSf : S ∉ fp) (ks : List Key) (hn : n = ks.length) (hb : ks.length + 1 < scanBound) (hval : ∀ i v, Pv i v → ∃ k, ks[i]? = some k ∧ keyIs k v = true) :
    ∀ (k i : Nat) (s : Shared), n - i = k → i ≤ n → St i s → (∃ c, c ≤ i ∧ SetM w s.heap S (fun j => memK (ks.take i) j) c) →
      (∀ s' c, Moved (S :: wr) G s s' → c ≤ n → SetM w s'.heap S (fun j => memK (ks) j) c → R (.ok (.ret .none)) s') →
      codeAny (model P w) A (.builtin "set.update.loop" ⟨[.ref S, .ref I], []⟩) R s := by
  have hSw : S ∉ wr := fun h => hSf (W.sub _ h)
  have hsub : ∀ b ∈ wr, b ∈ S :: wr := fun b hb => List.mem_cons_of_mem _ hb
  intro k
  induction k with
  | zero =>
    intro i s hk' hi hst ⟨c, hc, hS⟩ hR
    have hin : i = n := by omega
    subst hin
    refine codeAny_builtin F.entry_set_update_loop ?_
    rw [Around.under_plainId F.plain_set_update_loop _]
    show wpAny _ A.in1 (pyNext (.ref I) >>= _) _ _ s
    refine wpAny_bind (W.done s _ _ hst fun s' hm => ?_)
    show wpAny _ A.in1 (ret Value.none) _ _ s'
    have e : ks.take i = ks := List.take_of_length_le (by omega)
    rw [e] at hS
    exact wpAny_pure (hR s' c (hm.mono hsub) hc (hS.at fun o e => hm.heap S o hSw e))
  | succ k ih =>
    intro i s hk' hi hst ⟨c, hc, hS⟩ hR
    have hlt : i < n := by omega
    refine codeAny_builtin F.entry_set_update_loop ?_
    rw [Around.under_plainId F.plain_set_update_loop _]
    show wpAny _ A.in1 (pyNext (.ref I) >>= _) _ _ s
    refine wpAny_bind (W.item i s _ _ hlt hst fun v s' hP hst' hm => ?_)
    obtain ⟨z, hz, hzv⟩ := hval i v hP
    have hS' : SetM w s'.heap S (fun j => memK (ks.take i) j) c := hS.at fun o e => hm.heap S o hSw e
    show wpAny _ A.in1 (holding [v] (setAdd S v) >>= _) _ _ s'
    refine wpAny_bind (wpAny_holding ?_)
    unfold setAdd
    refine wpAny_holding ?_
    refine wpAny_bind ((mixKind P w).pyHash (k := z) hzv ?_)
    refine setM_add (s := { s' with toks := s'.toks + 1 }) hzv hS' (by omega) fun h' hsb hS2 => ?_
    have hS3 : SetM w h' S (fun j => memK (ks.take (i + 1)) j) (if memK (ks.take i) z = true then c else c + 1) := hS2.congr fun j => memK_next hz j
    have hc3 : (if memK (ks.take i) z = true then c else c + 1) ≤ i + 1 := by
      split <;> omega
    refine wpAny_pure ⟨plainId_quiet F.plain_set_update_loop _, ih (i + 1) _ (by omega) hlt (W.frame _ s' _ _ hst' (Nat.le_succ _) fun b hb o e => ?_) ⟨_, hc3, hS3⟩ fun s'' c2 hm'' hc'' hS'' => ?_⟩
    · rw [hsb.2 b (fun h : b = S => hSf (by rw [← h]; exact hb))]; exact e
    · refine hR s'' c2 (Moved.trans W.gtrans ((hm.mono hsub).then_heap (Nat.le_succ _) fun b o hb e => ?_) hm'') hc'' hS''
      rw [hsb.2 b (fun h : b = S => hb (by rw [h]; exact List.mem_cons_self))]; exact e
end
end Z


set_option Elab.async false
set_option linter.all false
set_option maxRecDepth 100000
set_option maxHeartbeats 4000000
/-! set(..) of a sequence of keys; sorted(set(..)) -/
namespace Z
open PySem PySem.Spec PyProof.Rows L2

abbrev setO0 (w : World) : Obj := { cls := .type "set", dict := none, data := .set #[] 0 (.fresh 0 0 (!w.params.followText "set-order")) }
section
variable {P : Program} {w : World} {A : Around} {E : Value → Shared → Prop} {s : Shared}
end
end Z


set_option Elab.async false
set_option linter.all false
set_option maxRecDepth 100000
/-! sorted(set(..)) -/
namespace Z
open PySem PySem.Spec PyProof.Rows L2

def isI : D → Bool
  | .int _ => true
  | _ => false
def isS : D → Bool
  | .str _ => true
  | _ => false
def dKey : D → Key
  | .int i => .inl i
  | .str x => .inr x
  | _ => .inl 0
def dOfV : Value → D
  | .int i _ => .int i
  | .str x _ => .str x
  | _ => .non
def vOfV : Value → V
  | .int i _ => .int i
  | .str x _ => .str x
  | _ => .non
/-- each once -/
def nubD : List D → List D
  | [] => []
  | x :: xs => if x ∈ xs then nubD xs else x :: nubD xs
theorem mem_nub {x : D} : ∀ {xs : List D}, x ∈ nubD xs ↔ x ∈ xs
  | [] => by simp [nubD]
  | y :: xs => by
    unfold nubD
    by_cases h : y ∈ xs
    · rw [if_pos h, mem_nub, List.mem_cons]
      exact ⟨.inr, fun z => z.elim (fun e => e ▸ h) id⟩
    · rw [if_neg h, List.mem_cons, List.mem_cons, mem_nub]
theorem nub_nodup : ∀ (xs : List D), (nubD xs).Nodup
  | [] => List.nodup_nil
  | y :: xs => by
    unfold nubD
    by_cases h : y ∈ xs
    · rw [if_pos h]; exact nub_nodup xs
    · rw [if_neg h, List.nodup_cons]
      exact ⟨fun z => h (mem_nub.mp z), nub_nodup xs⟩
def keysOk (xs : List D) : Bool := decide (xs.length < 1000) && (xs.all isI || xs.all isS)
def setSortD (xs : List D) : List D := sortD (nubD xs)
def fSetS (xs : List D) : Option D := if keysOk xs then some (.lst (setSortD xs)) else none
theorem le_int (i j : Int) : PySem.W.dataLe false toPy (.int i) (.int j) = decide (i ≤ j) := congrFun (congrFun (PySem.W.dataLe_int fun b : Int => b) i) j
theorem le_str (x y : Str) : PySem.W.dataLe false toPy (.str x) (.str y) = decide (x.cps.toList ≤ y.cps.toList) := congrFun (congrFun (PySem.W.dataLe_str fun b : Str => b) x) y
theorem str_ext {x y : Str} (h : x.cps.toList = y.cps.toList) : x = y := by
  cases x; cases y
  simp only at h
  congr 1
  exact Array.toList_inj.mp h
theorem le_anti {xs : List D} (h : (xs.all isI || xs.all isS) = true) {a b : D} (ha : a ∈ xs) (hb : b ∈ xs) (h1 : PySem.W.dataLe false toPy a b = true) (h2 : PySem.W.dataLe false toPy b a = true) : a = b := by
  rw [Bool.or_eq_true, List.all_eq_true, List.all_eq_true] at h
  rcases h with h | h
  · have p := h a ha
    have q := h b hb
    cases a <;> simp only [isI, Bool.false_eq_true] at p
    cases b <;> simp only [isI, Bool.false_eq_true] at q
    rw [le_int, decide_eq_true_eq] at h1 h2
    congr 1
    omega
  · have p := h a ha
    have q := h b hb
    cases a <;> simp only [isS, Bool.false_eq_true] at p
    cases b <;> simp only [isS, Bool.false_eq_true] at q
    rw [le_str, decide_eq_true_eq] at h1 h2
    rw [str_ext (List.le_antisymm h1 h2)]
theorem sortD_perm (xs : List D) : (sortD xs).Perm xs := List.mergeSort_perm _ _
theorem sortD_pair (xs : List D) : (sortD xs).Pairwise fun a b => PySem.W.dataLe false toPy a b = true := PySem.W.sort_pairwise (PySem.W.sortLe_total _ _ _) xs
/-- the same items, whatever their order: the same sorted list -/
theorem sortD_of_perm {xs ys : List D} (h : (xs.all isI || xs.all isS) = true) (p : xs.Perm ys) : sortD xs = sortD ys := by
  have q : (sortD xs).Perm (sortD ys) := (sortD_perm xs).trans (p.trans (sortD_perm ys).symm)
  refine q.eq_of_pairwise (fun a b ha hb h1 h2 => ?_) (sortD_pair xs) (sortD_pair ys)
  exact le_anti h ((sortD_perm xs).mem_iff.mp ha) (p.mem_iff.mpr ((sortD_perm ys).mem_iff.mp hb)) h1 h2
end Z


set_option Elab.async false
set_option linter.all false
set_option maxRecDepth 100000
/-! sorted(set(..)): the rule -/
namespace Z
open PySem PySem.Spec PyProof.Rows L2

theorem keysOk_key {xs : List D} (h : keysOk xs = true) {x : D} (hx : x ∈ xs) : (∃ i, x = .int i) ∨ ∃ z, x = .str z := by
  simp only [keysOk, Bool.and_eq_true, Bool.or_eq_true, List.all_eq_true] at h
  rcases h.2 with h | h
  · have := h x hx
    cases x <;> simp_all [isI]
  · have := h x hx
    cases x <;> simp_all [isS]
theorem dKey_inj {xs : List D} (h : keysOk xs = true) {x y : D} (hx : x ∈ xs) (hy : y ∈ xs) (e : dKey x = dKey y) : x = y := by
  rcases keysOk_key h hx with ⟨i, rfl⟩ | ⟨z, rfl⟩ <;> rcases keysOk_key h hy with ⟨j, rfl⟩ | ⟨u, rfl⟩ <;> simp_all [dKey]
theorem keysOk_alike {xs : List D} (h : (xs.all isI || xs.all isS) = true) : sortOk xs = true := by
  simp only [sortOk, Bool.and_eq_true, Bool.or_eq_true, List.all_eq_true] at h ⊢
  refine ⟨?_, ?_, ?_, ?_⟩
  · rw [D.nols_iff]
    intro x hx
    rcases h with h | h <;> have := h x hx <;> cases x <;> simp_all [isI, isS, D.nol]
  · intro x hx
    rcases h with h | h <;> have := h x hx <;> cases x <;> simp_all [isI, isS, dep, D.dp, toPy, PyData.depth]
  · intro x hx y hy
    rcases h with h | h <;> have := h x hx <;> have := h y hy <;> cases x <;> cases y <;> simp_all [isI, isS, toPy, PySem.W.alike]
  · right
    intro x hx
    rcases h with h | h <;> have := h x hx <;> cases x <;> simp_all [isI, isS, isPlainS]
theorem dKey_eq {v : Value} {x : D} (hv : (∃ i t, v = .int i t) ∨ ∃ z t, v = .str z t) (hx : (∃ i, x = .int i) ∨ ∃ z, x = .str z) (e : dKey (dOfV v) = dKey x) : dOfV v = x := by
  rcases hv with ⟨i, t, rfl⟩ | ⟨z, t, rfl⟩ <;> rcases hx with ⟨j, rfl⟩ | ⟨u, rfl⟩
  · rw [show i = j from Sum.inl.inj e]; rfl
  · cases e
  · cases e
  · rw [show z = u from Sum.inr.inj e]; rfl
theorem nub_len : ∀ xs : List D, (nubD xs).length ≤ xs.length
  | [] => Nat.le_refl _
  | x :: xs => by
    unfold nubD
    split
    · exact Nat.le_succ_of_le (nub_len xs)
    · exact Nat.succ_le_succ (nub_len xs)
section
variable {X : Cx} {e : Expr} {q : Bool} {m : Den} {p p2 pos pos2 : Pos}
theorem val_of_key {k : Key} {v : Value} (h : keyIs k v = true) : RelV (vOfV v) v ∧ dKey (dOfV v) = k ∧ ((∃ i t, v = .int i t) ∨ ∃ x t, v = .str x t) := by
  rcases keyIs_shape h with ⟨i, t, rfl, rfl⟩ | ⟨x, t, rfl, rfl⟩
  · exact ⟨⟨t, rfl⟩, rfl, .inl ⟨i, t, rfl⟩⟩
  · exact ⟨⟨t, rfl⟩, rfl, .inr ⟨x, t, rfl⟩⟩
end
end Z


set_option Elab.async false
set_option linter.all false
set_option maxRecDepth 100000
/-! the head: what the defs' objects are, the tables at the start, the law's call -/
namespace Z
open PySem PySem.Spec PyProof.Rows L2

theorem codeHd_inv {K : PySem.W.Frag} {c P : Addr} (h : PySem.W.codeHdIn K c P = true) : ∃ od vs sl, K.lookup c = some ⟨.type "code", od, .fields vs, sl⟩ ∧ He.tabOf K c = P := by
  unfold PySem.W.codeHdIn at h
  split at h
  · rename_i od vs sl hk
    refine ⟨od, vs, sl, hk, ?_⟩
    unfold He.tabOf
    rw [hk]
    simp only [Bool.and_eq_true] at h
    have h11 := h.1.1.1.1.1
    split at h11
    · rename_i P' e
      show (match vs.getD 11 .none with | .ref P => P | _ => 0) = P
      rw [Array.getD_eq_getD_getElem?, e]
      exact beq_iff_eq.mp h11
    · cases h11
  · cases h
/-- each code object of the fragment is one of these defs' -/
def exTabs (tf : List He.Defn) (K : PySem.W.Frag) : Bool := K.all fun q => match q.2 with
  | ⟨.type c, _, .fields _, _⟩ => c != "code" || (tf.map fun p => (He.cT K p).1).contains q.1
  | _ => true
section
variable {fa : List He.Fa} {fn : List He.DefD} {ts : List He.Tab} {tf : List He.Defn} {w : World} {h : Heap} {K : PySem.W.Frag}
theorem tabs_start (c : exTabs tf K = true) {H : Hp} (hH : ∀ p ∈ tf.map (He.cT K), H p.2 = some (.tbl #[])) : Tabs ⟨⟨K, w⟩, .none⟩ H := by
  refine ⟨fun cc P hc => ?_, fun _ e => by cases e⟩
  obtain ⟨od, vs, sl, hk, ht⟩ := codeHd_inv hc
  have h1 := List.all_eq_true.mp c _ (He.lookup_mem hk)
  simp only [bne_self_eq_false, Bool.false_or, List.contains_iff_mem, List.mem_map] at h1
  obtain ⟨p, hp, e⟩ := h1
  have h2 := hH _ (List.mem_map_of_mem hp)
  have e2 : (He.cT K p).2 = P := by
    rw [← ht, ← e]; rfl
  rw [e2] at h2
  exact .mk P #[] (fun _ => 0) (fun _ => 0) h2 trivial (fun pos cv h => by simp [codeAmong] at h) fun pos cv h => by simp [codeAmong] at h
/-- a def of the top, as the others see it -/
structure Def (K : PySem.W.Frag) (mg : Str → Option Value) (x : Str) (st : Stmt) (ps : List Str) (f : Addr) (fd : FuncData) : Prop where
  fz : FunZ K x (L2.defArgs st) (L2.defBody st) (L2.defScope st) f fd
  kp : PySem.W.keepIn K (.ref f) = true
  g : mg x = some (.ref f)
  b : Binds K fd ps []
theorem funZ_of {qual x : Str} {params : Arguments} {body : List Stmt} {scope : Scope} {dvs : List V} {kws : List (Str × V)} {fd : FuncData} {p : He.Defn} (F : FunD K x qual params body scope dvs kws (He.fAd K p) fd) (hd : PySem.W.codeHdIn K (He.cT K p).1 (He.cT K p).2 = true) : FunZ K qual params body scope (He.fAd K p) fd := by
  obtain ⟨oc, od, dV, kV, doc, pm, an, cdv, ct, osl, rfl, lk, hcd, _, _⟩ := F.ex
  obtain ⟨c, rfl⟩ := He.codeIn_ref hcd
  have e := He.codeOf_eq lk rfl
  rw [show (He.cT K p).1 = c from e] at hd
  exact ⟨⟨x, oc, od, dV, kV, doc, pm, an, ct, osl, c, _, rfl, lk, hcd, hd⟩⟩
abbrev dOf (x : Str) (st : Stmt) : He.DefD := ⟨(x, none), x, x, L2.defArgs st, L2.defBody st, L2.defScope st, [], []⟩
theorem Def.of (X : K.In h) {mg : Str → Option Value} (G : h.Ns mainGlobals mg) (c : He.SaysX fa fn ts tf (exTabs tf) w h K) {x : Str} {st : Stmt} {ps : List Str} (hd : dOf x st ∈ fn) (ht : (x, none) ∈ tf) (hg : He.Fa.glo x ∈ fa)
    (hb : ∀ (kV doc pm : Value) (an : Option Addr) (cdv ct : Value) (us : List Value), us.length = ps.length → bindArgs (PySem.W.fnOf x x (L2.defArgs st) (L2.defBody st) (L2.defScope st) .none kV doc pm an cdv ct) ⟨us, []⟩ = pure (ps.zip us)) :
    ∃ fd, Def K mg x st ps (He.fAd K (x, none)) fd ∧ ∀ (s : Shared) (us : List Value), us.length = ps.length → BindsTo s fd ⟨us, []⟩ (ps.zip us) := by
  obtain ⟨fd, F⟩ := He.SaysD.defs (fa := fa) (fn := fn) c.t.d hd
  exact ⟨fd, ⟨funZ_of F (c.hd _ ht), F.kp, He.glo_ok X G (He.SaysD.facts c.t.d hg), F.bindsN hb⟩, F.bindsA hb⟩
/-- the law's def, given the walk and what its denotation answers -/
theorem lawAt {l : PySem.W.OpenLaw} {n k : Nat} {x : Str} {mg : Str → Option Value} {f : Addr} {fd : FuncData} {m : Fn} (X : K.In h) (c : He.SaysX fa fn ts tf (exTabs tf) w h K) (hne : tf ≠ [])
    (hb : ∀ (s : Shared) (u : Value), BindsTo s fd ⟨[u], []⟩ [(x, u)])
    (F : ∀ base : Heap, K.In base → base.Ns mainGlobals mg → BMod base mg → FnOk l.prog w K mg base CX0 k f fd [x] (spD ⟨K, w⟩ m))
    (hm : ∀ (ns : List Int) (c : List D → D), c = .lst ∨ c = .frz → ns.length ≤ n → (∀ z ∈ ns, Builtin.Int.intBits z ≤ 1048576) → ∃ fs, m [c (ns.map .int)] = some (.bl true, fs)) : LamX.LawAtS l w K CX0 k n x mg f h := by
  refine ⟨fd, tf.map (He.cT K), spD ⟨K, w⟩ m, fun p hp => ?_, fun p hp => ?_, fun p hp => ?_, hb, fun H a ns hl hbt hH hS => ?_, fun base hK hG hT => F base hK hG ?_⟩
  · obtain ⟨q, hq, rfl⟩ := List.mem_map.mp hp
    exact c.empty q hq
  · obtain ⟨q, hq, rfl⟩ := List.mem_map.mp hp
    exact c.out q hq
  · obtain ⟨q, hq, rfl⟩ := List.mem_map.mp hp
    exact PySem.W.codeHd_of_K X (c.hd q hq)
  · have tb := tabs_start (w := w) (K := K) c.more hH
    have ri : ∀ (js : List Int), Reps ⟨K, w⟩ H (js.map D.int) (js.map V.int) [] := fun js => by
      induction js with
      | nil => exact ⟨rfl, rfl⟩
      | cons j js ih => exact ⟨.int j, _, [], [], rfl, ⟨rfl, rfl⟩, ih, rfl⟩
    rcases hS with (hS | hS) | hS
    · obtain ⟨fs, e⟩ := hm ns .lst (.inl rfl) hl hbt
      refine ⟨[.lst (ns.map .int)], [a], .bl true, fs, ⟨.ref a, [], [a], [], rfl, ⟨a, _, [], rfl, hS, ri ns, rfl⟩, ⟨rfl, rfl⟩, rfl⟩, ?_, tb, e, fun v H' ov of_ _ r _ _ => r.1⟩
      intro b
      rw [List.count_cons, List.count_nil]
      split <;> omega
    · obtain ⟨fs, e⟩ := hm ns .frz (.inr rfl) hl hbt
      refine ⟨[.frz (ns.map .int)], [], .bl true, fs, ⟨.ref a, [], [], [], rfl, ⟨a, _, rfl, .inl hS, ri ns, rfl⟩, ⟨rfl, rfl⟩, rfl⟩, ?_, tb, e, fun v H' ov of_ _ r _ _ => r.1⟩
      simp [Nd]
    · obtain ⟨fs, e⟩ := hm ns .frz (.inr rfl) hl hbt
      refine ⟨[.frz (ns.map .int)], [], .bl true, fs, ⟨.ref a, [], [], [], rfl, ⟨a, _, rfl, .inr hS, ri ns, rfl⟩, ⟨rfl, rfl⟩, rfl⟩, ?_, tb, e, fun v H' ov of_ _ r _ _ => r.1⟩
      simp [Nd]
  · cases tf with
    | nil => exact absurd rfl hne
    | cons p tf =>
      have := hT (He.cT K p) (List.mem_cons_self ..)
      obtain ⟨bm, ob, e1, e2, e3, e4, e5, e6, e7, e8⟩ := this.bm
      exact ⟨bm, ob, e1, e2, e5, e6, e7, e8⟩
/-- a deeper place has room for a line's work -/
theorem hu_of {k : Nat} {A : Around} (r : Room k A) : A.units + 70 < cLine := by
  have := r.un; unfold cLine at *; omega
end
end Z


set_option Elab.async false
set_option linter.all false
set_option maxRecDepth 100000
/-! short names for what is printed -/
namespace Z
open PySem PySem.Spec PyProof.Rows L2
theorem h64 {k : Nat} {A : Around} (r : Room k A) : A.units + 64 < cLine := by have := hu_of r; omega
theorem h65 {k : Nat} {A : Around} (r : Room k A) : A.units + 65 < cLine := by have := hu_of r; omega
abbrev fSub : List D → Option D := fI2 fun i j => some (.int (i - j))
abbrev fFdiv : List D → Option D := fI2 fun i j => if j ≠ 0 ∧ j.natAbs < 1073741824 then some (.int (i.fdiv j)) else none
abbrev fMod : List D → Option D := fI2 fun i j => if j ≠ 0 then some (.int (i.fmod j)) else none
abbrev fPow : List D → Option D := fI2 fun i j => if 0 ≤ j ∧ j ≤ 1000000 ∧ i.natAbs < 2 ^ 64 then some (.int (i ^ j.toNat)) else none
abbrev fLt : List D → Option D := fCmp fun a b => ltD a b
abbrev fGt : List D → Option D := fCmp fun a b => ltD b a
abbrev fLe : List D → Option D := fCmp fun a b => !ltD b a
abbrev fGe : List D → Option D := fCmp fun a b => !ltD a b
theorem bb_len : bootBuiltins "len" = some (.builtin "len") := by decide +kernel
theorem bb_isinstance : bootBuiltins "isinstance" = some (.builtin "isinstance") := by decide +kernel
theorem bb_sorted : bootBuiltins "sorted" = some (.builtin "sorted") := by decide +kernel
theorem bb_min : bootBuiltins "min" = some (.builtin "min") := by decide +kernel
theorem bb_max : bootBuiltins "max" = some (.builtin "max") := by decide +kernel
theorem bb_int : bootBuiltins "int" = some (.type "int") := by decide +kernel
theorem bb_tuple : bootBuiltins "tuple" = some (.type "tuple") := by decide +kernel
theorem bb_list : bootBuiltins "list" = some (.type "list") := by decide +kernel
theorem bb_str : bootBuiltins "str" = some (.type "str") := by decide +kernel
theorem bb_bool : bootBuiltins "bool" = some (.type "bool") := by decide +kernel
/-- the slots of a list -/
def kpL (l : List Nat) : Nat → Bool := fun i => l.contains i
theorem kpL_sub {a b : List Nat} (h : a.all (b.contains ·) = true) : ∀ i, kpL a i = true → kpL b i = true := fun i hi => by
  unfold kpL at hi ⊢
  exact List.all_eq_true.mp h i (List.contains_iff_mem.mp hi)
/-- a def of which nothing is asked -/
theorem fn_none {P : Program} {w : World} {K : PySem.W.Frag} {mg : Str → Option Value} {base : Heap} {k : Nat} {f : Addr} {fd : FuncData} {ps : List Str} : FnOk P w K mg base CX0 k f fd ps (spD ⟨K, w⟩ fun _ => none) := by
  constructor
  · intro vs H Q E h
    obtain ⟨ds, oA, r, fs, _, _, _, e, _⟩ := h
    cases e
  · intro A outer s H args us vs Q E hr h0 hb hv h
    obtain ⟨ds, oA, r, fs, _, _, _, e, _⟩ := h
    cases e
end Z


set_option Elab.async false
set_option linter.all false
set_option maxRecDepth 100000
/-! plain laws of what the denotations compute by -/
namespace Z
open PySem PySem.Spec PyProof.Rows L2

/-! ### equality, depth -/
mutual
/-- no bool in it: equality is sameness -/
def D.cl : D → Bool
  | .non => true
  | .int _ => true
  | .str _ => true
  | .tup xs => D.cls xs
  | .lst xs => D.cls xs
  | _ => false
def D.cls : List D → Bool
  | [] => true
  | x :: xs => D.cl x && D.cls xs
end
mutual
theorem eqD_cl : ∀ (a b : D), a.cl = true → b.cl = true → (eqD a b = true ↔ a = b)
  | .non, b, _, h => by cases b <;> simp [D.cl] at h <;> simp [eqD, toPy, PyData.eqv]
  | .int i, b, _, h => by cases b <;> simp [D.cl] at h <;> simp [eqD, toPy, PyData.eqv]
  | .str x, b, _, h => by cases b <;> simp [D.cl] at h <;> simp [eqD, toPy, PyData.eqv]
  | .tup xs, b, g, h => by
    cases b <;> simp [D.cl] at h <;> simp [eqD, toPy, PyData.eqv]
    exact eqDs_cl xs _ (by simpa [D.cl] using g) h
  | .lst xs, b, g, h => by
    cases b <;> simp [D.cl] at h <;> simp [eqD, toPy, PyData.eqv]
    exact eqDs_cl xs _ (by simpa [D.cl] using g) h
  | .bl _, _, g, _ => by simp [D.cl] at g
  | .frz _, _, g, _ => by simp [D.cl] at g
  | .dic _ _, _, g, _ => by simp [D.cl] at g
  | .obj _ _ _, _, g, _ => by simp [D.cl] at g
theorem eqDs_cl : ∀ (a b : List D), D.cls a = true → D.cls b = true → (PyData.eqvAll (toPys a) (toPys b) = true ↔ a = b)
  | [], [], _, _ => by simp [toPys, PyData.eqvAll]
  | [], _ :: _, _, _ => by simp [toPys, PyData.eqvAll]
  | _ :: _, [], _, _ => by simp [toPys, PyData.eqvAll]
  | x :: xs, y :: ys, g, h => by
    simp only [D.cls, Bool.and_eq_true] at g h
    have h1 := eqD_cl x y g.1 h.1
    have h2 := eqDs_cl xs ys g.2 h.2
    simp only [toPys, PyData.eqvAll, Bool.and_eq_true, List.cons.injEq]
    exact and_congr h1 h2
end
theorem eqD_eq {a b : D} (ha : a.cl = true) (hb : b.cl = true) : eqD a b = decide (a = b) := by
  rw [Bool.eq_iff_iff, eqD_cl a b ha hb, decide_eq_true_eq]
theorem dep_of {d : D} (h : d.dp ≤ 60) : dep d = true := decide_eq_true h
theorem dep_int (i : Int) : dep (.int i) = true := dep_of (by simp [D.dp])
/-! ### the operators -/
theorem fEq_cl {a b : D} (ha : a.cl = true) (hb : b.cl = true) (da : a.dp ≤ 60) (db : b.dp ≤ 60) : fEq [a, b] = some (.bl (decide (a = b))) := by
  simp only [fEq, dep_of da, dep_of db, Bool.and_self, if_true, eqD_eq ha hb]
theorem fEq_int (i j : Int) : fEq [.int i, .int j] = some (.bl (decide (i = j))) := by
  rw [fEq_cl (by simp [D.cl]) (by simp [D.cl]) (by simp [D.dp]) (by simp [D.dp])]; simp
theorem fEq_str (i j : Str) : fEq [.str i, .str j] = some (.bl (decide (i = j))) := by
  rw [fEq_cl (by simp [D.cl]) (by simp [D.cl]) (by simp [D.dp]) (by simp [D.dp])]; simp
theorem fNe_int (i j : Int) : fNe [.int i, .int j] = some (.bl (decide (i ≠ j))) := by
  simp only [fNe, dep_int, Bool.and_self, if_true, eqD_eq (a := .int i) (b := .int j) (by simp [D.cl]) (by simp [D.cl])]
  simp
theorem cmp_int (i j : Int) : cmpOk (.int i) (.int j) = true := by simp [cmpOk, toPy, PySem.W.alike, dep_int]
theorem ltD_int (i j : Int) : ltD (.int i) (.int j) = decide (i < j) := by
  unfold ltD; exact PySem.W.dataLt_int i j
theorem fLt_int (i j : Int) : fLt [.int i, .int j] = some (.bl (decide (i < j))) := by simp only [fCmp, cmp_int, if_true, ltD_int]
theorem fGt_int (i j : Int) : fGt [.int i, .int j] = some (.bl (decide (j < i))) := by simp only [fCmp, cmp_int, if_true, ltD_int]
theorem not_dec {p q : Prop} [Decidable p] [Decidable q] (h : ¬ p ↔ q) : (!decide p) = decide q := by
  by_cases hp : p
  · have : ¬ q := fun hq => h.mpr hq hp
    simp [hp, this]
  · simp [hp, h.mp hp]
theorem fLe_int (i j : Int) : fLe [.int i, .int j] = some (.bl (decide (i ≤ j))) := by
  simp only [fCmp, cmp_int, if_true, ltD_int]
  exact congrArg (fun b => some (D.bl b)) (not_dec (by omega))
theorem fGe_int (i j : Int) : fGe [.int i, .int j] = some (.bl (decide (j ≤ i))) := by
  simp only [fCmp, cmp_int, if_true, ltD_int]
  exact congrArg (fun b => some (D.bl b)) (not_dec (by omega))
/-! ### loops -/
/-- a for loop that never leaves, by what holds behind each part of its items; gs: the walked lists that must stand -/
theorem dForL_inv {gs : List (Nat × D)} {b : Bnd} {mb : Blk} (J : List D → DE → Prop) : ∀ (xs pre : List D) (δ : DE), (∀ p δ, J p δ → gOk gs δ = true) → (∀ p x q δ, pre ++ xs = p ++ x :: q → J p δ → ∃ δ1 δ2, b x δ = some δ1 ∧ (mb δ1 = some (.nx δ2) ∨ mb δ1 = some (.ct δ2)) ∧ J (p ++ [x]) δ2) →
    J pre δ → ∃ δ', dForL gs b mb xs δ = some (.nx δ') ∧ J (pre ++ xs) δ'
  | [], pre, δ, hg, _, h => ⟨δ, by simp only [dForL, hg _ _ h, if_true], by rw [List.append_nil]; exact h⟩
  | x :: xs, pre, δ, hg, hs, h => by
    obtain ⟨δ1, δ2, e1, e2, h2⟩ := hs pre x xs δ rfl h
    obtain ⟨δ', e3, h3⟩ := dForL_inv J xs (pre ++ [x]) δ2 hg (fun p y q δ e => hs p y q δ (by rw [← e]; simp)) h2
    refine ⟨δ', ?_, by simpa using h3⟩
    simp only [dForL, hg _ _ h, if_true, e1]
    rcases e2 with e2 | e2 <;> rw [e2] <;> exact e3
end Z


set_option Elab.async false
set_option linter.all false
set_option maxRecDepth 100000
/-! enumerate of a list or a tuple -/
namespace Z
open PySem PySem.Spec PyProof.Rows L2

section
variable {X : Cx} {pins : List (Addr × Obj)} {σ : L2.St} {H : Hp} {s : Shared}
end
end Z


set_option Elab.async false
set_option linter.all false
set_option maxRecDepth 100000
/-! enumerate as what is walked -/
namespace Z
open PySem PySem.Spec PyProof.Rows L2
open PySem.AutoSeq1 (wpAny_loadPart')

end Z


set_option Elab.async false
set_option linter.all false
set_option maxRecDepth 100000
/-! for .. in enumerate(a list or a tuple) -/
namespace Z
open PySem PySem.Spec PyProof.Rows L2

section
variable {X : Cx} {e l : Expr} {ta : TA} {p pos tpos : Pos} {elts : List Expr} {kk : Nat} {q : Bool} {ml : Den}
/-- the items with their places -/
def enumD (k : Nat) : List D → List D
  | [] => []
  | x :: xs => .tup [.int k, x] :: enumD (k + 1) xs
theorem enumD_len : ∀ (k : Nat) (xs : List D), (enumD k xs).length = xs.length
  | _, [] => rfl
  | k, x :: xs => by simp [enumD, enumD_len (k + 1) xs]
theorem enumD_get : ∀ (k : Nat) (xs : List D) (i : Nat), (enumD k xs)[i]? = (xs[i]?).map fun x => .tup [.int ((k + i : Nat) : Int), x]
  | _, [], i => by simp [enumD]
  | k, x :: xs, 0 => by simp [enumD]
  | k, x :: xs, i + 1 => by
    simp only [enumD, List.getElem?_cons_succ, enumD_get (k + 1) xs i]
    rw [show k + 1 + i = k + (i + 1) by omega]
end
end Z


set_option Elab.async false
set_option linter.all false
set_option maxRecDepth 100000
/-! unary minus -/
namespace Z
open PySem PySem.Spec PyProof.Rows L2
section
variable {X : Cx}
end
end Z


set_option Elab.async false
set_option linter.all false
set_option maxRecDepth 100000
/-! zip of two or three lists or tuples -/
namespace Z
open PySem PySem.Spec PyProof.Rows L2
structure Zs2 (z TI TO i1 i2 a1 a2 : Addr) : Prop where
  s : ZipSep2 z TI TO i1 i2 [i1, a1] [i2, a2]
  n1 : a1 ≠ i1
  n2 : a2 ≠ i2
end Z


set_option Elab.async false
set_option linter.all false
set_option maxRecDepth 100000
/-! for .. in zip(..) -/
namespace Z
open PySem PySem.Spec PyProof.Rows L2
section
variable {K : Fw} {κ : Kx} {H : Hp} {σ : L2.St} {δ : DE} {o : List Addr}
end
section
variable {X : Cx} {e e2 : Expr} {ta : TA} {p pos tpos : Pos} {elts : List Expr} {kk : Nat} {q : Bool} {ml : DE → Option (List R × DE)}
end
end Z


set_option Elab.async false
set_option linter.all false
set_option maxRecDepth 100000
/-! zip of three -/
namespace Z
open PySem PySem.Spec PyProof.Rows L2
structure Zs3 (z TI TO i1 i2 i3 a1 a2 a3 : Addr) : Prop where
  s : ZipSep3 z TI TO i1 i2 i3 [i1, a1] [i2, a2] [i3, a3]
  n1 : a1 ≠ i1
  n2 : a2 ≠ i2
  n3 : a3 ≠ i3
section
variable {X : Cx} {e e2 e3 : Expr} {ta : TA} {p pos tpos : Pos} {elts : List Expr} {kk : Nat} {q : Bool} {ml : DE → Option (List R × DE)}
end
end Z


set_option Elab.async false
set_option linter.all false
set_option maxRecDepth 100000
/-! methods that change a list of data that cannot be changed -/
namespace Z
open PySem PySem.Spec PyProof.Rows L2
/-- what a method makes of a list and its arguments: the list behind it, the answer -/
abbrev MethD := List D → List D → Option (List D × D)
structure MethR (K : Fw) (r : V → List V → Hp → VK → Prop) (g : MethD) : Prop where
  run : ∀ (l : Addr) (vs us : List V) (H : Hp) (Q : VK) (xs ds xs' : List D) (d : D), D.imms xs = true → D.imms ds = true → g xs ds = some (xs', d) → Reps K H xs vs [] → Reps K H ds us [] → H l = some (.lst vs) →
    (∀ vs' w, Reps K H xs' vs' [] → Rep K H d w [] → Q w (upd H l (.lst vs'))) → r (.ref l) us H Q
section
variable {X : Cx} {eo e : Expr} {es : List Expr} {qo qe : Bool} {mo : Den} {ma : DE → Option (List R × DE)} {g : MethD} {r : V → List V → Hp → VK → Prop} {apos cpos : Pos}
end
/-! ### pop, remove -/
theorem Reps.erase {K : Fw} {H : Hp} : ∀ {xs : List D} {vs : List V} (k : Nat), Reps K H xs vs [] → Reps K H (xs.eraseIdx k) (vs.eraseIdx k) []
  | [], vs, k, h => by rw [h.1]; exact ⟨rfl, rfl⟩
  | x :: xs, vs, k, h => by
    obtain ⟨v, vr, o1, o2, rfl, h1, h2, e⟩ := h
    have e1 : o1 = [] := (List.append_eq_nil_iff.mp e.symm).1
    have e2 : o2 = [] := (List.append_eq_nil_iff.mp e.symm).2
    subst e1 e2
    cases k with
    | zero => exact h2
    | succ k => exact ⟨v, _, [], [], rfl, h1, Reps.erase k h2, rfl⟩
section
variable {X : Cx} {eo e : Expr} {qo qe : Bool} {mo : Den} {ma : DE → Option (List R × DE)} {apos cpos : Pos}
end
end Z


set_option Elab.async false
set_option linter.all false
set_option maxRecDepth 100000
/-! a < b < c -/
namespace Z
open PySem PySem.Spec PyProof.Rows L2
section
variable {κ : Kx} {σ : L2.St} {H : Hp} {Q : VK} {f1 f2 : List D → Option D} {ma mb mc : Den}
end
section
variable {X : Cx} {a b c : Expr} {pos : Pos} {f1 f2 : List D → Option D} {ma mb mc : Den} {op op' : CmpOp}
end
end Z


set_option Elab.async false
set_option linter.all false
set_option maxRecDepth 100000
/-! list.index, list.remove -/
namespace Z
open PySem PySem.Spec PyProof.Rows L2
section
variable {X : Cx} {eo e : Expr} {qo qe : Bool} {mo : Den} {ma : DE → Option (List R × DE)} {apos cpos : Pos}
end
/-! remove: numbers alone -/
section
variable {X : Cx} {eo e : Expr} {qo qe : Bool} {mo : Den} {ma : DE → Option (List R × DE)} {apos cpos : Pos}
end
end Z


set_option Elab.async false
set_option linter.all false
set_option maxRecDepth 100000
/-! len(set(..)) -/
namespace Z
open PySem PySem.Spec PyProof.Rows L2
section
variable {X : Cx} {e : Expr} {q : Bool} {m : Den} {p p2 pos pos2 : Pos}
end
end Z


set_option Elab.async false
set_option linter.all false
set_option maxRecDepth 100000
set_option maxHeartbeats 1000000
/-! sets whose members are rows: the table -/
namespace Z
open PySem PySem.Spec PyProof.Rows L2
/-- v is the row k -/
structure NK (h : Heap) (k : NestedKey) (v : Value) : Prop where
  is : NestedIs h k v
  dp : k.depth ≤ 8
  ref : ∃ a, v = .ref a
section
variable {P : Program} {w : World} {A : Around} {E : Value → Shared → Prop} {s : Shared}
/-- what is stored of a member -/
def cellOf (w : World) (p : NestedKey × Value) : Int × Value := (p.1.hash w, p.2)
/-- the set at a has the members L, in the order of its table -/
structure NSet (w : World) (h : Heap) (a : Addr) (L : List (NestedKey × Value)) (es : Array (Int × Value)) (ep : Nat) (t : SetTable) : Prop where
  obj : ∃ o, h.get? a = some o ∧ o.ExactSet ∧ o.data = .set es ep t
  cells : es.toList = L.map (cellOf w)
  tab : TabOk t (L.map fun p => p.1.hash w)
  nodup : (L.map (·.1)).Nodup
  mem : ∀ p ∈ L, NK h p.1 p.2
  led : w.params.followText "set-order" = true ∨ t.led = true
  room : L.length * 5 < t.mask * 3
  few : L.length < 64
variable {a : Addr} {L : List (NestedKey × Value)} {es : Array (Int × Value)} {ep : Nat} {t : SetTable}
theorem NSet.size (S : NSet w s.heap a L es ep t) : es.size = L.length := by rw [← Array.length_toList, S.cells, List.length_map]
theorem fits_of_tab {t : SetTable} {hs : List Int} {n : Nat} (T : TabOk t hs) (hn : n = hs.length) (hl : n ≤ t.mask) : t.fits n = true := by
  have h1 := T.sz
  simp only [SetTable.fits, SetTable.fill, T.dm, Bool.and_eq_true, beq_iff_eq, decide_eq_true_eq, Array.size_empty, Nat.add_zero]
  omega
theorem NSet.fits (S : NSet w s.heap a L es ep t) : t.fits es.size = true := fits_of_tab S.tab (by rw [S.size, List.length_map]) (by rw [S.size]; have := S.room; omega)
theorem NSet.at_ (S : NSet w s.heap a L es ep t) {i : Nat} {p : NestedKey × Value} (h : L[i]? = some p) : es[i]? = some (cellOf w p) := by
  rw [← Array.getElem?_toList, S.cells, List.getElem?_map, h]; rfl
end
end Z


set_option Elab.async false
set_option linter.all false
set_option maxRecDepth 100000
set_option maxHeartbeats 1000000
/-! sets whose members are rows: adding -/
namespace Z
open PySem PySem.Spec PyProof.Rows L2
section
variable {P : Program} {w : World} {A : Around} {E : Value → Shared → Prop} {s : Shared} {a : Addr} {L : List (NestedKey × Value)} {es : Array (Int × Value)} {ep : Nat} {t : SetTable}
end
end Z


set_option Elab.async false
set_option linter.all false
set_option maxRecDepth 100000
set_option maxHeartbeats 4000000
/-! set(..) of a sequence of rows -/
namespace Z
open PySem PySem.Spec PyProof.Rows L2
mutual
theorem dNK_inj : ∀ (a b : D), a.nol = true → b.nol = true → a.cl = true → b.cl = true → dNK a = dNK b → a = b
  | .non, b, _, hb, _, cb, e => by cases b <;> simp_all [dNK, D.nol, D.cl]
  | .int i, b, _, hb, _, cb, e => by cases b <;> simp_all [dNK, D.nol, D.cl]
  | .str i, b, _, hb, _, cb, e => by cases b <;> simp_all [dNK, D.nol, D.cl]
  | .bl i, b, _, hb, ca, cb, e => by simp [D.cl] at ca
  | .tup xs, b, ha, hb, ca, cb, e => by
    cases b with
    | tup ys =>
      simp only [dNK, NestedKey.tup.injEq] at e
      rw [dNKs_inj xs ys ha hb ca cb e]
    | _ => simp_all [dNK, D.nol, D.cl]
  | .lst _, _, ha, _, _, _, _ => by cases ha
  | .frz _, _, ha, _, _, _, _ => by cases ha
  | .dic _ _, _, ha, _, _, _, _ => by cases ha
  | .obj _ _ _, _, ha, _, _, _, _ => by cases ha
theorem dNKs_inj : ∀ (a b : List D), D.nols a = true → D.nols b = true → D.cls a = true → D.cls b = true → dNKs a = dNKs b → a = b
  | [], [], _, _, _, _, _ => rfl
  | [], _ :: _, _, _, _, _, e => by simp [dNKs] at e
  | _ :: _, [], _, _, _, _, e => by simp [dNKs] at e
  | x :: xs, y :: ys, ha, hb, ca, cb, e => by
    simp only [D.nols, Bool.and_eq_true] at ha hb
    simp only [D.cls, Bool.and_eq_true] at ca cb
    simp only [dNKs, List.cons.injEq] at e
    rw [dNK_inj x y ha.1 hb.1 ca.1 cb.1 e.1, dNKs_inj xs ys ha.2 hb.2 ca.2 cb.2 e.2]
end
mutual
theorem dNK_depth : ∀ (a : D), (dNK a).depth ≤ a.dp
  | .non => by simp [dNK, NestedKey.depth]
  | .int i => by simp [dNK, NestedKey.depth]
  | .str i => by simp [dNK, NestedKey.depth]
  | .bl i => by simp [dNK, NestedKey.depth]
  | .tup xs => by simp only [dNK, NestedKey.depth, D.dp]; have := dNKs_depth xs; omega
  | .lst _ => by simp [dNK, NestedKey.depth]
  | .frz _ => by simp [dNK, NestedKey.depth]
  | .dic _ _ => by simp [dNK, NestedKey.depth]
  | .obj _ _ _ => by simp [dNK, NestedKey.depth]
theorem dNKs_depth : ∀ (a : List D), NestedKey.depthAll (dNKs a) ≤ D.dps a
  | [] => by simp [dNKs, NestedKey.depthAll]
  | x :: xs => by simp only [dNKs, NestedKey.depthAll, D.dps]; have := dNK_depth x; have := dNKs_depth xs; omega
end
mutual
theorem nested_reads {h : Heap} : ∀ (d : D) (u : Value) (as : List Addr), d.nol = true → Reads h u (toPy d) as → NestedIs h (dNK d) u
  | .non, u, as, _, r => by simp only [toPy] at r; cases r; exact .none
  | .int i, u, as, _, r => by simp only [toPy] at r; cases r; exact .int _ _
  | .str i, u, as, _, r => by simp only [toPy] at r; cases r; exact .text _ _
  | .bl i, u, as, _, r => by simp only [toPy] at r; cases r; exact .bool rfl
  | .tup xs, u, as, n, r => by
    simp only [toPy] at r
    cases r with
    | tuple h1 h2 h3 h4 => exact .tup h1 h2 h3 (nested_readsAll xs _ _ n h4)
  | .lst _, _, _, n, _ => by cases n
  | .frz _, _, _, n, _ => by cases n
  | .dic _ _, _, _, n, _ => by cases n
  | .obj _ _ _, _, _, n, _ => by cases n
theorem nested_readsAll {h : Heap} : ∀ (ds : List D) (us : List Value) (as : List Addr), D.nols ds = true → ReadsAll h us (toPys ds) as → NestedAll h (dNKs ds) us
  | [], us, as, _, r => by simp only [toPys] at r; cases r; exact .nil
  | x :: xs, us, as, n, r => by
    simp only [toPys] at r
    simp only [D.nols, Bool.and_eq_true] at n
    cases r with
    | cons h1 h2 => exact .cons (nested_reads x _ _ n.1 h1) (nested_readsAll xs _ _ n.2 h2)
end
/-- of the first i items all are members, and nothing else is -/
structure GotN (ks : List NestedKey) (vs : List Value) (i : Nat) (L : List (NestedKey × Value)) : Prop where
  few : L.length ≤ i
  mem : ∀ k, k ∈ L.map (·.1) ↔ k ∈ ks.take i
  val : ∀ p ∈ L, ∃ j : Nat, ks[j]? = some p.1 ∧ vs[j]? = some p.2
section
variable {P : Program} {w : World} {A : Around} {E : Value → Shared → Prop} {s : Shared}
end
end Z


set_option Elab.async false
set_option linter.all false
set_option maxRecDepth 100000
set_option maxHeartbeats 1000000
/-! sorted(set(..)), len(set(..)) of rows -/
namespace Z
open PySem PySem.Spec PyProof.Rows L2
def isTup : D → Bool
  | .tup _ => true
  | _ => false
def keyT (d : D) : Bool := isTup d && d.nol && d.cl && decide (d.dp ≤ 8)
/-- of alike data without truth values just the same ones are as great -/
theorem eq_of_le {a b : D} (ca : a.cl = true) (cb : b.cl = true) (al : PySem.W.alike (toPy a) (toPy b) = true) (h1 : PySem.W.dataLe false toPy a b = true) (h2 : PySem.W.dataLe false toPy b a = true) : a = b := by
  have g1 : PyProof.Rows.lexLt itemOrd (PySem.W.keyToks (toPy b)) (PySem.W.keyToks (toPy a)) = false := by
    have : (!PyProof.Rows.lexLt itemOrd (PySem.W.keyToks (toPy b)) (PySem.W.keyToks (toPy a))) = true := h1
    simpa using this
  have g2 : PyProof.Rows.lexLt itemOrd (PySem.W.keyToks (toPy a)) (PySem.W.keyToks (toPy b)) = false := by
    have : (!PyProof.Rows.lexLt itemOrd (PySem.W.keyToks (toPy a)) (PySem.W.keyToks (toPy b))) = true := h2
    simpa using this
  have e := lex_total _ _ g1 g2
  cases q : eqD a b with
  | true => exact (eqD_cl a b ca cb).mp q
  | false =>
    exfalso
    have := (PySem.W.toks_eqv _ _ al).2 q [] [.inl 0]
    rw [e, PySem.W.lex_pre, lex_irrefl] at this
    exact absurd this (by decide)
theorem sortD_permT {xs ys : List D} (hc : ∀ x ∈ xs, x.cl = true) (ha : ∀ x ∈ xs, ∀ y ∈ xs, PySem.W.alike (toPy x) (toPy y) = true) (p : xs.Perm ys) : sortD xs = sortD ys := by
  have q : (sortD xs).Perm (sortD ys) := (sortD_perm xs).trans (p.trans (sortD_perm ys).symm)
  refine q.eq_of_pairwise (fun a b ha' hb' h1 h2 => ?_) (sortD_pair xs) (sortD_pair ys)
  have h3 := (sortD_perm xs).mem_iff.mp ha'
  have h4 := p.mem_iff.mpr ((sortD_perm ys).mem_iff.mp hb')
  exact eq_of_le (hc a h3) (hc b h4) (ha a h3 b h4) h1 h2
theorem GotN.perm {ks : List NestedKey} {vs : List Value} {n : Nat} {L L' : List (NestedKey × Value)} (G : GotN ks vs n L) (p : L'.Perm L) : GotN ks vs n L' :=
  ⟨by rw [p.length_eq]; exact G.few, fun k => by rw [(p.map (·.1)).mem_iff]; exact G.mem k, fun q hq => G.val q (p.mem_iff.mp hq)⟩
section
variable {X : Cx} {e : Expr} {q : Bool} {m : Den} {p p2 pos pos2 : Pos}
end
end Z


set_option Elab.async false
set_option linter.all false
set_option maxRecDepth 100000
/-! sorted(set(..)), len(set(..)) of numbers, texts or rows -/
namespace Z
open PySem PySem.Spec PyProof.Rows L2
section
variable {X : Cx} {e : Expr} {q : Bool} {m : Den} {p p2 pos pos2 : Pos}
end
end Z


set_option Elab.async false
set_option linter.all false
set_option maxRecDepth 100000
/-! min, max of two data of any kind -/
namespace PySem
open PyProof.Rows
section
variable {prog : Program} {w : World} {A : Around} {E : Value → Shared → Prop} {s : Shared}

theorem call_max_twoH {a b : Value} {Q : Value → Shared → Prop}
    (h : wpAny (model prog w) A.in1 (pyIter (.ref s.heap.objs.size)) (fun it s₂ => ∃ I fp wr G n P St H bt, it = .ref I ∧ WalksS prog w A.in1 I fp wr G n P St ∧ St 0 s₂ ∧ (∀ b ∈ fp, b < s₂.heap.objs.size) ∧ 0 < n ∧
      (∀ b o, H.get? b = some o → b ∉ wr) ∧ (∀ b o, H.get? b = some o → s₂.heap.get? b = some o) ∧ CmpIn prog w A.in1 .Gt H P bt ∧ ∀ v s', P (argBest bt (n - 1)) v → Moved wr G s₂ s' → Q v s') E
      { s with heap := s.heap.push { cls := .type "tuple", data := .seq #[a, b] } }) :
    wpAny (model prog w) A (call (.builtin "max") [a, b]) Q E s := by
  have hname : (toString "max" ++ toString ".loop" : String) = "max.loop" := by decide
  refine call_function_tree F.kind_max F.plain_max F.entry_max (F.args_max2 _ _) ?_
  show wpAny _ A.in1 (Builtin.Builtins.bindParams "max" ["key", "default"] 0 ⟨[], []⟩ >>= _) _ _ s
  refine wpAny_bind (wpAny_of_eq (show Builtin.Builtins.bindParams "max" ["key", "default"] 0 ⟨[], []⟩ = pure [none, none] from rfl) ?_)
  show wpAny _ A.in1 (newTuple [a, b] >>= _) _ _ s
  refine wpAny_bind (wpAny_newObj_type ?_)
  refine wpAny_bind (wpAny_mono h (fun it s₂ h₂ => ?_) fun _ _ e => e)
  obtain ⟨I, fp, wr, G, n, P, St, H, bt, rfl, W, hst, hfp, hn, hw, hkeep, hcmp, hQ⟩ := h₂
  refine wpAny_bind (wpAny_newObj_type ?_)
  have hSf : s₂.heap.objs.size ∉ fp := fun hm => Nat.lt_irrefl _ (hfp _ hm)
  rw [hname]
  refine wpAny_pure ⟨plainId_quiet F.plain_max_loop _, codeAny_max_loop_firstH W H hw bt hcmp s₂.heap.objs.size hSf (fresh_in hkeep) _ hn (fun b o e => Heap.get?_push_of_some _ (hkeep b o e)) (W.frame 0 s₂ _ s₂.toks hst (Nat.le_refl _) fun b _ o e => Heap.get?_push_of_some _ e) (Heap.get?_push_size _ rfl) fun v s' hP hm => ?_⟩
  exact hQ v s' hP (Moved.drop_new (tk := s₂.toks) hm (Nat.le_refl _))
theorem max_two_data {a b : Value} {x y : PyData} {as : List Addr} {Q : Value → Shared → Prop} (hh : A.handled = none) (hr : ReadsAll s.heap [a, b] [x, y] as) (ha : W.AlikeAll [x, y]) (hu : A.units + 1 + PyData.depthAll [x, y] < cLine)
    (h : ∀ (i : Nat) v h' tk bs, [a, b].toArray[i]? = some v → Reads h' v (W.maxD x [y]) bs → (∀ b o, s.heap.get? b = some o → h'.get? b = some o) → Q v { s with heap := h', toks := tk }) :
    wpAny (model prog w) A (call (.builtin "max") [a, b]) Q E s := by
  have hT : (s.heap.push { cls := .type "tuple", data := .seq #[a, b] }).IsTuple s.heap.objs.size #[a, b] := ⟨_, Heap.get?_push_size _ rfl, rfl, 0, rfl⟩
  have hr' : ReadsAll (s.heap.push { cls := .type "tuple", data := .seq #[a, b] }) #[a, b].toList [x, y] as := ReadsAll.keeps (fun b o e => Heap.get?_push_of_some _ e) hr
  refine call_max_twoH (W.iter_tupleW (A := A.in1) (s := { s with heap := s.heap.push { cls := .type "tuple", data := .seq #[a, b] } }) hh hT fun s₂ e Wk st hfp hw hk => ?_)
  refine ⟨_, _, _, _, _, _, _, _, _, rfl, Wk, st, hfp, by simp, hw, hk, W.cmpIn_gt (A := A.in1) hr' ha (by show A.units + 1 + _ < _; exact hu), fun v s' hP m => ?_⟩
  obtain ⟨h', tk, rfl, hk'⟩ := W.moved_old e rfl m
  obtain ⟨bs, r, _, _, _⟩ := W.readsAll_atA hr' _ v hP
  have e2 := (W.argBest_fold (fun a b => W.dataLt b a) PyData.none x [y] 1 (Nat.le_refl _)).2
  have e1 : #[a, b].size - 1 = 1 := rfl
  rw [e1] at r
  exact h _ v h' tk bs hP (W.reads_keeps hk' (by unfold W.maxD; rw [show List.take 1 [y] = [y] from rfl] at e2; rw [← e2]; exact r)) fun b o eb => hk' b o (Heap.get?_push_of_some _ eb)

theorem call_min_twoH {a b : Value} {Q : Value → Shared → Prop}
    (h : wpAny (model prog w) A.in1 (pyIter (.ref s.heap.objs.size)) (fun it s₂ => ∃ I fp wr G n P St H bt, it = .ref I ∧ WalksS prog w A.in1 I fp wr G n P St ∧ St 0 s₂ ∧ (∀ b ∈ fp, b < s₂.heap.objs.size) ∧ 0 < n ∧
      (∀ b o, H.get? b = some o → b ∉ wr) ∧ (∀ b o, H.get? b = some o → s₂.heap.get? b = some o) ∧ CmpIn prog w A.in1 .Lt H P bt ∧ ∀ v s', P (argBest bt (n - 1)) v → Moved wr G s₂ s' → Q v s') E
      { s with heap := s.heap.push { cls := .type "tuple", data := .seq #[a, b] } }) :
    wpAny (model prog w) A (call (.builtin "min") [a, b]) Q E s := by
  have hname : (toString "min" ++ toString ".loop" : String) = "min.loop" := by decide
  refine call_function_tree F.kind_min F.plain_min F.entry_min (F.args_min2 _ _) ?_
  show wpAny _ A.in1 (Builtin.Builtins.bindParams "min" ["key", "default"] 0 ⟨[], []⟩ >>= _) _ _ s
  refine wpAny_bind (wpAny_of_eq (show Builtin.Builtins.bindParams "min" ["key", "default"] 0 ⟨[], []⟩ = pure [none, none] from rfl) ?_)
  show wpAny _ A.in1 (newTuple [a, b] >>= _) _ _ s
  refine wpAny_bind (wpAny_newObj_type ?_)
  refine wpAny_bind (wpAny_mono h (fun it s₂ h₂ => ?_) fun _ _ e => e)
  obtain ⟨I, fp, wr, G, n, P, St, H, bt, rfl, W, hst, hfp, hn, hw, hkeep, hcmp, hQ⟩ := h₂
  refine wpAny_bind (wpAny_newObj_type ?_)
  have hSf : s₂.heap.objs.size ∉ fp := fun hm => Nat.lt_irrefl _ (hfp _ hm)
  rw [hname]
  refine wpAny_pure ⟨plainId_quiet F.plain_min_loop _, codeAny_min_loop_firstH W H hw bt hcmp s₂.heap.objs.size hSf (fresh_in hkeep) _ hn (fun b o e => Heap.get?_push_of_some _ (hkeep b o e)) (W.frame 0 s₂ _ s₂.toks hst (Nat.le_refl _) fun b _ o e => Heap.get?_push_of_some _ e) (Heap.get?_push_size _ rfl) fun v s' hP hm => ?_⟩
  exact hQ v s' hP (Moved.drop_new (tk := s₂.toks) hm (Nat.le_refl _))
theorem min_two_data {a b : Value} {x y : PyData} {as : List Addr} {Q : Value → Shared → Prop} (hh : A.handled = none) (hr : ReadsAll s.heap [a, b] [x, y] as) (ha : W.AlikeAll [x, y]) (hu : A.units + 1 + PyData.depthAll [x, y] < cLine)
    (h : ∀ (i : Nat) v h' tk bs, [a, b].toArray[i]? = some v → Reads h' v (W.minD x [y]) bs → (∀ b o, s.heap.get? b = some o → h'.get? b = some o) → Q v { s with heap := h', toks := tk }) :
    wpAny (model prog w) A (call (.builtin "min") [a, b]) Q E s := by
  have hT : (s.heap.push { cls := .type "tuple", data := .seq #[a, b] }).IsTuple s.heap.objs.size #[a, b] := ⟨_, Heap.get?_push_size _ rfl, rfl, 0, rfl⟩
  have hr' : ReadsAll (s.heap.push { cls := .type "tuple", data := .seq #[a, b] }) #[a, b].toList [x, y] as := ReadsAll.keeps (fun b o e => Heap.get?_push_of_some _ e) hr
  refine call_min_twoH (W.iter_tupleW (A := A.in1) (s := { s with heap := s.heap.push { cls := .type "tuple", data := .seq #[a, b] } }) hh hT fun s₂ e Wk st hfp hw hk => ?_)
  refine ⟨_, _, _, _, _, _, _, _, _, rfl, Wk, st, hfp, by simp, hw, hk, W.cmpIn_lt (A := A.in1) hr' ha (by show A.units + 1 + _ < _; exact hu), fun v s' hP m => ?_⟩
  obtain ⟨h', tk, rfl, hk'⟩ := W.moved_old e rfl m
  obtain ⟨bs, r, _, _, _⟩ := W.readsAll_atA hr' _ v hP
  have e2 := (W.argBest_fold W.dataLt PyData.none x [y] 1 (Nat.le_refl _)).2
  have e1 : #[a, b].size - 1 = 1 := rfl
  rw [e1] at r
  exact h _ v h' tk bs hP (W.reads_keeps hk' (by unfold W.minD; rw [show List.take 1 [y] = [y] from rfl] at e2; rw [← e2]; exact r)) fun b o eb => hk' b o (Heap.get?_push_of_some _ eb)
end
end PySem
namespace Z
open PySem PySem.Spec PyProof.Rows L2

def fMax2X : List D → Option D
  | [a, b] => fMax [a, b]
  | _ => none
theorem c_max2X {X : Cx} (hc : X.calm = true) (hu : X.A.units + 64 < cLine) : CallR X (.builtin "max") (Pr X.F fMax2X) := by
  intro pins s σ H xs us Q I r h
  obtain ⟨ds, o, d, rr, e, k0, k⟩ := pr_end h
  unfold fMax2X at e
  split at e
  · rename_i a b
    simp only [fMax] at e
    split at e
    · rename_i hcm
      cases (Option.some.inj e)
      have hn : D.nols [a, b] = true := by simp only [cmpAll, Bool.and_eq_true] at hcm; exact hcm.1
      obtain ⟨hal, hdp⟩ := cmpAll_alike hcm
      simp only [toPys] at hal hdp
      have rs := rr.imm' (D.nols_imms _ hn)
      have hmn : (maxD a [b]).nol = true := (D.nols_iff _).mp hn _ (maxD_mem a [b])
      obtain ⟨as, g⟩ := Reps.reads I rs r
      simp only [toPys] at g
      have hl : xs.length = 2 := rs.length
      obtain ⟨x, y, rfl⟩ : ∃ x y, xs = [x, y] := by
        rcases xs with _ | ⟨x, _ | ⟨y, _ | ⟨_, _⟩⟩⟩
        · cases hl
        · cases hl
        · exact ⟨x, y, rfl⟩
        · cases hl
      have rv := r
      obtain ⟨u, w', rfl, _, _⟩ := vals2 r
      exact max_two_data (I.ok.hd hc) g hal (by omega) fun i v h' tk bs hi hr hk => by
          replace hr : Reads h' v (PySem.W.maxD (toPy a) (toPys [b])) bs := hr
          rw [← maxD_py a [b]] at hr
          obtain ⟨w, rw', rd⟩ := item_eq I rs rv hn hmn (by simpa using hi) hr hk
          exact ⟨w, H, I.kept hk, rw', k0 _ rd⟩
    · cases e
  · cases e

def fMin2X : List D → Option D
  | [a, b] => fMin [a, b]
  | _ => none
theorem c_min2X {X : Cx} (hc : X.calm = true) (hu : X.A.units + 64 < cLine) : CallR X (.builtin "min") (Pr X.F fMin2X) := by
  intro pins s σ H xs us Q I r h
  obtain ⟨ds, o, d, rr, e, k0, k⟩ := pr_end h
  unfold fMin2X at e
  split at e
  · rename_i a b
    simp only [fMin] at e
    split at e
    · rename_i hcm
      cases (Option.some.inj e)
      have hn : D.nols [a, b] = true := by simp only [cmpAll, Bool.and_eq_true] at hcm; exact hcm.1
      obtain ⟨hal, hdp⟩ := cmpAll_alike hcm
      simp only [toPys] at hal hdp
      have rs := rr.imm' (D.nols_imms _ hn)
      have hmn : (minD a [b]).nol = true := (D.nols_iff _).mp hn _ (minD_mem a [b])
      obtain ⟨as, g⟩ := Reps.reads I rs r
      simp only [toPys] at g
      have hl : xs.length = 2 := rs.length
      obtain ⟨x, y, rfl⟩ : ∃ x y, xs = [x, y] := by
        rcases xs with _ | ⟨x, _ | ⟨y, _ | ⟨_, _⟩⟩⟩
        · cases hl
        · cases hl
        · exact ⟨x, y, rfl⟩
        · cases hl
      have rv := r
      obtain ⟨u, w', rfl, _, _⟩ := vals2 r
      exact min_two_data (I.ok.hd hc) g hal (by omega) fun i v h' tk bs hi hr hk => by
          replace hr : Reads h' v (PySem.W.minD (toPy a) (toPys [b])) bs := hr
          rw [← minD_py a [b]] at hr
          obtain ⟨w, rw', rd⟩ := item_eq I rs rv hn hmn (by simpa using hi) hr hk
          exact ⟨w, H, I.kept hk, rw', k0 _ rd⟩
    · cases e
  · cases e
end Z


set_option Elab.async false
set_option linter.all false
set_option maxRecDepth 100000
set_option maxHeartbeats 1000000
/-! comprehensions with two clauses -/
namespace Z
open PySem PySem.Spec PyProof.Rows L2
/-- a list under making at L, and all that is owned -/
structure BS (κ : Kx) (H1 : Hp) (ow : List Addr) (L : Addr) (σ : L2.St) (H' : Hp) (accV : List V) (accD : List D) (oacc : List Addr) (δ : DE) (o : List Addr) : Prop where
  list : H' L = some (.lst accV)
  reps : Reps κ.K H' accD accV oacc
  env : Envs κ H' σ δ o
  step : Step H1 H' ow
  own : Own H1 ow (L :: (oacc ++ o))
section
variable {κ : Kx} {H1 H3 H5 : Hp} {ow : List Addr} {L : Addr} {σ : L2.St} {accV : List V} {accD : List D} {oacc : List Addr} {δ : DE} {o3 : List Addr}
theorem BS.nd (B : BS κ H1 ow L σ H3 accV accD oacc δ o3) (n : Nd ow) : Nd (L :: (oacc ++ o3)) := B.own.nd n
theorem nd_cons {a : Addr} {l : List Addr} (n : Nd (a :: l)) : a ∉ l ∧ Nd l :=
  ⟨fun h => by have := n a; rw [List.count_cons_self] at this; have := List.count_pos_iff.mpr h; omega, fun b => by have := n b; have : l.count b ≤ (a :: l).count b := List.count_le_count_cons; omega⟩
/-- a step of the names' own -/
theorem BS.stay (B : BS κ H1 ow L σ H3 accV accD oacc δ o3) (n : Nd ow) {ov5 o5 : List Addr} (st : Step H3 H5 o3) (w : Own H3 o3 (ov5 ++ o5)) :
    H5 L = some (.lst accV) ∧ Reps κ.K H5 accD accV oacc ∧ Step H1 H5 ow ∧ Own H1 ow (L :: (oacc ++ (ov5 ++ o5))) := by
  obtain ⟨hL, nn⟩ := nd_cons (B.nd n)
  have hLo : L ∉ o3 := fun h => hL (List.mem_append_right _ h)
  refine ⟨st.keep L _ B.list hLo (fun _ z => nomatch z), B.reps.step st B.env.ok (nd_split nn), B.step.trans (B.own.sub fun a => ?_) st, fun a => ?_⟩
  · rw [List.count_cons, List.count_append]; omega
  · have g1 := B.own a
    have g2 := w a
    simp only [List.count_cons, List.count_append] at g1 g2 ⊢
    rcases g2 with g2 | ⟨z, g2⟩
    · rcases g1 with g1 | ⟨z1, g1⟩
      · left; omega
      · right; exact ⟨z1, by omega⟩
    · have h1 : oacc.count a = 0 := List.count_eq_zero.mpr fun hm => by
        obtain ⟨vs, e, how⟩ := B.reps.own a hm
        rw [z] at e; cases e
      have h2 : (L == a) = false := by
        rw [beq_eq_false_iff_ne]
        intro e
        have e : @Eq Nat L a := e
        rw [← e, B.list] at z; cases z
      rw [h2]
      right; exact ⟨B.step.dom a z, by simp; omega⟩
/-- one more at its end -/
theorem BS.push {y : V} {d : D} {oy o5 : List Addr} {δ5 : DE} (n : Nd ow) (g1 : H5 L = some (.lst accV)) (g2 : Reps κ.K H5 accD accV oacc) (g3 : Step H1 H5 ow) (g4 : Own H1 ow (L :: (oacc ++ (oy ++ o5)))) (rd : Rep κ.K H5 d y oy) (E : Envs κ H5 σ δ5 o5) (hL : H1 L = none ∨ L ∈ ow) :
    BS κ H1 ow L σ (upd H5 L (.lst (accV ++ [y]))) (accV ++ [y]) (accD ++ [d]) (oacc ++ oy) δ5 o5 := by
  obtain ⟨hLn, nn⟩ := nd_cons (g4.nd n)
  have wr : Step H5 (upd H5 L (.lst (accV ++ [y]))) [L] := Step.write g1 List.mem_cons_self
  have fr6 : ∀ (l : List Addr), L ∉ l → Fr H5 (upd H5 L (.lst (accV ++ [y]))) l := fun l hl => ⟨fun a ha => upd_ne (fun e => hl (e ▸ ha)), fun a w e hw => by
    have : a ≠ L := fun z => by rw [z, g1] at e; cases e; exact hw
    rw [upd_ne this]; exact e, wr.tab⟩
  have hDo : L ∉ oacc ++ oy := fun hm => hLn (by
    rcases List.mem_append.mp hm with z | z
    · exact List.mem_append_left _ z
    · exact List.mem_append_right _ (List.mem_append_left _ z))
  have hD6 : L ∉ o5 := fun z => hLn (List.mem_append_right _ (List.mem_append_right _ z))
  refine ⟨upd_same, (g2.append (Reps.one rd)).fr (fr6 _ hDo), E.fr (fr6 _ hD6), ⟨fun a u e hn hu => ?_, fun a e => ?_, fun P g => wr.tab P (g3.tab P g)⟩, g4.sub fun a => ?_⟩
  · have : a ≠ L := fun z => by
      rcases hL with hL | hL
      · rw [z, hL] at e; cases e
      · rw [z] at hn; exact hn hL
    rw [upd_ne this]; exact g3.keep a u e hn hu
  · by_cases z : a = L
    · rw [z, upd_same] at e; cases e
    · rw [upd_ne z] at e; exact g3.dom a e
  · simp only [List.count_cons, List.count_append]; omega
/-- the names' own in another stead -/
theorem BS.wipe (B : BS κ H1 ow L σ H3 accV accD oacc δ o3) (vs : List Nat) : ∃ o4, BS κ H1 ow L (L2.wipe σ vs) H3 accV accD oacc (wipeD δ vs) o4 := by
  obtain ⟨o4, E, c⟩ := B.env.wipe vs
  exact ⟨o4, B.list, B.reps, E, B.step, B.own.sub fun a => by have := c a; simp only [List.count_cons, List.count_append]; omega⟩
/-- told from further back -/
theorem BS.back {Hb : Hp} {ob : List Addr} (B : BS κ Hb ob L σ H3 accV accD oacc δ o3) (s : Step H1 Hb ow) (w : Own H1 ow ob) : BS κ H1 ow L σ H3 accV accD oacc δ o3 :=
  ⟨B.list, B.reps, B.env, s.trans w B.step, w.trans s B.own⟩
end
/-! the innermost -/
/-! a loop in it -/
theorem wipe_sub {σ : L2.St} {vs vs1 : List Nat} (h : ∀ i ∈ vs1, i ∈ vs) : L2.wipe (L2.wipe σ vs1) vs = L2.wipe σ vs :=
  wipe_same (wipe_length σ vs1) fun i hi => wipe_get fun z => hi (h i z)
/-! the whole -/
section
variable {X : Cx} {elt tg iter tg1 iter1 : Expr} {ifs ifs1 : List Expr} {q qt q1 qt1 qe : Bool} {ms ms1 : DenS} {b b1 : Bnd} {mt mt1 : DenT} {me : Den} {vs vs1 : List Nat}
end
end Z


set_option Elab.async false
set_option linter.all false
set_option maxRecDepth 100000
/-! a name's list, taken away from it -/
namespace Z
open PySem PySem.Spec PyProof.Rows L2
def dTake (i : Nat) : Den := fun δ => match δ[i]? with
  | some (some d) => if d.imm then some (.own d, δ) else some (.own d, δ.set i none)
  | _ => none
theorem z_take {X : Cx} (i : Nat) {x : Str} {pos : Pos} (hN : X.N[i]? = some x := by rfl) (hv : Vis X.env.scope x := by first | exact Or.inl rfl | exact Or.inr (Or.inl rfl) | exact Or.inr (Or.inr rfl)) (hd : (x == ("__debug__" : Str)) = false := by decide)
    (hcd : (x == ("__classdict__" : Str)) = false := by decide) : PE X (.Name x pos) (T (kx X) false (dTake i)) := by
  refine PE.imp (pe_var hN hv hd hcd) fun σ H Q h => ?_
  obtain ⟨δ, o, r, δ', E, n, hm, q⟩ := h
  simp only [dTake] at hm
  cases hi : δ[i]? with
  | none => rw [hi] at hm; simp at hm
  | some x =>
    cases x with
    | none => rw [hi] at hm; simp at hm
    | some d =>
      rw [hi] at hm
      obtain ⟨v, oa, o1, ob, e1, r1, rfl, _, kn⟩ := E.at hi
      refine ⟨v, e1, ?_⟩
      by_cases hd : d.imm = true
      · simp only [hd, if_true, Option.some.injEq, Prod.mk.injEq] at hm
        obtain ⟨rfl, rfl⟩ := hm
        have := r1.imm hd
        subst this
        exact q v H _ [] ⟨Step.refl _ _, E, r1, own_nil⟩
      · simp only [hd, if_false, Option.some.injEq, Prod.mk.injEq, Bool.false_eq_true] at hm
        obtain ⟨rfl, rfl⟩ := hm
        exact q v H (oa ++ ob) o1 ⟨Step.refl _ _, kn H Fr.rfl, r1, fun a => .inl (by simp only [List.count_append]; omega)⟩
end Z


set_option Elab.async false
set_option linter.all false
set_option maxRecDepth 100000
set_option maxHeartbeats 1000000
/-! x[::-1] -/
namespace PyProof.Rows
open PySem
section
variable {prog : Program} {w : World} {A : Around} {E : Value → Shared → Prop} {s : Shared}
end
end PyProof.Rows
namespace Z
open PySem PySem.Spec PyProof.Rows L2
def RevR (X : Cx) (r : V → Hp → VK → Prop) : Prop :=
  ∀ (pins : List (Addr × Obj)) (s : Shared) (σ : L2.St) (H : Hp) (x : V) (v vk : Value) (sl : Addr) (Q : VK), Inv X pins σ H s → L2.RelV x v → s.heap.IsSliceOf sl .none .none vk → IsPart vk (some (-1)) → r x H Q →
    ∃ T id, typeLookup (.type T) "__getitem__" = pure (some (.builtin id)) ∧ s.TypeIs v T ∧ wpAny (model X.prog X.w) X.A (getItem v (.ref sl)) (EP X pins σ Q) X.xe s
section
variable {X : Cx} {e st : Expr} {te : TE} {p2 pos : Pos}
theorem RevR.or {r r' : V → Hp → VK → Prop} (h : RevR X r) (h' : RevR X r') : RevR X (fun x H Q => r x H Q ∨ r' x H Q) := by
  intro pins s σ H x v vk sl Q I rx hs pk q
  rcases q with q | q
  · exact h pins s σ H x v vk sl Q I rx hs pk q
  · exact h' pins s σ H x v vk sl Q I rx hs pk q
end
end Z


set_option Elab.async false
set_option linter.all false
set_option maxRecDepth 100000
/-! lambdas as keys: the code object, the function, its call -/
namespace Z
open PySem PySem.Spec PyProof.Rows L2

section
variable {X : Cx} {pins : List (Addr × Obj)} {σ : L2.St} {H : Hp} {s : Shared}
/-- a new code object, laid into its maker's table -/
theorem code_new {δ : DE} {o : List Addr} {P c1 P1 : Addr} {ps : Array Value} {gpos : Pos} {h' : Heap} {tk : Nat} (I : Inv X pins σ H s) (En : Envs (kx X) H σ δ o) (e : H P = some (.tbl ps))
    (hx : Heap.ExtBut P s.heap h') (hge : s.heap.objs.size ≤ c1) (hlt : c1 < h'.objs.size) (hP1 : s.heap.objs.size ≤ P1)
    (htab' : h'.get? P = some { cls := .none, data := .fields (ps ++ #[rawInt gpos.line, rawInt gpos.col, .ref c1]) }) (hcd1 : PySem.W.CodeHd h' c1 P1) (hP1' : h'.get? P1 = some { cls := .none, data := .fields #[] }) :
    ∃ H', Inv X pins σ H' { s with heap := h', toks := tk } ∧ Step H H' [] ∧ Fr H H' o ∧ H' c1 = some (.ext fun h => PySem.W.CodeHd h c1 P1) ∧ (∀ b u, H b = some u → Nt u → H' b = some u) := by
  have ne1 : c1 ≠ P1 := by
    obtain ⟨_, _, _, _, _, _, _, _, _, _, _, _, _, _, _, _, _, _, z⟩ := hcd1
    exact z
  have nf1 : H c1 = none := I.hok.fresh hge
  have nf2 : H P1 = none := I.hok.fresh hP1
  have nP1 : P ≠ c1 := ne_of_none e nf1
  have nP2 : P ≠ P1 := ne_of_none e nf2
  let H' : Hp := upd (upd (upd H P (.tbl (ps ++ #[rawInt gpos.line, rawInt gpos.col, .ref c1]))) c1 (.ext fun h => PySem.W.CodeHd h c1 P1)) P1 (.tbl #[])
  have eP : H' P = some (.tbl (ps ++ #[rawInt gpos.line, rawInt gpos.col, .ref c1])) := by
    show upd _ _ _ _ = _
    rw [upd_ne nP2, upd_ne nP1, upd_same]
  have ec : H' c1 = some (.ext fun h => PySem.W.CodeHd h c1 P1) := by
    show upd _ _ _ _ = _
    rw [upd_ne ne1, upd_same]
  have e1 : H' P1 = some (.tbl #[]) := upd_same
  have eo : ∀ b, b ≠ P → b ≠ c1 → b ≠ P1 → H' b = H b := fun b n1 n2 n3 => by
    show upd _ _ _ _ = _
    rw [upd_ne n3, upd_ne n2, upd_ne n1]
  have keep : ∀ a u, H a = some u → a ≠ P → H' a = some u := fun a u ea n => by
    rw [eo a n (ne_of_none ea nf1) (ne_of_none ea nf2)]; exact ea
  have old : ∀ b o, s.heap.get? b = some o → b ≠ c1 ∧ b ≠ P1 := fun b o eb => by
    have := Heap.lt_size eb
    exact ⟨fun z => by subst z; exact absurd (Nat.lt_of_lt_of_le this hge) (Nat.lt_irrefl _), fun z => by subst z; exact absurd (Nat.lt_of_lt_of_le this hP1) (Nat.lt_irrefl _)⟩
  have nP : ∀ b u, H b = some u → (∀ qs, u ≠ .tbl qs) → b ≠ P := fun b u eb hn z => by
    rw [z, e] at eb; cases eb; exact hn _ rfl
  have nN : ∀ b, H b = none → b ≠ P := fun b eb z => by rw [z, e] at eb; cases eb
  have un : Un X.fs [] H H' s.heap h' := by
    refine ⟨fun b o eb hb _ _ => hx b o (nN b hb) eb, fun b o eb hb _ _ => ⟨o.slots, hx b o (nN b hb) eb⟩, fun b o eb hb _ => ?_, fun b o eb _ => ?_, fun b xs eb => keep b _ eb (nP b _ eb fun _ z => nomatch z), fun b o u eb => keep b _ eb (nP b _ eb fun _ z => nomatch z), fun b qs eb => ?_⟩
    · rw [eo b (nN b hb) (old b o eb).1 (old b o eb).2]; exact hb
    · by_cases hb : b = P
      · rw [hb]; exact ⟨_, htab'⟩
      · exact ⟨o, hx b o hb eb⟩
    · by_cases hb : b = P
      · rw [hb, e] at eb; cases eb
        exact ⟨_, by rw [hb]; exact eP⟩
      · exact ⟨#[], by rw [keep b _ eb hb]; simp⟩
  have hok : HOk X.prog X.w H' h' := fun a u ea => by
    by_cases ha : a = P
    · rw [ha, eP] at ea; cases ea; rw [ha]; exact htab'
    · by_cases ha1 : a = c1
      · rw [ha1, ec] at ea; cases ea
        rw [ha1]
        obtain ⟨ob, vs, file, tf, flags, tg, inF, text, tt, eo1, r⟩ := id hcd1
        exact ⟨hcd1, ⟨ob, eo1⟩, hd_stable⟩
      · by_cases ha2 : a = P1
        · rw [ha2, e1] at ea; cases ea; rw [ha2]; exact hP1'
        · rw [eo a ha ha1 ha2] at ea
          refine (I.hok a u ea).stay (fun b v hb eb => hx b v ?_ eb) (fun b eb => keep b _ eb (nP b _ eb fun _ z => nomatch z)) fun b xs eb => keep b _ eb (nP b _ eb fun _ z => nomatch z)
          rcases hb with rfl | hb
          · exact ha
          · exact nP b _ hb fun _ z => nomatch z
  have gr : ∀ Q, GoodT H Q → GoodT H' Q := fun Q g => g.grow e eP ec e1 keep
  refine ⟨H', I.un (t' := tk) un hok, ⟨fun a u ea _ hn => keep a u ea (nP a u ea hn), fun a ea => ?_, gr⟩, ⟨fun a ha => ?_, fun a u ea hs => keep a u ea (nP a u ea hs.nt), gr⟩, ec, fun b u eb hn => keep b u eb (nP b u eb hn)⟩
  · cases q : H a with
    | none => rfl
    | some u =>
      by_cases ha : a = P
      · rw [ha, eP] at ea; cases ea
      · rw [keep a u q ha] at ea; cases ea
  · obtain ⟨vs, ea, how⟩ := En.own a ha
    rw [ea]; exact keep a _ ea (nP a _ ea how.2)
/-- a lambda as a value: the function's object f, whose code object has a name -/
structure LamAt (X : Cx) (params : Arguments) (body : Expr) (scope : Scope) (f : Addr) (h : Heap) : Prop where
  ex : ∃ (fd : FuncData) (pm ctv : Value) (c' : Addr) (oc : Obj) (vs : Array Value), h.get? f = some { cls := .type "function", data := .func fd } ∧ fd = PySem.W.kla_fn "<lambda>" (X.env.qual ++ "<lambda>") params body scope (cloFrom X.env.cells scope.names []) pm (.ref c') ctv ∧
    h.get? c' = some oc ∧ oc.data = .fields vs ∧ 1 < vs.size
theorem LamAt.keeps {params : Arguments} {body : Expr} {scope : Scope} {f : Addr} {h h' : Heap} (l : LamAt X params body scope f h) (k : ∀ b o, h.get? b = some o → h'.get? b = some o) : LamAt X params body scope f h' := by
  obtain ⟨fd, pm, ctv, c', oc, vs, e1, e2, e3, e4, e5⟩ := l
  exact ⟨fd, pm, ctv, c', oc, vs, k _ _ e1, e2, k _ _ e3, e4, e5⟩
theorem codeHd_fields {h : Heap} {c P : Addr} (hd : PySem.W.CodeHd h c P) : ∃ oc vs, h.get? c = some oc ∧ oc.data = .fields vs ∧ 1 < vs.size := by
  obtain ⟨o, vs, _, _, _, _, _, _, _, e1, _, e3, e4, _⟩ := hd
  refine ⟨o, vs, e1, e3, ?_⟩
  have : 11 < vs.size := by
    rcases Nat.lt_or_ge 11 vs.size with h | h
    · exact h
    · rw [Array.getElem?_eq_none h] at e4; cases e4
  omega
theorem _root_.L2.Cx.glob_eq (X : Cx) {pins : List (Addr × Obj)} {σ : L2.St} {H : Hp} {s : Shared} (I : Inv X pins σ H s) : X.env.globals = mainGlobals := I.ok.glob
theorem z_lam_make {cc : Addr} {δ : DE} {o : List Addr} {params : Arguments} {body : Expr} {scope : Scope} {lpos : Pos} {E : Value → Shared → Prop} {Q : Value → Shared → Prop} (hcode : X.env.code = .ref cc) (I : Inv X pins σ H s) (En : Envs (kx X) H σ δ o) (hBM : BMod X.base X.mg)
    (hdef : defaultsOf params X.env = ([], [])) (hfree : ∀ y ∈ scope.names, y.2 = .free → ∃ c, X.env.cells.lookup y.1 = some c)
    (hQ : ∀ (f : Addr) (H' : Hp) (s' : Shared), Inv X pins σ H' s' → Step H H' [] → Fr H H' o → (∀ b u, H b = some u → Nt u → H' b = some u) → LamAt X params body scope f s'.heap → Q (.ref f) s') :
    wpAny (model X.prog X.w) X.A (eval (.Lambda params body scope lpos) X.env) Q E s := by
  refine PySem.W.kla_eval hdef ?_
  rw [makeFunction_eq]
  simp only [List.zip_nil_right, List.filterMap_nil, List.isEmpty_nil, if_true, pure_bind]
  obtain ⟨bm, ob, b1, b2, b3, b4, b5, b6⟩ := hBM
  have hcl := closure_ok (env := X.env) hfree
  have fin : ∀ (H1 : Hp) (s1 : Shared) (ctv : Value) (c' : Addr), Inv X pins σ H1 s1 → Step H H1 [] → Fr H H1 o → (∀ b u, H b = some u → Nt u → H1 b = some u) → (∃ oc vs, s1.heap.get? c' = some oc ∧ oc.data = .fields vs ∧ 1 < vs.size) →
      Q (.ref s1.heap.objs.size) { s1 with heap := s1.heap.push { cls := .type "function", data := .func (PySem.W.kla_fn "<lambda>" (X.env.qual ++ "<lambda>") params body scope (cloFrom X.env.cells scope.names []) ((X.mg "__name__").getD .none) (.ref c') ctv) } } := by
    intro H1 s1 ctv c' I1 st fr kn ⟨oc, vs, e1, e2, e3⟩
    exact hQ _ H1 _ (I1.kept (t' := s1.toks) fun b o e => Heap.get?_push_of_some _ e) st fr kn ⟨_, (X.mg "__name__").getD .none, ctv, c', oc, vs, Heap.get?_push_size _ rfl, rfl, Heap.get?_push_of_some _ e1, e2, e3⟩
  have nsG : ∀ {H1 : Hp} {s1 : Shared}, Inv X pins σ H1 s1 → s1.heap.Ns X.env.globals X.mg := fun I1 => by rw [I1.ok.glob]; exact I1.mod.glob.keeps I1.bk
  obtain ⟨P, hhd, gP⟩ := En.tabs.2 cc hcode
  -- the code object, at a state that has no more than a new tuple
  have code : ∀ (s0 : Shared) (fl : Nat) (Qc : Value → Shared → Prop), Inv X pins σ H s0 → (∀ (H1 : Hp) (s1 : Shared) (c' : Addr), Inv X pins σ H1 s1 → Step H H1 [] → Fr H H1 o → (∀ b u, H b = some u → Nt u → H1 b = some u) → (∃ oc vs, s1.heap.get? c' = some oc ∧ oc.data = .fields vs ∧ 1 < vs.size) → Qc (.ref c') s1) →
      wpAny (model X.prog X.w) X.A (functionCode X.env lpos fl "<lambda>" (X.env.qual ++ "<lambda>") params scope (.expr body)) Qc E s0 := by
    intro s0 fl Qc I0 hc
    have hd : PySem.W.CodeHd s0.heap cc P := by
      rcases hhd with z | z
      · exact PySem.W.codeHd_of_K I0.kIn z
      · exact (I0.hok cc _ z).1
    cases id gP with
    | mk _ ps cf pf e t kk gg =>
    have hPs : s0.heap.get? P = some { cls := .none, data := .fields ps } := I0.hok P _ e
    cases hf : codeAmong lpos ps.toList with
    | some cv =>
      obtain ⟨rfl, hcc⟩ := kk _ _ hf
      exact wpAny_functionCode_hit hcode (hd.code hPs t) hf (hc H s0 _ I0 (.refl _ _) .rfl (fun _ _ e _ => e) (codeHd_fields (I0.hok _ _ hcc).1))
    | none =>
      refine wpAny_functionCodeX hcode (hd.code hPs t) (hd.tab hPs) hf fun c1 h' tk hx hge hlt hco' _ htab' ⟨P1, hP1, hco1, htab1⟩ => ?_
      have hcd1 : PySem.W.CodeHd h' c1 P1 := .of hco1 htab1
      obtain ⟨H1, I1, st, fr, _, kn⟩ := code_new (tk := tk) I0 En e hx hge hlt hP1 htab'.2 hcd1 htab1.2
      exact hc H1 _ c1 I1 st fr kn (codeHd_fields hcd1)
  unfold makeTail
  rw [hcl]
  refine wpAny_bind (wpAny_pure ?_)
  cases hcs : (cloFrom X.env.cells scope.names []).isEmpty with
  | true =>
    simp only [if_true]
    refine wpAny_bind (wpAny_pure ?_)
    refine wpAny_bind (code s _ _ I fun H1 s1 c' I1 st fr kn hc => ?_)
    refine wpAny_bind (wpAny_builtinsFor (nsG I1) b1 b2 (I1.bk _ _ b3) b4 b5 b6 ?_)
    refine wpAny_bind (wpAny_nsGet (nsG I1) (wpAny_bind (wpAny_pure (wpAny_newObj_type ?_ (by size_fits)))))
    have := fin H1 s1 .none c' I1 st fr kn hc
    rw [X.glob_eq I1]
    exact this
  | false =>
    simp only [Bool.false_eq_true, if_false]
    refine wpAny_bind (wpAny_newTextTuple ?_)
    refine wpAny_bind (code _ _ _ (I.kept (t' := s.toks) fun b o e => Heap.get?_push_of_some _ e) fun H1 s1 c' I1 st fr kn hc => ?_)
    refine wpAny_bind (wpAny_builtinsFor (nsG I1) b1 b2 (I1.bk _ _ b3) b4 b5 b6 ?_)
    refine wpAny_bind (wpAny_nsGet (nsG I1) (wpAny_bind (wpAny_pure (wpAny_newObj_type ?_ (by size_fits)))))
    have := fin H1 s1 (.ref s.heap.objs.size) c' I1 st fr kn hc
    rw [X.glob_eq I1]
    exact this
end
end Z
namespace Z
open PySem PySem.Spec PyProof.Rows L2

/-- a lambda's frame, called with u -/
structure LF (X : Cx) (scope : Scope) (s0 s : Shared) (env : Env) (v : Str) (u : Value) : Prop where
  sc : env.scope = scope
  kind : scope.kind = .function
  vl : scope.names.lookup v = some .local
  ns : ∃ m, s.heap.Ns env.locals m ∧ m v = some u
  glob : env.globals = mainGlobals
  blt : env.builtins = builtinsNs
  cells : env.cells = cloFrom X.env.cells scope.names []
  keep : ∀ b o, s0.heap.get? b = some o → s.heap.get? b = some o
theorem LF.keeps {X : Cx} {scope : Scope} {s0 s : Shared} {env : Env} {v : Str} {u : Value} {h' : Heap} {tk : Nat} (l : LF X scope s0 s env v u) (k : ∀ b o, s.heap.get? b = some o → h'.get? b = some o) : LF X scope s0 { s with heap := h', toks := tk } env v u :=
  ⟨l.sc, l.kind, l.vl, let ⟨m, a, b⟩ := l.ns; ⟨m, a.keeps k, b⟩, l.glob, l.blt, l.cells, fun b o e => k b o (l.keep b o e)⟩
/-- what an expression of a lambda's body gives, from the names outside and the datum that it is called with -/
def PLm (X : Cx) (scope : Scope) (v : Str) (e : Expr) (f : DE → PyData → Option PyData) : Prop :=
  ∀ (pins : List (Addr × Obj)) (σ : L2.St) (H : Hp) (δ : DE) (o : List Addr) (s0 : Shared), Inv X pins σ H s0 → Envs (kx X) H σ δ o →
  ∀ (A : Around) (env : Env) (s : Shared) (u : Value) (d k : PyData) (Q : Value → Shared → Prop), LF X scope s0 s env v u → Reads s.heap u d [] → f δ d = some k →
    (∀ w h' tk, (∀ b o, s.heap.get? b = some o → h'.get? b = some o) → Reads h' w k [] → Q w { s with heap := h', toks := tk }) → wpAny (model X.prog X.w) A (eval e env) Q (fun _ _ => False) s
section
variable {X : Cx} {scope : Scope} {v : Str}
theorem pl_name {pos : Pos} (hd : (v == ("__debug__" : Str)) = false := by decide) : PLm X scope v (.Name v pos) (fun _ d => some d) := by
  intro pins σ H δ o s0 I E A env s u d k Q l r hf hQ
  cases (Option.some.inj hf : d = k)
  obtain ⟨m, n1, n2⟩ := l.ns
  refine wpAny_Name (wpAny_loadName_local (by rw [l.sc]; exact l.kind) (show env.scope.names.lookup v = _ by rw [l.sc]; exact l.vl) n1 n2 ?_) hd
  exact hQ u s.heap s.toks (fun _ _ e => e) r
def lenP : PyData → Option PyData
  | .tuple xs => if xs.length ≤ sizeLine then some (.int xs.length) else none
  | .str x => if x.length ≤ sizeLine then some (.int x.length) else none
  | _ => none
theorem pl_len {e : Expr} {p pos : Pos} {f : DE → PyData → Option PyData} (he : PLm X scope v e f) (hg : scope.names.lookup ("len" : Str) = some .globalImplicit) (hm : X.mg "len" = none)
    (hst : ∀ env, starEach [e] env = (false, eval e env) :: starEach [] env := by intro _; rfl) : PLm X scope v (.Call (.Name "len" p) [e] [] pos) (fun δ d => (f δ d).bind lenP) := by
  intro pins σ H δ o s0 I E A env s u d k Q l r hf hQ
  dsimp only at hf
  cases hd : f δ d with
  | none => rw [hd] at hf; cases hf
  | some d1 =>
  rw [hd] at hf
  replace hf : lenP d1 = some k := hf
  obtain ⟨mb, h1, h2⟩ := I.mod.blt
  have kb : ∀ b o, X.base.get? b = some o → s.heap.get? b = some o := fun b o e => l.keep b o (I.bk b o e)
  refine wpAny_Call_Name_kw (Calls.Name_function_global (by rw [l.sc]; exact l.kind) (show env.scope.names.lookup ("len" : Str) = _ by rw [l.sc]; exact hg)
    (Calls.loadGlobal_builtin (by rw [l.glob]; exact I.mod.glob.keeps kb) hm (by rw [l.blt]; exact h1.keeps kb) ((h2 "len" (by decide)).trans (show bootBuiltins "len" = some (.builtin "len") by decide +kernel)) ?_))
  refine PyProof.Rows.callWith_builtin1 ?_ (hst env) (by rfl)
  rw [hst]
  refine Calls.spliced_cons (he pins σ H δ o s0 I E A env s u d d1 _ l r hd fun w h' tk kp rw1 => Calls.spliced_nil ?_)
  have hn := line63
  clear hd
  revert rw1
  revert hf
  cases d1 <;> intro hf rw1 <;> first | (simp only [lenP, reduceCtorEq] at hf; done) | skip
  · rename_i x
    simp only [lenP] at hf
    by_cases hz : x.length ≤ sizeLine
    case neg => rw [if_neg hz] at hf; cases hf
    rw [if_pos hz] at hf
    cases (Option.some.inj hf)
    cases rw1
    exact len_str (by omega) (hQ _ h' _ kp (.int _ _))
  · rename_i xs
    simp only [lenP] at hf
    by_cases hz : xs.length ≤ sizeLine
    case neg => rw [if_neg hz] at hf; cases hf
    rw [if_pos hz] at hf
    cases (Option.some.inj hf)
    cases rw1 with
    | @tuple a ob vs n _ _ e1 e2 e3 e4 =>
      have hsz : vs.size = xs.length := by simpa using PySem.SeqAt.ReadsAll.length _ _ _ e4
      have pl : IsTup h' a vs := ⟨ob, e1, e2, n, e3⟩
      refine len_tuple pl (by rw [hsz]; omega) ?_
      rw [hsz]
      exact hQ _ h' _ kp (.int _ _)
theorem pl_tup2 {e1 e2 : Expr} {x1 : Nat} {pos : Pos} {f1 f2 : DE → PyData → Option PyData} (h1 : PLm X scope v e1 f1) (h2 : PLm X scope v e2 f2)
    (hst : ∀ env, starEach [e1, e2] env = (false, eval e1 env) :: (false, eval e2 env) :: starEach [] env := by intro _; rfl) :
    PLm X scope v (.Tuple [e1, e2] x1 pos) (fun δ d => (f1 δ d).bind fun a => (f2 δ d).bind fun b => some (.tuple [a, b])) := by
  intro pins σ H δ o s0 I E A env s u d k Q l r hf hQ
  dsimp only at hf
  cases g1 : f1 δ d with
  | none => rw [g1] at hf; cases hf
  | some d1 =>
  cases g2 : f2 δ d with
  | none => rw [g1, g2] at hf; cases hf
  | some d2 =>
  rw [g1, g2] at hf
  cases (Option.some.inj hf : PyData.tuple [d1, d2] = k)
  refine wpAny_Tuple_spliced ?_
  rw [hst]
  show wpAny _ _ (spliced ((false, eval e1 env) :: (false, eval e2 env) :: [])) _ _ s
  refine Calls.spliced_cons (h1 pins σ H δ o s0 I E A env s u d d1 _ l r g1 fun w1 g tk1 kp1 r1 => ?_)
  refine Calls.spliced_cons (h2 pins σ H δ o s0 I E A env _ u d d2 _ (l.keeps kp1) (Reads.keeps kp1 r) g2 fun w2 g' tk2 kp2 r2 => Calls.spliced_nil ⟨by rw [sizeLine_eq]; show 2 ≤ _; omega, ?_⟩)
  have kp3 : ∀ b ob, g'.get? b = some ob → (g'.push { cls := .type "tuple", data := .seq ([w1, w2] : List Value).toArray }).get? b = some ob := fun b ob e => Heap.get?_push_of_some _ e
  refine hQ _ _ _ (fun b ob e => kp3 b ob (kp2 b ob (kp1 b ob e))) ?_
  have r1' := Reads.keeps (fun b ob e => kp3 b ob (kp2 b ob e)) r1
  have r2' := Reads.keeps kp3 r2
  exact Reads.tuple (as := [] ++ ([] ++ [])) (Heap.get?_push_size _ rfl) rfl rfl (.cons r1' (.cons r2' .nil))
end
end Z

namespace Z
open PySem PySem.Spec PyProof.Rows L2
section
variable {prog : Program} {w : World} {A : Around} {R : Result → Shared → Prop} {s : Shared}
theorem lam_callE {a : Addr} {args : Args} {o : Obj} {fd : FuncData} {body : Expr} {c : Addr} {oc : Obj} {vs : Array Value} (hroom : A.depth < recursionLimit)
    (ho : s.heap.get? a = some o) (hd : o.data = .func fd) (hco : fd.scope.isCoroutine = false) (hgen : fd.scope.isGenerator = false) (hb : fd.body = .expr body)
    (hc : fd.code = .ref c) (hoc : s.heap.get? c = some oc) (hdc : oc.data = .fields vs) (hv : 1 < vs.size)
    (h : ∀ q : Str, wpAny (model prog w) A.in1 (bindArgs fd args) (fun bs s1 => wpAny (model prog w) A.in1 (newFunctionEnv fd.scope fd.globals fd.closure bs (q ++ ".<locals>.") (some a) fd.code none fd.builtins)
        (fun env s2 => s2.heap.NoLimit ∧ codeAny (model prog w) A (.expr body env) R s2) (fun e s' => R (.error e) s') s1) (fun e s' => R (.error e) s') s) :
    codeAny (model prog w) A (.call (.ref a) args) R s := by
  refine codeAny_of_tree ?_
  show wpAny _ A.in1 (callAny (.ref a) args) _ _ s
  simp only [callAny]
  refine wpAny_bind (wpAny_load ho ?_)
  simp only [hd, callFunction, hco, hgen, hb, hc]
  have hq : vs[1]? = some vs[1] := Array.getElem?_eq_getElem hv
  have go : ∀ q : Str, wpAny (model prog w) A.in1 (do
      let env ← newFunctionEnv fd.scope fd.globals fd.closure (← bindArgs fd args) (q ++ ".<locals>.") (some a) (.ref c) none fd.builtins
      enterFrame
      again (.expr body env)) (fun fin s' => match fin with | .done f => R (.ok f) s' | .again c' => c'.quiet = true ∧ codeAny (model prog w) A c' R s') (fun e s' => R (.error e) s') s := by
    intro q
    have h' := h q
    rw [hc] at h'
    exact wpAny_bind (wpAny_mono h' (fun bs s1 h1 => wpAny_bind (wpAny_mono h1 (fun env s2 h2 => wpAny_bind (wpAny_enterFrame h2.1 hroom (wpAny_pure ⟨rfl, h2.2⟩))) fun _ _ h' => h')) fun _ _ h' => h')
  refine wpAny_bind (m := field (.ref c) 1) (wpAny_field hoc hdc hq ?_)
  cases vs[1] <;> exact wpAny_bind (wpAny_pure (go _))
end
/-- the names of a lambda with one parameter -/
structure LamSc (X : Cx) (scope : Scope) (v : Str) : Prop where
  kind : scope.kind = .function
  co : scope.isCoroutine = false
  gen : scope.isGenerator = false
  cell : ∀ y ∈ scope.names, y.2 ≠ .cell
  vl : scope.names.lookup v = some .local
  free : ∀ y ∈ scope.names, y.2 = .free → X.env.scope.names.lookup y.1 = some .cell ∨ X.env.scope.names.lookup y.1 = some .free
theorem LamSc.has {X : Cx} {scope : Scope} {v : Str} (L : LamSc X scope v) (ok : X.Ok) : ∀ y ∈ scope.names, y.2 = .free → ∃ c, X.env.cells.lookup y.1 = some c := fun y hy e => by
  rcases L.free y hy e with k | k
  · exact ok.has _ (.inl k)
  · exact ok.has _ (.inr k)
def lamScB (sc scope : Scope) (v : Str) : Bool :=
  decide (scope.kind = .function) && !scope.isCoroutine && !scope.isGenerator && decide (scope.names.lookup v = some .local) && scope.names.all fun y => !decide (y.2 = .cell) && (!decide (y.2 = .free) || decide (sc.names.lookup y.1 = some .cell) || decide (sc.names.lookup y.1 = some .free))
theorem lamSc_by {X : Cx} {scope : Scope} {v : Str} (h : lamScB X.env.scope scope v = true) : LamSc X scope v := by
  unfold lamScB at h
  simp only [Bool.and_eq_true, Bool.or_eq_true, Bool.not_eq_true', decide_eq_true_eq, decide_eq_false_iff_not, List.all_eq_true] at h
  obtain ⟨⟨⟨⟨h1, h2⟩, h3⟩, h4⟩, h5⟩ := h
  refine ⟨h1, h2, h3, fun y hy => (h5 y hy).1, h4, fun y hy e => ?_⟩
  rcases (h5 y hy).2 with (z | z) | z
  · exact absurd e z
  · exact .inl z
  · exact .inr z
section
variable {X : Cx} {pins : List (Addr × Obj)} {σ : L2.St} {H : Hp} {s0 s : Shared}
theorem lam_turn {δ : DE} {o : List Addr} {params : Arguments} {body : Expr} {scope : Scope} {v : Str} {f : Addr} {u : Value} {d k : PyData} {fk : DE → PyData → Option PyData} {A : Around} (I : Inv X pins σ H s0) (En : Envs (kx X) H σ δ o) (L : LamSc X scope v)
    (l : LamAt X params body scope f s.heap) (hk : ∀ b o, s0.heap.get? b = some o → s.heap.get? b = some o) (pl : PLm X scope v body fk)
    (hbind : ∀ (q : Str) (cl : List (Str × Addr)) (pm cv ctv u : Value), bindArgs (PySem.W.kla_fn "<lambda>" q params body scope cl pm cv ctv) ⟨[u], []⟩ = pure [(v, u)])
    (hroom : A.depth < recursionLimit) (r : Reads s.heap u d []) (hf : fk δ d = some k) :
    wpAny (model X.prog X.w) A (call (.ref f) [u]) (PySem.W.KeyPure k s) (fun _ _ => False) s := by
  obtain ⟨fd, pm, ctv, c', oc, vs, e1, e2, e3, e4, e5⟩ := l
  subst e2
  refine wpAny_call (lam_callE hroom e1 rfl L.co L.gen rfl rfl e3 e4 e5 fun q => ?_)
  rw [hbind]
  refine wpAny_pure (wpAny_newFunctionEnv L.cell (fun y hy => by rw [List.mem_singleton.mp hy]; exact L.vl) (fun h₁ hns hsb => ⟨(I.nolimit.keeps hk).fresh _ hsb, ?_⟩) L.kind)
  have kp : ∀ b ob, s.heap.get? b = some ob → h₁.get? b = some ob := fun b ob e => hsb.extBut b ob (Nat.ne_of_lt (Heap.lt_size e)) (Heap.get?_push_of_some _ e)
  refine PySem.W.kla_codeExpr (wpAny_mono (pl pins σ H δ o s0 I En _ _ _ u d k _ ⟨rfl, L.kind, L.vl, ⟨_, hns, by simp⟩, rfl, rfl, rfl, fun b ob e => kp b ob (hk b ob e)⟩ (Reads.keeps kp r) hf fun w h' tk kp2 rw2 => ?_) (fun _ _ h => h) fun _ _ h => h.elim)
  exact ⟨h', tk, rfl, fun b ob e => kp2 b ob (kp b ob e), rw2⟩
end
end Z


set_option Elab.async false
set_option linter.all false
set_option maxRecDepth 100000
/-! sorted(xs, key=lambda v: ..) of a list -/
namespace Z
open PySem PySem.Spec PyProof.Rows L2

def isTupP : PyData → Bool
  | .tuple (_ :: _) => true
  | _ => false
def isPlainP : PyData → Bool
  | .none => false
  | .tuple _ => false
  | _ => true
def sortPOk (ks : List PyData) : Bool := (ks.all fun k => decide (k.depth ≤ 60)) && ((ks.all fun x => ks.all fun y => PySem.W.alike x y) && (ks.all isTupP || ks.all isPlainP))
def keysP (f : PyData → Option PyData) : List D → Option (List PyData)
  | [] => some []
  | x :: xs => match f (toPy x), keysP f xs with
    | some k, some ks => some (k :: ks)
    | _, _ => none
/-- x's key -/
def keyP (f : PyData → Option PyData) (x : D) : PyData := (f (toPy x)).getD .none
theorem keysP_eq {f : PyData → Option PyData} : ∀ {xs : List D} {ks : List PyData}, keysP f xs = some ks → ks = xs.map (keyP f) ∧ ∀ x ∈ xs, f (toPy x) = some (keyP f x)
  | [], ks, h => by cases (Option.some.inj h : [] = ks); exact ⟨rfl, fun x hx => nomatch hx⟩
  | x :: xs, ks, h => by
    simp only [keysP] at h
    cases h1 : f (toPy x) with
    | none => rw [h1] at h; simp at h
    | some k =>
      cases h2 : keysP f xs with
      | none => rw [h1, h2] at h; simp at h
      | some kr =>
        rw [h1, h2] at h
        cases (Option.some.inj h : k :: kr = ks)
        obtain ⟨e1, e2⟩ := keysP_eq h2
        have ek : keyP f x = k := by simp [keyP, h1]
        refine ⟨by rw [List.map_cons, ek, e1], fun y hy => ?_⟩
        rcases List.mem_cons.mp hy with rfl | hy
        · rw [ek]; exact h1
        · exact e2 y hy
def sortK (f : PyData → Option PyData) (xs : List D) : Option D := match keysP f xs with
  | some ks => if (D.nols xs && sortPOk ks) = true then some (.lst (xs.mergeSort (PySem.W.dataLe false (keyP f)))) else none
  | none => none
/-- sorted(a, key=..): a list -/
def dSortK (f : DE → PyData → Option PyData) (a : Den) : Den := fun δ => match a δ with
  | some (r, δ1) => match deref δ1 r with
    | some (.lst xs) => match sortK (f δ1) xs with
      | some d => some (.own d, δ1)
      | none => none
    | _ => none
  | none => none
theorem each_and {α β : Type} {R S : α → β → Prop} : ∀ {as : List α} {bs : List β}, PySem.W.EachIs R as bs → PySem.W.EachIs S as bs → PySem.W.EachIs (fun a b => R a b ∧ S a b) as bs
  | _, _, .nil, _ => .nil
  | _, _, .cons h t, .cons h' t' => .cons ⟨h, h'⟩ (each_and t t')
section
variable {X : Cx}
theorem z_sortK {cc : Addr} {e : Expr} {q : Bool} {a : Den} {params : Arguments} {body : Expr} {scope : Scope} {v : Str} {fk : DE → PyData → Option PyData} {k : Nat} {p lpos kpos pos : Pos} (hr : Room (k + 1) X.A) (hcode : X.env.code = .ref cc) (hBM : BMod X.base X.mg)
    (hg : Gl X "sorted") (hm : X.mg "sorted" = none) (he : PE X e (T (kx X) q a)) (L : LamSc X scope v) (pl : PLm X scope v body fk)
    (hbind : ∀ (q : Str) (cl : List (Str × Addr)) (pm cv ctv u : Value), bindArgs (PySem.W.kla_fn "<lambda>" q params body scope cl pm cv ctv) ⟨[u], []⟩ = pure [(v, u)])
    (hdef : defaultsOf params X.env = ([], [])) (hst : starEach [e] X.env = (false, eval e X.env) :: starEach [] X.env := by rfl) :
    PE X (.Call (.Name "sorted" p) [e] [⟨some "key", .Lambda params body scope lpos, kpos⟩] pos) (T (kx X) false (dSortK fk a)) := by
  refine ⟨fun pins s σ H Q I h => ?_⟩
  obtain ⟨δ, o, r, δ', E, n, hmm, kq⟩ := h
  simp only [dSortK] at hmm
  cases h1 : a δ with
  | none => rw [h1] at hmm; simp at hmm
  | some p1 =>
  obtain ⟨ra, δ1⟩ := p1
  rw [h1] at hmm; dsimp only at hmm
  cases h2 : deref δ1 ra with
  | none => rw [h2] at hmm; simp at hmm
  | some da =>
  rw [h2] at hmm
  cases da <;> simp only [reduceCtorEq] at hmm
  rename_i xs
  cases h3 : sortK (fk δ1) xs with
  | none => rw [h3] at hmm; simp at hmm
  | some d =>
  rw [h3] at hmm
  simp only [Option.some.injEq, Prod.mk.injEq] at hmm
  obtain ⟨rfl, rfl⟩ := hmm
  simp only [sortK] at h3
  cases h4 : keysP (fk δ1) xs with
  | none => rw [h4] at h3; simp at h3
  | some ks =>
  rw [h4] at h3
  by_cases hok : (D.nols xs && sortPOk ks) = true
  case neg => dsimp only at h3; rw [if_neg hok] at h3; cases h3
  dsimp only at h3
  rw [if_pos hok] at h3
  cases (Option.some.inj h3)
  simp only [sortPOk, Bool.and_eq_true] at hok
  obtain ⟨hn, hdp, hal, hso⟩ := hok
  obtain ⟨hks, hkf⟩ := keysP_eq h4
  refine wpAny_Call_Name_kw (ld_blt I hg hm bb_sorted ?_ (by decide))
  refine PyProof.Rows.callWith_kw ?_ (by rw [hst]; rfl) (by rw [hst]; rfl) (by rfl) (by rfl)
  rw [hst]
  show wpAny _ _ (spliced ((false, eval e X.env) :: backTo pos (starEach [] X.env))) _ _ s
  have hrd : T (kx X) q a σ H (fun x H1 => ∃ o1 ov, Post (kx X) H σ q o ra δ1 x H1 o1 ov) := ⟨δ, o, ra, δ1, E, n, h1, fun x H1 o1 ov P => ⟨o1, ov, P⟩⟩
  refine Calls.spliced_cons (thn (he.run pins s σ H _ I hrd) fun u s1 ⟨x, H1, I1, ru, o1, ov, P⟩ => ?_)
  refine Calls.spliced_nil ?_
  show wpAny _ _ (evalAll [do let v ← eval (.Lambda params body scope lpos) X.env; standAt pos; pure v]) _ _ s1
  refine wpAny_evalAll_cons (wpAny_bind (z_lam_make hcode I1 P.env hBM hdef (L.has I1.ok) fun f H2 s2 I2 st2 fr2 _ lam => ?_))
  refine wpAny_bind (wpAny_standAt (wpAny_pure (wpAny_evalAll_nil ?_)))
  show wpAny (model X.prog X.w) X.A (call (.builtin "sorted") [u] [(Str.ofString "key", .ref f)]) (EP X pins σ Q) X.xe s2
  have E2 : Envs (kx X) H2 σ δ1 o1 := P.env.fr fr2
  have hold := P.held.step st2 (fun a ha => nomatch ha) (fun a _ hn => nomatch hn) (.inr rfl)
  obtain ⟨oe, rep, _⟩ := hold.deref E2 h2
  obtain ⟨l, vs, ol, rfl, hl, rs0, _⟩ := rep
  have rs : Reps X.F H2 xs vs [] := by
    have := rs0.imm (D.nols_imms _ hn); subst this; exact rs0
  obtain rfl : u = Value.ref l := ru
  obtain ⟨its, rv, hp, hz⟩ := I2.list (.of hl)
  obtain ⟨g1, g2⟩ := each_of I2 rv rs hn
  have hzl : (xs.zip vs).length = xs.length := by rw [List.length_zip, rs.length, Nat.min_self]
  have hmem : ∀ p ∈ xs.zip vs, p.1 ∈ xs := fun p hp => (List.of_mem_zip (a := p.1) (b := p.2) hp).1
  subst hks
  simp only [List.all_eq_true, List.mem_map, forall_exists_index, and_imp, forall_apply_eq_imp_iff₂, decide_eq_true_eq] at hal hdp
  refine PySem.W.sorted_key_data (b := false) (fun p : D × V => keyP (fk δ1) p.1) hp.isList (each_and g1 g2) (fun d hd d' hd' => ?_) ?_ (by rw [hzl, ← rs.length]; exact hz) (fun p hp => ?_) (ksk_s1 _ _) (fun _ => ksk_l1 _ _) (fun _ => ksk_t1 _ _)
    (fun v p hR hp h tk kp => ?_) fun out c h' tk kp hnew hD hlen eo => ?_
  · obtain ⟨p, hp, rfl⟩ := List.mem_map.mp hd
    obtain ⟨p', hp', rfl⟩ := List.mem_map.mp hd'
    exact hal _ (hmem p hp) _ (hmem p' hp')
  · rw [Bool.or_eq_true, List.all_eq_true, List.all_eq_true] at hso
    rcases hso with hso | hso
    · refine .inl fun d hd => ?_
      obtain ⟨p, hp, rfl⟩ := List.mem_map.mp hd
      have := hso _ (List.mem_map_of_mem (hmem p hp))
      revert this
      cases keyP (fk δ1) p.1 <;> intro this <;> first | (simp [isTupP] at this; done) | skip
      rename_i ys
      cases ys with
      | nil => simp [isTupP] at this
      | cons x r => exact ⟨_, _, rfl⟩
    · refine .inr fun d hd => ?_
      obtain ⟨p, hp, rfl⟩ := List.mem_map.mp hd
      have := hso _ (List.mem_map_of_mem (hmem p hp))
      revert this
      cases keyP (fk δ1) p.1 <;> simp [isPlainP]
  · have h5 := hdp _ (hmem p hp)
    have h6 := hu_of hr
    omega
  · exact lam_turn (s := { s2 with heap := h, toks := tk }) I2 E2 L (lam.keeps kp) kp pl hbind (by have := hr.dp; show X.A.depth < _; omega) (Reads.keeps kp hR.2) (hkf _ (hmem p hp))
  · obtain ⟨v1, r1⟩ := of_each (each_imp eo fun v p h => h.1)
    have hmap : ((xs.zip vs).mergeSort (PySem.W.dataLe false fun p : D × V => keyP (fk δ1) p.1)).map (·.1) = xs.mergeSort (PySem.W.dataLe false (keyP (fk δ1))) := by
      have := List.map_mergeSort (r := PySem.W.dataLe false fun p : D × V => keyP (fk δ1) p.1) (s := PySem.W.dataLe false (keyP (fk δ1))) (f := fun p : D × V => p.1) (l := xs.zip vs) (fun a _ b _ => rfl)
      rw [this, zip_fst rs.length]
    rw [hmap] at r1
    have hn1 : H2 (s2.heap.objs.size + 1) = none := I2.hok.fresh (Nat.le_succ _)
    have s02 : Step H H2 o := (P.step.mono Wq_sub).trans (own_right P.own) (st2.mono fun a ha => nomatch ha)
    refine ⟨.ref (s2.heap.objs.size + 1), upd H2 (s2.heap.objs.size + 1) (.lst ((((xs.zip vs).mergeSort (PySem.W.dataLe false fun p : D × V => keyP (fk δ1) p.1))).map (·.2))), I2.laid (t' := tk) kp (Nat.le_succ _) ⟨by rw [List.length_map, List.length_mergeSort, hzl, ← rs.length]; exact hz, out, c, v1, hD⟩, rfl, ?_⟩
    exact kq _ _ o1 _ ⟨s02.same (new_same hn1), E2.same (new_same hn1), ⟨_, _, [], rfl, upd_same, r1.same (new_same hn1), rfl⟩, own_fresh (own_right P.own) s02 (fresh_one hn1) E2.dom⟩
end
def kName : DE → PyData → Option PyData := fun _ d => some d
def kLen (f : DE → PyData → Option PyData) : DE → PyData → Option PyData := fun δ d => (f δ d).bind lenP
def kTup2 (f g : DE → PyData → Option PyData) : DE → PyData → Option PyData := fun δ d => (f δ d).bind fun a => (g δ d).bind fun b => some (.tuple [a, b])
section
variable {X : Cx} {scope : Scope} {v : Str}
theorem k_name {pos : Pos} (hd : (v == ("__debug__" : Str)) = false := by decide) : PLm X scope v (.Name v pos) kName := pl_name hd
theorem k_len {e : Expr} {p pos : Pos} {f : DE → PyData → Option PyData} (he : PLm X scope v e f) (hg : scope.names.lookup ("len" : Str) = some .globalImplicit) (hm : X.mg "len" = none)
    (hst : ∀ env, starEach [e] env = (false, eval e env) :: starEach [] env := by intro _; rfl) : PLm X scope v (.Call (.Name "len" p) [e] [] pos) (kLen f) := pl_len he hg hm hst
theorem k_tup2 {e1 e2 : Expr} {x1 : Nat} {pos : Pos} {f1 f2 : DE → PyData → Option PyData} (h1 : PLm X scope v e1 f1) (h2 : PLm X scope v e2 f2)
    (hst : ∀ env, starEach [e1, e2] env = (false, eval e1 env) :: (false, eval e2 env) :: starEach [] env := by intro _; rfl) : PLm X scope v (.Tuple [e1, e2] x1 pos) (kTup2 f1 f2) := pl_tup2 h1 h2 hst
end
end Z


set_option Elab.async false
set_option linter.all false
set_option maxRecDepth 100000
/-! sum of a list, of a tuple, of a generator expression -/
namespace Z
open PySem PySem.Spec PyProof.Rows L2

section
variable {prog : Program} {w : World} {A : Around} {E : Value → Shared → Prop} {s : Shared} {l : Addr}
end
section
variable {X : Cx}
end
section
variable {X : Cx} {pins : List (Addr × Obj)} {σ : L2.St} {δ : DE} {o : List Addr} {Hx : Hp} {A : Around} {a : Addr}
end
end Z


set_option Elab.async false
set_option linter.all false
set_option maxRecDepth 100000
/-! sum of a generator expression -/
namespace Z
open PySem PySem.Spec PyProof.Rows L2
section
variable {X : Cx} {k : Nat}
end
end Z


set_option Elab.async false
set_option linter.all false
set_option maxRecDepth 100000
/-! a < b < c as a test; x, y = a, b -/
namespace Z
open PySem PySem.Spec PyProof.Rows L2
section
variable {X : Cx} {a b c : Expr} {pos : Pos} {f1 f2 : List D → Option D} {ma mb mc : Den} {op op' : CmpOp}
end
section
variable {X : Cx} {kp : Nat → Bool} {pos : Pos} {q : Bool} {m : DE → Option (List R × DE)}
end
end Z


set_option Elab.async false
set_option linter.all false
set_option maxRecDepth 100000
/-! min, max of a generator expression that hands out ints -/
namespace Z
open PySem PySem.Spec PyProof.Rows L2
section
variable {X : Cx} {pins : List (Addr × Obj)} {σ : L2.St} {δ : DE} {o : List Addr} {Hx : Hp} {A : Around} {a : Addr}
end
section
variable {X : Cx} {k : Nat}
end

section
variable {X : Cx} {pins : List (Addr × Obj)} {σ : L2.St} {δ : DE} {o : List Addr} {Hx : Hp} {A : Around} {a : Addr}
end
section
variable {X : Cx} {k : Nat}
end
end Z


set_option Elab.async false
set_option linter.all false
set_option maxRecDepth 100000
/-! lambdas as keys: names from outside, subscripts -/
namespace Z
open PySem PySem.Spec PyProof.Rows L2
section
variable {X : Cx} {scope : Scope} {v : Str}
end
end Z


set_option Elab.async false
set_option linter.all false
set_option maxRecDepth 100000
/-! sorted(range(n), key=lambda v: ..) -/
namespace Z
open PySem PySem.Spec PyProof.Rows L2
section
variable {prog : Program} {w : World} {A : Around} {s : Shared} {E : Value → Shared → Prop}
end
section
variable {X : Cx}
end
end Z


set_option Elab.async false
set_option linter.all false
set_option maxRecDepth 100000
/-! list.count of ints -/
namespace Z
open PySem PySem.Spec PyProof.Rows L2
section
variable {X : Cx} {eo e : Expr} {qo qe : Bool} {mo : Den} {ma : DE → Option (List R × DE)} {apos cpos : Pos}
end
end Z


set_option Elab.async false
set_option linter.all false
set_option maxRecDepth 100000
/-! generator expressions with two clauses: phases, the consumer's side -/
namespace Z
open PySem PySem.Spec PyProof.Rows L2
/-- where a generator's frame stands: its names, its data, its iterators' objects and how these are -/
structure Ph where
  σ : L2.St
  δ : DE
  fp : List Addr
  tn : Heap → Prop
  ex : Hp → Prop
structure PhOk (σw : L2.St) (δw : DE) (vs : List Nat) (P : Ph) : Prop where
  wσ : L2.wipe P.σ vs = σw
  wδ : wipeD P.δ vs = δw
  len : P.σ.length = σw.length
  keep : ∀ h h', P.tn h → (∀ b ∈ P.fp, ∀ o, h.get? b = some o → h'.get? b = some o) → P.tn h'
structure GInvP (Xg : Cx) (σw : L2.St) (δw : DE) (vs : List Nat) (P : Ph) (H1 : Hp) (ow : List Addr) (L : List Addr) (S : List Addr) (gd : List D) (pins : List (Addr × Obj)) (H : Hp) (s : Shared) : Prop where
  ok : PhOk σw δw vs P
  inv : Inv Xg pins P.σ H s
  trn : P.tn s.heap
  xt : P.ex H
  nof : ∀ b ∈ P.fp, H b = none
  env : ∃ o', Envs (kx Xg) H P.σ P.δ o' ∧ Own H1 ow o'
  step : Step H1 H ow
  live : ∀ b ∈ L, ∃ o, s.heap.get? b = some o
  apart : ∀ p ∈ pins, p.1 ∉ P.fp
  held : Keeps Xg.F S gd H s
theorem GInvP.fin {Xg : Cx} {σw : L2.St} {δw : DE} {vs : List Nat} {P : Ph} {H1 : Hp} {ow L S : List Addr} {gd : List D} {pins : List (Addr × Obj)} {H : Hp} {s : Shared} (G : GInvP Xg σw δw vs P H1 ow L S gd pins H s) : GEnd Xg σw δw H1 ow S gd pins H s := by
  refine ⟨G.inv.weak G.ok.len.symm fun j v e => ?_, ?_, G.step, G.held⟩
  · rw [← G.ok.wσ] at e
    exact (wipe_some e).1
  · obtain ⟨o', E', w'⟩ := G.env
    obtain ⟨o6, E6, c6⟩ := E'.wipe vs
    rw [G.ok.wσ, G.ok.wδ] at E6
    exact ⟨o6, E6, w'.sub c6⟩
def GYdP (Xg : Cx) (σw : L2.St) (δw : DE) (vs : List Nat) (H1 : Hp) (ow : List Addr) (L S : List Addr) (cd : Nat → List D) (stop : D → Bool) (R0 : List D) : Protocol := fun m s₀ v s kap =>
  1 ≤ m ∧ ∃ P d x H, R0[R0.length - m]? = some d ∧ GInvP Xg σw δw vs P H1 ow L S (cd (R0.length - m)) (pinsAt L s₀.heap) H s ∧ RelV x v ∧ Rep Xg.F H d x [] ∧
    (stop d = false → ∀ s'' H'', GInvP Xg σw δw vs P H1 ow L S (cd (R0.length - m + 1)) (pinsAt L s''.heap) H'' s'' → kap (.send .none) s'')
section
variable {Xg : Cx} {σw : L2.St} {δw : DE} {P : Ph} {H1 : Hp} {ow L Sc : List Addr} {vs : List Nat} {cd : Nat → List D} {gd : List D} {stop : D → Bool} {R0 : List D}

def GatP (Xg : Cx) (σw : L2.St) (δw : DE) (vs : List Nat) (P : Ph) (H1 : Hp) (ow L Sc : List Addr) (cd : Nat → List D) (stop : D → Bool) (R0 : List D) (Ac : Around) (g : Nat) (r : List D) (s : Shared) : Prop :=
  g < s.gens.size ∧ ∃ gs, s.gens[g]? = some gs ∧ ∀ s'' H'', GInvP Xg σw δw vs P H1 ow L Sc (cd (R0.length - r.length)) (pinsAt L s''.heap) H'' s'' →
    gs.Goes (model Xg.prog Xg.w) Ac (fun n s₀ r s₁ => r = .ok .next ∧ GPr Xg σw δw H1 ow L Sc cd R0 n s₀ s₁) (GYdP Xg σw δw vs H1 ow L Sc cd stop R0) (r.length + 1) (.send .none) s''
theorem GInvP.gens {pins : List (Addr × Obj)} {H : Hp} {s : Shared} (G : GInvP Xg σw δw vs P H1 ow L Sc gd pins H s) {g : Array GenState} (h : AllBare g) : GInvP Xg σw δw vs P H1 ow L Sc gd pins H { s with gens := g } :=
  ⟨G.ok, G.inv.gens h, G.trn, G.xt, G.nof, G.env, G.step, G.live, G.apart, G.held⟩
theorem GInvP.pin {H : Hp} {s₀ s : Shared} (G : GInvP Xg σw δw vs P H1 ow L Sc gd (pinsAt L s₀.heap) H s) (hL : ∀ b ∈ L, ∃ o, s₀.heap.get? b = some o) : pinsAt L s.heap = pinsAt L s₀.heap := pinsAt_eq fun b hb => by
  obtain ⟨o, e⟩ := hL b hb
  exact ⟨o, e, (G.inv.pin (b, o) (List.mem_append_right _ (mem_pinsAt hb e))).1⟩
theorem GInvP.at {H : Hp} {s₀ s : Shared} {b : Addr} {o : Obj} (G : GInvP Xg σw δw vs P H1 ow L Sc gd (pinsAt L s₀.heap) H s) (hb : b ∈ L) (e : s₀.heap.get? b = some o) : s.heap.get? b = some o := (G.inv.pin (b, o) (List.mem_append_right _ (mem_pinsAt hb e))).1
theorem GEnd.atP {H : Hp} {s₀ s : Shared} {b : Addr} {o : Obj} (G : GEnd Xg σw δw H1 ow Sc gd (pinsAt L s₀.heap) H s) (hb : b ∈ L) (e : s₀.heap.get? b = some o) : s.heap.get? b = some o := (G.inv.pin (b, o) (List.mem_append_right _ (mem_pinsAt hb e))).1
theorem gen_nextP {A : Around} {a : Addr} {g : Nat} {H : Hp} {s : Shared} {r pre : List D} {E : Value → Shared → Prop} {Q : Option Value → Shared → Prop} (hh : A.handled = none) (hroom : A.depth < recursionLimit) (ha : a ∈ L) (isg : s.heap.IsGen a g)
    (G : GInvP Xg σw δw vs P H1 ow L Sc (cd pre.length) (pinsAt L s.heap) H s) (Ka : GatP Xg σw δw vs P H1 ow L Sc cd stop R0 A.in1 g r s) (hR : R0 = pre ++ r) (hpre : ∀ d ∈ pre, stop d = false)
    (hnil : r = [] → ∀ s' H', GEnd Xg σw δw H1 ow Sc (cd pre.length) (pinsAt L s.heap) H' s' → Q none s')
    (hcons : ∀ d r', r = d :: r' → ∀ v x P' s' H', RelV x v → Rep Xg.F H' d x [] → GInvP Xg σw δw vs P' H1 ow L Sc (cd pre.length) (pinsAt L s.heap) H' s' → s'.heap.IsGen a g → (stop d = false → GatP Xg σw δw vs P' H1 ow L Sc cd stop R0 A.in1 g r' s') → Q (some v) s') :
    wpAny (model Xg.prog Xg.w) A (pyNext (.ref a)) Q E s := by
  obtain ⟨hgl, gs, hgs, goes⟩ := Ka
  have hbr : AllBare (s.setGen g .running).gens := allBare_setGen G.inv.bare rfl
  have hj : R0.length - r.length = pre.length := by rw [hR, List.length_append]; omega
  rw [hj] at goes
  have G0 : GInvP Xg σw δw vs P H1 ow L Sc (cd pre.length) (pinsAt L s.heap) H (s.setGen g .running) := G.gens hbr
  have hgo := goes (s.setGen g .running) H G0
  have live := G.live
  refine GenW.wpAny_gsz (n := g + 1) hgl (wpAny_pyNext_genexpQ hh G.inv.nolimit hroom isg hgs hgo (fun v s₁ gs' hb hY => ?_) fun s₁ hP h' hk => ?_)
  · intro hsz
    have hs1 : g < s₁.gens.size := by
      have q : (s₁.setGen g gs').gens.size = s₁.gens.size := GenW.setGen_size _ _ _
      have hsz' : g + 1 ≤ (s₁.setGen g gs').gens.size := hsz
      omega
    obtain ⟨h1, P', d, x, H', hd, G', rx, rep, kap⟩ := hY
    cases r with
    | nil => exact absurd h1 (by simp)
    | cons d0 r' =>
      have hd0 : d = d0 := by
        have hd : R0[R0.length - (d0 :: r').length]? = some d := hd
        rw [hR, List.length_append, List.length_cons, show pre.length + (r'.length + 1) - (r'.length + 1) = pre.length by omega, List.getElem?_append_right (Nat.le_refl _), Nat.sub_self] at hd
        simpa using hd.symm
      subst hd0
      have hj2 : R0.length - (d :: r').length = pre.length := by rw [hR, List.length_append, List.length_cons]; omega
      have hj3 : R0.length - (d :: r').length + 1 = R0.length - r'.length := by rw [hj2, hR, List.length_append, List.length_cons]; omega
      have G' : GInvP Xg σw δw vs P' H1 ow L Sc (cd pre.length) (pinsAt L s.heap) H' s₁ := by rw [← hj2]; exact G'
      have G1 : GInvP Xg σw δw vs P' H1 ow L Sc (cd pre.length) (pinsAt L s.heap) H' (s₁.setGen g gs') := G'.gens (allBare_setGen G'.inv.bare hb)
      have isg' : (s₁.setGen g gs').heap.IsGen a g := by
        obtain ⟨o, nm, qn, ho, q⟩ := isg
        exact ⟨o, nm, qn, G'.at ha ho, q⟩
      refine hcons d r' rfl v x P' _ H' rx rep G1 isg' fun hst => ⟨by rw [GenW.setGen_size]; exact hs1, gs', setGen_at hs1, fun s'' H'' G'' => kap hst s'' H'' (by rw [← hj3] at G''; exact G'')⟩
  · intro hsz
    obtain ⟨hn, H', Ge⟩ := hP
    have hnil' : r = [] := List.length_eq_zero_iff.mp (Nat.succ.inj hn)
    have hRl : R0.length = pre.length := by rw [hR, hnil', List.append_nil]
    have Ge : GEnd Xg σw δw H1 ow Sc (cd pre.length) (pinsAt L s.heap) H' s₁ := by rw [← hRl]; exact Ge
    refine hnil hnil' _ H' ⟨?_, Ge.env, Ge.step, fun b hb => by obtain ⟨acc, c, gv, e, q⟩ := Ge.held b hb; exact ⟨acc, c, gv, hk _ _ e, q⟩⟩
    exact (Ge.inv.gens (allBare_setGen Ge.inv.bare rfl)).kept (t' := s₁.toks) hk
end
end Z


set_option Elab.async false
set_option linter.all false
set_option maxRecDepth 100000
/-! generator expressions with two clauses: what a consumer sees -/
namespace Z
open PySem PySem.Spec PyProof.Rows L2
section
variable {X : Cx} {pins : List (Addr × Obj)} {σ : L2.St} {δ1 : DE} {o1 ow od : List Addr} {Hx : Hp} {sB : Shared} {vs : List Nat} {scope : Scope} {cenv : Env} {fp : List Addr} {stop : D → Bool} {S : List Addr} {cd : Nat → List D} {gd : List D} {A Ag : Around} {a g : Addr}
theorem gst_ofP (IB : Inv X pins σ Hx sB) (hfp : ∀ b ∈ fp, FpOk X pins Hx b) (En : Envs (kx X) Hx σ δ1 o1) (cw : ∀ a, ow.count a + od.count a ≤ o1.count a) (hod : ∀ a ∈ od, Hx a ≠ none) (hok : ∀ a ∈ ow, ∃ u, Hx a = some u ∧ ¬ Sh u)
    (kr : ∀ {H2 : Hp} {δ2 : DE} {o2 : List Addr}, Step Hx H2 ow → Envs (kx X) H2 (L2.wipe σ vs) δ2 o2 → ∃ o3, Envs (kx X) H2 σ (restD δ1 δ2 vs) o3 ∧ ∀ a, o3.count a ≤ o2.count a + od.count a)
    (hh : A.handled = none) (hroom : A.depth < recursionLimit) (haS : a ∉ S) (hSy : ∀ b ∈ S, sB.heap.objs.size ≤ b ∧ b ≠ cenv.locals ∧ (∀ x c, cenv.cells.lookup x = some c → c ≠ b))
    {R0 : List D} : ∀ (r pre : List D) (P : Ph) (H : Hp) (s : Shared) (gd : List D), R0 = pre ++ r → (∀ d ∈ pre, stop d = false) → s.heap.IsGen a g →
    GInvP (X.gen Ag sB Hx scope cenv fp) (L2.wipe σ vs) (wipeD δ1 vs) vs P Hx ow (a :: S) S gd (pinsAt (a :: S) s.heap) H s → GatP (X.gen Ag sB Hx scope cenv fp) (L2.wipe σ vs) (wipeD δ1 vs) vs P Hx ow (a :: S) S cd stop R0 A.in1 g r s →
    GSt X pins σ δ1 o1 Hx A a stop S cd pre.length r H s := by
  have chg : ∀ {P : Ph} {H : Hp} {s s'' : Shared} {r : List D} {gd gd' : List D}, Chg S s s'' → s.heap.IsGen a g → GInvP (X.gen Ag sB Hx scope cenv fp) (L2.wipe σ vs) (wipeD δ1 vs) vs P Hx ow (a :: S) S gd (pinsAt (a :: S) s.heap) H s → Keeps X.F S gd' H s'' → GatP (X.gen Ag sB Hx scope cenv fp) (L2.wipe σ vs) (wipeD δ1 vs) vs P Hx ow (a :: S) S cd stop R0 A.in1 g r s →
      s''.heap.IsGen a g ∧ GInvP (X.gen Ag sB Hx scope cenv fp) (L2.wipe σ vs) (wipeD δ1 vs) vs P Hx ow (a :: S) S gd' (pinsAt (a :: S) s''.heap) H s'' ∧ GatP (X.gen Ag sB Hx scope cenv fp) (L2.wipe σ vs) (wipeD δ1 vs) vs P Hx ow (a :: S) S cd stop R0 A.in1 g r s'' := fun {P H s s'' r gd gd'} c isg G hk Ga => by
    have isg' : s''.heap.IsGen a g := by
      obtain ⟨o, nm, qn, ho, q⟩ := isg
      exact ⟨o, nm, qn, c.keep a o haS ho, q⟩
    have nP : ∀ b ∈ S, ∃ o, s.heap.get? b = some o ∧ H b = none ∧ b ≠ cenv.locals ∧ b ∉ frs X.stack := fun b hb => by
      obtain ⟨o, e⟩ := G.live b (List.mem_cons_of_mem _ hb)
      obtain ⟨_, h2, h3, h4, _⟩ := G.inv.pin (b, o) (List.mem_append_right _ (mem_pinsAt (List.mem_cons_of_mem _ hb) e))
      exact ⟨o, e, h2, h3, h4⟩
    have I0 : Inv (X.gen Ag sB Hx scope cenv fp) [] P.σ H s := G.inv.pins_of fun p hp => nomatch hp
    have nt : ∀ b u, H b = some u → b ∉ S := fun b u e hb => by obtain ⟨_, _, z, _⟩ := nP b hb; rw [e] at z; cases z
    have I1 : Inv (X.gen Ag sB Hx scope cenv fp) [] P.σ H s'' := by
      obtain ⟨hp, gn, dr, tk, os⟩ := s''
      have e : os = s.os := c.os
      subst e
      refine I0.step (g' := gn) (t' := tk) (d' := dr) (ch := S) (fun b hb => ⟨.inr (hSy b hb).1, (hSy b hb).2.1, (hSy b hb).2.2, fun p hp => nomatch hp⟩)
        (fun b o _ _ hc e _ => c.keep b o hc e) (fun b o _ _ hc e _ => ⟨o.slots, c.keep b o hc e⟩) (fun _ _ _ _ n => n) (fun b o hc e => ⟨o, c.keep b o hc e⟩) (fun _ _ e => e) (fun _ _ _ e => e) (fun b ps e => ⟨#[], by rw [e]; simp⟩) (fun m hm => ?_) (fun b u e => ?_) (by rw [show gn = s.gens from c.gens]; exact G.inv.bare)
      · obtain ⟨ob, es, ep, ho, r⟩ := hm
        exact ⟨ob, es, ep, c.keep _ ob (fun hb => (hSy _ hb).2.1 rfl) ho, r⟩
      · refine (I0.hok b u e).stay (fun d v hd q => c.keep d v ?_ q) (fun _ q => q) fun _ _ q => q
        rcases hd with rfl | hd
        · exact nt _ u e
        · exact nt d _ hd
    have nS : ∀ b ∈ S, b ∉ P.fp := fun b hb => by
      obtain ⟨o, e⟩ := G.live b (List.mem_cons_of_mem _ hb)
      exact G.apart (b, o) (mem_pinsAt (List.mem_cons_of_mem _ hb) e)
    refine ⟨isg', ⟨G.ok, I1.pins_of fun p hp => ?_, G.ok.keep _ _ G.trn fun b hb o e => c.keep b o (fun hm => nS b hm hb) e, G.xt, G.nof, G.env, G.step, fun b hb => ?_, fun p hp => ?_, hk⟩, by rw [c.gens]; exact Ga.1, by rw [c.gens]; exact Ga.2⟩
    · obtain ⟨hb, e⟩ := of_pinsAt hp
      rcases List.mem_cons.mp hb with hb | hb
      · obtain ⟨o, nm, qn, ho, q1, q2, q3⟩ := isg
        have ea := c.keep a o haS ho
        rw [hb, ea] at e
        have eo : o = p.2 := Option.some.inj e
        obtain ⟨_, h2, h3, h4, h5⟩ := G.inv.pin (a, o) (List.mem_append_right _ (mem_pinsAt List.mem_cons_self ho))
        rw [hb, ← eo]
        exact ⟨ea, h2, h3, h4, h5⟩
      · obtain ⟨o, _, h2, h3, h4⟩ := nP p.1 hb
        obtain ⟨o', e', hc⟩ := c.own p.1 hb
        rw [e'] at e
        have eo : o' = p.2 := Option.some.inj e
        exact ⟨by rw [e', eo], h2, h3, h4, by rw [← eo]; exact hc⟩
    · rcases List.mem_cons.mp hb with rfl | hb
      · obtain ⟨o, nm, qn, ho, _⟩ := isg'
        exact ⟨o, ho⟩
      · obtain ⟨o', e', _⟩ := c.own b hb
        exact ⟨o', e'⟩
    · obtain ⟨hb, e⟩ := of_pinsAt hp
      rcases List.mem_cons.mp hb with hb | hb
      · obtain ⟨o, nm, qn, ho, _⟩ := isg
        have := G.apart (a, o) (mem_pinsAt List.mem_cons_self ho)
        rw [hb]; exact this
      · exact nS p.1 hb
  intro r
  induction r with
  | nil =>
    intro pre P H s gd hR hpre isg G Ga
    refine ⟨back_of IB hfp En cw hod hok kr G.fin, isg.typeIs, fun s'' E Q c hk hQ => ?_⟩
    obtain ⟨isg2, G2, Ga2⟩ := chg c isg G hk Ga
    refine gen_nextP (Xg := X.gen Ag sB Hx scope cenv fp) hh hroom List.mem_cons_self isg2 G2 Ga2 hR hpre (fun _ s' H' Ge => ?_) fun d r' e => nomatch e
    exact hQ s' H' (back_of IB hfp En cw hod hok kr Ge) (fun b hb o e => Ge.atP (List.mem_cons_of_mem _ hb) e) Ge.held
  | cons d r ih =>
    intro pre P H s gd hR hpre isg G Ga
    refine ⟨back_of IB hfp En cw hod hok kr G.fin, isg.typeIs, fun s'' E Q c hk hQ => ?_⟩
    obtain ⟨isg2, G2, Ga2⟩ := chg c isg G hk Ga
    refine gen_nextP (Xg := X.gen Ag sB Hx scope cenv fp) hh hroom List.mem_cons_self isg2 G2 Ga2 hR hpre (fun e => nomatch e) fun d' r' e v x P' s' H' rx rep G' isg' Gn => ?_
    cases e
    refine hQ v x s' H' rx rep (back_of IB hfp En cw hod hok kr G'.fin) (fun b hb o e => G'.at (List.mem_cons_of_mem _ hb) e) G'.held fun hst => ?_
    have hp : pinsAt (a :: S) s'.heap = pinsAt (a :: S) s''.heap := G'.pin G2.live
    have := ih (pre ++ [d]) P' H' s' _ (by rw [hR, List.append_assoc]; rfl) (fun z hz => (List.mem_append.mp hz).elim (hpre z) fun hz => by rw [List.mem_singleton.mp hz]; exact hst) isg' (by rw [hp]; exact G') (Gn hst)
    rw [List.length_append] at this
    exact this
end
end Z


set_option Elab.async false
set_option linter.all false
set_option maxRecDepth 100000
/-! generator expressions with two clauses: the code, where it runs -/
namespace Z
open PySem PySem.Spec PyProof.Rows L2
theorem over_gen1 {A : Around} {elt : Expr} {gs : List Comprehension} {scope : Scope} {pos : Pos} {it it0 acc : Value} {cenv : Env} {k : Result → Sem PySem.Fin} {h : Option Value} {g : Bool} {l : List Value} {p : Pos} {kp : List Value} (hh : A.handled = none) (hn : h = none) :
    A.over (.compLoop (.GeneratorExp elt gs scope pos) 1 it acc cenv) [.ret k h g l (.compLoop (.GeneratorExp elt gs scope pos) 0 it0 acc cenv) p kp] = A.deeper cenv := by
  subst hn
  obtain ⟨a1, a2, a3, a4, a5⟩ := A
  subst hh
  rfl
theorem compTurnG_out (elt t0 i0 t1 i1 : Expr) (ifs0 ifs1 : List Expr) (scope : Scope) (pos : Pos) (it acc : Value) (env : Env) :
    compTurn (.GeneratorExp elt [⟨t0, i0, ifs0, 0⟩, ⟨t1, i1, ifs1, 0⟩] scope pos) 0 it acc env = (do
      standAt i0.pos
      match ← pyNext it with
      | none => pure (.done .next)
      | some v =>
        letOwnedTupleGo t0 it v
        assign t0 env v
        let mut ok := true
        for c in ifs0 do
          if ok then ok ← isTrue c env (eval c env)
        if ok then
          let x ← eval i1 env
          standAt i1.pos
          let x ← foldedSetIterable i1 env x
          let _ ← runOwn (.compStart (.GeneratorExp elt [⟨t0, i0, ifs0, 0⟩, ⟨t1, i1, ifs1, 0⟩] scope pos) 1 (← holding [x] (pyIter x)) acc env) env
        again (.compLoop (.GeneratorExp elt [⟨t0, i0, ifs0, 0⟩, ⟨t1, i1, ifs1, 0⟩] scope pos) 0 it acc env)) := by rfl
theorem compTurnG_in (elt t0 i0 t1 i1 : Expr) (ifs0 ifs1 : List Expr) (scope : Scope) (pos : Pos) (it acc : Value) (env : Env) :
    compTurn (.GeneratorExp elt [⟨t0, i0, ifs0, 0⟩, ⟨t1, i1, ifs1, 0⟩] scope pos) 1 it acc env = (do
      standAt i1.pos
      match ← pyNext it with
      | none => pure (.done .next)
      | some v =>
        letOwnedTupleGo t1 it v
        assign t1 env v
        let mut ok := true
        for c in ifs1 do
          if ok then ok ← isTrue c env (eval c env)
        if ok then
          (do let v ← eval elt env; standAt elt.pos; let _ ← yieldOut env v)
        again (.compLoop (.GeneratorExp elt [⟨t0, i0, ifs0, 0⟩, ⟨t1, i1, ifs1, 0⟩] scope pos) 1 it acc env)) := by rfl
end Z


set_option Elab.async false
set_option linter.all false
set_option maxRecDepth 100000
/-! generator expressions with two clauses: the inner loop's turns -/
namespace Z
open PySem PySem.Spec PyProof.Rows L2
/-- the phase at the inner loop's turn j -/
def inPh (κ : Kx) (Hb : Hp) (ob : List Addr) (σi : L2.St) (δi : DE) (fpO fp1 : List Addr) (tnO : Heap → Prop) (tn1 : Nat → Heap → Prop) (j : Nat) : Ph := ⟨σi, δi, fpO ++ fp1, fun h => tnO h ∧ tn1 j h, fun H => Step Hb H ob ∧ ∃ o', Envs κ H σi δi o' ∧ Own Hb ob o'⟩
section
variable {Xg : Cx} {σw σ8 : L2.St} {δw δi : DE} {fpO fp1 : List Addr} {tnO : Heap → Prop} {tn1 : Nat → Heap → Prop} {H1 Hb : Hp} {ow ob L Sc : List Addr} {vs vs1 : List Nat} {cd : Nat → List D} {stop : D → Bool} {R0 : List D} {Ac : Around} {cenv : Env} {elt t0 i0 t1 i1 : Expr} {ifs0 ifs1 : List Expr} {scope : Scope} {pos : Pos} {it it1 : Addr} {J1 : It} {xs1 : List D} {b1 : Bnd} {mt1 : DenT} {me : Den} {qt qe : Bool} {k0 : Result → Sem PySem.Fin} {lv : List Value} {p0 : Pos}
theorem seg_in (hA : Xg.A = Ac.deeper cenv) (hh : Ac.handled = none) (hE : Xg.env = cenv) (hxe : Xg.xe = fun _ _ => False) (hpn : Xg.pn = []) (hcm : Xg.calm = true) (hco : cenv.scope.isCoroutine = false)
    (Tn : Turn Xg.prog Xg.w Xg.K t1 J1 fp1 it1 tn1) (pg : PG Xg t1 (TGm (kx Xg) (kpOut vs1) b1)) (pt : PTs Xg ifs1 (TT (kx Xg) qt mt1)) (pe : PE Xg elt (T (kx Xg) qe me)) (hb1 : Step H1 Hb ow) (hb2 : Own H1 ow ob) (hNb : Nd ob)
    (keepO : ∀ h h', tnO h → (∀ b ∈ fpO, ∀ o, h.get? b = some o → h'.get? b = some o) → tnO h') (objO : ∀ h, tnO h → ∀ b ∈ fpO, ∃ o, h.get? b = some o ∧ ∀ v, o.data ≠ .cell v)
    (stO : ∀ (pins : List (Addr × Obj)) (H' : Hp), (∀ p ∈ pins, p.1 ∉ fpO) → (∀ b ∈ fpO, H' b = none) → ∀ b ∈ fpO, FpOk Xg pins H' b) (st1 : ∀ (pins : List (Addr × Obj)) (H' : Hp), (∀ p ∈ pins, p.1 ∉ fp1) → (∀ b ∈ fp1, H' b = none) → ∀ b ∈ fp1, FpOk Xg pins H' b)
    (hdis : ∀ b ∈ fpO, b ∉ fp1)
    (S : ∀ i H, Step Hb H ob → (∃ o', Envs (kx Xg) H (L2.wipe σ8 vs1) δi o' ∧ Own Hb ob o') → (∀ x, xs1[i]? = some x → J1.go i H ∧ ∀ v H'', J1.yld i H v H'' → (∀ a u, H a = some u → H'' a = some u) ∧ Rep Xg.F H'' x v []) ∧ (xs1.length ≤ i → J1.stop i H))
    {rest : List D}
    (hend : ∀ (s₀ s : Shared) (H : Hp) (pre : List D), R0 = pre ++ rest → (∀ d ∈ pre, stop d = false) → (∀ b ∈ L, ∃ o, s₀.heap.get? b = some o) → GInvP Xg σw δw vs ⟨L2.wipe σ8 vs1, δi, fpO, tnO, fun _ => True⟩ H1 ow L Sc (cd pre.length) (pinsAt L s₀.heap) H s →
      Seg (model Xg.prog Xg.w) Ac (fun n s₀ r s₁ => r = .ok .next ∧ GPr Xg σw δw H1 ow L Sc cd R0 n s₀ s₁) (GYdP Xg σw δw vs H1 ow L Sc cd stop R0) (rest.length + 1) s₀
        (.compLoop (.GeneratorExp elt [⟨t0, i0, ifs0, 0⟩, ⟨t1, i1, ifs1, 0⟩] scope pos) 0 (.ref it) .none cenv) (k0 (.ok .next)) [] s)
    :
    ∀ (k i : Nat) (s₀ s : Shared) (H : Hp) (r pre : List D), xs1.length - i = k → i ≤ xs1.length → dG stop (gx vs1 b1 mt1 me δi) (xs1.drop i) = some r → R0 = pre ++ (r ++ rest) → (∀ d ∈ pre, stop d = false) → (∀ b ∈ L, ∃ o, s₀.heap.get? b = some o) → (∀ b ∈ Sc, b ∈ L) →
      GInvP Xg σw δw vs (inPh (kx Xg) Hb ob (L2.wipe σ8 vs1) δi fpO fp1 tnO tn1 i) H1 ow L Sc (cd pre.length) (pinsAt L s₀.heap) H s →
      Seg (model Xg.prog Xg.w) Ac (fun n s₀ r s₁ => r = .ok .next ∧ GPr Xg σw δw H1 ow L Sc cd R0 n s₀ s₁) (GYdP Xg σw δw vs H1 ow L Sc cd stop R0) ((r ++ rest).length + 1) s₀
        (.compLoop (.GeneratorExp elt [⟨t0, i0, ifs0, 0⟩, ⟨t1, i1, ifs1, 0⟩] scope pos) 1 (.ref it1) .none cenv) ((model Xg.prog Xg.w).den (.compLoop (.GeneratorExp elt [⟨t0, i0, ifs0, 0⟩, ⟨t1, i1, ifs1, 0⟩] scope pos) 1 (.ref it1) .none cenv))
        [.ret k0 none false lv (.compLoop (.GeneratorExp elt [⟨t0, i0, ifs0, 0⟩, ⟨t1, i1, ifs1, 0⟩] scope pos) 0 (.ref it) .none cenv) p0 []] s := by
  intro k
  induction k with
  | zero =>
    intro i s₀ s H r pre hk hi hr hR hpre hL hLS G
    have hin : i = xs1.length := by omega
    subst hin
    rw [List.drop_length] at hr
    cases (Option.some.inj hr : [] = r)
    show Seg _ Ac _ _ _ s₀ _ ((compTurn (.GeneratorExp elt [⟨t0, i0, ifs0, 0⟩, ⟨t1, i1, ifs1, 0⟩] scope pos) 1 (.ref it1) .none cenv).onRaise (fun x => do noteFrame x cenv; theTreesLotGoes x)) _ s
    rw [compTurnG_in, Sem.onRaise_eq_wrap]
    refine seg_bind_wrap (wpAny_standAt ?_)
    have apO : ∀ p ∈ pinsAt L s₀.heap, p.1 ∉ fpO := fun p hp hm => G.apart p hp (List.mem_append_left _ hm)
    have ap1 : ∀ p ∈ pinsAt L s₀.heap ++ pinsAt fpO s.heap, p.1 ∉ fp1 := fun p hp hm => by
      rcases List.mem_append.mp hp with hp | hp
      · exact G.apart p hp (List.mem_append_right _ hm)
      · exact hdis p.1 (of_pinsAt hp).1 hm
    have Ip := G.inv.pinned (stO _ _ apO fun b hb => G.nof b (List.mem_append_left _ hb)) (objO _ G.trn.1)
    have td := Tn.done Xg rfl rfl rfl hcm xs1.length (pinsAt L s₀.heap ++ pinsAt fpO s.heap) s _ H (fun _ _ => False) Ip (st1 _ _ ap1 fun b hb => G.nof b (List.mem_append_right _ hb)) G.trn.2 ((S xs1.length H G.xt.1 G.xt.2).2 (Nat.le_refl _))
    rw [hA] at td
    refine seg_bind_wrap ?_
    rw [over_gen1 hh rfl]
    refine thnF td fun r s6 ⟨hr, I6⟩ => ?_
    subst hr
    exact seg_leaf (.ok .next) (hend s₀ s6 H pre (by rw [hR]; rfl) hpre hL ⟨⟨G.ok.wσ, G.ok.wδ, G.ok.len, keepO⟩, I6.unpinned, keepO _ _ G.trn.1 fun b hb o e => (I6.pin (b, o) (List.mem_append_right _ (List.mem_append_right _ (mem_pinsAt hb e)))).1, trivial,
      fun b hb => G.nof b (List.mem_append_left _ hb), G.env, G.step, fun b hb => by
        obtain ⟨o, e⟩ := hL b hb
        exact ⟨o, (I6.pin (b, o) (List.mem_append_right _ (List.mem_append_left _ (mem_pinsAt hb e)))).1⟩, apO, fun b hb => by
        obtain ⟨acc, c, gv, e, va, re, hn⟩ := G.held b hb
        exact ⟨acc, c, gv, (I6.pin (b, _) (List.mem_append_right _ (List.mem_append_left _ (mem_pinsAt (hLS b hb) (by
          obtain ⟨o, eo⟩ := hL b (hLS b hb)
          have := (G.inv.pin (b, o) (List.mem_append_right _ (mem_pinsAt (hLS b hb) eo))).1
          rw [e] at this; rw [eo, this]))))).1, va, re, hn⟩⟩)
  | succ k ih =>
    intro i s₀ s H r pre hk hi hr hR hpre hL hLS G
    have hlt : i < xs1.length := by omega
    have hxi : xs1[i]? = some xs1[i] := List.getElem?_eq_getElem hlt
    rw [List.drop_eq_getElem_cons hlt] at hr
    simp only [dG] at hr
    obtain ⟨o2, E2, w2⟩ := G.xt.2
    obtain ⟨go, yl⟩ := (S i H G.xt.1 ⟨o2, E2, w2⟩).1 _ hxi
    show Seg _ Ac _ _ _ s₀ _ ((compTurn (.GeneratorExp elt [⟨t0, i0, ifs0, 0⟩, ⟨t1, i1, ifs1, 0⟩] scope pos) 1 (.ref it1) .none cenv).onRaise (fun x => do noteFrame x cenv; theTreesLotGoes x)) _ s
    rw [compTurnG_in, Sem.onRaise_eq_wrap]
    refine seg_bind_wrap (wpAny_standAt ?_)
    have apO : ∀ p ∈ pinsAt L s₀.heap, p.1 ∉ fpO := fun p hp hm => G.apart p hp (List.mem_append_left _ hm)
    have ap1 : ∀ p ∈ pinsAt L s₀.heap ++ pinsAt fpO s.heap, p.1 ∉ fp1 := fun p hp hm => by
      rcases List.mem_append.mp hp with hp | hp
      · exact G.apart p hp (List.mem_append_right _ hm)
      · exact hdis p.1 (of_pinsAt hp).1 hm
    have Ip := G.inv.pinned (stO _ _ apO fun b hb => G.nof b (List.mem_append_left _ hb)) (objO _ G.trn.1)
    have ti := Tn.item Xg rfl rfl rfl hcm i (pinsAt L s₀.heap ++ pinsAt fpO s.heap) s _ H (fun _ _ => False) Ip (st1 _ _ ap1 fun b hb => G.nof b (List.mem_append_right _ hb)) G.trn.2 go
    rw [hA] at ti
    refine seg_bind_wrap ?_
    rw [over_gen1 hh rfl]
    refine thnF ti fun r6 s6 ⟨u, hr6, h6⟩ => ?_
    subst hr6
    dsimp only
    refine seg_bind_wrap ?_
    rw [over_gen1 hh rfl]
    refine thnF h6 fun _ s7 ⟨x, H7, I7, r7, y7, st7, n7⟩ => ?_
    obtain ⟨sm, rv⟩ := yl x H7 y7
    have I7' := I7.pinned (st1 _ _ ap1 n7) (Tn.obj _ _ st7)
    cases hg : gx vs1 b1 mt1 me δi xs1[i] with
    | none => rw [hg] at hr; simp at hr
    | some go1 =>
    rw [hg] at hr
    simp only [gx] at hg
    cases hb : b1 xs1[i] δi with
    | none => rw [hb] at hg; simp at hg
    | some δ3 =>
    rw [hb] at hg; dsimp only at hg
    cases hm : mt1 δ3 with
    | none => rw [hm] at hg; simp at hg
    | some p4 =>
    obtain ⟨bt, δ4⟩ := p4
    rw [hm] at hg
    have s3 : Step Hb H7 ob := G.xt.1.same sm
    -- the target, the tests
    have tgt : TGm (kx Xg) (kpOut vs1) b1 x (L2.wipe σ8 vs1) H7 (fun σ3 H3 => H3 = H7 ∧ L2.wipe σ3 vs1 = L2.wipe σ8 vs1 ∧ σ3.length = (L2.wipe σ8 vs1).length ∧ ∃ o3, Envs (kx Xg) H7 σ3 δ3 o3 ∧ Own Hb ob o3) := by
      refine ⟨δi, o2, xs1[i], [], δ3, E2.same sm, rv, hb, fun σ3 o3 E3 c3 k3 => ⟨rfl, ?_, k3.2, o3, E3, w2.sub fun a => ?_⟩⟩
      · rw [← wipe_wipe σ8 vs1]
        exact wipe_same k3.2 fun j hj => k3.1 j (by simpa [kpOut] using hj)
      · have := c3 a; simp only [List.count_nil] at this; omega
    have pgr := pg.run _ s7 _ H7 x u _ I7' r7 tgt
    rw [hA, hE, hxe] at pgr
    refine seg_bind_wrap ?_
    rw [over_gen1 hh rfl]
    refine thnF pgr fun _ s8 ⟨σ9, H8, I8, e8, hw8, hl8, o3, E3, w3⟩ => ?_
    subst e8
    have no3 : Nd o3 := w3.nd hNb
    have tst : TT (kx Xg) qt mt1 σ9 H8 (fun b9 H9 => b9 = bt ∧ Step H8 H9 o3 ∧ ∃ o4, Envs (kx Xg) H9 σ9 δ4 o4 ∧ Own H8 o3 o4) := ⟨δ3, o3, bt, δ4, E3, no3, hm, fun H9 o4 P4 => ⟨rfl, P4.step.mono Wq_sub, o4, P4.env, P4.own⟩⟩
    have ptr := pt.run _ s8 σ9 H8 _ I8 tst
    rw [hA, hE, hxe] at ptr
    refine seg_bind_wrap ?_
    rw [over_gen1 hh rfl]
    refine thnF ptr fun b9 s9 ⟨H9, I9, hb9, s9', o4, E4, w4⟩ => ?_
    subst hb9
    have s4 : Step Hb H9 ob := s3.trans w3 s9'
    have w4' : Own Hb ob o4 := w3.trans s3 w4
    have keep9 : ∀ gv, Reps Xg.F H (cd pre.length) gv [] → Reps Xg.F H9 (cd pre.length) gv [] := fun gv r => (r.same sm).step s9' E3.ok fun a ha => nomatch ha
    -- behind the turn
    have fin : ∀ {s' : Shared} {H' : Hp} {δ' : DE} {o' : List Addr}, Inv Xg ((pinsAt L s₀.heap ++ pinsAt fpO s.heap) ++ pinsAt fp1 s7.heap) σ9 H' s' → Step Hb H' ob → Envs (kx Xg) H' σ9 δ' o' → Own Hb ob o' → wipeD δ' vs1 = δi → (∀ gv, Reps Xg.F H (cd pre.length) gv [] → Reps Xg.F H' (cd pre.length) gv []) → GInvP Xg σw δw vs (inPh (kx Xg) Hb ob (L2.wipe σ8 vs1) δi fpO fp1 tnO tn1 (i + 1)) H1 ow L Sc (cd pre.length) (pinsAt L s₀.heap) H' s' := fun {s' H' δ' o'} I' st' E' w' hw hre => by
      have pin1 : ∀ b ∈ fp1, ∀ o, s7.heap.get? b = some o → s'.heap.get? b = some o ∧ H' b = none := fun b hb o e =>
        let z := I'.pin (b, o) (List.mem_append_right _ (List.mem_append_right _ (mem_pinsAt hb e)))
        ⟨z.1, z.2.1⟩
      have pinO : ∀ b ∈ fpO, ∀ o, s.heap.get? b = some o → s'.heap.get? b = some o ∧ H' b = none := fun b hb o e =>
        let z := I'.pin (b, o) (List.mem_append_right _ (List.mem_append_left _ (List.mem_append_right _ (mem_pinsAt hb e))))
        ⟨z.1, z.2.1⟩
      obtain ⟨o6, E6, c6⟩ := E'.wipe vs1
      rw [hw8, hw] at E6
      refine ⟨⟨G.ok.wσ, G.ok.wδ, G.ok.len, fun h h2 q kk => ⟨keepO _ _ q.1 fun b hb => kk b (List.mem_append_left _ hb), Tn.keep _ _ _ q.2 fun b hb => kk b (List.mem_append_right _ hb)⟩⟩, (I'.unpinned.unpinned).weak hl8.symm fun j v e => ?_, ⟨keepO _ _ G.trn.1 fun b hb o e => (pinO b hb o e).1, Tn.keep _ _ _ st7 fun b hb o e => (pin1 b hb o e).1⟩, ⟨st', o6, E6, w'.sub c6⟩, fun b hb => ?_, ⟨o6, E6, hb2.trans hb1 (w'.sub c6)⟩, hb1.trans hb2 st', fun b hb => ?_, G.apart, fun b hb => ?_⟩
      · have e : (L2.wipe σ8 vs1)[j]? = some (some v) := e
        rw [← hw8] at e
        exact (wipe_some e).1
      · rcases List.mem_append.mp hb with hb | hb
        · obtain ⟨o, e, _⟩ := objO _ G.trn.1 b hb
          exact (pinO b hb o e).2
        · obtain ⟨o, e, _⟩ := Tn.obj _ _ st7 b hb
          exact (pin1 b hb o e).2
      · obtain ⟨o, e⟩ := hL b hb
        exact ⟨o, (I'.pin (b, o) (List.mem_append_right _ (List.mem_append_left _ (List.mem_append_left _ (mem_pinsAt hb e))))).1⟩
      · obtain ⟨acc, c, gv, e, va, re, _⟩ := G.held b hb
        obtain ⟨o, eo⟩ := hL b (hLS b hb)
        have e2 := (G.inv.pin (b, o) (List.mem_append_right _ (mem_pinsAt (hLS b hb) eo))).1
        rw [e] at e2
        have e3 := (I'.pin (b, o) (List.mem_append_right _ (List.mem_append_left _ (List.mem_append_left _ (mem_pinsAt (hLS b hb) eo))))).1
        exact ⟨acc, c, gv, by rw [e3, Option.some.inj e2], va, hre gv re, (I'.pin (b, o) (List.mem_append_right _ (List.mem_append_left _ (List.mem_append_left _ (mem_pinsAt (hLS b hb) eo))))).2.1⟩
    cases b9 with
    | false =>
      by_cases hwd : wipeD δ4 vs1 = δi
      case neg => dsimp only at hg; rw [if_neg hwd] at hg; cases hg
      dsimp only at hg
      rw [if_pos hwd] at hg
      cases (Option.some.inj hg : none = go1)
      simp only [Bool.false_eq_true, if_false]
      exact seg_again rfl (ih (i + 1) s₀ _ H9 r pre (by omega) hlt hr hR hpre hL hLS (fin I9 s4 E4 w4' hwd keep9))
    | true =>
      dsimp only at hg
      cases he : me δ4 with
      | none => rw [he] at hg; simp at hg
      | some p5 =>
      obtain ⟨re, δ5⟩ := p5
      rw [he] at hg
      cases re with
      | «at» _ _ => simp at hg
      | own d =>
      dsimp only at hg
      by_cases hwd : wipeD δ5 vs1 = δi ∧ d.imm = true
      case neg => rw [if_neg hwd] at hg; cases hg
      rw [if_pos hwd] at hg
      cases (Option.some.inj hg : some d = go1)
      dsimp only at hr
      have no4 : Nd o4 := w4'.nd hNb
      have elr : T (kx Xg) qe me σ9 H9 (fun y H5 => Step H9 H5 o4 ∧ Rep Xg.F H5 d y [] ∧ ∃ o5, Envs (kx Xg) H5 σ9 δ5 o5 ∧ Own H9 o4 o5) := ⟨δ4, o4, .own d, δ5, E4, no4, he, fun y H5 o5 oy P5 => by
        have hoy : oy = [] := Rep.imm P5.held hwd.2
        subst hoy
        exact ⟨P5.step.mono Wq_sub, P5.held, o5, P5.env, own_right P5.own⟩⟩
      have per := pe.run _ s9 σ9 H9 _ I9 elr
      rw [hA, hE, hxe] at per
      simp only [if_true]
      have hy : ∀ v, yieldOut cenv v = yieldValue v := fun v => by simp only [yieldOut, hco, Bool.false_eq_true, if_false]
      simp only [hy]
      rw [Sem.bind_eq_wrap', Sem.bind_eq_wrap', Sem.wrap_wrap, Sem.wrap_wrap]
      refine seg_wrap ?_
      rw [over_gen1 hh rfl]
      refine thnF per fun y s10 ⟨yv, H10, I10, r10, s10', rep, o5, E5, w5⟩ => ?_
      have s5 : Step Hb H10 ob := s4.trans w4' s10'
      have w5' : Own Hb ob o5 := w4'.trans s4 w5
      have G10 := fin I10 s5 E5 w5' hwd.1 fun gv r => (keep9 gv r).step s10' E4.ok fun a ha => nomatch ha
      have hr' : ∃ r', r = d :: r' ∧ (stop d = false → dG stop (gx vs1 b1 mt1 me δi) (xs1.drop (i + 1)) = some r') := by
        cases hst : stop d with
        | true =>
          rw [hst, if_pos rfl] at hr
          exact ⟨[], (Option.some.inj hr).symm, fun z => nomatch z⟩
        | false =>
          rw [hst, if_neg Bool.false_ne_true] at hr
          cases hq : dG stop (gx vs1 b1 mt1 me δi) (xs1.drop (i + 1)) with
          | none => rw [hq] at hr; simp at hr
          | some r' =>
            rw [hq] at hr
            exact ⟨r', (Option.some.inj hr).symm, fun _ => rfl⟩
      obtain ⟨r', rfl, hr2⟩ := hr'
      rw [List.cons_append, List.length_cons]
      have hj : R0.length - ((r' ++ rest).length + 1) = pre.length := by rw [hR, List.cons_append, List.length_append, List.length_cons]; omega
      refine seg_at (seg_yield rfl rfl rfl ⟨Nat.le_add_left 1 _, inPh (kx Xg) Hb ob (L2.wipe σ8 vs1) δi fpO fp1 tnO tn1 (i + 1), d, yv, H10, ?_, by rw [hj]; exact G10, r10, rep, fun hst s'' H'' G'' => ?_⟩)
      · rw [hj, hR, List.getElem?_append_right (Nat.le_refl _), Nat.sub_self]; rfl
      · rw [hj] at G''
        exact seg_again rfl (ih (i + 1) s'' s'' H'' r' (pre ++ [d]) (by omega) hlt (hr2 hst) (by rw [hR, List.append_assoc]; rfl) (fun z hz => (List.mem_append.mp hz).elim (hpre z) fun hz => by rw [List.mem_singleton.mp hz]; exact hst) G''.live hLS (by rw [List.length_append]; exact G''))
end
end Z


set_option Elab.async false
set_option linter.all false
set_option maxRecDepth 100000
/-! generator expressions with two clauses: the outer loop, begun -/
namespace Z
open PySem PySem.Spec PyProof.Rows L2
theorem seg_runOwn {M : Model} {A : Around} {R : GenEnd} {Y : Protocol} {n : Nat} {s₀ s : Shared} {c c' : Code} {env : Env} {K : Flow → Sem PySem.Fin} {K' : PySem.Fin → Sem PySem.Fin} {H' : Value → Sem PySem.Fin} {gd : Bool → Bool} {lv : List Value → List Value} (hgd : gd false = false)
    (h : ∀ (k0 : Result → Sem PySem.Fin) (p : Pos), k0 (.ok .next) = (K .next).wrap K' H' gd lv → Seg M A R Y n s₀ c' (M.den c') [.ret k0 none false (lv []) c p []] s) :
    Seg M A R Y n s₀ c ((runOwn c' env >>= K).wrap K' H' gd lv) [] s := by
  rw [← hgd] at h
  exact seg_call fun p => h _ p rfl
/-- the names let go: the outer loop's phase -/
theorem GInvP.wiped {Xg : Cx} {σw : L2.St} {δw : DE} {vs : List Nat} {P : Ph} {H1 : Hp} {ow L S : List Addr} {gd : List D} {pins : List (Addr × Obj)} {H : Hp} {s : Shared} (G : GInvP Xg σw δw vs P H1 ow L S gd pins H s) (hw : L2.wipe σw vs = σw) (hd : wipeD δw vs = δw) : GInvP Xg σw δw vs ⟨σw, δw, P.fp, P.tn, fun _ => True⟩ H1 ow L S gd pins H s := by
  have F := G.fin
  exact ⟨⟨hw, hd, rfl, G.ok.keep⟩, F.inv, G.trn, trivial, G.nof, F.env, F.step, G.live, G.apart, F.held⟩
theorem seg_start1 {prog : Program} {w : World} {Ac : Around} {R : GenEnd} {Y : Protocol} {n : Nat} {s₀ s : Shared} {elt t0 i0 t1 i1 : Expr} {ifs0 ifs1 : List Expr} {scope : Scope} {pos : Pos} {it1 : Addr} {cenv : Env} {fs : List Frame}
    (loop : Seg (model prog w) Ac R Y n s₀ (.compLoop (.GeneratorExp elt [⟨t0, i0, ifs0, 0⟩, ⟨t1, i1, ifs1, 0⟩] scope pos) 1 (.ref it1) .none cenv) ((model prog w).den (.compLoop (.GeneratorExp elt [⟨t0, i0, ifs0, 0⟩, ⟨t1, i1, ifs1, 0⟩] scope pos) 1 (.ref it1) .none cenv)) fs s)
    (self : ∀ (A : Around) (Q : Value → Shared → Prop) (E : Value → Shared → Prop), Q (.ref it1) s → wpAny (model prog w) A (pyIter (.ref it1)) Q E s) :
    Seg (model prog w) Ac R Y n s₀ (.compStart (.GeneratorExp elt [⟨t0, i0, ifs0, 0⟩, ⟨t1, i1, ifs1, 0⟩] scope pos) 1 (.ref it1) .none cenv) ((model prog w).den (.compStart (.GeneratorExp elt [⟨t0, i0, ifs0, 0⟩, ⟨t1, i1, ifs1, 0⟩] scope pos) 1 (.ref it1) .none cenv)) fs s := by
  show Seg _ Ac _ _ _ s₀ _ ((compStart (.GeneratorExp elt [⟨t0, i0, ifs0, 0⟩, ⟨t1, i1, ifs1, 0⟩] scope pos) 1 (.ref it1) .none cenv).onRaise (fun x => do noteFrame x cenv; standAt theWindowsPlace)) fs s
  unfold compStart
  rw [Sem.onRaise_eq_wrap]
  show Seg _ Ac _ _ _ s₀ _ ((ask >>= _).wrap _ _ _ _) fs s
  refine seg_bind_wrap (wpAny_askSetting ?_)
  split
  · exact seg_again rfl loop
  · first
      | exact seg_bind_wrap (wpAny_rule (seg_bind_wrap (wpAny_standAt (seg_bind_wrap (self _ _ _ (seg_again rfl loop))))))
      | (refine seg_bind_wrap (wpAny_rule ?_); show Seg _ Ac _ _ _ s₀ _ ((standAt i1.pos >>= _).wrap _ _ _ _) fs s; exact seg_bind_wrap (wpAny_standAt (seg_bind_wrap (self _ _ _ (seg_again rfl loop)))))
end Z


set_option Elab.async false
set_option linter.all false
set_option maxRecDepth 100000
/-! generator expressions with two clauses: the outer loop's turns -/
namespace Z
open PySem PySem.Spec PyProof.Rows L2
/-- what one item of the outer thing gives -/
def gx2 (vs vs1 : List Nat) (b : Bnd) (mt : DenT) (ms1 : DenS) (b1 : Bnd) (mt1 : DenT) (me : Den) (stop : D → Bool) (δw : DE) (x : D) : Option (List D) := match b x δw with
  | some δ3 => match mt δ3 with
    | some (false, δ4) => if wipeD δ4 vs = δw then some [] else none
    | some (true, δ4) => match ms1 δ4 with
      | some (src1, δ5) => if gOk src1.gs (wipeD δ5 vs1) = true ∧ wipeD (wipeD δ5 vs1) vs = δw then dG stop (gx vs1 b1 mt1 me (wipeD δ5 vs1)) src1.xs else none
      | none => none
    | none => none
  | none => none
/-- what is handed out, up to the first that ends the walk -/
def dG2 (stop : D → Bool) (f : D → Option (List D)) : List D → Option (List D)
  | [] => some []
  | x :: xs => match f x with
    | none => none
    | some r => if r.any stop then some r else match dG2 stop f xs with
      | some r' => some (r ++ r')
      | none => none
def outPh (σw : L2.St) (δw : DE) (fp : List Addr) (tn : Heap → Prop) : Ph := ⟨σw, δw, fp, tn, fun _ => True⟩
section
variable {Xg : Cx} {σ : L2.St} {δw : DE} {fp : List Addr} {tn : Nat → Heap → Prop} {H1 : Hp} {ow L Sc : List Addr} {vs vs1 : List Nat} {cd : Nat → List D} {stop : D → Bool} {R0 : List D} {Ac : Around} {cenv : Env} {elt t0 i0 t1 i1 : Expr} {ifs0 ifs1 : List Expr} {scope : Scope} {pos : Pos} {it : Addr} {J : It} {xs : List D} {b b1 : Bnd} {mt mt1 : DenT} {ms1 : DenS} {me : Den} {qt q1 qt1 qe : Bool}
theorem seg_out (hA : Xg.A = Ac.deeper cenv) (hh : Ac.handled = none) (hE : Xg.env = cenv) (hxe : Xg.xe = fun _ _ => False) (hx : Xg.ex = fp) (hpn : Xg.pn = []) (hcm : Xg.calm = true) (hco : cenv.scope.isCoroutine = false) (hv : ∀ i ∈ vs1, i ∈ vs)
    (Tn : Turn Xg.prog Xg.w Xg.K t0 J fp it tn) (pg : PG Xg t0 (TGm (kx Xg) (kpOut vs) b)) (pt : PTs Xg ifs0 (TT (kx Xg) qt mt)) (pi1 : PI Xg t1 i1 (TIm (kx Xg) q1 ms1)) (pg1 : PG Xg t1 (TGm (kx Xg) (kpOut vs1) b1)) (pt1 : PTs Xg ifs1 (TT (kx Xg) qt1 mt1)) (pe : PE Xg elt (T (kx Xg) qe me)) (hs1 : ∀ env x, foldedSetIterable i1 env x = pure x) (hNow : Nd ow)
    (hww : wipeD δw vs = δw)
    (S : ∀ i H, Step H1 H ow → (∃ o', Envs (kx Xg) H (L2.wipe σ vs) δw o' ∧ Own H1 ow o') → (∀ x, xs[i]? = some x → J.go i H ∧ ∀ v H'', J.yld i H v H'' → (∀ a u, H a = some u → H'' a = some u) ∧ Rep Xg.F H'' x v []) ∧ (xs.length ≤ i → J.stop i H)) :
    ∀ (k i : Nat) (s₀ s : Shared) (H : Hp) (r pre : List D), xs.length - i = k → i ≤ xs.length → dG2 stop (gx2 vs vs1 b mt ms1 b1 mt1 me stop δw) (xs.drop i) = some r → R0 = pre ++ r → (∀ d ∈ pre, stop d = false) → (∀ b ∈ L, ∃ o, s₀.heap.get? b = some o) → (∀ b ∈ Sc, b ∈ L) → GInvP Xg (L2.wipe σ vs) δw vs (outPh (L2.wipe σ vs) δw fp (tn i)) H1 ow L Sc (cd pre.length) (pinsAt L s₀.heap) H s →
      Seg (model Xg.prog Xg.w) Ac (fun n s₀ r s₁ => r = .ok .next ∧ GPr Xg (L2.wipe σ vs) δw H1 ow L Sc cd R0 n s₀ s₁) (GYdP Xg (L2.wipe σ vs) δw vs H1 ow L Sc cd stop R0) (r.length + 1) s₀
        (.compLoop (.GeneratorExp elt [⟨t0, i0, ifs0, 0⟩, ⟨t1, i1, ifs1, 0⟩] scope pos) 0 (.ref it) .none cenv) ((model Xg.prog Xg.w).den (.compLoop (.GeneratorExp elt [⟨t0, i0, ifs0, 0⟩, ⟨t1, i1, ifs1, 0⟩] scope pos) 0 (.ref it) .none cenv)) [] s := by
  have stat : ∀ (pins : List (Addr × Obj)) {σ' : L2.St} {H2 H' : Hp} {pins2 : List (Addr × Obj)} {s' : Shared}, Inv Xg pins2 σ' H2 s' → (∀ p ∈ pins, p.1 ∉ fp) → (∀ b ∈ fp, H' b = none) → ∀ b ∈ fp, FpOk Xg pins H' b := fun pins {σ' H2 H' pins2 s'} I' hp hn b hb => by
    have hb' : b ∈ Xg.ex := by rw [hx]; exact hb
    refine ⟨hn b hb, (I'.ok.exf b hb').1, I'.ok.exfs b hb', .inl hb', fun x c e => (I'.ok.exf b hb').2 x c e, fun p hp' => ?_⟩
    rw [hpn, List.nil_append] at hp'
    exact fun z => hp p hp' (z ▸ hb)
  intro k
  induction k with
  | zero =>
    intro i s₀ s H r pre hk hi hr hR hpre hL hLS G
    have hin : i = xs.length := by omega
    subst hin
    rw [List.drop_length] at hr
    cases (Option.some.inj hr : [] = r)
    show Seg _ Ac _ _ _ s₀ _ ((compTurn (.GeneratorExp elt [⟨t0, i0, ifs0, 0⟩, ⟨t1, i1, ifs1, 0⟩] scope pos) 0 (.ref it) .none cenv).onRaise (leaving cenv)) [] s
    rw [compTurnG_out, Sem.onRaise_eq_wrap]
    refine seg_bind_wrap (wpAny_standAt ?_)
    have td := Tn.done Xg rfl rfl rfl hcm xs.length (pinsAt L s₀.heap) s _ H (fun _ _ => False) G.inv (stat _ G.inv G.apart G.nof) G.trn ((S xs.length H G.step G.env).2 (Nat.le_refl _))
    rw [hA] at td
    refine seg_bind_wrap ?_
    rw [over_gen]
    refine thnF td fun r s6 ⟨hr, I6⟩ => ?_
    subst hr
    exact seg_end (.ok .next) ⟨rfl, rfl, H, I6, G.env, G.step, by
      rw [hR, List.append_nil]
      intro b hb
      obtain ⟨acc, c, gv, e, va, re, hn⟩ := G.held b hb
      exact ⟨acc, c, gv, (I6.pin (b, _) (List.mem_append_right _ (mem_pinsAt (hLS b hb) (by
        obtain ⟨o, eo⟩ := hL b (hLS b hb)
        have := (G.inv.pin (b, o) (List.mem_append_right _ (mem_pinsAt (hLS b hb) eo))).1
        rw [e] at this; rw [eo, this])))).1, va, re, hn⟩⟩
  | succ k ih =>
    intro i s₀ s H r pre hk hi hr hR hpre hL hLS G
    have hlt : i < xs.length := by omega
    have hxi : xs[i]? = some xs[i] := List.getElem?_eq_getElem hlt
    rw [List.drop_eq_getElem_cons hlt] at hr
    simp only [dG2] at hr
    obtain ⟨o2, E2, w2⟩ := G.env
    obtain ⟨go, yl⟩ := (S i H G.step ⟨o2, E2, w2⟩).1 _ hxi
    show Seg _ Ac _ _ _ s₀ _ ((compTurn (.GeneratorExp elt [⟨t0, i0, ifs0, 0⟩, ⟨t1, i1, ifs1, 0⟩] scope pos) 0 (.ref it) .none cenv).onRaise (leaving cenv)) [] s
    rw [compTurnG_out, Sem.onRaise_eq_wrap]
    refine seg_bind_wrap (wpAny_standAt ?_)
    have ti := Tn.item Xg rfl rfl rfl hcm i (pinsAt L s₀.heap) s _ H (fun _ _ => False) G.inv (stat _ G.inv G.apart G.nof) G.trn go
    rw [hA] at ti
    refine seg_bind_wrap ?_
    rw [over_gen]
    refine thnF ti fun r6 s6 ⟨u, hr6, h6⟩ => ?_
    subst hr6
    dsimp only
    refine seg_bind_wrap ?_
    rw [over_gen]
    refine thnF h6 fun _ s7 ⟨x, H7, I7, r7, y7, st7, n7⟩ => ?_
    obtain ⟨sm, rv⟩ := yl x H7 y7
    have I7' := I7.pinned (stat _ I7 G.apart n7) (Tn.obj _ _ st7)
    cases hg : gx2 vs vs1 b mt ms1 b1 mt1 me stop δw xs[i] with
    | none => rw [hg] at hr; simp at hr
    | some rx =>
    rw [hg] at hr
    simp only [gx2] at hg
    cases hb : b xs[i] δw with
    | none => rw [hb] at hg; simp at hg
    | some δ3 =>
    rw [hb] at hg; dsimp only at hg
    cases hm : mt δ3 with
    | none => rw [hm] at hg; simp at hg
    | some p4 =>
    obtain ⟨bt, δ4⟩ := p4
    rw [hm] at hg
    have s3 : Step H1 H7 ow := G.step.same sm
    -- the target, the tests
    have tgt : TGm (kx Xg) (kpOut vs) b x (L2.wipe σ vs) H7 (fun σ3 H3 => H3 = H7 ∧ L2.wipe σ3 vs = L2.wipe σ vs ∧ σ3.length = (L2.wipe σ vs).length ∧ ∃ o3, Envs (kx Xg) H7 σ3 δ3 o3 ∧ Own H1 ow o3) := by
      refine ⟨δw, o2, xs[i], [], δ3, E2.same sm, rv, hb, fun σ3 o3 E3 c3 k3 => ⟨rfl, ?_, k3.2, o3, E3, w2.sub fun a => ?_⟩⟩
      · rw [← wipe_wipe σ vs]
        exact wipe_same k3.2 fun j hj => k3.1 j (by simpa [kpOut] using hj)
      · have := c3 a; simp only [List.count_nil] at this; omega
    have pgr := pg.run _ s7 _ H7 x u _ I7' r7 tgt
    rw [hA, hE, hxe] at pgr
    refine seg_bind_wrap ?_
    rw [over_gen]
    refine thnF pgr fun _ s8 ⟨σ8, H8, I8, e8, hw8, hl8, o3, E3, w3⟩ => ?_
    subst e8
    have no3 : Nd o3 := w3.nd hNow
    have tst : TT (kx Xg) qt mt σ8 H8 (fun b9 H9 => b9 = bt ∧ Step H8 H9 o3 ∧ ∃ o4, Envs (kx Xg) H9 σ8 δ4 o4 ∧ Own H8 o3 o4) := ⟨δ3, o3, bt, δ4, E3, no3, hm, fun H9 o4 P4 => ⟨rfl, P4.step.mono Wq_sub, o4, P4.env, P4.own⟩⟩
    have ptr := pt.run _ s8 σ8 H8 _ I8 tst
    rw [hA, hE, hxe] at ptr
    refine seg_bind_wrap ?_
    rw [over_gen]
    refine thnF ptr fun b9 s9 ⟨H9, I9, hb9, s9', o4, E4, w4⟩ => ?_
    subst hb9
    have s4 : Step H1 H9 ow := s3.trans w3 s9'
    have w4' : Own H1 ow o4 := w3.trans s3 w4
    have keep9 : ∀ gv, Reps Xg.F H (cd pre.length) gv [] → Reps Xg.F H9 (cd pre.length) gv [] := fun gv r => (r.same sm).step s9' E3.ok fun a ha => nomatch ha
    cases b9 with
    | false =>
      by_cases hwd : wipeD δ4 vs = δw
      case neg => dsimp only at hg; rw [if_neg hwd] at hg; cases hg
      dsimp only at hg
      rw [if_pos hwd] at hg
      cases (Option.some.inj hg : [] = rx)
      have hr : dG2 stop (gx2 vs vs1 b mt ms1 b1 mt1 me stop δw) (xs.drop (i + 1)) = some r := by
        simp only [List.any_nil, Bool.false_eq_true, if_false] at hr
        cases hq : dG2 stop (gx2 vs vs1 b mt ms1 b1 mt1 me stop δw) (xs.drop (i + 1)) with
        | none => rw [hq] at hr; simp at hr
        | some r' => rw [hq] at hr; exact hr
      simp only [Bool.false_eq_true, if_false]
      refine seg_again rfl (ih (i + 1) s₀ _ H9 r pre (by omega) hlt hr hR hpre hL hLS ?_)
      have pin' : ∀ b ∈ fp, ∀ o, s7.heap.get? b = some o → s9.heap.get? b = some o ∧ H9 b = none := fun b hb o e =>
        let z := I9.pin (b, o) (List.mem_append_right _ (List.mem_append_right _ (mem_pinsAt hb e)))
        ⟨z.1, z.2.1⟩
      obtain ⟨o6, E6, c6⟩ := E4.wipe vs
      rw [hw8, hwd] at E6
      refine ⟨⟨wipe_wipe σ vs, hww, rfl, Tn.keep (i + 1)⟩, (I9.unpinned).weak hl8.symm fun j v e => ?_, Tn.keep _ _ _ st7 fun b hb o e => (pin' b hb o e).1, trivial, fun b hb => ?_, ⟨o6, E6, w4'.sub c6⟩, s4, fun b hb => ?_, G.apart, fun b hb => ?_⟩
      · have e : (L2.wipe σ vs)[j]? = some (some v) := e
        rw [← hw8] at e
        exact (wipe_some e).1
      · obtain ⟨o, e, _⟩ := Tn.obj _ _ st7 b hb
        exact (pin' b hb o e).2
      · obtain ⟨o, e⟩ := hL b hb
        exact ⟨o, (I9.pin (b, o) (List.mem_append_right _ (List.mem_append_left _ (mem_pinsAt hb e)))).1⟩
      · obtain ⟨acc, c, gv, e, va, re, _⟩ := G.held b hb
        obtain ⟨o, eo⟩ := hL b (hLS b hb)
        have e2 := (G.inv.pin (b, o) (List.mem_append_right _ (mem_pinsAt (hLS b hb) eo))).1
        rw [e] at e2
        have e3 := (I9.pin (b, o) (List.mem_append_right _ (List.mem_append_left _ (mem_pinsAt (hLS b hb) eo)))).1
        exact ⟨acc, c, gv, by rw [e3, Option.some.inj e2], va, keep9 gv re, (I9.pin (b, o) (List.mem_append_right _ (List.mem_append_left _ (mem_pinsAt (hLS b hb) eo)))).2.1⟩
    | true =>
      dsimp only at hg
      cases hms : ms1 δ4 with
      | none => rw [hms] at hg; simp at hg
      | some p5 =>
      obtain ⟨src1, δ5⟩ := p5
      rw [hms] at hg
      dsimp only at hg
      by_cases hgo : gOk src1.gs (wipeD δ5 vs1) = true ∧ wipeD (wipeD δ5 vs1) vs = δw
      case neg => rw [if_neg hgo] at hg; cases hg
      rw [if_pos hgo] at hg
      obtain ⟨hgo, hwd⟩ := hgo
      have no4 : Nd o4 := w4'.nd hNow
      simp only [if_true]
      have hrd : TIm (kx Xg) q1 ms1 σ8 H9 (fun J1 H10 => ∃ o5 ov, Step H9 H10 (Wq q1 o4) ∧ Envs (kx Xg) H10 σ8 δ5 o5 ∧ Own H9 o4 (ov ++ o5) ∧ (∀ a ∈ ov, ∃ u, H10 a = some u ∧ Ow u) ∧ SrcOk Xg.F σ8 src1 J1 H10 ov) := ⟨δ4, o4, src1, δ5, E4, no4, hms, fun J1 H10 o5 ov s5 E5 w5 hov S1 hl => ⟨o5, ov, s5, E5, w5, hov, S1⟩⟩
      have pir := pi1.run (pinsAt L s₀.heap ++ pinsAt fp s7.heap) s9 σ8 H9 _ I9 hrd
      rw [hA, hE, hxe] at pir
      refine seg_bind_wrap ?_
      rw [over_gen]
      refine thnF pir fun xv s10 h10 => ?_
      refine seg_bind_wrap (wpAny_standAt ?_)
      refine seg_bind_wrap (wpAny_of_eq (hs1 _ xv) ?_)
      refine seg_bind_wrap (wpAny_holding ?_)
      rw [over_gen]
      refine thnF h10 fun itv s11 h11 => ?_
      obtain ⟨it1, fp1, tn1, J1, H10, rfl, I11, Tn1, st1, f1, o5, ov, s5', E5, w5, hov, S1⟩ := h11
      obtain ⟨o6, E6, c6⟩ := E5.wipe vs1
      have hb1 : Step H1 H10 ow := s4.trans w4' (s5'.mono Wq_sub)
      have w5' : Own H1 ow o5 := w4'.trans s4 (own_right w5)
      have hb2 : Own H1 ow o6 := w5'.sub c6
      have pinO : ∀ b ∈ fp, ∀ o, s7.heap.get? b = some o → s11.heap.get? b = some o ∧ H10 b = none := fun b hb o e =>
        let z := I11.pin (b, o) (List.mem_append_right _ (List.mem_append_right _ (mem_pinsAt hb e)))
        ⟨z.1, z.2.1⟩
      have hdis : ∀ b ∈ fp, b ∉ fp1 := fun b hb hm => by
        obtain ⟨o, e, _⟩ := Tn.obj _ _ st7 b hb
        exact (f1 b hm).2.2.2.2.2 (b, o) (List.mem_append_right _ (List.mem_append_right _ (mem_pinsAt hb e))) rfl
      have Srun : ∀ j H, Step H10 H o6 → (∃ o', Envs (kx Xg) H (L2.wipe σ8 vs1) (wipeD δ5 vs1) o' ∧ Own H10 o6 o') → (∀ x, src1.xs[j]? = some x → J1.go j H ∧ ∀ v H'', J1.yld j H v H'' → (∀ a u, H a = some u → H'' a = some u) ∧ Rep Xg.F H'' x v []) ∧ (src1.xs.length ≤ j → J1.stop j H) := fun j H st ⟨o', E', w'⟩ => by
        refine S1 j H (fun a ha => ?_) (fun a u e hu => ?_) fun p hp => ?_
        · obtain ⟨us, e, how⟩ := hov a ha
          rw [e]
          refine st.keep a _ e (fun hz => nd_split (w5.nd no4) a ha ?_) how.2
          have h5 : 0 < o6.count a := List.count_pos_iff.mpr hz
          have h6 := c6 a
          exact List.count_pos_iff.mp (show 0 < o5.count a by omega)
        · refine st.keep a u e (fun hz => ?_) hu.nt
          obtain ⟨u2, e2, n2⟩ := E6.ok a hz
          rw [e] at e2; cases e2; exact n2 hu
        · obtain ⟨v, o, hvv, r⟩ := gOk_rep E' hgo p hp
          exact ⟨v, o, (wipe_some hvv).1, r⟩
      refine seg_runOwn rfl fun k0 p hk0 => ?_
      refine seg_start1 ?_ fun A Q E hQ => Tn1.self A 0 _ Q E st1 hQ
      -- the inner loop, what is behind it
      have inner : ∀ rest : List D, R0 = pre ++ (rx ++ rest) → (∀ (s₀ s : Shared) (H : Hp) (pre : List D), R0 = pre ++ rest → (∀ d ∈ pre, stop d = false) → (∀ b ∈ L, ∃ o, s₀.heap.get? b = some o) → GInvP Xg (L2.wipe σ vs) δw vs ⟨L2.wipe σ8 vs1, wipeD δ5 vs1, fp, tn (i + 1), fun _ => True⟩ H1 ow L Sc (cd pre.length) (pinsAt L s₀.heap) H s →
          Seg (model Xg.prog Xg.w) Ac (fun n s₀ r s₁ => r = .ok .next ∧ GPr Xg (L2.wipe σ vs) δw H1 ow L Sc cd R0 n s₀ s₁) (GYdP Xg (L2.wipe σ vs) δw vs H1 ow L Sc cd stop R0) (rest.length + 1) s₀
            (.compLoop (.GeneratorExp elt [⟨t0, i0, ifs0, 0⟩, ⟨t1, i1, ifs1, 0⟩] scope pos) 0 (.ref it) .none cenv) (k0 (.ok .next)) [] s) →
          Seg (model Xg.prog Xg.w) Ac (fun n s₀ r s₁ => r = .ok .next ∧ GPr Xg (L2.wipe σ vs) δw H1 ow L Sc cd R0 n s₀ s₁) (GYdP Xg (L2.wipe σ vs) δw vs H1 ow L Sc cd stop R0) ((rx ++ rest).length + 1) s₀
            (.compLoop (.GeneratorExp elt [⟨t0, i0, ifs0, 0⟩, ⟨t1, i1, ifs1, 0⟩] scope pos) 1 (.ref it1) .none cenv) ((model Xg.prog Xg.w).den (.compLoop (.GeneratorExp elt [⟨t0, i0, ifs0, 0⟩, ⟨t1, i1, ifs1, 0⟩] scope pos) 1 (.ref it1) .none cenv))
            [.ret k0 none false (id []) (.compLoop (.GeneratorExp elt [⟨t0, i0, ifs0, 0⟩, ⟨t1, i1, ifs1, 0⟩] scope pos) 0 (.ref it) .none cenv) p []] s11 := fun rest hRr hend => by
        refine seg_in (Xg := Xg) (σ8 := σ8) (δi := wipeD δ5 vs1) (fpO := fp) (fp1 := fp1) (tnO := tn (i + 1)) (tn1 := tn1) (Hb := H10) (ob := o6) (J1 := J1) (xs1 := src1.xs) hA hh hE hxe hpn hcm hco Tn1 pg1 pt1 pe hb1 hb2 (hb2.nd hNow) (Tn.keep (i + 1)) (Tn.obj (i + 1)) (fun pins H' hp hn => stat pins I11 hp hn) (fun pins H' hp hn b hb => ⟨hn b hb, (f1 b hb).2.1, (f1 b hb).2.2.1, (f1 b hb).2.2.2.1, (f1 b hb).2.2.2.2.1, fun p hp' => ?_⟩) hdis Srun (rest := rest) hend src1.xs.length 0 s₀ s11 H10 rx pre (Nat.sub_zero _) (Nat.zero_le _) (by rw [List.drop_zero]; exact hg) hRr hpre hL hLS ?_
        · rw [hpn, List.nil_append] at hp'
          exact fun z => hp p hp' (z ▸ hb)
        · refine ⟨⟨(wipe_sub hv).trans hw8, hwd, (wipe_length _ _).trans hl8, fun h h2 q kk => ⟨Tn.keep _ _ _ q.1 fun b hb => kk b (List.mem_append_left _ hb), Tn1.keep _ _ _ q.2 fun b hb => kk b (List.mem_append_right _ hb)⟩⟩, (I11.unpinned).weak (wipe_length _ _) fun j v e => (wipe_some e).1, ⟨Tn.keep _ _ _ st7 fun b hb o e => (pinO b hb o e).1, st1⟩, ⟨Step.refl _ _, o6, E6, Own.refl _ _⟩, fun b hb => ?_, ⟨o6, E6, hb2⟩, hb1, fun b hb => ?_, fun p hp hm => ?_, fun b hb => ?_⟩
          · rcases List.mem_append.mp hb with hb | hb
            · obtain ⟨o, e, _⟩ := Tn.obj _ _ st7 b hb
              exact (pinO b hb o e).2
            · exact (f1 b hb).1
          · obtain ⟨o, e⟩ := hL b hb
            exact ⟨o, (I11.pin (b, o) (List.mem_append_right _ (List.mem_append_left _ (mem_pinsAt hb e)))).1⟩
          · rcases List.mem_append.mp hm with hm | hm
            · exact G.apart p hp hm
            · exact (f1 p.1 hm).2.2.2.2.2 p (List.mem_append_right _ (List.mem_append_left _ hp)) rfl
          · obtain ⟨acc, c, gv, e, va, re, _⟩ := G.held b hb
            obtain ⟨o, eo⟩ := hL b (hLS b hb)
            have e2 := (G.inv.pin (b, o) (List.mem_append_right _ (mem_pinsAt (hLS b hb) eo))).1
            rw [e] at e2
            have e3 := (I11.pin (b, o) (List.mem_append_right _ (List.mem_append_left _ (mem_pinsAt (hLS b hb) eo))))
            exact ⟨acc, c, gv, by rw [e3.1, Option.some.inj e2], va, (keep9 gv re).step (s5'.mono Wq_sub) E4.ok (fun a ha => nomatch ha), e3.2.1⟩
      cases hst : rx.any stop with
      | true =>
        simp only [hst, if_true] at hr
        cases (Option.some.inj hr : rx = r)
        have := inner [] (by rw [List.append_nil]; exact hR) fun s₀' s' H' pre' hR' hpre' _ _ => by
          obtain ⟨d, hd, hs⟩ := List.any_eq_true.mp hst
          have hm : d ∈ pre' := by
            have : d ∈ R0 := by rw [hR]; exact List.mem_append_right _ hd
            rw [hR', List.append_nil] at this; exact this
          rw [hpre' d hm] at hs; cases hs
        rw [List.append_nil] at this
        exact this
      | false =>
        simp only [hst, Bool.false_eq_true, if_false] at hr
        cases hq : dG2 stop (gx2 vs vs1 b mt ms1 b1 mt1 me stop δw) (xs.drop (i + 1)) with
        | none => rw [hq] at hr; simp at hr
        | some r' =>
          rw [hq] at hr
          cases (Option.some.inj hr : rx ++ r' = r)
          refine inner r' hR fun s₀' s' H' pre' hR' hpre' hL' G' => ?_
          rw [hk0]
          exact seg_again rfl (ih (i + 1) s₀' s' H' r' pre' (by omega) hlt hq hR' hpre' hL' hLS (G'.wiped (wipe_wipe σ vs) hww))
end
end Z


set_option Elab.async false
set_option linter.all false
set_option maxRecDepth 100000
/-! generator expressions with two clauses: begun, made -/
namespace Z
open PySem PySem.Spec PyProof.Rows L2
theorem wipe_get_D {δ : DE} {i : Nat} : ∀ {vs : List Nat}, i ∉ vs → (wipeD δ vs)[i]? = δ[i]?
  | [], _ => rfl
  | v :: vs, h => by
    simp only [List.mem_cons, not_or] at h
    rw [wipeD, List.getElem?_set_ne (fun z => h.1 z.symm), wipe_get_D h.2]
theorem wipe_in_D {δ : DE} {i : Nat} : ∀ {vs : List Nat}, i ∈ vs → i < δ.length → (wipeD δ vs)[i]? = some none
  | v :: vs, h, hl => by
    rw [wipeD]
    by_cases e : v = i
    · subst e
      rw [List.getElem?_set_self (by rw [wipeD_len]; exact hl)]
    · rw [List.getElem?_set_ne e]
      rcases List.mem_cons.mp h with h | h
      · exact absurd h.symm e
      · exact wipe_in_D h hl
theorem wipe_idem2 (δ : DE) (vs : List Nat) : wipeD (wipeD δ vs) vs = wipeD δ vs := by
  apply List.ext_getElem?
  intro i
  by_cases h : i ∈ vs
  · by_cases hl : i < δ.length
    · rw [wipe_in_D h (by rw [wipeD_len]; exact hl), wipe_in_D h hl]
    · rw [List.getElem?_eq_none (by rw [wipeD_len, wipeD_len]; omega), List.getElem?_eq_none (by rw [wipeD_len]; omega)]
  · rw [wipe_get_D h]
theorem eval_GeneratorExp2 (elt target iter t1 i1 : Expr) (ifs ifs1 : List Expr) (scope : Scope) (pos : Pos) (env : Env) (hco : scope.isCoroutine = false) :
    eval (.GeneratorExp elt [⟨target, iter, ifs, 0⟩, ⟨t1, i1, ifs1, 0⟩] scope pos) env = (do
      let x ← eval iter env
      standAt iter.pos
      let x ← genFold iter env x
      let it ← holding [x] (pyIter x)
      enterFrame
      let cl ← closureFor scope env
      let code ← genexprCode env pos (env.qual ++ "<genexpr>") scope
      let bi ← builtinsFor env.globals env.builtins
      let cenv ← newFunctionEnv scope env.globals cl [(".0", it)] (env.qual ++ "<genexpr>.") none code none bi
      newGenerator (.compStart (.GeneratorExp elt [⟨target, iter, ifs, 0⟩, ⟨t1, i1, ifs1, 0⟩] scope pos) 0 it .none cenv) "<genexpr>" (env.qual ++ "<genexpr>")) := by
  rw [arm_eval_GeneratorExp]
  simp only [hco, Bool.false_eq_true, if_false]
  cases iter <;> rfl
section
variable {Xg : Cx} {σ : L2.St} {δw : DE} {fp : List Addr} {tn : Nat → Heap → Prop} {H1 : Hp} {ow L Sc : List Addr} {vs vs1 : List Nat} {cd : Nat → List D} {stop : D → Bool} {R0 : List D} {Ac : Around} {cenv : Env} {elt t0 i0 t1 i1 : Expr} {ifs0 ifs1 : List Expr} {scope : Scope} {pos : Pos} {it : Addr} {J : It} {xs : List D} {b b1 : Bnd} {mt mt1 : DenT} {ms1 : DenS} {me : Den} {qt q1 qt1 qe : Bool}
theorem seg_out0 (hA : Xg.A = Ac.deeper cenv) (hh : Ac.handled = none) (hE : Xg.env = cenv) (hxe : Xg.xe = fun _ _ => False) (hx : Xg.ex = fp) (hpn : Xg.pn = []) (hcm : Xg.calm = true) (hco : cenv.scope.isCoroutine = false) (hv : ∀ i ∈ vs1, i ∈ vs)
    (Tn : Turn Xg.prog Xg.w Xg.K t0 J fp it tn) (pg : PG Xg t0 (TGm (kx Xg) (kpOut vs) b)) (pt : PTs Xg ifs0 (TT (kx Xg) qt mt)) (pi1 : PI Xg t1 i1 (TIm (kx Xg) q1 ms1)) (pg1 : PG Xg t1 (TGm (kx Xg) (kpOut vs1) b1)) (pt1 : PTs Xg ifs1 (TT (kx Xg) qt1 mt1)) (pe : PE Xg elt (T (kx Xg) qe me)) (hs1 : ∀ env x, foldedSetIterable i1 env x = pure x) (hNow : Nd ow)
    (hww : wipeD δw vs = δw)
    (S : ∀ i H, Step H1 H ow → (∃ o', Envs (kx Xg) H (L2.wipe σ vs) δw o' ∧ Own H1 ow o') → (∀ x, xs[i]? = some x → J.go i H ∧ ∀ v H'', J.yld i H v H'' → (∀ a u, H a = some u → H'' a = some u) ∧ Rep Xg.F H'' x v []) ∧ (xs.length ≤ i → J.stop i H))
    (s : Shared) (H : Hp) (hr : dG2 stop (gx2 vs vs1 b mt ms1 b1 mt1 me stop δw) xs = some R0) (hLS : ∀ b ∈ Sc, b ∈ L) (G : GInvP Xg (L2.wipe σ vs) δw vs (outPh (L2.wipe σ vs) δw fp (tn 0)) H1 ow L Sc (cd 0) (pinsAt L s.heap) H s) :
    Seg (model Xg.prog Xg.w) Ac (fun n s₀ r s₁ => r = .ok .next ∧ GPr Xg (L2.wipe σ vs) δw H1 ow L Sc cd R0 n s₀ s₁) (GYdP Xg (L2.wipe σ vs) δw vs H1 ow L Sc cd stop R0) (R0.length + 1) s
        (.compStart (.GeneratorExp elt [⟨t0, i0, ifs0, 0⟩, ⟨t1, i1, ifs1, 0⟩] scope pos) 0 (.ref it) .none cenv) ((model Xg.prog Xg.w).den (.compStart (.GeneratorExp elt [⟨t0, i0, ifs0, 0⟩, ⟨t1, i1, ifs1, 0⟩] scope pos) 0 (.ref it) .none cenv)) [] s := by
  have loop := seg_out (i0 := i0) (scope := scope) (pos := pos) (R0 := R0) hA hh hE hxe hx hpn hcm hco hv Tn pg pt pi1 pg1 pt1 pe hs1 hNow hww S xs.length 0 s s H R0 [] (Nat.sub_zero _) (Nat.zero_le _) (by rw [List.drop_zero]; exact hr) rfl (fun d hd => nomatch hd) G.live hLS G
  show Seg _ Ac _ _ _ s _ ((compStart (.GeneratorExp elt [⟨t0, i0, ifs0, 0⟩, ⟨t1, i1, ifs1, 0⟩] scope pos) 0 (.ref it) .none cenv).onRaise (leaving cenv)) [] s
  unfold compStart
  rw [Sem.onRaise_eq_wrap]
  show Seg _ Ac _ _ _ s _ ((ask >>= _).wrap _ _ _ _) [] s
  refine seg_bind_wrap (wpAny_askSetting ?_)
  split
  · exact seg_again rfl loop
  · first
      | exact seg_bind_wrap (wpAny_rule (seg_bind_wrap (wpAny_standAt (seg_bind_wrap (Tn.self _ 0 s _ _ G.trn (seg_again rfl loop))))))
      | (refine seg_bind_wrap (wpAny_rule ?_); show Seg _ Ac _ _ _ s _ ((standAt i0.pos >>= _).wrap _ _ _ _) [] s; exact seg_bind_wrap (wpAny_standAt (seg_bind_wrap (Tn.self _ 0 s _ _ G.trn (seg_again rfl loop)))))
end
section
variable {X : Cx} {pins : List (Addr × Obj)} {σ : L2.St} {H : Hp} {s : Shared} {elt tg iter t1 i1 : Expr} {ifs ifs1 : List Expr} {scope : Scope} {own : List (Str × Nat)} {pos : Pos} {ms ms1 : DenS} {b b1 : Bnd} {mt mt1 : DenT} {me : Den} {q qt q1 qt1 qe : Bool} {vs1 : List Nat} {k : Nat} {stop : D → Bool}
theorem gen_make2 {δ : DE} {o : List Addr} {src : Src} {δ1 : DE} {R0 : List D} {Q : Value → Shared → Prop} {cc : Addr} (hr : Room (k + 1) X.A) (hcode : X.env.code = .ref cc) (hc : X.calm = true) (hN : X.N.Nodup) (hBM : BMod X.base X.mg) (gs : GSc scope)
    (hi : PI X tg iter (TIm (kx X) q ms)) (ok : BlkOk X.N X.env.scope scope own)
    (hg : ∀ (Ag : Around) (s : Shared) (H : Hp) (C c' : Addr) (cl : List (Str × Addr)) (fp : List Addr), Room k Ag → PG (X.gen Ag s H scope (genEnv scope cl C (.ref c') builtinsNs X.env) fp) tg (TGm ⟨X.F, .ref c'⟩ (kpOut (own.map (·.2))) b))
    (ht : ∀ (Ag : Around) (s : Shared) (H : Hp) (C c' : Addr) (cl : List (Str × Addr)) (fp : List Addr), Room k Ag → PTs (X.gen Ag s H scope (genEnv scope cl C (.ref c') builtinsNs X.env) fp) ifs (TT ⟨X.F, .ref c'⟩ qt mt))
    (hv : ∀ i ∈ vs1, i ∈ own.map (·.2))
    (hi1 : ∀ (Ag : Around) (s : Shared) (H : Hp) (C c' : Addr) (cl : List (Str × Addr)) (fp : List Addr), Room k Ag → PI (X.gen Ag s H scope (genEnv scope cl C (.ref c') builtinsNs X.env) fp) t1 i1 (TIm ⟨X.F, .ref c'⟩ q1 ms1))
    (hg1 : ∀ (Ag : Around) (s : Shared) (H : Hp) (C c' : Addr) (cl : List (Str × Addr)) (fp : List Addr), Room k Ag → PG (X.gen Ag s H scope (genEnv scope cl C (.ref c') builtinsNs X.env) fp) t1 (TGm ⟨X.F, .ref c'⟩ (kpOut vs1) b1))
    (ht1 : ∀ (Ag : Around) (s : Shared) (H : Hp) (C c' : Addr) (cl : List (Str × Addr)) (fp : List Addr), Room k Ag → PTs (X.gen Ag s H scope (genEnv scope cl C (.ref c') builtinsNs X.env) fp) ifs1 (TT ⟨X.F, .ref c'⟩ qt1 mt1))
    (he : ∀ (Ag : Around) (s : Shared) (H : Hp) (C c' : Addr) (cl : List (Str × Addr)) (fp : List Addr), Room k Ag → PE (X.gen Ag s H scope (genEnv scope cl C (.ref c') builtinsNs X.env) fp) elt (T ⟨X.F, .ref c'⟩ qe me))
    (hs : ∀ v, genFold iter X.env v = pure v) (hs1 : ∀ env x, foldedSetIterable i1 env x = pure x) (I : Inv X pins σ H s) (E : Envs (kx X) H σ δ o) (n : Nd o) (hm : ms δ = some (src, δ1)) (hgo : gOk src.gs δ1 = true) (hd : dG2 stop (gx2 (own.map (·.2)) vs1 b mt ms1 b1 mt1 me stop (wipeD δ1 (own.map (·.2)))) src.xs = some R0)
    (hQ : ∀ a s5 Hx o1, Step H Hx (Wq q o) → Envs (kx X) Hx σ δ1 o1 → Own H o o1 → GMk X pins σ δ1 o1 Hx k a stop R0 s5 → Q (.ref a) s5) :
    wpAny (model X.prog X.w) X.A (eval (.GeneratorExp elt [⟨tg, iter, ifs, 0⟩, ⟨t1, i1, ifs1, 0⟩] scope pos) X.env) Q X.xe s := by
  have hfree : ∀ y ∈ scope.names, y.2 = .free → ∃ c, X.env.cells.lookup y.1 = some c := fun y hy e => by
    rcases ok.free y hy e with k | k
    · exact I.ok.has _ (.inl k)
    · exact I.ok.has _ (.inr k)
  rw [eval_GeneratorExp2 _ _ _ _ _ _ _ _ _ _ gs.co, closure_ok hfree]
  have hrd : TIm (kx X) q ms σ H (fun J H1 => ∃ o1 ov, Step H H1 (Wq q o) ∧ Envs (kx X) H1 σ δ1 o1 ∧ Own H o (ov ++ o1) ∧ (∀ a ∈ ov, ∃ u, H1 a = some u ∧ Ow u) ∧ SrcOk X.F σ src J H1 ov ∧ src.xs.length ≤ sizeLine) :=
    ⟨δ, o, src, δ1, E, n, hm, fun J H1 o1 ov s1 E1 w1 hov S hl => ⟨o1, ov, s1, E1, w1, hov, S, hl⟩⟩
  refine wpAny_bind (thn (hi.run pins s σ H _ I hrd) fun xv s1 h1 => ?_)
  refine wpAny_bind (wpAny_standAt ?_)
  refine wpAny_bind (wpAny_of_eq (hs xv) ?_)
  refine wpAny_bind (wpAny_holding (thn h1 fun itv s2 h2 => ?_))
  obtain ⟨it, fp, tn, J, H2, rfl, I2, Tn, st2, f2, o1, ov, s12, E2, w2, hov, S, hlen⟩ := h2
  refine wpAny_bind (wpAny_enterFrame I2.nolimit (by have := hr.dp; omega) ?_)
  refine wpAny_bind (wpAny_pure ?_)
  refine wpAny_bind (gen_code hcode I2 E2 fun c' P' H3 s3 I3 st3 fr3 nf3 hc' gP' hsz3 hk3 => ?_)
  obtain ⟨bm, ob, q1_, q2_, b3, b4, b5, b6⟩ := hBM
  refine wpAny_bind (wpAny_builtinsFor (m := X.mg) (by rw [I3.ok.glob]; exact I3.mod.glob.keeps I3.bk) q1_ q2_ (I3.bk _ _ b3) b4 b5 b6 ?_)
  refine wpAny_bind (newEnv_gen ok.kind gs.dot fun h' tk hn hs' => ?_)
  simp only [newGenerator, newFields]
  refine wpAny_bind (wpAny_newGen (wpAny_bind (wpAny_mkText (wpAny_bind (wpAny_mkText (wpAny_newObj_type ?_ (by size_fits)))))))
  suffices main : ∀ (gobj : Obj) (nm qn : Value) (tk3 : Nat), gobj.cls = .type "generator" → gobj.data = .fields #[.int s3.gens.size 0, nm, qn] → gobj.slots = #[] → (∀ h : Heap, (h.push gobj).get? h.objs.size = some gobj) →
      Q (.ref h'.objs.size) { s3 with heap := h'.push gobj, gens := s3.gens.push (.fresh (.compStart (.GeneratorExp elt [⟨tg, iter, ifs, 0⟩, ⟨t1, i1, ifs1, 0⟩] scope pos) 0 (.ref it) .none (genEnv scope (cellsFrom (s3.heap.objs.size + 1) scope.names (cloFrom X.env.cells scope.names [])) s3.heap.objs.size (.ref c') builtinsNs X.env))), toks := tk3 } from
    main _ _ _ _ rfl rfl rfl fun h => Heap.get?_push_size _ rfl
  intro gobj nm qn tk3 gcl gd gsl gpush
  have no1 : Nd o1 := (own_right w2).nd n
  have E3 : Envs (kx X) H3 σ δ1 o1 := E2.fr fr3
  obtain ⟨ow, od, Ew, cw, hod, kr⟩ := Envs.rest (own.map (·.2)) E3 no1
  have nw : Nd ow := fun a => by have := cw a; have := no1 a; omega
  have sz4 : h'.objs.size = (pushCells (s3.heap.push { cls := .type "frame", data := .dict #[] }) scope.names).objs.size := hs'.1
  have sz4' : s3.heap.objs.size + 1 ≤ h'.objs.size := by
    rw [sz4]
    have := pushCells_size scope.names (s3.heap.push { cls := .type "frame", data := .dict #[] })
    rw [Heap.size_push] at this; exact this
  have k34 : ∀ b o, s3.heap.get? b = some o → h'.get? b = some o := fun b o e => hs'.extBut b o (Nat.ne_of_lt (Heap.lt_size e)) (pushCells_keeps _ _ _ _ (Heap.get?_push_of_some _ e))
  have fp3 : ∀ b ∈ fp, FpOk X pins H3 b ∧ b < s3.heap.objs.size := fun b hb => by
    obtain ⟨ob, e, _⟩ := Tn.obj _ _ st2 b hb
    have hlt := Heap.lt_size e
    exact ⟨⟨nf3 b (f2 b hb).1 hlt, (f2 b hb).2⟩, Nat.lt_of_lt_of_le hlt hsz3⟩
  have st3' : tn 0 s3.heap := Tn.keep _ _ _ st2 fun b hb o e => hk3 b o (f2 b hb).1 e
  generalize hcenv : genEnv scope (cellsFrom (s3.heap.objs.size + 1) scope.names (cloFrom X.env.cells scope.names [])) s3.heap.objs.size (.ref c') builtinsNs X.env = cenv
  have hloc : cenv.locals = s3.heap.objs.size := by rw [← hcenv]; rfl
  have hcd : cenv.code = .ref c' := by rw [← hcenv]; rfl
  have hscp : cenv.scope = scope := by rw [← hcenv]; rfl
  have gobAt : (h'.push gobj).get? h'.objs.size = some gobj := gpush h'
  have hisG : ∀ h : Heap, h.get? h'.objs.size = some gobj → h.IsGen h'.objs.size s3.gens.size := fun h e => ⟨gobj, nm, qn, e, gcl, gd, gsl⟩
  -- the generator's frame, whatever is made behind
  have start : ∀ (A : Around) (s6 : Shared), A.handled = none → A.frames = some X.stack → (∀ b o, (h'.push gobj).get? b = some o → s6.heap.get? b = some o) → s6.os = s3.os → AllBare s6.gens → Inv (X.gen (A.in1.deeper cenv) s3 H3 scope cenv fp) [] (L2.wipe σ (own.map (·.2))) H3 s6 := fun A s6 hA hfr hk6 ho hb6 => by
    subst hcenv
    refine inv_same (gen_start (A := A.in1.deeper _) (h' := h') (h5 := s6.heap) (g5 := s6.gens) (t5 := s6.toks) I3 ok hN fp3 ?_ hA hn hs' (fun b o e => hk6 b o (Heap.get?_push_of_some _ e)) hb6) rfl rfl ho
    exact Around.frames_deeper (show A.in1.frames = some X.stack from hfr)
  have nostk : ∀ b, s3.heap.objs.size ≤ b → b ∉ frs X.stack := fun b hb hm => by
    rcases List.mem_cons.mp (I3.stkSub b hm) with z | z
    · have := I3.lt; rw [← z] at this; exact absurd (Nat.lt_of_lt_of_le this hb) (Nat.lt_irrefl _)
    · exact I3.nofs hb z
  have sz5 : (h'.push gobj).objs.size = h'.objs.size + 1 := Heap.size_push ..
  have IB5 : ∀ (s6 : Shared), (∀ b o, (h'.push gobj).get? b = some o → s6.heap.get? b = some o) → s6.os = s3.os → AllBare s6.gens → Inv X pins σ H3 s6 := fun s6 hk6 ho hb6 => I3.call' (ch := []) ho (Un.kept fun b o e => hk6 b o (Heap.get?_push_of_some _ (k34 b o e))) (I3.hok.kept fun b o e => hk6 b o (Heap.get?_push_of_some _ (k34 b o e))) hb6 fun b z => by simp at z
  have bare5 : AllBare (s3.gens.push (.fresh (.compStart (.GeneratorExp elt [⟨tg, iter, ifs, 0⟩, ⟨t1, i1, ifs1, 0⟩] scope pos) 0 (.ref it) .none cenv))) := I3.bare.push rfl
  have w3 : Own H o o1 := own_right w2
  have sH3 : Step H H3 (Wq q o) := ⟨fun a u e hn hu => st3.keep a u (s12.keep a u e hn hu) (by simp) hu, fun a e => s12.dom a (st3.dom a e), fun P g => st3.tab P (s12.tab P g)⟩
  refine hQ h'.objs.size _ H3 o1 sH3 E3 w3 ⟨Heap.IsGen.typeIs (s := { s3 with heap := h'.push gobj, gens := _, toks := tk3 }) (hisG _ gobAt), by show _ < (h'.push gobj).objs.size; rw [sz5]; exact Nat.lt_succ_self _, ⟨IB5 _ (fun _ _ e => e) rfl bare5, ⟨o1, E3, .refl _ _⟩, .refl _ _⟩, fun A Sx cd s6 hA hdp hrm hfr hS hC hKp => ?_⟩
  have hk6 : ∀ b o, (h'.push gobj).get? b = some o → s6.heap.get? b = some o := fun b o e => hC.keep b o (fun hm => by
    have h1 := hS b hm
    have h2 : b < (h'.push gobj).objs.size := Heap.lt_size e
    exact absurd (Nat.lt_of_lt_of_le h2 h1) (Nat.lt_irrefl _)) e
  have gn6 : s6.gens = s3.gens.push (.fresh (.compStart (.GeneratorExp elt [⟨tg, iter, ifs, 0⟩, ⟨t1, i1, ifs1, 0⟩] scope pos) 0 (.ref it) .none cenv)) := hC.gens
  have Ig := start A s6 hA hfr hk6 hC.os (by rw [gn6]; exact bare5)
  have hS5 : ∀ b ∈ Sx, h'.objs.size + 1 ≤ b := fun b hb => by rw [← sz5]; exact hS b hb
  have ndS : h'.objs.size ∉ Sx := fun hm => absurd (hS5 _ hm) (Nat.not_succ_le_self _)
  have cells : ∀ x c, cenv.cells.lookup x = some c → c < (h'.push gobj).objs.size := fun x c e => by
    have I5 := start A { s3 with heap := h'.push gobj, gens := s3.gens.push (.fresh (.compStart (.GeneratorExp elt [⟨tg, iter, ifs, 0⟩, ⟨t1, i1, ifs1, 0⟩] scope pos) 0 (.ref it) .none cenv)) } hA hfr (fun _ _ e => e) rfl bare5
    obtain ⟨v, z⟩ := I5.cell x c e
    exact z.lt
  have En' : Envs ⟨X.F, .ref c'⟩ H3 (L2.wipe σ (own.map (·.2))) (wipeD δ1 (own.map (·.2))) ow := Envs.cv (κ := kx X) Ew fun c e => by cases e; exact ⟨P', .inr hc', gP'⟩
  have En2 : Envs (kx (X.gen (A.in1.deeper cenv) s3 H3 scope cenv fp)) H3 (L2.wipe σ (own.map (·.2))) (wipeD δ1 (own.map (·.2))) ow := by
    show Envs ⟨X.F, cenv.code⟩ _ _ _ _
    rw [hcd]; exact En'
  have hww : wipeD (wipeD δ1 (own.map (·.2))) (own.map (·.2)) = wipeD δ1 (own.map (·.2)) := wipe_idem2 _ _
  have G : GInvP (X.gen (A.in1.deeper cenv) s3 H3 scope cenv fp) (L2.wipe σ (own.map (·.2))) (wipeD δ1 (own.map (·.2))) (own.map (·.2)) (outPh (L2.wipe σ (own.map (·.2))) (wipeD δ1 (own.map (·.2))) fp (tn 0)) H3 ow (h'.objs.size :: Sx) Sx (cd 0) (pinsAt (h'.objs.size :: Sx) s6.heap) H3 s6 := by
    refine ⟨⟨wipe_wipe _ _, hww, rfl, Tn.keep 0⟩, Ig.pins_of fun p hp => ?_, Tn.keep _ _ _ st3' fun b hb o e => hk6 b o (Heap.get?_push_of_some _ (k34 b o e)), trivial, fun b hb => (fp3 b hb).1.1, ⟨ow, En2, .refl _ _⟩, .refl _ _, fun b hb => ?_, fun p hp hf => ?_, hKp⟩
    · obtain ⟨hb, e⟩ := of_pinsAt hp
      have hge : s3.heap.objs.size + 1 ≤ p.1 := by
        rcases List.mem_cons.mp hb with z | z
        · rw [z]; exact sz4'
        · exact Nat.le_trans (Nat.le_succ_of_le sz4') (hS5 _ z)
      refine ⟨e, I3.hok.fresh (Nat.le_of_succ_le hge), ?_, nostk _ (Nat.le_of_succ_le hge), fun v hv => ?_⟩
      · show p.1 ≠ cenv.locals
        rw [hloc]; exact Nat.ne_of_gt hge
      · rcases List.mem_cons.mp hb with z | z
        · rw [z, hk6 _ _ gobAt] at e
          rw [← Option.some.inj e, gd] at hv; cases hv
        · obtain ⟨o', e', hn'⟩ := hC.own _ z
          rw [e'] at e
          rw [← Option.some.inj e] at hv
          exact hn' v hv
    · rcases List.mem_cons.mp hb with rfl | hb
      · exact ⟨_, hk6 _ _ gobAt⟩
      · obtain ⟨o', e', _⟩ := hC.own b hb
        exact ⟨o', e'⟩
    · obtain ⟨hb, e⟩ := of_pinsAt hp
      have hlt := (fp3 _ hf).2
      rcases List.mem_cons.mp hb with z | z
      · rw [z] at hlt; exact absurd (Nat.lt_of_lt_of_le hlt (Nat.le_of_succ_le sz4')) (Nat.lt_irrefl _)
      · exact absurd (Nat.lt_of_lt_of_le hlt (Nat.le_trans (Nat.le_of_succ_le sz4') (Nat.le_of_succ_le (hS5 _ z)))) (Nat.lt_irrefl _)
  have Srun : ∀ i H, Step H3 H ow → (∃ o', Envs (kx (X.gen (A.in1.deeper cenv) s3 H3 scope cenv fp)) H (L2.wipe σ (own.map (·.2))) (wipeD δ1 (own.map (·.2))) o' ∧ Own H3 ow o') → (∀ x, src.xs[i]? = some x → J.go i H ∧ ∀ v H'', J.yld i H v H'' → (∀ a u, H a = some u → H'' a = some u) ∧ Rep X.F H'' x v []) ∧ (src.xs.length ≤ i → J.stop i H) := fun i H st ⟨o', E', w'⟩ => by
    have E4 : Envs (kx X) H (L2.wipe σ (own.map (·.2))) (wipeD δ1 (own.map (·.2))) o' := Envs.cv (cv := X.env.code) E' (E3.tabs.step st Ew.ok).2
    obtain ⟨o3, E5, _⟩ := kr st E4
    rw [rest_wipe] at E5
    refine S i H (fun a ha => ?_) (fun a u e hu => ?_) fun p hp => gOk_rep E5 hgo p hp
    · obtain ⟨us, e, how⟩ := hov a ha
      rw [e]
      refine st.keep a _ (st3.keep a _ e (by simp) how.2) (fun hz => nd_split (w2.nd n) a ha ?_) how.2
      have h5 : 0 < ow.count a := List.count_pos_iff.mpr hz
      have h6 := cw a
      exact List.count_pos_iff.mp (show 0 < o1.count a by omega)
    · refine st.keep a u (st3.keep a u e (by simp) hu.nt) (fun hz => ?_) hu.nt
      obtain ⟨us, e2, how⟩ := Ew.own a hz
      rw [st3.keep a u e (by simp) hu.nt] at e2; cases e2; exact how.1 hu
  have Ga : GatP (X.gen (A.in1.deeper cenv) s3 H3 scope cenv fp) (L2.wipe σ (own.map (·.2))) (wipeD δ1 (own.map (·.2))) (own.map (·.2)) (outPh (L2.wipe σ (own.map (·.2))) (wipeD δ1 (own.map (·.2))) fp (tn 0)) H3 ow (h'.objs.size :: Sx) Sx cd stop R0 A.in1 s3.gens.size R0 s6 := by
    refine ⟨by rw [gn6, Array.size_push]; exact Nat.lt_succ_self _, _, by rw [gn6]; exact Array.getElem?_push_size .., fun s'' H'' G'' => ?_⟩
    have seg := seg_out0 (Xg := X.gen (A.in1.deeper cenv) s3 H3 scope cenv fp) (Ac := A.in1) (cenv := cenv) (i0 := iter) (i1 := i1) (scope := scope) (pos := pos) (qt := qt) (q1 := q1) (qt1 := qt1) (qe := qe) (R0 := R0) rfl hA rfl rfl rfl rfl hc (by rw [hscp]; exact gs.co) hv Tn
      (by have := hg (A.in1.deeper cenv) s3 H3 s3.heap.objs.size c' (cellsFrom (s3.heap.objs.size + 1) scope.names (cloFrom X.env.cells scope.names [])) fp (hrm cenv)
          rw [hcenv] at this
          show PG _ tg (TGm ⟨X.F, cenv.code⟩ _ b)
          rw [hcd]; exact this)
      (by have := ht (A.in1.deeper cenv) s3 H3 s3.heap.objs.size c' (cellsFrom (s3.heap.objs.size + 1) scope.names (cloFrom X.env.cells scope.names [])) fp (hrm cenv)
          rw [hcenv] at this
          show PTs _ ifs (TT ⟨X.F, cenv.code⟩ qt mt)
          rw [hcd]; exact this)
      (by have := hi1 (A.in1.deeper cenv) s3 H3 s3.heap.objs.size c' (cellsFrom (s3.heap.objs.size + 1) scope.names (cloFrom X.env.cells scope.names [])) fp (hrm cenv)
          rw [hcenv] at this
          show PI _ t1 i1 (TIm ⟨X.F, cenv.code⟩ q1 ms1)
          rw [hcd]; exact this)
      (by have := hg1 (A.in1.deeper cenv) s3 H3 s3.heap.objs.size c' (cellsFrom (s3.heap.objs.size + 1) scope.names (cloFrom X.env.cells scope.names [])) fp (hrm cenv)
          rw [hcenv] at this
          show PG _ t1 (TGm ⟨X.F, cenv.code⟩ _ b1)
          rw [hcd]; exact this)
      (by have := ht1 (A.in1.deeper cenv) s3 H3 s3.heap.objs.size c' (cellsFrom (s3.heap.objs.size + 1) scope.names (cloFrom X.env.cells scope.names [])) fp (hrm cenv)
          rw [hcenv] at this
          show PTs _ ifs1 (TT ⟨X.F, cenv.code⟩ qt1 mt1)
          rw [hcd]; exact this)
      (by have := he (A.in1.deeper cenv) s3 H3 s3.heap.objs.size c' (cellsFrom (s3.heap.objs.size + 1) scope.names (cloFrom X.env.cells scope.names [])) fp (hrm cenv)
          rw [hcenv] at this
          show PE _ elt (T ⟨X.F, cenv.code⟩ qe me)
          rw [hcd]; exact this) hs1 nw hww Srun s'' H'' hd (fun b hb => List.mem_cons_of_mem _ hb) (by rw [Nat.sub_self] at G''; exact G'')
    exact ⟨rfl, seg⟩
  refine gst_ofP (Ag := A.in1.deeper cenv) (scope := scope) (cenv := cenv) (g := s3.gens.size) (R0 := R0) I3 (fun b hb => (fp3 b hb).1) E3 cw hod Ew.ok kr hA hdp ndS (fun b hb => ?_) R0 [] _ H3 s6 _ rfl (fun d hd => nomatch hd) (hisG _ (hk6 _ _ gobAt)) G Ga
  have h5 := hS5 b hb
  have h6 : s3.heap.objs.size < b := Nat.lt_of_lt_of_le (Nat.lt_of_succ_le sz4') (Nat.le_of_succ_le h5)
  refine ⟨Nat.le_of_lt h6, by rw [hloc]; exact Nat.ne_of_gt h6, fun x c e z => ?_⟩
  · have := cells x c e
    rw [sz5, z] at this; exact absurd (Nat.lt_of_lt_of_le this h5) (Nat.lt_irrefl _)
end
end Z


set_option Elab.async false
set_option linter.all false
set_option maxRecDepth 100000
/-! all, any, and others of a generator expression with two clauses -/
namespace Z
open PySem PySem.Spec PyProof.Rows L2
/-- a judgement of a generator expression that a consumer will walk; nothing is told of its length -/
structure PGy (X : Cx) (k : Nat) (e : Expr) (stop : D → Bool) (m : DE → Option (List D × DE)) : Prop where
  run : ∀ (pins : List (Addr × Obj)) (s : Shared) (σ : L2.St) (H : Hp) (δ : DE) (o : List Addr) (R0 : List D) (δ1 : DE) (Q : Value → Shared → Prop), Inv X pins σ H s → Envs (kx X) H σ δ o → Nd o → m δ = some (R0, δ1) →
    (∀ a s5 Hx o1, Step H Hx o → Envs (kx X) Hx σ δ1 o1 → Own H o o1 → GMk X pins σ δ1 o1 Hx k a stop R0 s5 → Q (.ref a) s5) → wpAny (model X.prog X.w) X.A (eval e X.env) Q X.xe s
/-- a generator expression with two clauses that is walked to its end, or to the first that stops -/
def dGe2 (vs vs1 : List Nat) (ms : DenS) (b : Bnd) (mt : DenT) (ms1 : DenS) (b1 : Bnd) (mt1 : DenT) (me : Den) (stop : D → Bool) : DE → Option (List D × DE) := fun δ => match ms δ with
  | some (src, δ1) => if gOk src.gs δ1 then match dG2 stop (gx2 vs vs1 b mt ms1 b1 mt1 me stop (wipeD δ1 vs)) src.xs with
    | some r => some (r, δ1)
    | none => none
    else none
  | none => none
section
variable {X : Cx} {elt tg iter t1 i1 : Expr} {ifs ifs1 : List Expr} {scope : Scope} {own : List (Str × Nat)} {pos : Pos} {ms ms1 : DenS} {b b1 : Bnd} {mt mt1 : DenT} {me : Den} {q qt q1 qt1 qe : Bool} {vs1 : List Nat} {k : Nat} {stop : D → Bool}
theorem z_gen2 {cc : Addr} (hr : Room (k + 1) X.A) (hcode : X.env.code = .ref cc) (hc : X.calm = true) (hN : X.N.Nodup) (hBM : BMod X.base X.mg) (gs : GSc scope)
    (hi : PI X tg iter (TIm (kx X) q ms)) (ok : BlkOk X.N X.env.scope scope own)
    (hg : ∀ (Ag : Around) (s : Shared) (H : Hp) (C c' : Addr) (cl : List (Str × Addr)) (fp : List Addr), Room k Ag → PG (X.gen Ag s H scope (genEnv scope cl C (.ref c') builtinsNs X.env) fp) tg (TGm ⟨X.F, .ref c'⟩ (kpOut (own.map (·.2))) b))
    (ht : ∀ (Ag : Around) (s : Shared) (H : Hp) (C c' : Addr) (cl : List (Str × Addr)) (fp : List Addr), Room k Ag → PTs (X.gen Ag s H scope (genEnv scope cl C (.ref c') builtinsNs X.env) fp) ifs (TT ⟨X.F, .ref c'⟩ qt mt))
    (hv : ∀ i ∈ vs1, i ∈ own.map (·.2))
    (hi1 : ∀ (Ag : Around) (s : Shared) (H : Hp) (C c' : Addr) (cl : List (Str × Addr)) (fp : List Addr), Room k Ag → PI (X.gen Ag s H scope (genEnv scope cl C (.ref c') builtinsNs X.env) fp) t1 i1 (TIm ⟨X.F, .ref c'⟩ q1 ms1))
    (hg1 : ∀ (Ag : Around) (s : Shared) (H : Hp) (C c' : Addr) (cl : List (Str × Addr)) (fp : List Addr), Room k Ag → PG (X.gen Ag s H scope (genEnv scope cl C (.ref c') builtinsNs X.env) fp) t1 (TGm ⟨X.F, .ref c'⟩ (kpOut vs1) b1))
    (ht1 : ∀ (Ag : Around) (s : Shared) (H : Hp) (C c' : Addr) (cl : List (Str × Addr)) (fp : List Addr), Room k Ag → PTs (X.gen Ag s H scope (genEnv scope cl C (.ref c') builtinsNs X.env) fp) ifs1 (TT ⟨X.F, .ref c'⟩ qt1 mt1))
    (he : ∀ (Ag : Around) (s : Shared) (H : Hp) (C c' : Addr) (cl : List (Str × Addr)) (fp : List Addr), Room k Ag → PE (X.gen Ag s H scope (genEnv scope cl C (.ref c') builtinsNs X.env) fp) elt (T ⟨X.F, .ref c'⟩ qe me))
    (hs : ∀ v, genFold iter X.env v = pure v := by intro _; rfl) (hs1 : ∀ env x, foldedSetIterable i1 env x = pure x := by intro _ _; rfl) : PGy X k (.GeneratorExp elt [⟨tg, iter, ifs, 0⟩, ⟨t1, i1, ifs1, 0⟩] scope pos) stop (dGe2 (own.map (·.2)) vs1 ms b mt ms1 b1 mt1 me stop) := by
  refine ⟨fun pins s σ H δ o R0 δ1 Q I E n hm hQ => ?_⟩
  simp only [dGe2] at hm
  cases h1 : ms δ with
  | none => rw [h1] at hm; simp at hm
  | some p =>
    obtain ⟨src, δ2⟩ := p
    rw [h1] at hm; dsimp only at hm
    by_cases hgo : gOk src.gs δ2 = true
    case neg => rw [if_neg hgo] at hm; cases hm
    rw [if_pos hgo] at hm
    cases h2 : dG2 stop (gx2 (own.map (·.2)) vs1 b mt ms1 b1 mt1 me stop (wipeD δ2 (own.map (·.2)))) src.xs with
    | none => rw [h2] at hm; simp at hm
    | some r =>
      rw [h2] at hm
      simp only [Option.some.injEq, Prod.mk.injEq] at hm
      obtain ⟨rfl, rfl⟩ := hm
      exact gen_make2 hr hcode hc hN hBM gs hi ok hg ht hv hi1 hg1 ht1 he hs hs1 I E n h1 hgo h2 fun a s5 Hx o1 st E1 w1 g => hQ a s5 Hx o1 (st.mono Wq_sub) E1 w1 g
/-- a generator given to a built-in function: what the call is to do -/
theorem z_foldY {e : Expr} {m : DE → Option (List D × DE)} {f : List D → Option D} {nm : Str} {bid : String} {p : Pos} (hg : Gl X nm) (hm : X.mg nm = none) (hb : bootBuiltins nm = some (.builtin bid)) (he : PGy X k e stop m)
    (hcall : ∀ (pins : List (Addr × Obj)) (σ : L2.St) (δ1 : DE) (o1 : List Addr) (Hx : Hp) (a : Addr) (R0 : List D) (d : D) (s5 : Shared) (Q : Value → Shared → Prop), Inv X pins σ Hx s5 → GMk X pins σ δ1 o1 Hx k a stop R0 s5 → f R0 = some d → (∀ s' H' H'' v x ov, (∃ o', Envs (kx X) H' σ δ1 o' ∧ Own Hx o1 o') → Step Hx H' o1 → Inv X pins σ H'' s' → (∀ a u, H' a = some u → H'' a = some u) → RelV x v → Rep X.F H'' d x ov → Fresh H' ov → Q v s') → wpAny (model X.prog X.w) X.A (call (.builtin bid) [.ref a]) Q X.xe s5)
    (hnm : nm ≠ "__name__" := by decide) (hdb : (nm == ("__debug__" : Str)) = false := by decide) (hst : starEach [e] X.env = (false, eval e X.env) :: starEach [] X.env := by rfl) : PE X (.Call (.Name nm p) [e] [] pos) (T (kx X) false (dFold f m)) := by
  refine ⟨fun pins s σ H Q I h => ?_⟩
  obtain ⟨δ, o, r, δ', E, n, hmm, kq⟩ := h
  simp only [dFold] at hmm
  cases h1 : m δ with
  | none => rw [h1] at hmm; simp at hmm
  | some p1 =>
    obtain ⟨R0, δ1⟩ := p1
    rw [h1] at hmm; dsimp only at hmm
    cases h2 : f R0 with
    | none => rw [h2] at hmm; simp at hmm
    | some d =>
      rw [h2] at hmm
      simp only [Option.some.injEq, Prod.mk.injEq] at hmm
      obtain ⟨rfl, rfl⟩ := hmm
      refine wpAny_Call_Name_kw (ld_blt I hg hm hb ?_ hnm hdb)
      refine PyProof.Rows.callWith_builtin1 ?_ hst (by rfl)
      rw [hst]
      show wpAny _ _ (spliced ((false, eval e X.env) :: backTo pos (starEach [] X.env))) _ _ s
      refine Calls.spliced_cons (he.run pins s σ H δ o R0 δ1 _ I E n h1 fun a s5 Hx o1 st E1 w1 g => ?_)
      refine Calls.spliced_nil ?_
      refine hcall pins σ δ1 o1 Hx a R0 d s5 _ g.2.2.1.inv g h2 fun s' H' H'' v x ov Be Bs I2 hk rx rep fr => ?_
      obtain ⟨o', E', w'⟩ := Be
      refine ⟨x, H'', I2, rx, kq x H'' o' ov ⟨(st.trans w1 Bs).same hk, E'.same hk, rep, ?_⟩⟩
      exact own_fresh (w1.trans st w') (st.trans w1 Bs) fr E'.dom
theorem z_allY {e : Expr} {m : DE → Option (List D × DE)} {p : Pos} (hr : Room (k + 1) X.A) (hg : Gl X "all") (hm : X.mg "all" = none) (he : PGy X k e stopAll m)
    (hst : starEach [e] X.env = (false, eval e X.env) :: starEach [] X.env := by rfl) : PE X (.Call (.Name "all" p) [e] [] pos) (T (kx X) false (dFold fAll m)) := by
  refine z_foldY (bid := "all") hg hm (by decide +kernel) he (fun pins σ δ1 o1 Hx a R0 d s5 Q I g hf hQ => ?_) (by decide) (by decide) hst
  obtain ⟨ty, _, B5, gg⟩ := g
  simp only [fAll] at hf
  cases hb : allT R0 with
  | none => rw [hb] at hf; cases hf
  | some bo =>
    rw [hb] at hf
    cases (Option.some.inj hf : D.bl bo = d)
    have gst := gg X.A.in1 [] (fun _ => []) s5 hr.hd (by have := hr.dp; show X.A.depth < _; omega) (room_gen hr) I.ok.frames (fun b hb => nomatch hb) (.refl fun b hb => nomatch hb) keeps_none
    refine call_function_tree F.kind_all F.plain_all F.entry_all (F.args_all1 _) ?_
    unfold Builtin.«all»
    refine wpAny_bind (m := oneArg "all" _) (wpAny_pure ?_)
    refine wpAny_bind (iter_gen ty ?_)
    exact wpAny_pure ⟨plainId_quiet F.plain_all_loop _, all_loop (A := X.A) R0 0 Hx s5 gst hb fun s' H' B => hQ s' H' H' _ (.bl bo) [] B.env B.step B.inv (fun _ _ e => e) rfl ⟨rfl, rfl⟩ fresh_nil⟩
end
end Z


set_option Elab.async false
set_option linter.all false
set_option maxRecDepth 100000
/-! dicts: what stands at an address -/
namespace Z
open PySem PySem.Spec PyProof.Rows L2
def keyA : D → Bool
  | .int _ => true
  | .str _ => true
  | _ => false
def kA : D → L2.Key
  | .int i => .inl i
  | .str x => .inr x
  | _ => .inl 0
/-- keys of one kind -/
def famOk (ks : List D) : Bool := ks.all keyT || ks.all keyA
def lookD : List D → List D → D → Option D
  | k' :: ks, v :: vs, k => if k' = k then some v else lookD ks vs k
  | _, _, _ => none
def setD : List D → List D → D → D → List D
  | k' :: ks, v' :: vs, k, v => (if k' = k then v else v') :: setD ks vs k v
  | _, _, _, _ => []
theorem kA_inj {a b : D} (ha : keyA a = true) (hb : keyA b = true) (h : kA a = kA b) : a = b := by
  cases a <;> cases b <;> simp_all [keyA, kA]
theorem keyA_hash {w : World} {a : D} (ha : keyA a = true) : keyH w (kA a) = (dNK a).hash w := by
  cases a <;> simp_all [keyA, kA, keyH, dNK, NestedKey.hash]
theorem keyT_inj {a b : D} (ha : keyT a = true) (hb : keyT b = true) (h : dNK a = dNK b) : a = b := by
  simp only [keyT, Bool.and_eq_true] at ha hb
  exact dNK_inj a b ha.1.1.2 hb.1.1.2 ha.1.2 hb.1.2 h
section
variable {κ : Type} [DecidableEq κ] {K : Fw} {H : Hp}
/-- a look, by whatever stands for keys -/
theorem val_look (f : D → κ) {k : D} : ∀ (ks vs : List D) (vvs : List V) (kvs : List (κ × Value)), kvs.map (·.1) = ks.map f → Vals vvs (kvs.map (·.2)) → Reps K H vs vvs [] → ks.length = vs.length → (∀ k' ∈ ks, f k' = f k → k' = k) →
    (∀ v, lookD ks vs k = some v → ∃ vv u, valueAt kvs (f k) = some u ∧ RelV vv u ∧ Rep K H v vv []) ∧ (lookD ks vs k = none → valueAt kvs (f k) = none)
  | [], [], vvs, kvs, hk, _, _, _, _ => by
    cases kvs with
    | nil => exact ⟨fun v h => by simp [lookD] at h, fun _ => rfl⟩
    | cons _ _ => simp at hk
  | [], _ :: _, _, _, _, _, _, h, _ => by simp at h
  | _ :: _, [], _, _, _, _, _, h, _ => by simp at h
  | k' :: ks, v' :: vs, vvs, kvs, hk, hv, hr, hl, hi => by
    cases kvs with
    | nil => simp at hk
    | cons kv kvs =>
      simp only [List.map_cons, List.cons.injEq] at hk
      obtain ⟨w, wr, o1, o2, rfl, h1, h2, he⟩ := hr
      obtain ⟨rfl, rfl⟩ := List.append_eq_nil_iff.mp he.symm
      cases hv with
      | cons r1 r2 =>
        have ih := val_look f ks vs wr kvs hk.2 r2 h2 (by simpa using hl) (fun k2 h3 => hi k2 (List.mem_cons_of_mem _ h3))
        by_cases e : k' = k
        · subst e
          have : valueAt (kv :: kvs) (f k') = some kv.2 := by simp [valueAt, List.find?_cons, hk.1]
          exact ⟨fun v h => by simp only [lookD, if_true, Option.some.injEq] at h; subst h; exact ⟨w, kv.2, this, r1, h1⟩, fun h => by simp [lookD] at h⟩
        · have ne : ¬ kv.1 = f k := fun z => e (hi k' List.mem_cons_self (by rw [← hk.1]; exact z))
          have : valueAt (kv :: kvs) (f k) = valueAt kvs (f k) := by simp [valueAt, List.find?_cons, ne]
          rw [this]
          simp only [lookD, e, if_false]
          exact ih
theorem look_some : ∀ {ks vs : List D} {k : D}, ks.length = vs.length → ((lookD ks vs k).isSome = true ↔ k ∈ ks)
  | [], [], k, _ => by simp [lookD]
  | [], _ :: _, _, h => by simp at h
  | _ :: _, [], _, h => by simp at h
  | k' :: ks, v :: vs, k, h => by
    simp only [lookD]
    by_cases e : k' = k
    · simp [e]
    · rw [if_neg e, look_some (by simpa using h), List.mem_cons]
      exact ⟨.inr, fun z => z.resolve_left fun z => e z.symm⟩
theorem val_put (f : D → κ) {k v : D} {vv : V} {u : Value} (ru : RelV vv u) (rr : Rep K H v vv []) : ∀ (ks vs : List D) (vvs : List V) (kvs : List (κ × Value)), kvs.map (·.1) = ks.map f → Vals vvs (kvs.map (·.2)) → Reps K H vs vvs [] → ks.length = vs.length → (∀ k' ∈ ks, f k' = f k → k' = k) →
    (kvs.map fun kv => if kv.1 = f k then (kv.1, u) else kv).map (·.1) = ks.map f ∧ ∃ vvs', Vals vvs' ((kvs.map fun kv => if kv.1 = f k then (kv.1, u) else kv).map (·.2)) ∧ Reps K H (setD ks vs k v) vvs' []
  | [], [], vvs, kvs, hk, _, _, _, _ => by
    cases kvs with
    | nil => exact ⟨rfl, [], .nil, ⟨rfl, rfl⟩⟩
    | cons _ _ => simp at hk
  | [], _ :: _, _, _, _, _, _, h, _ => by simp at h
  | _ :: _, [], _, _, _, _, _, h, _ => by simp at h
  | k' :: ks, v' :: vs, vvs, kvs, hk, hv, hr, hl, hi => by
    cases kvs with
    | nil => simp at hk
    | cons kv kvs =>
      simp only [List.map_cons, List.cons.injEq] at hk
      obtain ⟨w, wr, o1, o2, rfl, h1, h2, he⟩ := hr
      obtain ⟨rfl, rfl⟩ := List.append_eq_nil_iff.mp he.symm
      cases hv with
      | cons r1 r2 =>
        obtain ⟨ih1, vvs', ih2, ih3⟩ := val_put f ru rr ks vs wr kvs hk.2 r2 h2 (by simpa using hl) (fun k2 h3 => hi k2 (List.mem_cons_of_mem _ h3))
        by_cases e : k' = k
        · subst e
          simp only [List.map_cons, hk.1, if_true, setD]
          exact ⟨by rw [ih1], vv :: vvs', .cons ru ih2, ⟨vv, vvs', [], [], rfl, rr, ih3, rfl⟩⟩
        · have ne : ¬ kv.1 = f k := fun z => e (hi k' List.mem_cons_self (by rw [← hk.1]; exact z))
          simp only [List.map_cons, if_neg ne, setD, if_neg e]
          exact ⟨by rw [ih1, hk.1], w :: vvs', .cons r1 ih2, ⟨w, vvs', [], [], rfl, h1, ih3, rfl⟩⟩
end
/-- k gets the value v -/
def putD (ks vs : List D) (k v : D) : List D × List D := if k ∈ ks then (ks, setD ks vs k v) else (ks ++ [k], vs ++ [v])
section
variable {X : Cx} {pins : List (Addr × Obj)} {σ : L2.St} {H : Hp} {s : Shared}
/-- a key that is a tuple, in the heap -/
theorem key_heap (I : Inv X pins σ H s) {k : D} {y : V} {oy : List Addr} {u : Value} (hk : keyT k = true) (r : Rep X.F H k y oy) (ru : RelV y u) : ∃ b, y = .ref b ∧ u = .ref b ∧ (nestedKind X.prog X.w).is s.heap (dNK k) b := by
  simp only [keyT, Bool.and_eq_true] at hk
  obtain ⟨⟨⟨h1, h2⟩, h3⟩, h4⟩ := hk
  obtain ⟨as, rd⟩ := Rep.reads I r ru
  have nk := nested_reads k u as h2 rd
  have h4 := of_decide_eq_true h4
  have dk := dNK_depth k
  cases k <;> simp only [isTup, Bool.false_eq_true] at h1
  obtain ⟨b, vs, rfl, _⟩ := r
  cases ru
  exact ⟨b, rfl, rfl, nk, by omega⟩
theorem key_val {K : Fw} {H : Hp} {k : D} {y : V} {oy : List Addr} {u : Value} (hk : keyA k = true) (r : Rep K H k y oy) (ru : RelV y u) : y = kV (kA k) ∧ (mixKind X.prog X.w).is (kA k) u = true := by
  cases k <;> simp only [keyA, Bool.false_eq_true] at hk
  · obtain ⟨rfl, _⟩ := r
    exact ⟨rfl, kV_is (P := X.prog) (w := X.w) (k := .inl _) ru⟩
  · obtain ⟨rfl, _⟩ := r
    exact ⟨rfl, kV_is (P := X.prog) (w := X.w) (k := .inr _) ru⟩
/-- keys that are tuples -/
theorem ents_heap (I : Inv X pins σ H s) : ∀ {ks : List D} {kvs vvs : List V} {es : List DictEntry}, Ents X.w ks kvs vvs es → Reps X.F H ks kvs [] → (∀ k ∈ ks, keyT k = true) →
    ∃ xs : List (NestedKey × Addr × Value), es = xs.map (entryOfKey (nestedKind X.prog X.w)) ∧ xs.map (·.1) = ks.map dNK ∧ kvs = xs.map (fun x => V.ref x.2.1) ∧ Vals vvs (xs.map (·.2.2)) ∧ ∀ x ∈ xs, (nestedKind X.prog X.w).is s.heap x.1 x.2.1
  | [], [], [], [], _, _, _ => ⟨[], rfl, rfl, rfl, .nil, (fun x hx => nomatch hx)⟩
  | k :: ks, kv :: kvs, vv :: vvs, e :: es, en, rk, hk => by
    obtain ⟨v, vr, o1, o2, e1, h1, h2, he⟩ := rk
    obtain ⟨rfl, rfl⟩ := List.append_eq_nil_iff.mp he.symm
    cases e1
    obtain ⟨en1, en2, en3, en4⟩ := en
    obtain ⟨b, rfl, eb, nk⟩ := key_heap I (hk k List.mem_cons_self) h1 en2
    obtain ⟨xs, x1, x2, x3, x4, x5⟩ := ents_heap I en4 h2 fun k2 h => hk k2 (List.mem_cons_of_mem _ h)
    refine ⟨(dNK k, b, e.val) :: xs, ?_, ?_, ?_, .cons en3 x4, fun x hx => ?_⟩
    · rw [List.map_cons, ← x1]
      congr 1
      obtain ⟨e1, e2, e3⟩ := e
      simp only at en1 eb
      rw [en1, eb]; rfl
    · rw [List.map_cons, List.map_cons, x2]
    · rw [List.map_cons, ← x3]
    · rcases List.mem_cons.mp hx with rfl | hx
      · exact nk
      · exact x5 x hx
  | [], [], [], _ :: _, h, _, _ => h.elim
  | [], [], _ :: _, _, h, _, _ => h.elim
  | [], _ :: _, _, _, h, _, _ => h.elim
  | _ :: _, [], _, _, h, _, _ => h.elim
  | _ :: _, _ :: _, [], _, h, _, _ => h.elim
  | _ :: _, _ :: _, _ :: _, [], h, _, _ => h.elim
/-- keys that are whole numbers and texts -/
theorem ents_val {H : Hp} : ∀ {ks : List D} {kvs vvs : List V} {es : List DictEntry}, Ents X.w ks kvs vvs es → Reps X.F H ks kvs [] → (∀ k ∈ ks, keyA k = true) →
    ∃ ps : List (L2.Key × Value), (∀ e ∈ es, ∃ k, keyIs k e.key = true ∧ e.hash = keyH X.w k) ∧ Pairs (mixKind X.prog X.w) es ps ∧ ps.map (·.1) = ks.map kA ∧ Vals vvs (ps.map (·.2))
  | [], [], [], [], _, _, _ => ⟨[], (fun _ h => nomatch h), .nil, rfl, .nil⟩
  | k :: ks, kv :: kvs, vv :: vvs, e :: es, en, rk, hk => by
    obtain ⟨v, vr, o1, o2, e1, h1, h2, he⟩ := rk
    obtain ⟨rfl, rfl⟩ := List.append_eq_nil_iff.mp he.symm
    cases e1
    obtain ⟨en1, en2, en3, en4⟩ := en
    have hk1 := hk k List.mem_cons_self
    obtain ⟨rfl, eb⟩ := key_val (X := X) hk1 h1 en2
    obtain ⟨ps, x1, x2, x3, x4⟩ := ents_val en4 h2 fun k2 h => hk k2 (List.mem_cons_of_mem _ h)
    refine ⟨(kA k, e.val) :: ps, fun e' he' => ?_, .cons eb rfl x2, by rw [List.map_cons, List.map_cons, x3], .cons en3 x4⟩
    rcases List.mem_cons.mp he' with rfl | he'
    · exact ⟨kA k, eb, by rw [en1, keyA_hash hk1]⟩
    · exact x1 e' he'
  | [], [], [], _ :: _, h, _, _ => h.elim
  | [], [], _ :: _, _, h, _, _ => h.elim
  | [], _ :: _, _, _, h, _, _ => h.elim
  | _ :: _, [], _, _, h, _, _ => h.elim
  | _ :: _, _ :: _, [], _, h, _, _ => h.elim
  | _ :: _, _ :: _, _ :: _, [], h, _, _ => h.elim
theorem nodup_map {α β : Type} {f : α → β} : ∀ {l : List α}, l.Nodup → (∀ a ∈ l, ∀ b ∈ l, f a = f b → a = b) → (l.map f).Nodup
  | [], _, _ => List.nodup_nil
  | a :: l, n, h => by
    rw [List.nodup_cons] at n
    rw [List.map_cons, List.nodup_cons]
    refine ⟨fun hm => ?_, nodup_map n.2 fun x hx y hy => h x (List.mem_cons_of_mem _ hx) y (List.mem_cons_of_mem _ hy)⟩
    obtain ⟨b, hb, e⟩ := List.mem_map.mp hm
    have := h a List.mem_cons_self b (List.mem_cons_of_mem _ hb) e.symm
    exact n.1 (this ▸ hb)
/-- the dict at a, in the heap, of one or the other kind; the key k is of that kind -/
inductive DV (X : Cx) (s : Shared) (a : Addr) (k : D) (ks : List D) (kvs vvs : List V) : Prop
  | t (xs : List (NestedKey × Addr × Value)) (hk : ∀ x ∈ k :: ks, keyT x = true) (d : s.heap.DictOfH (nestedKind X.prog X.w) a xs) (k1 : xs.map (·.1) = ks.map dNK) (k2 : kvs = xs.map (fun x => V.ref x.2.1)) (v : Vals vvs (xs.map (·.2.2)))
  | a (ps : List (L2.Key × Value)) (hk : ∀ x ∈ k :: ks, keyA x = true) (d : s.heap.DictOf (mixKind X.prog X.w) a ps) (k1 : ps.map (·.1) = ks.map kA) (v : Vals vvs (ps.map (·.2)))
theorem dv_of (I : Inv X pins σ H s) {a : Addr} {k : D} {ks : List D} {kvs vvs : List V} {es : Array DictEntry} (hq : H a = some (.ext (DicP a es))) (hn : ks.Nodup) (rk : Reps X.F H ks kvs []) (en : Ents X.w ks kvs vvs es.toList) (hf : famOk (k :: ks) = true) : DV X s a k ks kvs vvs := by
  obtain ⟨o, ep, e1, e2, e3⟩ := (I.hok a _ hq).1
  simp only [famOk, Bool.or_eq_true, List.all_eq_true] at hf
  rcases hf with hf | hf
  · have hf' : ∀ x ∈ ks, keyT x = true := fun x hx => hf x (List.mem_cons_of_mem _ hx)
    obtain ⟨xs, x1, x2, x3, x4, x5⟩ := ents_heap I en rk hf'
    exact .t xs hf ⟨o, es, ep, e1, e2, e3, x1, x5, by rw [x2]; exact nodup_map hn fun a ha b hb e => keyT_inj (hf' a ha) (hf' b hb) e⟩ x2 x3 x4
  · have hf' : ∀ x ∈ ks, keyA x = true := fun x hx => hf x (List.mem_cons_of_mem _ hx)
    obtain ⟨ps, x1, x2, x3, x4⟩ := ents_val (X := X) en rk hf'
    exact .a ps hf ⟨o, es, ep, e1, e2, e3, fun e he => x1 e (by simpa using he), x2, by rw [x3]; exact nodup_map hn fun a ha b hb e => kA_inj (hf' a ha) (hf' b hb) e⟩ x3 x4
theorem look_is {κ : Type} [DecidableEq κ] {K : Fw} {H : Hp} (f : D → κ) {k : D} {ks vs : List D} {vvs : List V} {kvs : List (κ × Value)} (h1 : kvs.map (·.1) = ks.map f) (h2 : Vals vvs (kvs.map (·.2))) (h3 : Reps K H vs vvs []) (h4 : ks.length = vs.length) (h5 : ∀ k' ∈ ks, f k' = f k → k' = k) : (valueAt kvs (f k)).isSome = decide (k ∈ ks) := by
  obtain ⟨a1, a2⟩ := val_look f ks vs vvs kvs h1 h2 h3 h4 h5
  have q := look_some (ks := ks) (vs := vs) (k := k) h4
  cases hl : lookD ks vs k with
  | some v =>
    obtain ⟨_, u, e, _⟩ := a1 v hl
    have : k ∈ ks := q.mp (by rw [hl]; rfl)
    rw [e]; simp [this]
  | none =>
    rw [a2 hl]
    rw [hl] at q
    have : k ∉ ks := fun z => by have := q.mpr z; simp at this
    simp [this]
end
end Z


set_option Elab.async false
set_option linter.all false
set_option maxRecDepth 100000
/-! dicts: d[k], k in d, len(d) -/
namespace Z
open PySem PySem.Spec PyProof.Rows L2
def fDIn : List D → Option D
  | [k, .dic ks _] => if famOk (k :: ks) then some (.bl (decide (k ∈ ks))) else none
  | _ => none
def fDNotIn : List D → Option D
  | [k, .dic ks _] => if famOk (k :: ks) then some (.bl (!decide (k ∈ ks))) else none
  | _ => none
theorem pairsH_fst {K : Type} (xs : List (K × Addr × Value)) : (pairsH xs).map (·.1) = xs.map (·.1) := by simp [pairsH, List.map_map, Function.comp_def]
theorem pairsH_snd {K : Type} (xs : List (K × Addr × Value)) : (pairsH xs).map (·.2) = xs.map (·.2.2) := by simp [pairsH, List.map_map, Function.comp_def]
section
variable {X : Cx}
theorem ents_len {w : World} {ks vs : List D} {kvs vvs : List V} {es : List DictEntry} {K : Fw} {H : Hp} (en : Ents w ks kvs vvs es) (rv : Reps K H vs vvs []) : ks.length = vs.length := by
  rw [← rv.length]; exact (ents_length en).2.1.symm
theorem room_in1 {A : Around} (hu : A.units + 65 < cLine) : (nestedKind X.prog X.w).room A.in1 := by
  show A.units + 1 + 8 < cLine
  omega
theorem o_din (hu : X.A.units + 65 < cLine) : OpR X (compareOp .In) fun x y => Pr X.F fDIn [x, y] := by
  intro pins s σ H x y v u Q I rx ry h
  obtain ⟨ds, o, d, r, e, k0, _⟩ := pr_end h
  obtain ⟨k, b, oa, ob, rfl, ra, rb⟩ := reps2 r
  unfold fDIn at e
  split at e
  · rename_i k' ks vs he
    injection he with he1 he2
    injection he2 with he2 he3
    subst he1 he2
    obtain ⟨a, kvs, vvs, es, rfl, hq, hd, hs, ⟨hn, hl⟩, rk, rv, en, rfl⟩ := rb
    cases (show u = Value.ref a from ry)
    split at e
    · rename_i hf
      cases (Option.some.inj e)
      have hlen := ents_len en rv
      cases dv_of I hq hn rk en hf with
      | t xs hk dd k1 k2 vv =>
        obtain ⟨c, rfl, rfl, nk⟩ := key_heap I (hk _ List.mem_cons_self) ra rx
        refine wpAny_in_heap (room_in1 hu) nk hs dd ?_
        have q := look_is (k := k) dNK (ks := ks) (vs := vs) (kvs := pairsH xs) (by rw [pairsH_fst, k1]) (by rw [pairsH_snd]; exact vv) rv hlen (fun k' h e => keyT_inj (hk _ (List.mem_cons_of_mem _ h)) (hk _ List.mem_cons_self) e)
        rw [valueAt_pairsH, Option.isSome_map] at q
        rw [q]
        exact ⟨.bl _, H, I.tok _, rfl, k0 _ ⟨rfl, rfl⟩⟩
      | a ps hk dd k1 vv =>
        obtain ⟨rfl, ku⟩ := key_val (X := X) (hk _ List.mem_cons_self) ra rx
        refine wpAny_in_of (knd := mixKind X.prog X.w) ku hs dd.mapOf ?_
        have q := look_is (k := k) kA (ks := ks) (vs := vs) (kvs := ps) k1 vv rv hlen (fun k' h e => kA_inj (hk _ (List.mem_cons_of_mem _ h)) (hk _ List.mem_cons_self) e)
        rw [q]
        exact ⟨.bl _, H, I.tok _, rfl, k0 _ ⟨rfl, rfl⟩⟩
    · cases e
  · cases e
theorem o_dnotin (hu : X.A.units + 65 < cLine) : OpR X (compareOp .NotIn) fun x y => Pr X.F fDNotIn [x, y] := by
  intro pins s σ H x y v u Q I rx ry h
  obtain ⟨ds, o, d, r, e, k0, _⟩ := pr_end h
  obtain ⟨k, b, oa, ob, rfl, ra, rb⟩ := reps2 r
  unfold fDNotIn at e
  split at e
  · rename_i k' ks vs he
    injection he with he1 he2
    injection he2 with he2 he3
    subst he1 he2
    obtain ⟨a, kvs, vvs, es, rfl, hq, hd, hs, ⟨hn, hl⟩, rk, rv, en, rfl⟩ := rb
    cases (show u = Value.ref a from ry)
    split at e
    · rename_i hf
      cases (Option.some.inj e)
      have hlen := ents_len en rv
      cases dv_of I hq hn rk en hf with
      | t xs hk dd k1 k2 vv =>
        obtain ⟨c, rfl, rfl, nk⟩ := key_heap I (hk _ List.mem_cons_self) ra rx
        refine wpAny_notIn_heap (room_in1 hu) nk hs dd ?_
        have q := look_is (k := k) dNK (ks := ks) (vs := vs) (kvs := pairsH xs) (by rw [pairsH_fst, k1]) (by rw [pairsH_snd]; exact vv) rv hlen (fun k' h e => keyT_inj (hk _ (List.mem_cons_of_mem _ h)) (hk _ List.mem_cons_self) e)
        rw [valueAt_pairsH, Option.isSome_map] at q
        rw [q]
        exact ⟨.bl _, H, I.tok _, rfl, k0 _ ⟨rfl, rfl⟩⟩
      | a ps hk dd k1 vv =>
        obtain ⟨rfl, ku⟩ := key_val (X := X) (hk _ List.mem_cons_self) ra rx
        refine wpAny_notIn_of (knd := mixKind X.prog X.w) ku hs dd.mapOf ?_
        have q := look_is (k := k) kA (ks := ks) (vs := vs) (kvs := ps) k1 vv rv hlen (fun k' h e => kA_inj (hk _ (List.mem_cons_of_mem _ h)) (hk _ List.mem_cons_self) e)
        rw [q]
        exact ⟨.bl _, H, I.tok _, rfl, k0 _ ⟨rfl, rfl⟩⟩
    · cases e
  · cases e
end
end Z


set_option Elab.async false
set_option linter.all false
set_option maxRecDepth 100000
/-! dicts: {}, {k: v}, d[k] = v -/
namespace Z
open PySem PySem.Spec PyProof.Rows L2
/-- the entries, told by pairs of keys by value -/
theorem ents_ofA {w : World} : ∀ {ks : List D} {vvs : List V} {es : List DictEntry} {ps : List (L2.Key × Value)} {prog : Program}, (∀ e ∈ es, ∃ k, keyIs k e.key = true ∧ e.hash = keyH w k) → Pairs (mixKind prog w) es ps → ps.map (·.1) = ks.map kA → (∀ k ∈ ks, keyA k = true) → Vals vvs (ps.map (·.2)) →
    Ents w ks (ks.map fun k => kV (kA k)) vvs es
  | [], vvs, es, ps, prog, _, hp, hk, _, hv => by
    cases ps with
    | nil => cases hp; cases hv; trivial
    | cons _ _ => simp at hk
  | k :: ks, vvs, es, ps, prog, h1, hp, hk, ha, hv => by
    cases ps with
    | nil => simp at hk
    | cons p ps =>
      simp only [List.map_cons, List.cons.injEq] at hk
      cases hp with
      | cons g1 g2 g3 =>
        rename_i e es
        cases hv with
        | cons r1 r2 =>
          have g1 : keyIs p.1 e.key = true := g1
          rw [hk.1] at g1
          have hak := ha k List.mem_cons_self
          refine ⟨?_, ?_, by rw [g2]; exact r1, ents_ofA (fun e he => h1 e (List.mem_cons_of_mem _ he)) g3 hk.2 (fun k2 h => ha k2 (List.mem_cons_of_mem _ h)) r2⟩
          · obtain ⟨k2, e1, e2⟩ := h1 e List.mem_cons_self
            have := (mixKind prog w).inj e.key k2 (kA k) e1 g1
            rw [e2, this, keyA_hash hak]
          · cases k <;> simp only [keyA, Bool.false_eq_true] at hak
            · rcases keyIs_shape g1 with ⟨i, t, e1, e2⟩ | ⟨x, t, e1, e2⟩
              · cases e1; exact ⟨t, e2⟩
              · cases e1
            · rcases keyIs_shape g1 with ⟨i, t, e1, e2⟩ | ⟨x, t, e1, e2⟩
              · cases e1
              · cases e1; exact ⟨t, e2⟩
theorem ents_ofH {w : World} {prog : Program} : ∀ {ks : List D} {vvs : List V} {xs : List (NestedKey × Addr × Value)}, xs.map (·.1) = ks.map dNK → Vals vvs (xs.map (·.2.2)) → Ents w ks (xs.map fun x => V.ref x.2.1) vvs (xs.map (entryOfKey (nestedKind prog w)))
  | [], vvs, xs, hk, hv => by
    cases xs with
    | nil => cases hv; trivial
    | cons _ _ => simp at hk
  | k :: ks, vvs, xs, hk, hv => by
    cases xs with
    | nil => simp at hk
    | cons x xs =>
      simp only [List.map_cons, List.cons.injEq] at hk
      cases hv with
      | cons r1 r2 => exact ⟨by rw [← hk.1]; rfl, rfl, r1, ents_ofH hk.2 r2⟩
theorem repsA {K : Fw} {H : Hp} : ∀ {ks : List D} {kvs : List V} {o : List Addr}, Reps K H ks kvs o → (∀ k ∈ ks, keyA k = true) → kvs = ks.map fun k => kV (kA k)
  | [], _, _, h, _ => h.1
  | k :: ks, _, _, h, ha => by
    obtain ⟨v, vr, o1, o2, rfl, h1, h2, _⟩ := h
    have hk := ha k List.mem_cons_self
    rw [List.map_cons, ← repsA h2 fun k2 h => ha k2 (List.mem_cons_of_mem _ h)]
    cases k <;> simp only [keyA, Bool.false_eq_true] at hk
    · obtain ⟨rfl, _⟩ := h1; rfl
    · obtain ⟨rfl, _⟩ := h1; rfl
theorem nodup_snoc {ks : List D} {k : D} (h : ks.Nodup) (hk : k ∉ ks) : (ks ++ [k]).Nodup := by
  rw [List.nodup_append]
  exact ⟨h, by simp, fun a ha b hb e => by rw [List.mem_singleton.mp hb] at e; exact hk (e ▸ ha)⟩
section
variable {X : Cx} {pins : List (Addr × Obj)} {σ : L2.St} {H : Hp} {s : Shared}
/-- d[k] = v, at the level of the heap -/
theorem dic_set {A : Around} {E : Value → Shared → Prop} {a : Addr} {o : List Addr} {k v : D} {ks vs : List D} {y vv : V} {u w : Value} {Q : Unit → Shared → Prop} (hu : A.units + 65 < cLine) (I : Inv X pins σ H s) (rd : Rep X.F H (.dic ks vs) (.ref a) o) (rk : Rep X.F H k y []) (ry : RelV y u) (rv : Rep X.F H v vv []) (rw' : RelV vv w)
    (hf : famOk (k :: ks) = true) (hlen : ks.length < sizeLine)
    (h : ∀ es s', Inv X pins σ (upd H a (.ext (DicP a es))) s' → IsDic (DicP a es) → Rep X.F (upd H a (.ext (DicP a es))) (.dic (putD ks vs k v).1 (putD ks vs k v).2) (.ref a) [a] → Q () s') :
    wpAny (model X.prog X.w) A (setItem (.ref a) u w) Q E s := by
  obtain ⟨a', kvs, vvs, es, e0, hq, hd, hs, ⟨hn, hl⟩, rks, rvs, en, _⟩ := rd
  cases e0
  have hlen2 := ents_len en rvs
  have mu : Mut (H a) := by rw [hq]; exact True.intro
  -- what is not the dict is kept
  have fr : ∀ es', Fr0 H (upd H a (.ext (DicP a es'))) [] := fun es' => ⟨(fun b hb => nomatch hb), fun b u' e hsu => by
    rw [upd_ne (fun z => by subst z; rw [hq] at e; cases e; exact hsu hd)]; exact e⟩
  -- the end, for any way of entries
  have fin : ∀ (h' : Heap) (tk : Nat) (es' : Array DictEntry) (kvs' vvs' : List V), DicP a es' h' → Heap.SameBut a s.heap h' → Reps X.F H (putD ks vs k v).1 kvs' [] → Reps X.F H (putD ks vs k v).2 vvs' [] → Ents X.w (putD ks vs k v).1 kvs' vvs' es'.toList → Q () { s with heap := h', toks := tk } := fun h' tk es' kvs' vvs' dp hsb r1 r2 en' => by
    have hq' : ∃ q, h'.get? a = some q := by obtain ⟨o, ep, e, _⟩ := dp; exact ⟨o, e⟩
    refine h es' _ (d_write I mu hsb hq' ⟨dp, hq', fun h1 h2 ⟨o1, ep1, e1, e2, e3⟩ k1 => ⟨o1, ep1, k1 _ e1, e2, e3⟩⟩) (isDic_of dp) ⟨a, kvs', vvs', es', rfl, upd_same, isDic_of dp, hs, ⟨?_, ?_⟩, r1.fr (fr es'), r2.fr (fr es'), en', rfl⟩
    · unfold putD
      split
      · exact hn
      · rename_i hk; exact nodup_snoc hn hk
    · unfold putD
      split
      · exact hl
      · simp; omega
  have inj : ∀ k' ∈ ks, ∀ (f : D → Prop), True := fun _ _ _ => trivial
  cases dv_of I hq hn rks en hf with
  | t xs hk dd k1 k2 vw =>
    obtain ⟨c, rfl, rfl, nk⟩ := key_heap I (hk _ List.mem_cons_self) rk ry
    have hi : ∀ k' ∈ ks, dNK k' = dNK k → k' = k := fun k' h e => keyT_inj (hk _ (List.mem_cons_of_mem _ h)) (hk _ List.mem_cons_self) e
    have hx : xs.length = ks.length := by have := congrArg List.length k1; simpa using this
    refine wpAny_setItem_heap (hsz := by omega) (room_in1 hu) nk dd fun h' dd' hsb => ?_
    obtain ⟨ob, es', ep', e1, e2, e3, e4, e5, e6⟩ := dd'
    have q := look_is (k := k) dNK (ks := ks) (vs := vs) (kvs := pairsH xs) (by rw [pairsH_fst, k1]) (by rw [pairsH_snd]; exact vw) rvs hlen2 hi
    rw [valueAt_pairsH, Option.isSome_map] at q
    by_cases hm : k ∈ ks
    · have hp : putD ks vs k v = (ks, setD ks vs k v) := by unfold putD; rw [if_pos hm]
      obtain ⟨p, hat⟩ : ∃ p, atKey xs (dNK k) = some p := by
        cases hat : atKey xs (dNK k) with
        | none => rw [hat] at q; simp [hm] at q
        | some p => exact ⟨p, rfl⟩
      rw [storedH_old hat] at e4
      obtain ⟨p1, vvs', p2, p3⟩ := val_put dNK rw' rv ks vs vvs (pairsH xs) (by rw [pairsH_fst, k1]) (by rw [pairsH_snd]; exact vw) rvs hlen2 hi
      have e7 : (pairsH xs).map (fun kv => if kv.1 = dNK k then (kv.1, w) else kv) = pairsH (xs.map (putAt (dNK k) w)) := by
        simp only [pairsH, List.map_map]
        apply List.map_congr_left
        intro x _
        simp only [Function.comp, putAt]
        split <;> rfl
      rw [e7, pairsH_fst] at p1
      rw [e7, pairsH_snd] at p2
      refine fin h' _ es' (xs.map fun x => V.ref x.2.1) vvs' ⟨ob, ep', e1, e2, e3⟩ hsb ?_ ?_ ?_
      · rw [hp, ← k2]; exact rks
      · rw [hp]; exact p3
      · rw [hp, e4]
        have e8 : (xs.map fun x => V.ref x.2.1) = (xs.map (putAt (dNK k) w)).map fun x => V.ref x.2.1 := by
          rw [List.map_map]
          apply List.map_congr_left
          intro x _
          simp only [Function.comp, putAt]
          split <;> rfl
        rw [e8]
        exact ents_ofH p1 p2
    · have hp : putD ks vs k v = (ks ++ [k], vs ++ [v]) := by unfold putD; rw [if_neg hm]
      have hat : atKey xs (dNK k) = none := by
        cases hat : atKey xs (dNK k) with
        | none => rfl
        | some p => rw [hat] at q; simp [hm] at q
      rw [storedH_new hat] at e4
      refine fin h' _ es' ((xs ++ [(dNK k, c, w)]).map fun x => V.ref x.2.1) (vvs ++ [vv]) ⟨ob, ep', e1, e2, e3⟩ hsb ?_ ?_ ?_
      · rw [hp, List.map_append, ← k2]; exact (rks.append (Reps.one rk))
      · rw [hp]; exact (rvs.append (Reps.one rv))
      · rw [hp, e4]
        exact ents_ofH (by simp [k1]) (by rw [List.map_append]; exact vw.append (.cons rw' .nil))
  | a ps hk dd k1 vw =>
    obtain ⟨rfl, ku⟩ := key_val (X := X) (hk _ List.mem_cons_self) rk ry
    have hi : ∀ k' ∈ ks, kA k' = kA k → k' = k := fun k' h e => kA_inj (hk _ (List.mem_cons_of_mem _ h)) (hk _ List.mem_cons_self) e
    have hx : ps.length = ks.length := by have := congrArg List.length k1; simpa using this
    refine wpAny_setItem_pairs (knd := mixKind X.prog X.w) (hsz := by omega) ku dd fun h' dd' hsb => ?_
    obtain ⟨ob, es', ep', e1, e2, e3, e4, e5, e6⟩ := dd'
    have q := look_is (k := k) kA (ks := ks) (vs := vs) (kvs := ps) k1 vw rvs hlen2 hi
    have qa : (ps.any fun kv => decide (kv.1 = kA k)) = decide (k ∈ ks) := by
      rw [← q]
      simp only [valueAt, Option.isSome_map, List.find?_isSome]
      rw [Bool.eq_iff_iff]
      simp
    have hks : ∀ x ∈ ks, keyA x = true := fun x hx => hk x (List.mem_cons_of_mem _ hx)
    by_cases hm : k ∈ ks
    · have hp : putD ks vs k v = (ks, setD ks vs k v) := by unfold putD; rw [if_pos hm]
      obtain ⟨p1, vvs', p2, p3⟩ := val_put kA rw' rv ks vs vvs ps k1 vw rvs hlen2 hi
      have e7 : stored ps (kA k) w = ps.map fun kv => if kv.1 = kA k then (kv.1, w) else kv := by unfold stored; rw [if_pos (by rw [qa]; simp [hm])]
      rw [e7] at e5
      refine fin h' _ es' (ks.map fun k => kV (kA k)) vvs' ⟨ob, ep', e1, e2, e3⟩ hsb ?_ ?_ ?_
      · rw [hp, ← repsA rks hks]; exact rks
      · rw [hp]; exact p3
      · rw [hp]; exact ents_ofA (fun e he => e4 e (by simpa using he)) e5 p1 hks p2
    · have hp : putD ks vs k v = (ks ++ [k], vs ++ [v]) := by unfold putD; rw [if_neg hm]
      have e7 : stored ps (kA k) w = ps ++ [(kA k, w)] := by unfold stored; rw [if_neg (by rw [qa]; simp [hm])]
      rw [e7] at e5
      have hks' : ∀ x ∈ ks ++ [k], keyA x = true := fun x hx => (List.mem_append.mp hx).elim (hks x) fun hx => by rw [List.mem_singleton.mp hx]; exact hk _ List.mem_cons_self
      refine fin h' _ es' ((ks ++ [k]).map fun k => kV (kA k)) (vvs ++ [vv]) ⟨ob, ep', e1, e2, e3⟩ hsb ?_ ?_ ?_
      · have r3 : Reps X.F H (ks ++ [k]) (kvs ++ [kV (kA k)]) [] := rks.append (Reps.one rk)
        rw [hp, ← repsA r3 hks']
        exact r3
      · rw [hp]; exact (rvs.append (Reps.one rv))
      · rw [hp]; exact ents_ofA (fun e he => e4 e (by simpa using he)) e5 (by simp [k1]) hks' (by rw [List.map_append]; exact vw.append (.cons rw' .nil))
end
end Z


set_option Elab.async false
set_option linter.all false
set_option maxRecDepth 100000
/-! dicts: the rules for what makes and changes them -/
namespace Z
open PySem PySem.Spec PyProof.Rows L2
def dDNew : Den := fun δ => some (.own (.dic [] []), δ)
def dDisp1 (mk mv : Den) : Den := fun δ => match mk δ with
  | some (.own k, δ1) => match mv δ1 with
    | some (.own v, δ2) => if famOk [k] && k.imm && v.imm then some (.own (.dic [k] [v]), δ2) else none
    | _ => none
  | _ => none
def dDSet (mo mi me : Den) : Blk := fun δ => match me δ with
  | some (.own d, δ1) => match mo δ1 with
    | some (.at s [], δ2) => match mi δ2 with
      | some (.own k, δ3) => match δ3[s]? with
        | some (some (.dic ks vs)) => if famOk (k :: ks) && k.imm && d.imm && decide (ks.length < 1000000) then some (.nx (δ3.set s (some (.dic (putD ks vs k d).1 (putD ks vs k d).2)))) else none
        | _ => none
      | _ => none
    | _ => none
  | _ => none
theorem dDSet_inv {mo mi me : Den} {δ : DE} {out : Out} (h : dDSet mo mi me δ = some out) : ∃ d δ1 s δ2 k δ3 ks vs, me δ = some (.own d, δ1) ∧ mo δ1 = some (.at s [], δ2) ∧ mi δ2 = some (.own k, δ3) ∧ δ3[s]? = some (some (.dic ks vs)) ∧
    famOk (k :: ks) = true ∧ k.imm = true ∧ d.imm = true ∧ ks.length < 1000000 ∧ out = .nx (δ3.set s (some (.dic (putD ks vs k d).1 (putD ks vs k d).2))) := by
  unfold dDSet at h
  split at h
  · split at h
    · split at h
      · split at h
        · split at h
          · rename_i hc
            simp only [Bool.and_eq_true, decide_eq_true_eq] at hc
            exact ⟨_, _, _, _, _, _, _, _, by assumption, by assumption, by assumption, by assumption, hc.1.1.1, hc.1.1.2, hc.1.2, hc.2, (Option.some.inj h).symm⟩
          · cases h
        · cases h
      · cases h
    · cases h
  · cases h
def rDSet (X : Cx) : TSet := fun o i v H Q => ∃ a ks vs k d oa, o = .ref a ∧ Rep X.F H (.dic ks vs) (.ref a) oa ∧ Rep X.F H k i [] ∧ Rep X.F H d v [] ∧ famOk (k :: ks) = true ∧ ks.length < sizeLine ∧
  ∀ es, IsDic (DicP a es) → Rep X.F (upd H a (.ext (DicP a es))) (.dic (putD ks vs k d).1 (putD ks vs k d).2) (.ref a) [a] → Q (upd H a (.ext (DicP a es)))
section
variable {X : Cx}
theorem set_dic (hu : X.A.units + 65 < cLine) : PSet X (rDSet X) := by
  intro pins s σ H o i v ov iv u Q I ro ri rv h
  obtain ⟨a, ks, vs, k, d, oa, rfl, rd, rk, rdv, hf, hl, q⟩ := h
  cases (show ov = Value.ref a from ro)
  exact dic_set hu I rd rk ri rdv rv hf hl fun es s' I' hd r' => ⟨_, I', q es hd r'⟩
theorem z_dset {eo ei e : Expr} {qo qi q : Bool} {mo mi me : Den} {kp : Nat → Bool} {pos pos' : Pos} (hu : X.A.units + 65 < cLine) (he : PE X e (T (kx X) q me)) (ho : PE X eo (T (kx X) qo mo)) (hi : PE X ei (T (kx X) qi mi))
    (ha : ∀ v, assign (.Subscript eo ei pos') X.env v = (do
      let ov ← holding [v] (eval eo X.env)
      let iv ← holding [v, ov] (eval ei X.env)
      standAt pos'
      holding [v, ov, iv] (setItem ov iv v)
      release [v, ov, iv] []) := by intro _; rfl)
    (hs : swapsWithSole [.Subscript eo ei pos'] e pos.line X.env = pure false := by rfl) (hw : swappedStores [.Subscript eo ei pos'] e X.env = pure none := by rfl)
    (h1 : (assignEach [.Subscript eo ei pos'] X.env).map (·.2) = [assign (.Subscript eo ei pos') X.env] := by rfl) : PS X (.Assign [.Subscript eo ei pos'] e pos) (TSm (kx X) kp (dDSet mo mi me)) :=
  PS.imp (ps_asg he (pg_sub ho hi (set_dic hu) ha) hs hw h1) fun D' σ H ⟨δ, o, out, E, n, hm, f⟩ => by
    obtain ⟨d, δ1, s, δ2, k, δ3, ks, vs, g1, g2, g3, hd, hf, hki, hdi, hlen, rfl⟩ := dDSet_inv hm
    refine (Stk.start E).push n g1 (by simp [allShort]) fun y H1 S1 => ?_
    refine S1.push n g2 (by simp [allShort, R.short]) fun x H2 S2 => ?_
    refine S2.push n g3 (by simp [allShort, R.short]) fun w H3 S3 => ?_
    obtain ⟨o3, ov, s3, E3, ⟨w', vr, ow, ox1, e1, hw1, ⟨x', vr2, ox, oy1, e2, hx, ⟨y', vr3, oy, on, e3, hy, ⟨e4, e5⟩, e6⟩, e7⟩, e8⟩, w3⟩ := S3
    subst e5 e6 e7 e8 e4
    cases e3; cases e2; cases e1
    obtain ⟨hx0, u, hu1, hu2⟩ := hx
    have hu2 : x = u := hu2
    subst hx0 hu2
    have how : ow = [] := Rep.imm hw1 hki
    have hoy : oy = [] := Rep.imm hy hdi
    subst how hoy
    have w4 : Own H o o3 := by simpa using w3
    obtain ⟨v, oa, o1, ob, hv, rd, rfl, kr, _⟩ := E3.at hd
    rw [hu1] at hv; cases hv
    obtain ⟨a, kvs, vvs, es0, rfl, hq, hdd, hsm, hn, rks, rvs, en, rfl⟩ := id rd
    refine ⟨a, ks, vs, k, d, [a], rfl, rd, hw1, hy, hf, Nat.lt_trans hlen (by decide), fun es hes r' => ?_⟩
    have nd := w4.nd n
    have na : a ∉ oa ++ ob := fun hm => by
      have h1 := nd a
      have h2 := List.count_pos_iff.mpr hm
      simp only [List.count_append, List.count_cons_self] at h1 h2; omega
    have ow0 : Ow (.ext (DicP a es0)) := ow_dic hdd
    have hao : a ∈ oa ++ [a] ++ ob := by simp
    have fr : Fr (H3) (upd H3 a (.ext (DicP a es))) (oa ++ ob) := ⟨fun b hb => upd_ne fun e => na (e ▸ hb), fun b w e hw => by
      have : b ≠ a := fun z => by rw [z, hq] at e; cases e; exact hw hdd
      rw [upd_ne this]; exact e, (Step.writeO (W := [a]) hq ow0 List.mem_cons_self).tab⟩
    have E4 := kr _ _ [a] r' fr
    refine f σ _ _ ⟨⟨fun b u e hn2 hu3 => ?_, fun b e => ?_, fun P g => (Step.writeO (W := [a]) hq ow0 List.mem_cons_self).tab P (s3.tab P g)⟩, E4, w4, fun _ _ => rfl⟩
    · have e2 := s3.keep b u e (fun hm => hn2 (Wq_sub b hm)) hu3
      have : b ≠ a := fun z => by
        subst z
        rcases w4 b with w | ⟨w, _⟩
        · have h5 : 0 < (oa ++ [b] ++ ob).count b := List.count_pos_iff.mpr hao
          exact hn2 (List.count_pos_iff.mp (by omega))
        · rw [e] at w; cases w
      rw [upd_ne this]; exact e2
    · by_cases z : b = a
      · subst z; rw [upd_same] at e; cases e
      · rw [upd_ne z] at e; exact s3.dom b e
/-- an empty dict's object -/
theorem dic_new0 {P : Program} {w : World} {H : Hp} (h : Heap) : ObjOk P w H (h.push { cls := .type "dict", data := .dict #[] }) h.objs.size (.ext (DicP h.objs.size #[])) := by
  have e : (h.push { cls := .type "dict", data := .dict #[] }).get? h.objs.size = some { cls := .type "dict", data := .dict #[] } := Heap.get?_push_size _ rfl
  exact ⟨⟨_, _, e, ⟨rfl, rfl, rfl⟩, rfl⟩, ⟨_, e⟩, fun h1 h2 ⟨o1, ep1, e1, e2, e3⟩ k1 => ⟨o1, ep1, k1 _ e1, e2, e3⟩⟩
theorem dic_is0 (h : Heap) : IsDic (DicP h.objs.size #[]) := isDic_of (h := h.push { cls := .type "dict", data := .dict #[] }) ⟨_, _, Heap.get?_push_size _ rfl, ⟨rfl, rfl, rfl⟩, rfl⟩
theorem sys_ne {h : Heap} (hb : sysModules < h.objs.size) : (h.objs.size == sysModules) = false := beq_eq_false_iff_ne.mpr fun z => by
  have z : @Eq Nat h.objs.size sysModules := z
  have : @LT.lt Nat _ sysModules h.objs.size := hb
  omega
theorem dic_rep0 {K : Fw} {H : Hp} {h : Heap} (hb : sysModules < h.objs.size) : Rep K (upd H h.objs.size (.ext (DicP h.objs.size #[]))) (.dic [] []) (.ref h.objs.size) [h.objs.size] :=
  ⟨_, [], [], #[], rfl, upd_same, dic_is0 h, sys_ne hb, ⟨List.nodup_nil, Nat.zero_le _⟩, ⟨rfl, rfl⟩, ⟨rfl, rfl⟩, trivial, rfl⟩
theorem z_dnew {pos : Pos} : PE X (.Dict [] [] pos) (T (kx X) true dDNew) := ⟨fun pins s σ H Q I h => by
  obtain ⟨δ, o, r, δ', E, n, hm, k⟩ := h
  simp only [dDNew, Option.some.injEq, Prod.mk.injEq] at hm
  obtain ⟨rfl, rfl⟩ := hm
  have hp := I.hok.fresh (Nat.le_refl s.heap.objs.size)
  refine wpAny_Dict_empty ⟨.ref s.heap.objs.size, _, I.laid (a := s.heap.objs.size) (o := .ext (DicP s.heap.objs.size #[])) (t' := s.toks) (fun _ _ q => Heap.get?_push_of_some _ q) (Nat.le_refl _) (dic_new0 s.heap), rfl, ?_⟩
  refine k _ _ o [s.heap.objs.size] ⟨Step.of_same _ (new_same hp), E.same (new_same hp), dic_rep0 I.big, fun a => ?_⟩
  by_cases ha : a = s.heap.objs.size
  · subst ha
    have z : o.count s.heap.objs.size = 0 := List.count_eq_zero.mpr fun hm => E.dom _ hm hp
    exact .inr ⟨hp, by rw [List.singleton_append, List.count_cons_self, z]; omega⟩
  · rw [List.singleton_append, List.count_cons_of_ne (fun z => ha z.symm)]
    exact .inl (Nat.le_refl _)⟩
end
end Z


set_option Elab.async false
set_option linter.all false
set_option maxRecDepth 100000
/-! dicts: {k: v} -/
namespace Z
open PySem PySem.Spec PyProof.Rows L2
theorem dict_pairsX {prog : Program} {w : World} {K : Type} [DecidableEq K] {knd : HeapKind prog w K} {A : Around} {E : Value → Shared → Prop} {s : Shared} {env : Env} {keys : List (Option Expr)} {values : List Expr} {pos : Pos} {pairs : List (Sem Value × Sem Value)} {Q : Value → Shared → Prop} (hu : knd.room A)
    (hshape : (evalEachOpt keys env).zip ((evalEach values env).map fun v => do let x ← v; standAt pos; pure x) = pairs.map fun p => (some p.1, p.2)) (h0 : pairs ≠ []) (hlen : pairs.length ≤ 15)
    (h : wpAny (model prog w) A (evalPairs pairs) (fun vs s₁ => ∃ ps, CarriesH knd s₁.heap vs ps ∧ s₁.heap.DictOfH knd s.heap.objs.size [] ∧
      ∀ h' tk, h'.DictOfH knd s.heap.objs.size (storedAllH [] ps) → Heap.SameBut s.heap.objs.size s₁.heap h' → Q (.ref s.heap.objs.size) { s₁ with heap := h', toks := tk }) E
      { s with heap := s.heap.push { cls := .type "dict", data := .dict #[] } }) :
    wpAny (model prog w) A (eval (.Dict keys values pos) env) Q E s := by
  rw [arm_eval_Dict, hshape, dictDisplay_pairs pairs h0 (by omega)]
  exact wpAny_bind (wpAny_standAt (wpAny_bind (wpAny_subDictH (knd := knd) (Q := fun d s' => wpAny (model prog w) A (pure (Value.ref d)) Q E s') hu hlen
    (wpAny_mono h (fun vs s₁ h₁ => by obtain ⟨ps, hc, hm, hq⟩ := h₁; exact ⟨ps, hc, hm, fun h' tk a b => wpAny_pure (hq h' tk a b)⟩) fun _ _ e => e))))
theorem vv_one {x y : V} {ws : List (Value × Value)} (h : VV [(x, y)] ws) : ∃ u w, ws = [(u, w)] ∧ RelV x u ∧ RelV y w := by
  cases h with
  | @cons _ b _ _ r1 r2 =>
    cases r2
    exact ⟨b.1, b.2, rfl, r1.1, r1.2⟩
section
variable {X : Cx}
theorem z_disp1 {ek ev : Expr} {qk qv : Bool} {mk mv : Den} {pos : Pos} (hu : X.A.units + 65 < cLine) (hk : PE X ek (T (kx X) qk mk)) (hv : PE X ev (T (kx X) qv mv)) : PE X (.Dict [some ek] [ev] pos) (T (kx X) false (dDisp1 mk mv)) := ⟨fun pins s σ H Q I h => by
  obtain ⟨δ, o, r, δ', E, n, hm, kq⟩ := h
  unfold dDisp1 at hm
  split at hm
  case h_2 => cases hm
  rename_i k δ1 g1
  split at hm
  case h_2 => cases hm
  rename_i v δ2 g2
  split at hm
  case isFalse => cases hm
  rename_i hc
  simp only [Option.some.injEq, Prod.mk.injEq] at hm
  obtain ⟨rfl, rfl⟩ := hm
  simp only [Bool.and_eq_true] at hc
  obtain ⟨⟨hf, hki⟩, hvi⟩ := hc
  have hp := I.hok.fresh (Nat.le_refl s.heap.objs.size)
  have I1 := I.laid (a := s.heap.objs.size) (o := .ext (DicP s.heap.objs.size #[])) (h' := s.heap.push { cls := .type "dict", data := .dict #[] }) (t' := s.toks) (fun _ _ q => Heap.get?_push_of_some _ q) (Nat.le_refl _) (dic_new0 s.heap)
  generalize hpp : s.heap.objs.size = p at *
  have hpo : p ∉ o := fun hm => E.dom _ hm hp
  have sm := new_same (u := .ext (DicP p #[])) hp
  have hp1 : upd H p (.ext (DicP p #[])) p = some (.ext (DicP p #[])) := upd_same
  have owp : Ow (.ext (DicP p #[])) := ow_dic (by rw [← hpp]; exact dic_is0 s.heap)
  have run := (pps_cons (pos := pos) hk hv pps_nil).run pins _ σ _ (fun ps H3 => ∃ x y o3, ps = [(x, y)] ∧ Step (upd H p (.ext (DicP p #[]))) H3 o ∧ Envs (kx X) H3 σ δ2 o3 ∧ Own (upd H p (.ext (DicP p #[]))) o o3 ∧ Rep X.F H3 k x [] ∧ Rep X.F H3 v y []) I1
    ⟨δ, o, .own k, δ1, E.same sm, n, g1, fun x H2 o2 ov P2 => ⟨δ1, o2, .own v, δ2, P2.env, (own_right P2.own).nd n, g2, fun y H3 o3 ov3 P3 => by
      have h1 : ov = [] := Rep.imm P2.held hki
      have h2 : ov3 = [] := Rep.imm P3.held hvi
      subst h1 h2
      have s2 := P2.step.mono Wq_sub
      have w2 := own_right P2.own
      have s3 := P3.step.mono Wq_sub
      exact ⟨x, y, o3, rfl, s2.trans w2 s3, P3.env, w2.trans s2 (own_right P3.own), Rep.step P2.held s3 P2.env.ok (fun a ha => nomatch ha), P3.held⟩⟩⟩
  -- the end
  have fin : ∀ (s2 : Shared) (x y : V) (H3 : Hp) (o3 : List Addr) (h' : Heap) (tk : Nat) (es : Array DictEntry), Inv X pins σ H3 s2 → Step (upd H p (.ext (DicP p #[]))) H3 o → Envs (kx X) H3 σ δ2 o3 → Own (upd H p (.ext (DicP p #[]))) o o3 → Rep X.F H3 k x [] → Rep X.F H3 v y [] →
      DicP p es h' → Heap.SameBut p s2.heap h' → Ents X.w [k] [x] [y] es.toList → EP X pins σ Q (.ref p) { s2 with heap := h', toks := tk } := fun s2 x y H3 o3 h' tk es I3 st E3 w3 rk rv dp hsb en => by
    have hq3 := st.keep p _ hp1 hpo owp.2
    have hq' : ∃ q, h'.get? p = some q := by obtain ⟨o, ep, e, _⟩ := dp; exact ⟨o, e⟩
    have I4 := d_write (ob := .ext (DicP p es)) (t' := tk) I3 (by rw [hq3]; exact True.intro) hsb hq' ⟨dp, hq', fun h1 h2 ⟨o1, ep1, e1, e2, e3⟩ k1 => ⟨o1, ep1, k1 _ e1, e2, e3⟩⟩
    have hpn : p ∉ o3 := fun hm => by
      have h2 := List.count_pos_iff.mpr hm
      rcases w3 p with w | ⟨w, _⟩
      · exact hpo (List.count_pos_iff.mp (by omega))
      · rw [hp1] at w; cases w
    have fr : ∀ (l : List Addr), p ∉ l → Fr H3 (upd H3 p (.ext (DicP p es))) l := fun l hl => ⟨fun b hb => upd_ne fun e => hl (e ▸ hb), fun b w e hw => by
      have : b ≠ p := fun z => by rw [z, hq3] at e; cases e; exact owp.1 hw
      rw [upd_ne this]; exact e, (Step.writeO (W := [p]) hq3 owp List.mem_cons_self).tab⟩
    refine ⟨.ref p, _, I4, rfl, kq _ _ o3 [p] ⟨⟨fun b u e hn hu2 => ?_, fun b e => ?_, fun P g => (Step.writeO (W := [p]) hq3 owp List.mem_cons_self).tab P (st.tab P ((Step.of_same [] sm).tab P g))⟩, E3.fr (fr _ hpn), ⟨p, [x], [y], es, rfl, upd_same, isDic_of dp, by rw [← hpp]; exact sys_ne I.big, ⟨by simp, by simp; decide⟩, ?_, ?_, en, rfl⟩, fun a => ?_⟩⟩
    · have hb : b ≠ p := fun z => by rw [z, hp] at e; cases e
      rw [upd_ne hb]
      exact st.keep b u (sm b u e) (fun z => hn z) hu2
    · by_cases z : b = p
      · subst z; rw [upd_same] at e; cases e
      · rw [upd_ne z] at e; exact (Step.of_same [] sm).dom b (st.dom b e)
    · exact (Reps.one rk).fr (fr [] (by simp))
    · exact (Reps.one rv).fr (fr [] (by simp))
    · by_cases ha : a = p
      · subst ha
        rw [List.singleton_append, List.count_cons_self, List.count_eq_zero.mpr hpn]
        exact .inr ⟨hp, Nat.le_refl _⟩
      · rw [List.singleton_append, List.count_cons_of_ne (fun z => ha z.symm)]
        rcases w3 a with w | ⟨z, w⟩
        · exact .inl w
        · exact .inr ⟨(Step.of_same [] sm).dom a z, w⟩
  simp only [famOk, List.all_cons, List.all_nil, Bool.and_true, Bool.or_eq_true] at hf
  rcases hf with hf | hf
  · refine dict_pairsX (knd := nestedKind X.prog X.w) (pairs := pairTrees [some ek] [ev] X.env pos) (by show X.A.units + 8 < cLine; omega) (zip_pairTrees _ _ _ _ rfl rfl) (by rw [ne_eq, ← List.length_eq_zero_iff, pairTrees_length _ _ _ _ rfl rfl]; simp) (by rw [pairTrees_length _ _ _ _ rfl rfl]; simp) ?_
    rw [hpp]
    refine thn run fun ws s2 ⟨ps, H3, I3, rel, x, y, o3, e, st, E3, w3, rk, rv⟩ => ?_
    subst e
    obtain ⟨u, w, rfl, ru, rw'⟩ := vv_one rel
    obtain ⟨b, e1, e2, nk⟩ := key_heap I3 hf rk ru
    have e1 : x = .ref b := e1
    have e2 : u = .ref b := e2
    subst e1 e2
    have hq3 := st.keep p _ hp1 hpo owp.2
    obtain ⟨ob, ep, f1, f2, f3⟩ := (I3.hok p _ hq3).1
    refine ⟨[(dNK k, b, w)], ⟨rfl, rfl, nk, trivial⟩, ⟨ob, #[], ep, f1, f2, f3, rfl, (fun x hx => nomatch hx), List.nodup_nil⟩, fun h' tk dd hsb => ?_⟩
    have e7 : storedAllH ([] : List (NestedKey × Addr × Value)) [(dNK k, b, w)] = [(dNK k, b, w)] := rfl
    rw [e7] at dd
    obtain ⟨ob', es', ep', g1, g2, g3, g4, _⟩ := dd
    exact fin s2 (.ref b) y H3 o3 h' tk es' I3 st E3 w3 rk rv ⟨ob', ep', g1, g2, g3⟩ hsb (by rw [g4]; exact ents_ofH (ks := [k]) (xs := [(dNK k, b, w)]) rfl (.cons rw' .nil))
  · refine wpAny_Dict_walk (knd := mixKind X.prog X.w) rfl rfl (by simp) (by simp) ?_
    rw [hpp]
    refine thn run fun ws s2 ⟨ps, H3, I3, rel, x, y, o3, e, st, E3, w3, rk, rv⟩ => ?_
    subst e
    obtain ⟨u, w, rfl, ru, rw'⟩ := vv_one rel
    obtain ⟨e1, ku⟩ := key_val (X := X) hf rk ru
    have e1 : x = kV (kA k) := e1
    subst e1
    have hq3 := st.keep p _ hp1 hpo owp.2
    obtain ⟨ob, ep, f1, f2, f3⟩ := (I3.hok p _ hq3).1
    refine ⟨[(kA k, w)], ?_, ⟨ob, #[], ep, f1, f2, f3, (fun e he => by simp at he), .nil, List.nodup_nil⟩, fun h' dd hsb => ?_⟩
    · exact ⟨ku, rfl, trivial⟩
    have e7 : merged ([] : List (L2.Key × Value)) [(kA k, w)] = [(kA k, w)] := rfl
    rw [e7] at dd
    obtain ⟨ob', es', ep', g1, g2, g3, g4, g5, _⟩ := dd
    exact fin s2 (kV (kA k)) y H3 o3 h' _ es' I3 st E3 w3 rk rv ⟨ob', ep', g1, g2, g3⟩ hsb (ents_ofA (ks := [k]) (ps := [(kA k, w)]) (fun e he => g4 e (by simpa using he)) g5 rfl (by simp [hf]) (.cons rw' .nil))⟩
end
end Z


set_option Elab.async false
set_option linter.all false
set_option maxRecDepth 100000
/-! dicts: sorted(d) -/
namespace Z
open PySem PySem.Spec PyProof.Rows L2
theorem kdl_raw {prog : Program} {w : World} {d : Addr} {es : Array DictEntry} {ep : Nat} (lo : (d == sysModules) = false) : PySem.W.KdlSrc prog w "dict" d d es.size (fun i v => ∃ hi : i < es.size, v = es[i].key) (fun h => h.DictRaw d es ep) where
  type := fun _ hm => hm.typeIs
  there := fun _ hm => by obtain ⟨o, ho, _⟩ := hm; exact ⟨Heap.lt_size ho, Heap.lt_size ho⟩
  keep := fun _ _ hm hk => hm.at fun o e => hk d (.inl rfl) o e
  notList := by decide
  notTuple := by decide
  hint := fun _ _ _ _ hm hq => PySem.W.kdl_hint_dict hm.typeIs hq
  iter := fun _ _ hh hm => ⟨_, _, (fun _ _ hq => wpAny_pyIter_dict_raw lo hm hq), Walks.rawKeys hh _ d (by obtain ⟨o, ho, _⟩ := hm; exact Nat.ne_of_lt (Heap.lt_size ho)) es ep, ⟨⟨_, Heap.get?_push_size _ rfl, rfl, rfl⟩, hm.at fun o e => Heap.get?_push_of_some _ e⟩⟩
section
variable {X : Cx}
theorem keys_list {es : Array DictEntry} {acc : Array Value} (h : ItemsOf (fun i v => ∃ hi : i < es.size, v = es[i].key) acc es.size) : acc.toList = es.toList.map (·.key) := by
  apply List.ext_getElem?
  intro i
  rw [List.getElem?_map, Array.getElem?_toList, Array.getElem?_toList]
  cases e : acc[i]? with
  | none =>
    have : es.size ≤ i := by rw [← h.1]; exact Array.getElem?_eq_none_iff.mp e
    rw [Array.getElem?_eq_none this]; rfl
  | some v =>
    obtain ⟨hi, rfl⟩ := h.2 i v e
    rw [Array.getElem?_eq_getElem hi]; rfl
end
theorem z_defF {P : Program} {w : World} {K : PySem.W.Frag} {mg : Str → Option Value} {base : Heap} {qual : Str} {params : Arguments} {body : List Stmt} {scope : Scope} {f : Addr} {fd : FuncData} {N ps : List Str} {k : Nat} {kp : Nat → Bool} {m : Blk} (F : FunZ K qual params body scope f fd) (S : FnScope N ps scope)
    (hb : ∀ (cc : Addr) (A : Around) (outer : List Env) (s : Shared) (H : Hp) (E : XK), Room k (A.deeper (envOfC qual scope s.heap.objs.size f (.ref cc))) → PSs (cxOf CX0 P w K mg base N qual scope f (.ref cc) A outer s H E).nox body (TSm ⟨⟨K, w⟩, .ref cc⟩ kp m)) :
    FnOk P w K mg base CX0 (k + 1) f fd ps (spD ⟨K, w⟩ (dFn N.length ps.length kp m)) := z_def (K := ⟨K, w⟩) F S hb
end Z


set_option Elab.async false
set_option linter.all false
set_option maxRecDepth 100000
set_option maxHeartbeats 4000000
/-! row * number -/
namespace Z
open PySem PySem.Spec PyProof.Rows L2
section
variable {X : Cx}
end
end Z


set_option Elab.async false
set_option linter.all false
set_option maxRecDepth 100000
/-! list.count of data -/
namespace Z
open PySem PySem.Spec PyProof.Rows L2
section
variable {X : Cx} {eo e : Expr} {qo qe : Bool} {mo : Den} {ma : DE → Option (List R × DE)} {apos cpos : Pos}
end
end Z


set_option Elab.async false
set_option linter.all false
set_option maxRecDepth 100000
/-! a new list that nobody will change -/
namespace Z
open PySem PySem.Spec PyProof.Rows L2
section
variable {X : Cx} {e : Expr} {q : Bool} {m : Den}
end
end Z


set_option Elab.async false
set_option linter.all false
set_option maxRecDepth 100000
set_option maxHeartbeats 4000000
/-! lists of both kinds, one behind the other; not of any value -/
namespace Z
open PySem PySem.Spec PyProof.Rows L2
section
variable {X : Cx}
end
section
variable {X : Cx} {a : Expr} {q : Bool} {m : Den} {pos : Pos}
end
end Z


set_option Elab.async false
set_option linter.all false
set_option maxRecDepth 100000
/-! list(range(n)) -/
namespace Z
open PySem PySem.Spec PyProof.Rows L2
section
variable {X : Cx} {a : Expr} {q : Bool} {m : Den} {p p2 pos pos2 : Pos}
end
end Z


set_option Elab.async false
set_option linter.all false
set_option maxRecDepth 100000
/-! a statement that is not reached; and, or by the truth of values -/
namespace Z
open PySem PySem.Spec PyProof.Rows L2
section
variable {X : Cx} {a b c : Expr} {rest : List Expr} {q qa qb qc : Bool} {m ma' mb' : Den} {pos : Pos}
end
end Z


set_option Elab.async false
set_option linter.all false
set_option maxRecDepth 100000
/-! min, max of a generator expression that hands out data of one kind -/
namespace Z
open PySem PySem.Spec PyProof.Rows L2

section
variable {X : Cx} {pins : List (Addr × Obj)} {σ : L2.St} {δ : DE} {o : List Addr} {Hx : Hp} {A : Around} {a : Addr}
end
section
variable {X : Cx} {k : Nat}
end

section
variable {X : Cx} {pins : List (Addr × Obj)} {σ : L2.St} {δ : DE} {o : List Addr} {Hx : Hp} {A : Around} {a : Addr}
end
section
variable {X : Cx} {k : Nat}
end
end Z


set_option Elab.async false
set_option linter.all false
set_option maxRecDepth 100000
/-! list.remove of data -/
namespace Z
open PySem PySem.Spec PyProof.Rows L2
section
variable {X : Cx} {eo e : Expr} {qo qe : Bool} {mo : Den} {ma : DE → Option (List R × DE)} {apos cpos : Pos}
end
end Z


set_option Elab.async false
set_option linter.all false
set_option maxRecDepth 100000
/-! names at the top that stand for a text or a number -/
namespace Z
open PySem PySem.Spec PyProof.Rows L2
section
variable {X : Cx} {x z : Str} {i : Int} {pos : Pos}
end
end Z


set_option Elab.async false
set_option linter.all false
set_option maxRecDepth 100000
/-! ranges that go down by one -/
namespace Z
open PySem PySem.Spec PyProof.Rows L2
section
variable {X : Cx} {tg a b c : Expr} {q : Bool} {m : DE → Option (List R × DE)} {p pos : Pos}
end
end Z


set_option Elab.async false
set_option linter.all false
set_option maxRecDepth 100000
/-! ''.join of a list of texts -/
namespace Z
open PySem PySem.Spec PyProof.Rows L2
def strsD : List D → Option (List Str)
  | [] => some []
  | .str x :: xs => match strsD xs with
    | some ys => some (x :: ys)
    | none => none
  | _ => none
def joinZ (s : Str) (ys : List Str) : Str := Str.join s ys
def fJoin (s : Str) : List D → Option D
  | [d] => match itemsD d with
    | some xs => match strsD xs with
      | some ys => if (ys.map (·.length)).sum + ys.length * s.length ≤ 1000000 then some (.str (joinZ s ys)) else none
      | none => none
    | none => none
  | _ => none
theorem reps_strs {K : Fw} {H : Hp} : ∀ {xs : List D} {ys : List Str} {vs : List V} {o : List Addr}, strsD xs = some ys → Reps K H xs vs o → vs = ys.map V.str ∧ ∀ y ∈ ys, PyData.strOk y = true
  | [], ys, vs, o, h, r => by
    cases (Option.some.inj h : [] = ys)
    exact ⟨r.1, fun y hy => nomatch hy⟩
  | x :: xs, ys, vs, o, h, r => by
    obtain ⟨v, vr, o1, o2, rfl, h1, h2, _⟩ := r
    cases x <;> simp only [strsD, reduceCtorEq] at h
    rename_i x
    cases e : strsD xs with
    | none => rw [e] at h; cases h
    | some zs =>
      rw [e] at h
      cases (Option.some.inj h : x :: zs = ys)
      obtain ⟨rfl, g2⟩ := reps_strs e h2
      obtain ⟨rfl, hs, _⟩ := h1
      refine ⟨rfl, fun y hy => ?_⟩
      rcases List.mem_cons.mp hy with rfl | hy
      · exact hs.2
      · exact g2 y hy
theorem items_of_d {K : Fw} {H : Hp} {d : D} {xs : List D} {v : V} {o : List Addr} (h : itemsD d = some xs) (r : Rep K H d v o) : ∃ a vs o', v = .ref a ∧ (SqL K H a vs ∨ SqT K H a vs) ∧ Reps K H xs vs o' := by
  cases d <;> simp only [itemsD, reduceCtorEq, Option.some.injEq] at h
  · subst h
    obtain ⟨a, vs, e, q, rs⟩ := r
    exact ⟨a, vs, o, e, .inr q, rs⟩
  · subst h
    obtain ⟨a, vs, o', e, q, rs⟩ := Rep.listAt r
    exact ⟨a, vs, o', e, .inl q, rs⟩
  · subst h
    obtain ⟨a, vs, e, q, rs⟩ := Rep.frzAt r
    exact ⟨a, vs, [], e, .inl q, rs⟩
theorem join_strOk {s : Str} {ys : List Str} (hs : PyData.strOk s = true) (h : ∀ y ∈ ys, PyData.strOk y = true) : PyData.strOk (Str.join s ys) = true := by
  unfold PyData.strOk at hs h ⊢
  rw [Array.all_eq_true_iff_forall_mem] at hs ⊢
  intro c hc
  rcases (PyProof.Rows.mem_join s c ys).mp (Array.mem_toList_iff.mpr hc) with ⟨t, ht, hct⟩ | ⟨_, hct⟩
  · have := h t ht
    rw [Array.all_eq_true_iff_forall_mem] at this
    exact this c (Array.mem_toList_iff.mp hct)
  · exact hs c (Array.mem_toList_iff.mp hct)
section
variable {X : Cx} {e : Expr} {q : Bool} {m : Den} {s : Str} {j : Option Str} {p2 apos pos : Pos}
theorem z_join {jj} (he : PE X e (T (kx X) q m)) (hx : PyData.strOk s = true := by decide +kernel) (hs : starEach [e] X.env = [(false, eval e X.env)] := by rfl)
    (hbase : attributeBase (.Constant (.str s) jj p2) "join" X.env (eval (.Constant (.str s) jj p2) X.env) = eval (.Constant (.str s) jj p2) X.env := by rfl) (hline : (apos.endLine == pos.line) = true := by rfl) :
    PE X (.Call (.Attribute (.Constant (.str s) jj p2) "join" apos) [e] [] pos) (T (kx X) (q && true) (dCall (fJoin s) (dACons true m dANil))) :=
  PE.imp (pe_join pe_str he hs hbase hline) fun σ H Q h => by
    refine ⟨⟨s, rfl⟩, ?_⟩
    obtain ⟨δ, o, r, δ', E, n, hm, k⟩ := t_call h
    simp only [dACons, dANil] at hm
    cases h1 : m δ with
    | none => rw [h1] at hm; simp at hm
    | some p1 =>
      obtain ⟨x, δ1⟩ := p1
      rw [h1] at hm
      simp only [Bool.or_true, if_true, Option.some.injEq, Prod.mk.injEq] at hm
      obtain ⟨rfl, rfl⟩ := hm
      rw [Bool.and_true] at k
      refine ⟨δ, o, x, δ1, E, n, h1, fun v H1 o1 ov1 P1 => ?_⟩
      obtain ⟨ds, o2, d, rp, hf, k2⟩ := k [v] H1 o1 (ov1 ++ []) P1.step P1.env ⟨v, [], ov1, [], rfl, P1.held, ⟨rfl, rfl⟩, rfl⟩ (by rw [List.append_nil]; exact P1.own)
      cases ds with
      | nil => simp [fJoin] at hf
      | cons d0 dr =>
        obtain ⟨v', vr, oa, ob, ev, ra, rb, _⟩ := rp
        cases dr with
        | cons _ _ => simp [fJoin] at hf
        | nil =>
          obtain ⟨rfl, _⟩ := rb
          cases ev
          simp only [fJoin] at hf
          cases hi : itemsD d0 with
          | none => rw [hi] at hf; simp at hf
          | some xs =>
            rw [hi] at hf; dsimp only at hf
            cases hy : strsD xs with
            | none => rw [hy] at hf; simp at hf
            | some ys =>
              rw [hy] at hf; dsimp only at hf
              split at hf
              · rename_i hz
                cases hf
                obtain ⟨a, vs, o', rfl, hq, rs⟩ := items_of_d hi ra
                obtain ⟨rfl, hok⟩ := reps_strs hy rs
                have hjl := PySem.StrLaws.join_length_le s ys
                refine ⟨s, a, ys, rfl, rfl, hq, Nat.le_trans hz (by decide), ?_⟩
                show Q (.str (PySem.Txt.join s ys)) H1
                have ej : PySem.Txt.join s ys = joinZ s ys := PySem.StrLaws.glued_eq_join s ys
                rw [ej]
                exact k2 (.str (joinZ s ys)) H1 [] (fun _ _ e => e) ⟨rfl, ⟨Nat.le_trans (Nat.le_trans hjl hz) (by decide), join_strOk hx hok⟩, rfl⟩ (fun a => ⟨by simp, fun h => by simp at h⟩)
              · cases hf
end
end Z


set_option Elab.async false
set_option linter.all false
set_option maxRecDepth 100000
/-! index, count of texts -/
namespace Z
open PySem PySem.Spec PyProof.Rows L2
def dSM (f : Str → Str → Option D) (mo me : Den) : Den := fun δ => match mo δ with
  | some (.own (.str a), δ1) => match me δ1 with
    | some (.own (.str b), δ2) => match f a b with
      | some d => some (.own d, δ2)
      | none => none
    | _ => none
  | _ => none
section
variable {X : Cx} {eo e : Expr} {qo qe : Bool} {mo me : Den} {f : Str → Str → Option D}
theorem t_sm {σ : L2.St} {H : Hp} {Q : VK} {r : V → List V → Hp → VK → Prop} (hr : ∀ a b d H (Q : VK), f a b = some d → (∀ v, Rep X.F H d v [] → Q v H) → r (.str a) [.str b] H Q) (h : T (kx X) (qo && (qe && true)) (dSM f mo me) σ H Q) :
    tM1 r (T (kx X) qo mo) (T (kx X) qe me) σ H Q := by
  obtain ⟨δ, o, rr, δ', E, n, hm, k⟩ := h
  simp only [dSM] at hm
  cases h1 : mo δ with
  | none => rw [h1] at hm; simp at hm
  | some p1 =>
    obtain ⟨x, δ1⟩ := p1
    rw [h1] at hm
    cases x with
    | «at» i w => simp at hm
    | own dx =>
      cases dx <;> simp only [reduceCtorEq] at hm
      rename_i a
      cases h2 : me δ1 with
      | none => rw [h2] at hm; simp at hm
      | some p2 =>
        obtain ⟨y, δ2⟩ := p2
        rw [h2] at hm
        cases y with
        | «at» i w => simp at hm
        | own dy =>
          cases dy <;> simp only [reduceCtorEq] at hm
          rename_i b
          cases h3 : f a b with
          | none => rw [h3] at hm; simp at hm
          | some d =>
            rw [h3] at hm
            simp only [Option.some.injEq, Prod.mk.injEq] at hm
            obtain ⟨rfl, rfl⟩ := hm
            refine ⟨δ, o, _, δ1, E, n, h1, fun v H1 o1 ov1 P1 => ?_⟩
            obtain ⟨rfl, hs1, rfl⟩ := P1.held
            refine ⟨⟨a, rfl⟩, δ1, o1, _, δ2, P1.env, nd_of P1.own n, h2, fun w H2 o2 ov2 P2 => ?_⟩
            obtain ⟨rfl, hs2, rfl⟩ := P2.held
            have s := P1.step.seq (own_right P1.own) P2.step
            rw [Bool.and_true] at k
            refine hr a b d H2 Q h3 fun v rv => k v H2 o2 [] ⟨s, P2.env, rv, ?_⟩
            have := own_app P1.own P1.step (fun a ha => nomatch ha) P2.own
            simpa using this
/-- where a text stands first in another -/
def fSIdx (a b : Str) : Option D := match Builtin.Str.occurrences a b 0 a.length 1 with
  | i :: _ => some (.int (i : Nat))
  | [] => none
theorem z_sindex {apos pos : Pos} (ho : PE X eo (T (kx X) qo mo)) (he : PE X e (T (kx X) qe me)) (hs : starEach [e] X.env = [(false, eval e X.env)] := by rfl)
    (hbase : attributeBase eo "index" X.env (eval eo X.env) = eval eo X.env := by rfl) (hline : (apos.endLine == pos.line) = true := by rfl) :
    PE X (.Call (.Attribute eo "index" apos) [e] [] pos) (T (kx X) (qo && (qe && true)) (dSM fSIdx mo me)) :=
  PE.imp (pe_m1 PySem.F.slot_str_index PySem.F.type_str_index mt_sindex ho he hs hbase hline) fun σ H Q h => t_sm (fun a b d H Q hf k => by
    unfold fSIdx at hf
    split at hf
    · rename_i i rest e
      cases hf
      exact ⟨a, b, i, rest, rfl, rfl, e, k _ ⟨rfl, rfl⟩⟩
    · cases hf) h
end
end Z


set_option Elab.async false
set_option linter.all false
set_option maxRecDepth 100000
/-! enumerate of a text -/
namespace Z
open PySem PySem.Spec PyProof.Rows L2
def IteS (x : Str) : It :=
  ⟨fun i H => ∃ c, x.cps[i]? = some c, fun i H v H' => ∃ T c, v = .ref T ∧ H T = none ∧ H' = upd H T (.tup [.int (i : Nat), .str ⟨#[c]⟩]) ∧ x.cps[i]? = some c, fun i H => x.cps.size ≤ i⟩
theorem drawsEnd_t {P : Program} {w : World} {A : Around} (hh : A.handled = none) (it : Addr) (x : Str) (t : Tok) (i : Nat) (hi : x.cps.size ≤ i) :
    Draws P w A it [it] i (fun _ _ => True) (fun j h => j = i ∧ h.IsStrIter it (strIterType x) x t i) where
  live := fun j h st => let ⟨o, ho, _⟩ := st.2; ⟨o, ho⟩
  frame := fun j h h' st hk => let ⟨o, ho, r⟩ := st.2; ⟨st.1, o, hk it (by simp) o ho, r⟩
  item := fun j s Q E hj st hQ => absurd st.1 (by omega)
  done := fun s Q E st hE => by
    have h2 := st.2
    cases ha : x.cps.all (· < 128)
    · simp only [strIterType, ha, Bool.false_eq_true, if_false] at h2
      exact wpAny_nextOf_wide_end hh h2 (by simpa using hi) hE
    · simp only [strIterType, ha, if_true] at h2
      exact wpAny_nextOf_ascii_end hh h2 (by simpa using hi) hE
theorem turn_enumS {P : Program} {w : World} {K : PySem.W.Frag} {elts : List Expr} {kk : Nat} {tpos : Pos} (x : Str) (t : Tok) (e it : Addr) (hei : e ≠ it) :
    Turn P w K (.Tuple elts kk tpos) (IteS x) [e, it] e (fun i h => (∃ old, IsEnum h e it ((i : Nat) : Int) old) ∧ h.IsStrIter it (strIterType x) x t i) where
  mem := by simp
  obj := fun i h st c hc => by
    obtain ⟨⟨old, he⟩, o, ho, _, hd⟩ := st
    have e' : c = e ∨ c = it := by simpa using hc
    rcases e' with z | z
    · rw [z]; exact ⟨_, he, fun v q => nomatch q⟩
    · rw [z]; exact ⟨o, ho, fun v q => by rw [hd] at q; cases q⟩
  keep := fun i h h' st k => let ⟨⟨old, he⟩, o, ho, r⟩ := st; ⟨⟨old, k e (by simp) _ he⟩, o, k it (by simp) o ho, r⟩
  item := by
    intro X hP hw hK hc i pins s σ H E I hf st hg
    subst hP hw hK
    obtain ⟨⟨old, he⟩, hit⟩ := st
    obtain ⟨c, hx⟩ := hg
    have hlt : i < x.cps.size := (Array.getElem?_eq_some_iff.mp hx).1
    have G := GoesN.enumFrom (elts := elts) (x1 := kk) (pos := tpos) 0 (Draws.text (prog := X.prog) (w := X.w) (A := X.A.in1) (show X.A.in1.handled = none from I.ok.hd hc) it x t) e hei (by simp [hei]) (by simp)
    refine G.goes i s _ E hlt ⟨⟨old, by rw [Int.zero_add]; exact he⟩, hit⟩ fun v h' tk ⟨T, t0, y, ev, hT, ⟨c', u, hc', hy⟩, hIs⟩ st' hk htk => ?_
    subst ev
    rw [hx] at hc'
    obtain rfl := Option.some.inj hc'
    subst hy
    obtain ⟨⟨old', he'⟩, hit'⟩ := st'
    obtain ⟨o, ho, hcl, n, hd⟩ := hIs
    have new : ObjOk X.prog X.w (upd H T (.tup [.int (i : Nat), .str ⟨#[c]⟩])) h' T (.tup [.int (i : Nat), .str ⟨#[c]⟩]) :=
      ⟨by show 2 ≤ sizeLine; decide, [.int (0 + (i : Int)) t0, .str ⟨#[c]⟩ u], .cons ⟨t0, by rw [Int.zero_add]⟩ (.cons ⟨u, rfl⟩ .nil), ⟨o, ho, hcl, n, hd⟩⟩
    have I1 : Inv X pins σ (upd H T (.tup [.int (i : Nat), .str ⟨#[c]⟩])) { s with heap := h', toks := tk } := I.turnedNew (ch := [e, it]) hk hf hT new
    refine ⟨.ref T, _, I1, rfl, ⟨T, c, rfl, I.hok.fresh hT, rfl, hx⟩, ⟨⟨old', ?_⟩, hit'⟩, fun b hb => ?_⟩
    · have e1 : (0 : Int) + ((i + 1 : Nat) : Int) = ((i + 1 : Nat) : Int) := by omega
      rw [e1] at he'; exact he'
    · have hb' : b < s.heap.objs.size := by
        have e' : b = e ∨ b = it := by simpa using hb
        rcases e' with z | z
        · rw [z]; exact Heap.lt_size he
        · rw [z]; obtain ⟨o, q, _⟩ := hit; exact Heap.lt_size q
      rw [upd_ne (Nat.ne_of_lt (Nat.lt_of_lt_of_le hb' hT))]
      exact (hf b hb).1
  done := by
    intro X hP hw hK hc i pins s σ H E I hf st hg
    subst hP hw hK
    obtain ⟨⟨old, he⟩, hit⟩ := st
    have D := drawsEnd_t (P := X.prog) (w := X.w) (A := X.A.in1) (show X.A.in1.handled = none from I.ok.hd hc) it x t i hg
    exact wpAny_pyNext_enum_endD D he ⟨rfl, hit⟩ fun h' hk => ⟨rfl, I.turnedL (t' := s.toks) (ch := [e, it]) (fun c o hc y => hk c o (fun z => hc (by simp [z])) y) hf⟩
  self := fun A i s Q E st h => let ⟨⟨_, he⟩, _⟩ := st; wpAny_pyIter_enum he h
def iEnumS (ta : TA) : TI := fun σ H R => ta σ H fun vs H1 => ∃ x, vs = [.str x] ∧ R (IteS x) H1
def sEnumS (m : Den) : DenS := fun δ => match m δ with
  | some (.own (.str x), δ') => some (⟨enumD 0 (chars x), []⟩, δ')
  | _ => none
section
variable {X : Cx} {e l : Expr} {ta : TA} {p pos tpos : Pos} {elts : List Expr} {kk : Nat} {q : Bool} {ml : Den}
theorem pi_enumS (hg : Gl X "enumerate") (hm : X.mg "enumerate" = none) (ha : PA X [e] ta) (hs : starEach [e] X.env = [(false, eval e X.env)] := by rfl) :
    PI X (.Tuple elts kk tpos) (.Call (.Name "enumerate" p) [e] [] pos) (iEnumS ta) := by
  refine ⟨fun pins s σ H R I h => ?_⟩
  refine Call_ (ld_blt I hg hm boot_enumerate (PyProof.Rows.callWith_type1 (thn (ha.run pos pins s σ H _ I h) fun us s1 ⟨vs, H1, I1, r1, q1⟩ => ?_) hs rfl))
  obtain ⟨x, ex, q⟩ := q1
  subst ex
  cases r1 with
  | cons r rr =>
    cases rr
    obtain ⟨t, rfl⟩ := r
    refine call_enumerate_str fun h' he hit hsz hk => wpAny_pyIter_enum he ?_
    have I2 : Inv X pins σ H1 { s1 with heap := h' } := I1.kept (t' := s1.toks) hk
    refine ⟨s1.heap.objs.size + 1, [s1.heap.objs.size + 1, s1.heap.objs.size], _, _, H1, rfl, I2, turn_enumS x t (s1.heap.objs.size + 1) s1.heap.objs.size (Nat.succ_ne_self _), ⟨⟨.none, he⟩, hit⟩, fun c hc => ?_, q⟩
    have e' : c = s1.heap.objs.size + 1 ∨ c = s1.heap.objs.size := by simpa using hc
    have hle : s1.heap.objs.size ≤ c := by
      rcases e' with z | z
      · rw [z]; exact Nat.le_add_right _ _
      · rw [z]; exact Nat.le_refl _
    exact I1.fpOk hle (I1.hok.fresh hle)
theorem src_enumS {K : Fw} {σ : L2.St} {H : Hp} {ov : List Addr} {x : Str} (hz : PyData.strOk x = true) : SrcOk K σ ⟨enumD 0 (chars x), []⟩ (IteS x) H ov := fun i H' h1 h2 h3 => by
  refine ⟨fun y hy => ?_, fun hl => by simpa [enumD_len, chars, IteS] using hl⟩
  rw [enumD_get] at hy
  unfold chars at hy
  rw [List.getElem?_map, Array.getElem?_toList] at hy
  cases hc : x.cps[i]? with
  | none => rw [hc] at hy; simp at hy
  | some c =>
    rw [hc] at hy
    simp only [Option.map_some, Option.some.injEq, Nat.zero_add] at hy
    subst hy
    refine ⟨⟨c, hc⟩, fun w H'' hw => ?_⟩
    obtain ⟨T, c', rfl, hT, rfl, hx⟩ := hw
    rw [hc] at hx; cases hx
    have keep : ∀ b u, H' b = some u → upd H' T (.tup [.int (i : Nat), .str ⟨#[c]⟩]) b = some u := fun b u e => by
      rw [upd_ne (ne_of_none e hT)]; exact e
    exact ⟨keep, T, [.int (i : Nat), .str ⟨#[c]⟩], rfl, .inl (.inl upd_same), .int (i : Nat), [.str ⟨#[c]⟩], [], [], rfl, ⟨rfl, rfl⟩, ⟨.str ⟨#[c]⟩, [], [], [], rfl, ⟨rfl, ⟨by show 1 ≤ sizeLine; decide, strOk_of (l := [c]) fun d hd => by rw [List.mem_singleton.mp hd]; exact strOk_mem hz (Array.mem_toList_iff.mpr (Array.mem_of_getElem? hc))⟩, rfl⟩, ⟨rfl, rfl⟩, rfl⟩, rfl⟩
theorem z_enumS (hg : Gl X "enumerate") (hm : X.mg "enumerate" = none) (hl : PE X l (T (kx X) q ml)) (hs : starEach [l] X.env = [(false, eval l X.env)] := by rfl) (hs1 : starEach [l] X.env = (false, eval l X.env) :: starEach [] X.env := by rfl) :
    PI X (.Tuple elts kk tpos) (.Call (.Name "enumerate" p) [l] [] pos) (TIm (kx X) q (sEnumS ml)) := ⟨fun pins s σ H R I hw => by
  obtain ⟨δ, o, src, δ', E, n, h, k⟩ := hw
  unfold sEnumS at h
  split at h
  · rename_i x δ1 e
    simp only [Option.some.injEq, Prod.mk.injEq] at h
    obtain ⟨rfl, rfl⟩ := h
    refine (PI.ok (pi_enumS hg hm (pa_cons hl pa_nil hs1) hs)).run pins s σ H R I ⟨δ, o, _, δ1, E, n, e, fun v H1 o1 ov P => ?_⟩
    obtain ⟨rfl, hz, rfl⟩ := P.held
    exact ⟨x, rfl, fun _ => k _ H1 o1 [] P.step P.env P.own (fun a ha => nomatch ha) (src_enumS hz.2) (by rw [enumD_len]; simpa [chars, Str.length] using hz.1)⟩
  · cases h⟩
end
end Z


set_option Elab.async false
set_option linter.all false
set_option maxRecDepth 100000
/-! ''.join of a generator expression -/
namespace Z
open PySem PySem.Spec PyProof.Rows L2
open PySem.Builtin PySem.Builtin.Str
section
variable {X : Cx} {pins : List (Addr × Obj)} {σ : L2.St} {δ : DE} {o : List Addr} {Hx : Hp} {A : Around} {a : Addr}
end
section
variable {X : Cx} {k : Nat}
end
end Z


set_option Elab.async false
set_option linter.all false
set_option maxRecDepth 100000
/-! x += a text -/
namespace Z
open PySem PySem.Spec PyProof.Rows L2
def dAugS (i : Nat) (m : Den) : Blk := fun δ => match δ[i]? with
  | some (some (.str a)) => match m δ with
    | some (.own (.str b), δ1) => if i < δ1.length ∧ a.length + b.length ≤ 1000000 then some (.nx (δ1.set i (some (.str (a ++ b))))) else none
    | _ => none
  | _ => none
def ipS : TIp := fun x y H Q => ∃ i j, x = .str i ∧ y = .str j ∧ i.length + j.length ≤ sizeLine ∧ Q (.str (i ++ j)) H
section
variable {X : Cx} {kp : Nat → Bool} {e : Expr} {q : Bool} {m : Den} {pos : Pos}
theorem ip_addS : PIp X .Add ipS := fun pins s σ H x y v u Q I r1 r2 h => iop_add_str pins s σ H x y v u Q I r1 r2 h
theorem z_augS {i : Nat} {x : Str} {pos' : Pos} (hN : X.N.Nodup) (hi : X.N[i]? = some x) (hx : Loc X.env.scope x) (hk : kp i = false) (he : PE X e (T (kx X) q m)) (hf : X.fn x = true ∨ X.env.scope.names.lookup x = some .local := by first | exact .inl rfl | exact .inr rfl | assumption) :
    PS X (.AugAssign (.Name x pos') .Add e pos) (TSm (kx X) kp (dAugS i m)) :=
  PS.imp (ps_aug hN hi hx he ip_addS hf) fun D' σ H ⟨δ, o, out, E, n, hm, f⟩ => by
    simp only [dAugS] at hm
    cases h1 : δ[i]? with
    | none => rw [h1] at hm; simp at hm
    | some od =>
    cases od with
    | none => rw [h1] at hm; simp at hm
    | some d =>
    cases d <;> rw [h1] at hm <;> simp only [reduceCtorEq] at hm
    rename_i a
    cases h2 : m δ with
    | none => rw [h2] at hm; simp at hm
    | some p =>
    obtain ⟨r, δ1⟩ := p
    rw [h2] at hm
    cases r with
    | «at» _ _ => simp at hm
    | own d =>
    cases d <;> simp only [reduceCtorEq] at hm
    rename_i b
    by_cases hl : i < δ1.length ∧ a.length + b.length ≤ 1000000
    case neg => rw [if_neg hl] at hm; cases hm
    rw [if_pos hl] at hm
    cases (Option.some.inj hm)
    obtain ⟨v, oa, o1, ob, hv, rd, _⟩ := E.at h1
    obtain ⟨rfl, hs1, _⟩ := rd
    refine ⟨.str a, hv, δ, o, .own (.str b), δ1, E, n, h2, fun w H1 o2 ov P => ?_⟩
    obtain ⟨rfl, hs2, rfl⟩ := P.held
    refine ⟨a, b, rfl, rfl, Nat.le_trans hl.2 (by decide), ?_⟩
    have hst : StrOk (a ++ b) := ⟨by rw [show (a ++ b).length = a.length + b.length from Array.size_append ..]; exact Nat.le_trans hl.2 (by decide), strOk_app hs1.2 hs2.2⟩
    obtain ⟨o3, E3, c3⟩ := Envs.set i P.env (show Rep (kx X).K H1 (.str (a ++ b)) (.str (a ++ b)) [] from ⟨rfl, hst, rfl⟩) hl.1
    refine f _ H1 o3 ⟨P.step.mono Wq_sub, E3, (own_right P.own).sub fun a => by have := c3 a; simpa using this, fun j hj => ?_⟩
    rw [List.getElem?_set_ne]
    intro z; subst z; rw [hk] at hj; cases hj
end
end Z


set_option Elab.async false
set_option linter.all false
set_option maxRecDepth 100000
set_option maxHeartbeats 4000000
/-! set of a text -/
namespace Z
open PySem PySem.Spec PyProof.Rows L2
section
variable {P : Program} {w : World} {A : Around} {E : Value → Shared → Prop} {s : Shared}
theorem walks_text {A : Around} (hh : A.handled = none) (it : Addr) (x : Str) (t : Tok) : Walks P w A it [it] [it] x.cps.size (SignAt x) (fun i h => h.IsStrIter it (strIterType x) x t i) := by
  cases ha : x.cps.all (· < 128)
  · simp only [strIterType, ha, Bool.false_eq_true, if_false]
    exact Walks.strWide hh it x t
  · simp only [strIterType, ha, if_true]
    exact Walks.strAscii hh it x t
theorem call_setM_text {x : Str} {t : Tok} (ks : List Key) {Q : Value → Shared → Prop} (hh : A.handled = none) (hisz : x.cps.size = ks.length) (hval : ∀ (i : Nat) (v : Value), SignAt x i v → ∃ k, ks[i]? = some k ∧ keyIs k v = true) (hb : ks.length + 1 < scanBound)
    (h : ∀ (h' : Heap) (tk c : Nat), SetM w h' s.heap.objs.size (memK ks) c → c ≤ ks.length → (∀ b o, s.heap.get? b = some o → h'.get? b = some o) → Q (.ref s.heap.objs.size) { s with heap := h', toks := tk }) :
    wpAny (model P w) A (call (.type "set") [.str x t]) Q E s := by
  obtain ⟨c, tl, hmro⟩ := F.called_set.mro
  have hmade := F.called_set.made
  have hsub := F.called_set.sub
  refine wpAny_call (codeAny_of_tree ?_)
  show wpAny _ _ (callAny (.type "set") _) _ _ _
  refine wpAny_pure ⟨Code.quiet_builtin _ (by decide +kernel), codeAny_builtin F.entry_type_call ?_⟩
  rw [Around.under_plain (weight_type_call_type "set" [.str x t] []) rfl]
  have h1 := F.called_set.notType
  have h2 := F.called_set.canCreate
  have hct := F.typeCall_set_1 (.str x t)
  repeat (any_goals (first | assumption | wp_step))
  refine codeAny_mono (code_set_led1 (.str x t) (E := E) (Q₁ := fun obj s₁ => obj = .ref s.heap.objs.size ∧ s₁ = { s with heap := s.heap.push (setO0 w) }) ⟨rfl, rfl⟩) fun r s₁ hr => ?_
  cases r with
  | error e => exact hr
  | ok fl =>
    cases fl with
    | ret obj =>
      obtain ⟨rfl, rfl⟩ := hr
      have hS : (s.heap.push (setO0 w)).get? s.heap.objs.size = some (setO0 w) := Heap.get?_push_size _ rfl
      have hT : Shared.TypeIs { s with heap := s.heap.push (setO0 w) } (.ref s.heap.objs.size) "set" := ⟨_, hS, rfl⟩
      have hli := F.called_set.init.lookup
      have hbi := F.called_set.init.bind (.ref s.heap.objs.size)
      repeat (any_goals (first | assumption | wp_step))
      refine codeAny_mono (codeAny_call_builtin (R := wants (fun r s₂ => r = .none ∧ ∃ h' tk c, s₂ = { s with heap := h', toks := tk } ∧ SetM w h' s.heap.objs.size (memK ks) c ∧ c ≤ ks.length ∧
          (∀ b o, s.heap.get? b = some o → h'.get? b = some o)) E) F.called_set.init.plain F.entry_set_init (check_set_init_1 hT ?_)) fun r₂ s₂ hr₂ => ?_
      · have hsls := F.sub_str_set
        have hslf := F.sub_str_frozenset
        have hne : (Value.type "str" == Value.type "dict") = false := by decide
        unfold Builtin.«set.__init__» noKeywords Builtin.Frozenset.updateFrom
        generalize hPI : pyIter = PI
        wp_walk
        subst hPI
        refine wpAny_pyIter_strU ?_
        refine wpAny_bind (wpAny_runValue ?_)
        have hh3 : A.in1.in1.in1.handled = none := by simp [hh]
        have hSf : s.heap.objs.size ∉ [(s.heap.push (setO0 w)).objs.size] := by
          rw [Heap.size_push]; simp only [List.mem_singleton]
          exact Nat.ne_of_lt (Nat.lt_succ_self _)
        refine setM_loop ((walks_text hh3 _ x t).toS) s.heap.objs.size
          hSf ks hisz hb hval (x.cps.size - 0) 0 _ (by omega) (Nat.zero_le _)
          ⟨_, Heap.get?_push_size _ rfl, rfl, rfl⟩ ?hS0 ?hR
        case hS0 =>
          have hget : ((s.heap.push (setO0 w)).push { cls := .type (strIterType x), data := .fields #[.str x t, .int 0 0] }).get? s.heap.objs.size = some (setO0 w) := Heap.get?_push_of_some _ hS
          exact ⟨0, Nat.le_refl 0, setM_new hget⟩
        case hR =>
          intro s' c' hm hc' hS'
          obtain ⟨h', g2, d', tk', os'⟩ := s'
          have eg : g2 = s.gens := hm.gens
          have ed : d' = s.drawn := hm.drawn
          have eo : os' = s.os := hm.os
          subst eg; subst ed; subst eo
          show wpAny _ _ _ _ _ _
          refine wpAny_pure ?_
          show wpAny _ _ (ret Value.none) _ _ _
          rw [hisz] at hc'
          refine wpAny_pure ⟨rfl, h', tk', c', rfl, hS', hc', fun b o e => ?_⟩
          have hb0 : b < s.heap.objs.size := Heap.lt_size e
          have hb1 : b ≠ s.heap.objs.size := Nat.ne_of_lt hb0
          have hb2 : b ≠ (s.heap.push (setO0 w)).objs.size := by
            rw [Heap.size_push]; exact Nat.ne_of_lt (Nat.lt_succ_of_lt hb0)
          exact hm.heap b o (by simp only [List.mem_cons, List.mem_singleton, List.not_mem_nil, or_false, not_or]; exact ⟨hb1, hb2⟩) (Heap.get?_push_of_some _ (Heap.get?_push_of_some _ e))
      · cases r₂ with
        | error e => exact hr₂
        | ok fl₂ =>
          cases fl₂ with
          | ret r =>
            obtain ⟨rfl, h', tk, c', rfl, hS', hc', hk'⟩ := hr₂
            repeat (any_goals (first | assumption | wp_step))
            exact h _ _ _ hS' hc' hk'
          | _ => exact hr₂.elim
    | _ => exact hr.elim
end
end Z


set_option Elab.async false
set_option linter.all false
set_option maxRecDepth 100000
set_option maxHeartbeats 1000000
/-! sorted(set(a text)) -/
namespace Z
open PySem PySem.Spec PyProof.Rows L2
def dSetC (m : Den) : Den := fun δ => match m δ with
  | some (.own (.str x), δ1) => if keysOk (chars x) = true then some (.own (.lst (setSortD (chars x))), δ1) else none
  | _ => none
section
variable {X : Cx} {e : Expr} {q : Bool} {m : Den} {p p2 pos pos2 : Pos}
theorem z_sortSetC (hu : X.A.units + 70 < cLine) (hc : X.calm = true) (hg : Gl X "sorted") (hm : X.mg "sorted" = none) (hg2 : Gl X "set") (hm2 : X.mg "set" = none) (he : PE X e (T (kx X) q m))
    (hst : starEach [.Call (.Name "set" p2) [e] [] pos2] X.env = (false, eval (.Call (.Name "set" p2) [e] [] pos2) X.env) :: starEach [] X.env := by rfl) (hst2 : starEach [e] X.env = (false, eval e X.env) :: starEach [] X.env := by rfl) :
    PE X (.Call (.Name "sorted" p) [.Call (.Name "set" p2) [e] [] pos2] [] pos) (T (kx X) q (dSetC m)) := by
  refine ⟨fun pins s σ H Q I h => ?_⟩
  obtain ⟨δ, o, r, δ', E, n, hmm, kq⟩ := h
  simp only [dSetC] at hmm
  cases h1 : m δ with
  | none => rw [h1] at hmm; simp at hmm
  | some p1 =>
  obtain ⟨ra, δ1⟩ := p1
  rw [h1] at hmm
  cases ra with
  | «at» _ _ => simp at hmm
  | own d =>
  cases d <;> simp only [reduceCtorEq] at hmm
  rename_i x
  obtain ⟨xs, hxs⟩ : ∃ xs, xs = chars x := ⟨_, rfl⟩
  rw [← hxs] at hmm
  by_cases hk : keysOk xs = true
  case neg => rw [if_neg hk] at hmm; cases hmm
  rw [if_pos hk] at hmm
  simp only [Option.some.injEq, Prod.mk.injEq] at hmm
  obtain ⟨rfl, rfl⟩ := hmm
  have hk2 : decide (xs.length < 1000) = true ∧ (xs.all isI || xs.all isS) = true := by
    have := hk
    unfold keysOk at this
    exact Bool.and_eq_true_iff.mp this
  have hlen : xs.length < 1000 := of_decide_eq_true hk2.1
  have himm : D.imms xs = true := by
    have := keysOk_alike hk2.2
    simp only [sortOk, Bool.and_eq_true] at this
    exact D.nols_imms _ this.1
  -- sorted ( set ( e ) )
  refine wpAny_Call_Name_kw (ld_blt I hg hm (by decide +kernel : bootBuiltins "sorted" = some (.builtin "sorted")) ?_ (by decide) (by decide))
  refine PyProof.Rows.callWith_builtin1 ?_ hst (by rfl)
  rw [hst]
  show wpAny _ _ (spliced ((false, eval (.Call (.Name "set" p2) [e] [] pos2) X.env) :: backTo pos (starEach [] X.env))) _ _ s
  refine Calls.spliced_cons ?_
  refine wpAny_Call_Name_kw (ld_blt I hg2 hm2 (by decide +kernel : bootBuiltins "set" = some (.type "set")) ?_ (by decide) (by decide))
  refine PyProof.Rows.callWith_type1 ?_ hst2 rfl
  rw [hst2]
  show wpAny _ _ (spliced ((false, eval e X.env) :: backTo pos2 (starEach [] X.env))) _ _ s
  refine Calls.spliced_cons (thn (he.run pins s σ H (fun v H1 => ∃ o1 ov, Post (kx X) H σ q o (.own (.str x)) δ1 v H1 o1 ov) I ⟨δ, o, .own (.str x), δ1, E, n, h1, fun v H1 o1 ov P => ⟨o1, ov, P⟩⟩) fun u s1 ⟨v, H1, I1, rv, o1, ov, P⟩ => ?_)
  refine Calls.spliced_nil ?_
  obtain ⟨rfl, hstr, rfl⟩ := P.held
  obtain ⟨tkx, rfl⟩ := rv
  -- the set
  have fin : ∀ (h' : Heap) (tk c : Nat), SetM X.w h' s1.heap.objs.size (memK (xs.map dKey)) c → c ≤ (xs.map dKey).length → (∀ b o, s1.heap.get? b = some o → h'.get? b = some o) →
      wpAny (model X.prog X.w) X.A (spliced (backTo pos (starEach [] X.env))) (fun _ _ => True) X.xe s1 → True := fun _ _ _ _ _ _ _ => trivial
  have main : ∀ (h' : Heap) (tk c : Nat), SetM X.w h' s1.heap.objs.size (memK (xs.map dKey)) c → c ≤ (xs.map dKey).length → (∀ b o, s1.heap.get? b = some o → h'.get? b = some o) →
      wpAny (model X.prog X.w) X.A (call (.builtin "sorted") [.ref s1.heap.objs.size]) (EP X pins σ Q) X.xe { s1 with heap := h', toks := tk } := fun h' tk c R hcl hkp => by
    obtain ⟨ob, es, ep, t, ho, hex, hd, g, nd, hmem, hb, hf, hn, hr, hl⟩ := R
    have I2 : Inv X pins σ H1 { s1 with heap := h', toks := tk } := I1.kept (t' := tk) hkp
    refine sorted_by (X := X) (pins := pins) (σ := σ) hu (collect_set (A := X.A.in1) (I1.ok.hd hc) ⟨ob, ho, hex.1, hd⟩ hf hb hr hl fun s3 out k3 hz g3 o3 pm => ?_)
    have I3 : Inv X pins σ H1 s3 := by
      have := I2.kept (t' := s3.toks) (h' := s3.heap) k3
      exact inv_same this rfl g3 o3
    -- what the set holds
    have key : ∀ v ∈ out, ∃ k, keyIs k v = true ∧ k ∈ xs.map dKey := fun v hv => by
      obtain ⟨e, he, rfl⟩ := List.mem_map.mp (pm.mem_iff.mp hv)
      obtain ⟨k, h1, h2⟩ := g e he
      refine ⟨k, h1, memK_iff.mp ((hmem k).mpr ?_)⟩
      exact List.mem_map.mpr ⟨e, he, goodK_key (w := X.w) h1⟩
    have dx : ∀ v ∈ out, dOfV v ∈ xs := fun v hv => by
      obtain ⟨k, h1, h2⟩ := key v hv
      obtain ⟨x, hx, e⟩ := List.mem_map.mp h2
      obtain ⟨_, e2, h3⟩ := val_of_key h1
      have : dOfV v = x := dKey_eq h3 (keysOk_key hk hx) (e2.trans e.symm)
      rw [this]; exact hx
    have perm : (out.map dOfV).Perm (nubD xs) := by
      refine (List.perm_ext_iff_of_nodup ?_ (nub_nodup xs)).mpr fun x => ⟨fun hx => ?_, fun hx => ?_⟩
      · have e1 : (out.map dOfV).map dKey = (out.map fun v => keyK (0, v)) := by
          rw [List.map_map]
          refine List.map_congr_left fun v hv => ?_
          obtain ⟨k, h1, _⟩ := key v hv
          obtain ⟨_, e2, _⟩ := val_of_key h1
          show dKey (dOfV v) = _
          rw [e2, goodK_key (w := X.w) (e := (0, v)) h1]
        have e2 : (out.map fun v => keyK (0, v)).Perm (es.toList.map keyK) := by
          have := pm.map fun v => keyK (0, v)
          rw [List.map_map] at this
          exact this
        have e3 : ((out.map dOfV).map dKey).Nodup := by rw [e1]; exact e2.nodup_iff.mpr nd
        exact List.Pairwise.of_map dKey (fun a b hne e => hne (congrArg dKey e)) e3
      · obtain ⟨v, hv, rfl⟩ := List.mem_map.mp hx
        exact mem_nub.mpr (dx v hv)
      · have hx := mem_nub.mp hx
        have hkm : dKey x ∈ es.toList.map keyK := (hmem _).mp (memK_iff.mpr (List.mem_map.mpr ⟨x, hx, rfl⟩))
        obtain ⟨e, he, hke⟩ := List.mem_map.mp hkm
        have hv : e.2 ∈ out := pm.mem_iff.mpr (List.mem_map.mpr ⟨e, he, rfl⟩)
        refine List.mem_map.mpr ⟨e.2, hv, ?_⟩
        obtain ⟨k, h1, _⟩ := key e.2 hv
        obtain ⟨_, e2, _⟩ := val_of_key h1
        refine dKey_inj hk (dx _ hv) hx ?_
        rw [e2, ← hke, goodK_key (w := X.w) h1]
    have repd : ∀ z ∈ xs, ∃ v, Rep X.F H1 z v [] := fun z hz => by
      rw [hxs] at hz
      obtain ⟨c, hcm, rfl⟩ := List.mem_map.mp hz
      exact ⟨.str ⟨#[c]⟩, rfl, ⟨by show 1 ≤ sizeLine; decide, strOk_of (l := [c]) fun d hd => by rw [List.mem_singleton.mp hd]; exact strOk_mem hstr.2 hcm⟩, rfl⟩
    have vals : ∀ l : List Value, (∀ v ∈ l, v ∈ out) → Vals (l.map vOfV) l ∧ Reps X.F H1 (l.map dOfV) (l.map vOfV) [] := by
      intro l
      induction l with
      | nil => exact fun _ => ⟨.nil, rfl, rfl⟩
      | cons v l ih =>
        intro hl
        obtain ⟨g1, g2⟩ := ih fun u hu => hl u (List.mem_cons_of_mem _ hu)
        have hv := hl v List.mem_cons_self
        obtain ⟨k, h1, _⟩ := key v hv
        obtain ⟨r1, e2, h3⟩ := val_of_key h1
        refine ⟨.cons r1 g1, vOfV v, _, [], [], rfl, ?_, g2, rfl⟩
        obtain ⟨w, rr⟩ := repd _ (dx v hv)
        rcases h3 with ⟨i, t, rfl⟩ | ⟨z, t, rfl⟩
        · exact ⟨rfl, rfl⟩
        · exact ⟨rfl, rr.2.1, rfl⟩
    obtain ⟨va, re⟩ := vals out fun _ h => h
    have hall : ((out.map dOfV).all isI || (out.map dOfV).all isS) = true := by
      have h9 := hk2.2
      rw [Bool.or_eq_true, List.all_eq_true, List.all_eq_true] at h9 ⊢
      exact h9.imp (fun z x hx => z x (mem_nub.mp (perm.mem_iff.mp hx))) fun z x hx => z x (mem_nub.mp (perm.mem_iff.mp hx))
    have hso : sortD (out.map dOfV) = setSortD xs := sortD_of_perm hall perm
    refine ⟨out.map dOfV, H1, out.map vOfV, keysOk_alike hall, ?_, I3, va, re, fun pq gv' s4 hp I4 r4 => ?_⟩
    · rw [perm.length_eq]
      have := nub_len xs
      exact Nat.le_trans this (small_sz (Nat.le_of_lt hlen))
    · rw [hso] at r4
      refine ⟨.ref pq, _, I4, rfl, kq _ _ o1 [pq] ⟨P.step.same (new_same hp), P.env.same (new_same hp), ⟨pq, gv', [], rfl, upd_same, r4.same (new_same hp), rfl⟩, own_fresh (own_right P.own) P.step (fresh_one hp) P.env.dom⟩⟩
  have hval : ∀ (i : Nat) (v : Value), SignAt x i v → ∃ k, (xs.map dKey)[i]? = some k ∧ keyIs k v = true := fun i v hv => by
    obtain ⟨c, u, hc, rfl⟩ := hv
    refine ⟨dKey (.str ⟨#[c]⟩), by rw [hxs, chars, List.map_map, List.getElem?_map, Array.getElem?_toList, hc]; rfl, keyIs_str _ u⟩
  have hb : (xs.map dKey).length + 1 < scanBound := by rw [List.length_map]; unfold scanBound; omega
  exact call_setM_text (xs.map dKey) (I1.ok.hd hc) (by rw [List.length_map, hxs]; simp [chars]) hval hb fun h' tk c R hcl hkp => Calls.spliced_nil (main h' tk c R hcl hkp)
end
end Z


set_option Elab.async false
set_option linter.all false
set_option maxRecDepth 100000
/-! dicts: list(d) -/
namespace Z
open PySem PySem.Spec PyProof.Rows L2
def fDList : List D → Option D
  | [.dic ks _] => some (.lst ks)
  | _ => none
section
variable {X : Cx}
theorem c_dlist (hc : X.calm = true) : CallR X (.type "list") fun xs H Q => Pr X.F fDList xs H Q := by
  intro pins s σ H xs us Q I r h
  obtain ⟨ds, o, d, rr, e, k0, k⟩ := pr_end h
  unfold fDList at e
  split at e
  · rename_i ks vs
    cases (Option.some.inj e)
    obtain ⟨x, xr, o1, o2, rfl, rd, ⟨rfl, _⟩, _⟩ := rr
    cases r with
    | cons r1 r2 =>
      cases r2
      obtain ⟨a, kvs, vvs, es, rfl, hq, hd, hs, ⟨hn, hl⟩, rk, rv, en, rfl⟩ := rd
      cases r1
      obtain ⟨ob, ep, e1, e2, e3⟩ := (I.hok a _ hq).1
      have hsz : es.size = ks.length := by rw [← Array.length_toList]; exact (ents_length en).2.2
      refine PySem.W.kdl_call (kdl_raw (ep := ep) hs) (I.ok.hd hc) ⟨ob, e1, e2, e3⟩ (by rw [hsz]; exact hl) fun h' tk acc' c' hk hD hacc => ?_
      have hv : Vals kvs acc'.toList := by
        rw [keys_list hacc]
        exact (ents_vals en).1
      have hnew : H s.heap.objs.size = none := I.fresh
      have I2 : Inv X pins σ (upd H s.heap.objs.size (.lst kvs)) { s with heap := h', toks := tk } := I.laid hk (Nat.le_refl _) ⟨by rw [rk.length] at *; exact hl, acc'.toList, c', hv, by rw [Array.toArray_toList]; exact hD⟩
      exact ⟨.ref s.heap.objs.size, _, I2, rfl, k (.ref s.heap.objs.size) _ [s.heap.objs.size] (new_same hnew) ⟨s.heap.objs.size, kvs, [], rfl, upd_same, rk.same (new_same hnew), rfl⟩ (fresh_one hnew)⟩
  · cases e
end
end Z


set_option Elab.async false
set_option linter.all false
set_option maxRecDepth 100000
/-! dicts: d.get(k) of a name -/
namespace Z
open PySem PySem.Spec PyProof.Rows L2
def fDGetM : List D → Option D
  | [.dic ks vs, k] => if famOk (k :: ks) then some ((lookD ks vs k).getD .non) else none
  | _ => none
/-- d.get(k), d a name -/
def dDGN (s : Nat) (qe : Bool) (me : Den) : Den := fun δ => match δ[s]? with
  | some (some (.dic _ _)) => dCall fDGetM (d2 qe (dVar s) me) δ
  | _ => none
section
variable {X : Cx} {pins : List (Addr × Obj)} {σ : L2.St} {H : Hp}
theorem dget_call {s : Shared} {a : Addr} {y : V} {u : Value} {Q : VK} (hu : X.A.units + 65 < cLine) (I : Inv X pins σ H s) (ry : RelV y u) (h : Pr X.F fDGetM [.ref a, y] H Q) : wpAny (model X.prog X.w) X.A (call (.builtin "dict.get") [.ref a, u]) (EP X pins σ Q) X.xe s := by
  obtain ⟨ds, o, d, r, e, k0, _⟩ := pr_end h
  obtain ⟨b, k, oa, ob, rfl, rb, ra⟩ := reps2 r
  unfold fDGetM at e
  split at e
  · rename_i ks vs k' he
    cases he
    split at e
    · rename_i hf
      cases (Option.some.inj e)
      obtain ⟨a', kvs, vvs, es, e0, hq, hd, hs, ⟨hn, _⟩, rks, rv, en, _⟩ := rb
      cases e0
      have hlen := ents_len en rv
      cases dv_of I hq hn rks en hf with
      | t xs hk dd k1 k2 vv =>
        obtain ⟨c, rfl, rfl, nk⟩ := key_heap I (hk _ List.mem_cons_self) ra ry
        have hl := val_look dNK ks vs vvs (pairsH xs) (by rw [pairsH_fst, k1]) (by rw [pairsH_snd]; exact vv) rv hlen (fun k' h e => keyT_inj (hk _ (List.mem_cons_of_mem _ h)) (hk _ List.mem_cons_self) e) (k := k)
        refine get_keyed (knd := nestedKind X.prog X.w) (room_in1 hu) nk hs ⟨xs, dd, rfl⟩ ?_
        cases e1 : lookD ks vs k with
        | none => rw [hl.2 e1]; rw [e1] at k0; exact ⟨.non, H, I.tok _, rfl, k0 _ ⟨rfl, rfl⟩⟩
        | some v =>
          obtain ⟨w, z, e2, rz, rep⟩ := hl.1 v e1
          rw [e2]; rw [e1] at k0
          exact ⟨w, H, I.tok _, rz, k0 _ rep⟩
      | a ps hk dd k1 vv =>
        obtain ⟨rfl, ku⟩ := key_val (X := X) (hk _ List.mem_cons_self) ra ry
        have hl := val_look kA ks vs vvs ps k1 vv rv hlen (fun k' h e => kA_inj (hk _ (List.mem_cons_of_mem _ h)) (hk _ List.mem_cons_self) e) (k := k)
        refine call_meetsIn PySem.F.slot_dict_get dd.typeIs PySem.F.entry_dict_get (PySem.F.args_dict_get_2 _ _) (meets_dict_get (mixKind X.prog X.w) a ku hs) ⟨_, dd.mapOf, ?_⟩
        cases e1 : lookD ks vs k with
        | none => rw [hl.2 e1]; rw [e1] at k0; exact ⟨.non, H, I.tok _, rfl, k0 _ ⟨rfl, rfl⟩⟩
        | some v =>
          obtain ⟨w, z, e2, rz, rep⟩ := hl.1 v e1
          rw [e2]; rw [e1] at k0
          exact ⟨w, H, I.tok _, rz, k0 _ rep⟩
    · cases e
  · cases e
theorem z_dgetm {s : Nat} {eo e : Expr} {qe : Bool} {me : Den} {apos pos : Pos} (hu : X.A.units + 65 < cLine) (ho : PE X eo (T (kx X) true (dVar s))) (he : PE X e (T (kx X) qe me)) (hs : starEach [e] X.env = [(false, eval e X.env)] := by rfl)
    (hbase : attributeBase eo "get" X.env (eval eo X.env) = eval eo X.env := by rfl) (hline : (apos.endLine == pos.line) = true := by rfl) : PE X (.Call (.Attribute eo "get" apos) [e] [] pos) (T (kx X) (true && (qe && true)) (dDGN s qe me)) := ⟨fun pins s0 σ H Q I h => by
  obtain ⟨δ, o, rr, δ', E, n, hm, k⟩ := h
  simp only [dDGN] at hm
  split at hm
  · rename_i ks vs hslot
    obtain ⟨rs, ds, d, h1, h2, h3, rfl⟩ := dCall_inv hm
    have hdv : dVar s δ = some (.at s [], δ) := by simp [dVar, hslot, D.imm]
    simp only [d2, dACons, dANil, hdv] at h1
    cases hme : me δ with
    | none => rw [hme] at h1; simp at h1
    | some p2 =>
      obtain ⟨y, δ2⟩ := p2
      rw [hme] at h1
      simp only [Bool.or_true, if_true, R.short, Bool.true_or] at h1
      simp only [Option.some.injEq, Prod.mk.injEq] at h1
      obtain ⟨rfl, rfl⟩ := h1
      refine PySem.Call_method1 hbase hs hline (thn (ho.run pins s0 σ H (fun x H1 => (∃ a es, x = V.ref a ∧ H1 a = some (.ext (DicP a es))) ∧ T (kx X) qe me σ H1 fun y H2 => Pr X.F fDGetM [x, y] H2 Q) I ⟨δ, o, .at s [], δ, E, n, hdv, fun v H1 o1 ov1 P1 => ⟨?_, ?_⟩⟩) fun v s1 ⟨x, H1, I1, r1, q1⟩ => ?_)
      · obtain ⟨_, u, hu1, hu2⟩ := P1.held
        have hu2 : v = u := hu2
        subst hu2
        obtain ⟨v', oa, o2, ob, hv, rd, _⟩ := P1.env.at hslot
        rw [hu1] at hv; cases hv
        obtain ⟨a, kvs, vvs, es0, rfl, hq, _⟩ := rd
        exact ⟨a, es0, rfl, hq⟩
      · refine ⟨δ, o1, y, δ2, P1.env, nd_of P1.own n, hme, fun w H2 o2 ov2 P2 => ?_⟩
        have ap := apart_of P1.own n
        have st := P1.step.seq (own_right P1.own) P2.step
        have hl : HeldL (kx X).K H2 σ [.at s [], y] [v, w] (ov1 ++ (ov2 ++ [])) := ⟨v, [w], ov1, ov2 ++ [], rfl, P1.held.step P2.step (Wq_ok P1.env) (fun a ha hw => ap a ha (Wq_sub a hw)) (.inl rfl), ⟨w, [], ov2, [], rfl, P2.held, ⟨rfl, rfl⟩, rfl⟩, rfl⟩
        have ow : Own H o ((ov1 ++ (ov2 ++ [])) ++ o2) := by rw [List.append_nil]; exact own_app P1.own P1.step P1.held.dom P2.own
        obtain ⟨o', rp⟩ := HeldL.derefs P2.env hl h2
        exact ⟨ds, o', d, rp, h3, fun v3 H3 ov hs3 r3 fr3 => k v3 H3 o2 ov (post_pure (by rw [Bool.and_true]; exact st) P2.env ow hs3 r3 fr3)⟩
      · obtain ⟨⟨a, es, rfl, hq⟩, q2⟩ := q1
        cases (show v = Value.ref a from r1)
        obtain ⟨ob, ep, e1, e2, e3⟩ := (I1.hok a _ hq).1
        refine ⟨"dict", _, PySem.F.plainAttrs_dict, PySem.F.slot_dict_get, PySem.F.type_dict_get, ⟨ob, e1, e2.1⟩, ?_, Calls.callWith_builtin rfl (Calls.evalArgs_plain (Calls.spliced_cons ?_))⟩
        · intro a' ea
          cases ea
          exact ⟨ob, e1, e2.2.1⟩
        · exact thn (he.run pins s1 σ H1 _ I1 q2) fun u s2 ⟨y, H2, I2, r2, q3⟩ => Calls.spliced_nil (dget_call hu I2 r2 q3)
  · cases hm⟩
end
end Z


set_option Elab.async false
set_option linter.all false
set_option maxRecDepth 100000
/-! from denotations to typed functions: what is known of an environment -/
namespace Y
open PySem PySem.Spec PyProof.Rows L2 Z
/-- what is known of a name's place -/
inductive Sl where
  | any | is (d : D)
structure Agr (A : List Sl) (δ : DE) : Prop where
  len : δ.length = A.length
  get : ∀ (i : Nat) (d : D), A[i]? = some (.is d) → δ[i]? = some (some d)
theorem Agr.set {A : List Sl} {δ : DE} (h : Agr A δ) (i : Nat) (d : D) : Agr (A.set i (.is d)) (δ.set i (some d)) where
  len := by simp [h.len]
  get j e hj := by
    rw [List.getElem?_set] at hj ⊢
    by_cases hij : i = j
    · subst hij
      rw [if_pos rfl] at hj ⊢
      by_cases hl : i < A.length
      · rw [if_pos hl] at hj
        rw [if_pos (by rw [h.len]; exact hl)]
        injection hj with hj; injection hj with hj; rw [hj]
      · rw [if_neg hl] at hj; cases hj
    · rw [if_neg hij] at hj ⊢
      exact h.get j e hj
theorem Agr.setAny {A : List Sl} {δ : DE} (h : Agr A δ) (i : Nat) (x : Option D) : Agr (A.set i .any) (δ.set i x) where
  len := by simp [h.len]
  get j e hj := by
    rw [List.getElem?_set] at hj ⊢
    by_cases hij : i = j
    · subst hij
      rw [if_pos rfl] at hj
      by_cases hl : i < A.length
      · rw [if_pos hl] at hj; cases hj
      · rw [if_neg hl] at hj; cases hj
    · rw [if_neg hij] at hj ⊢
      exact h.get j e hj
/-- less is known -/
inductive Le : List Sl → List Sl → Prop
  | nil : Le [] []
  | any {s : Sl} {A B : List Sl} : Le A B → Le (s :: A) (.any :: B)
  | eq {s : Sl} {A B : List Sl} : Le A B → Le (s :: A) (s :: B)
theorem Le.refl : ∀ A : List Sl, Le A A
  | [] => .nil
  | _ :: A => .eq (Le.refl A)
theorem Le.len {A B : List Sl} (h : Le A B) : A.length = B.length := by induction h <;> simp_all
theorem Le.get {A B : List Sl} (h : Le A B) : ∀ (i : Nat) (d : D), B[i]? = some (.is d) → A[i]? = some (.is d) := by
  induction h with
  | nil => intro i d e; cases e
  | any h ih => intro i d e; cases i with
    | zero => simp at e
    | succ i => exact ih i d e
  | eq h ih => intro i d e; cases i with
    | zero => exact e
    | succ i => exact ih i d e
theorem Agr.le {A B : List Sl} {δ : DE} (h : Agr A δ) (l : Le A B) : Agr B δ := ⟨h.len.trans l.len, fun i d e => h.get i d (l.get i d e)⟩
def setSl (A : List Sl) : List Nat → List Sl
  | [] => A
  | v :: vs => (setSl A vs).set v .any
theorem Agr.wipe {A : List Sl} {δ : DE} (h : Agr A δ) : ∀ vs : List Nat, Agr (setSl A vs) (wipeD δ vs)
  | [] => h
  | v :: vs => (Agr.wipe h vs).setAny v none

/-! ### expressions -/
/-- whatever else stands there: x comes out, and A' is known behind; p: nothing is changed -/
def RX {α : Type} (p : Bool) (A : List Sl) (m : DE → Option (α × DE)) (x : α) (A' : List Sl) : Prop := ∀ δ, Agr A δ → ∃ δ', m δ = some (x, δ') ∧ Agr A' δ' ∧ (p = true → δ' = δ)
abbrev RV (p : Bool) (A : List Sl) (m : Den) (r : R) (A' : List Sl) : Prop := RX p A m r A'
abbrev RA (p : Bool) (A : List Sl) (m : DE → Option (List R × DE)) (rs : List R) (A' : List Sl) : Prop := RX p A m rs A'
abbrev RT (p : Bool) (A : List Sl) (m : DenT) (b : Bool) (A' : List Sl) : Prop := RX p A m b A'
abbrev RO (p : Bool) (A : List Sl) (m : DenO) (b : Option Int) (A' : List Sl) : Prop := RX p A m b A'
abbrev RS (p : Bool) (A : List Sl) (m : DenS) (s : Src) (A' : List Sl) : Prop := RX p A m s A'
def Drf (A : List Sl) (r : R) (d : D) : Prop := ∀ δ, Agr A δ → deref δ r = some d
def Drfs (A : List Sl) (rs : List R) (ds : List D) : Prop := ∀ δ, Agr A δ → derefs δ rs = some ds
theorem pp {p1 p2 : Bool} {δ δ1 δ2 : DE} (h1 : p1 = true → δ1 = δ) (h2 : p2 = true → δ2 = δ1) (h : (p1 && p2) = true) : δ2 = δ := by
  simp only [Bool.and_eq_true] at h
  rw [h2 h.2, h1 h.1]
section
variable {p p1 p2 p3 : Bool} {A A1 A2 A3 : List Sl} {m ma mb mc : Den} {r ra rb : R} {rs : List R} {d e : D} {ds : List D} {q : Bool}
theorem drf_own : Drf A (.own d) d := fun _ _ => rfl
theorem drf_at {i : Nat} (h : A[i]? = some (.is d)) : Drf A (.at i []) d := fun δ a => by
  simp only [deref, a.get i d h, getP]
theorem drfs_nil : Drfs A [] [] := fun _ _ => rfl
theorem drfs_cons (h : Drf A r d) (t : Drfs A rs ds) : Drfs A (r :: rs) (d :: ds) := fun δ a => by
  simp only [derefs, h δ a, t δ a]
theorem r_var {i : Nat} (h : A[i]? = some (.is d)) (g : d.imm = true) : RV true A (dVar i) (.own d) A := fun δ a => ⟨δ, by simp only [dVar, a.get i d h, g, if_true], a, fun _ => rfl⟩
theorem r_varM {i : Nat} (h : A[i]? = some (.is d)) (g : d.imm = false) : RV true A (dVar i) (.at i []) A := fun δ a => ⟨δ, by simp only [dVar, a.get i d h, g]; rfl, a, fun _ => rfl⟩
theorem r_c : RV true A (dC d) (.own d) A := fun δ a => ⟨δ, rfl, a, fun _ => rfl⟩
theorem r_anil : RA true A dANil [] A := fun δ a => ⟨δ, rfl, a, fun _ => rfl⟩
theorem r_acons {mr : DE → Option (List R × DE)} (h : RV p1 A m r A1) (t : RA p2 A1 mr rs A2) (s : (r.short || q) = true) : RA (p1 && p2) A (dACons q m mr) (r :: rs) A2 := fun δ a => by
  obtain ⟨δ1, e1, a1, u1⟩ := h δ a
  obtain ⟨δ2, e2, a2, u2⟩ := t δ1 a1
  exact ⟨δ2, by simp only [dACons, e1, e2, s, if_true], a2, pp u1 u2⟩
theorem r_call {f : List D → Option D} {mr : DE → Option (List R × DE)} (t : RA p A mr rs A1) (g : Drfs A1 rs ds) (h : f ds = some d) : RV p A (dCall f mr) (.own d) A1 := fun δ a => by
  obtain ⟨δ1, e1, a1, u1⟩ := t δ a
  exact ⟨δ1, by simp only [dCall, e1, g δ1 a1, h], a1, u1⟩
theorem r_tup {mr : DE → Option (List R × DE)} (t : RA p A mr rs A1) (g : owns rs = some ds) (h : ds.length ≤ 1000) : RV p A (dTup mr) (.own (.tup ds)) A1 := fun δ a => by
  obtain ⟨δ1, e1, a1, u1⟩ := t δ a
  exact ⟨δ1, by simp only [dTup, e1, g, h, if_true], a1, u1⟩
theorem r_lst {mr : DE → Option (List R × DE)} (t : RA p A mr rs A1) (g : owns rs = some ds) (h : ds.length ≤ 1000) : RV p A (dLst mr) (.own (.lst ds)) A1 := fun δ a => by
  obtain ⟨δ1, e1, a1, u1⟩ := t δ a
  exact ⟨δ1, by simp only [dLst, e1, g, h, if_true], a1, u1⟩
theorem r_sub {i : Int} (h : RV p1 A ma ra A1) (t : RV p2 A1 mb rb A2) (s : (ra.short || q) = true) (g : Drf A2 ra d) (g2 : Drf A2 rb (.int i)) (u : subR ra d i = some r) : RV (p1 && p2) A (dSub q ma mb) r A2 := fun δ a => by
  obtain ⟨δ1, e1, a1, u1⟩ := h δ a
  obtain ⟨δ2, e2, a2, u2⟩ := t δ1 a1
  exact ⟨δ2, by simp only [dSub, e1, e2, s, g δ2 a2, g2 δ2 a2, u, if_true], a2, pp u1 u2⟩
theorem r_nop : RO true A dNoP none A := fun δ a => ⟨δ, rfl, a, fun _ => rfl⟩
theorem r_part {i : Int} (h : RV p A m (.own (.int i)) A1) : RO p A (dPart m) (some i) A1 := fun δ a => by
  obtain ⟨δ1, e1, a1, u1⟩ := h δ a
  exact ⟨δ1, by simp only [dPart, e1], a1, u1⟩
theorem r_slice {ml mh : DenO} {lo hi : Option Int} (h : RV p1 A m r A1) (l : RO p2 A1 ml lo A2) (u : RO p3 A2 mh hi A3) (s : (r.short || q) = true) (g : Drf A3 r d) (f : sliceD lo hi d = some e) : RV (p1 && (p2 && p3)) A (dSlice q m ml mh) (.own e) A3 := fun δ a => by
  obtain ⟨δ1, e1, a1, u1⟩ := h δ a
  obtain ⟨δ2, e2, a2, u2⟩ := l δ1 a1
  obtain ⟨δ3, e3, a3, u3⟩ := u δ2 a2
  exact ⟨δ3, by simp only [dSlice, e1, e2, e3, s, g δ3 a3, f, if_true], a3, pp u1 (pp u2 u3)⟩
theorem r_orV {x y : Bool} (h : RV p1 A ma (.own (.bl x)) A) (h1 : x = false → RV p2 A mb (.own (.bl y)) A) : RV (p1 && p2) A (dOrV ma mb) (.own (.bl (x || y))) A := fun δ a => by
  obtain ⟨δ1, e1, a1, u1⟩ := h δ a
  cases x with
  | false =>
    obtain ⟨δ2, e2, a2, u2⟩ := h1 rfl δ1 a1
    exact ⟨δ2, by simp only [dOrV, e1, e2, Bool.false_or], a2, pp u1 u2⟩
  | true => exact ⟨δ1, by simp only [dOrV, e1, Bool.true_or], a1, fun h => by simp only [Bool.and_eq_true] at h; exact u1 h.1⟩
/-! tests -/
theorem r_tv {b : Bool} (h : RV p A m r A1) (g : Drf A1 r d) (t : truthD d = some b) : RT p A (dTv m) b A1 := fun δ a => by
  obtain ⟨δ1, e1, a1, u1⟩ := h δ a
  exact ⟨δ1, by simp only [dTv, e1, g δ1 a1, t], a1, u1⟩
theorem r_tb {b : Bool} (h : RV p A m (.own (.bl b)) A1) : RT p A (dTb m) b A1 := fun δ a => by
  obtain ⟨δ1, e1, a1, u1⟩ := h δ a
  exact ⟨δ1, by simp only [dTb, e1], a1, u1⟩
theorem r_and {ta tb : DenT} {x y : Bool} (h : RT p1 A ta x A) (h1 : x = true → RT p2 A tb y A) : RT (p1 && p2) A (dAnd ta tb) (x && y) A := fun δ a => by
  obtain ⟨δ1, e1, a1, u1⟩ := h δ a
  cases x with
  | true =>
    obtain ⟨δ2, e2, a2, u2⟩ := h1 rfl δ1 a1
    exact ⟨δ2, by simp only [dAnd, e1, e2, Bool.true_and], a2, pp u1 u2⟩
  | false => exact ⟨δ1, by simp only [dAnd, e1, Bool.false_and], a1, fun h => by simp only [Bool.and_eq_true] at h; exact u1 h.1⟩
theorem r_not {ta : DenT} {x : Bool} (h : RT p A ta x A1) : RT p A (dNot ta) (!x) A1 := fun δ a => by
  obtain ⟨δ1, e1, a1, u1⟩ := h δ a
  exact ⟨δ1, by simp only [dNot, e1], a1, u1⟩
theorem r_yes : RT true A dYes true A := fun δ a => ⟨δ, rfl, a, fun _ => rfl⟩
/-! a call of a def -/
inductive Puts : Bool → List Sl → List R → List (Option D) → List Sl → Prop
  | nil {A : List Sl} : Puts true A [] [] A
  | own {p : Bool} {A A2 : List Sl} {d : D} {f : Option D} {rs : List R} {fs : List (Option D)} : Puts p A rs fs A2 → Puts p A (.own d :: rs) (f :: fs) A2
  | same {p : Bool} {A A2 : List Sl} {i : Nat} {d : D} {rs : List R} {fs : List (Option D)} : A[i]? = some (.is d) → Puts p (A.set i .any) rs fs A2 → Puts p A (.at i [] :: rs) (some d :: fs) (A2.set i (.is d))
  | pth {p : Bool} {A A2 : List Sl} {i : Nat} {l : List Nat} {d e d' : D} {rs : List R} {fs : List (Option D)} : A[i]? = some (.is d) → Puts p (A.set i .any) rs fs A2 → setP l d e = some d' → Puts false A (.at i l :: rs) (some e :: fs) (A2.set i (.is d'))
theorem Puts.ok {rs : List R} {fs : List (Option D)} (h : Puts p A rs fs A2) : ∀ δ, Agr A δ → ∃ δ2, puts δ rs fs = some δ2 ∧ Agr A2 δ2 ∧ (p = true → δ2 = δ) := by
  induction h with
  | nil => exact fun δ a => ⟨δ, rfl, a, fun _ => rfl⟩
  | own h ih =>
      intro δ a
      obtain ⟨δ2, e, a2, u⟩ := ih δ a
      exact ⟨δ2, by simp only [puts, e], a2, u⟩
  | @same p A A2 i d rs fs h1 h2 ih =>
      intro δ a
      obtain ⟨δ2, e, a2, u⟩ := ih (δ.set _ none) (a.setAny _ none)
      refine ⟨δ2.set i (some d), by simp only [puts, a.get _ _ h1, e, setP], a2.set _ _, fun hp => ?_⟩
      rw [u hp, List.set_set]
      have := a.get _ _ h1
      apply List.ext_getElem?
      intro j
      rw [List.getElem?_set]
      by_cases hij : i = j
      · subst hij
        have hl : i < δ.length := (List.getElem?_eq_some_iff.mp this).1
        rw [if_pos rfl, if_pos hl, this]
      · rw [if_neg hij]
  | pth h1 h2 h3 ih =>
      intro δ a
      obtain ⟨δ2, e, a2, u⟩ := ih (δ.set _ none) (a.setAny _ none)
      exact ⟨δ2.set _ (some _), by simp only [puts, a.get _ _ h1, e, h3], a2.set _ _, fun h => by cases h⟩
theorem r_user {f : Fn} {mr : DE → Option (List R × DE)} {fs : List (Option D)} (t : RA p1 A mr rs A1) (ro : rootsOk rs = true) (g : Drfs A1 rs ds) (h : f ds = some (d, fs)) (pu : Puts p2 A1 rs fs A2) : RV (p1 && p2) A (dUser f mr) (.own d) A2 := fun δ a => by
  obtain ⟨δ1, e1, a1, u1⟩ := t δ a
  obtain ⟨δ2, e2, a2, u2⟩ := pu.ok δ1 a1
  exact ⟨δ2, by simp only [dUser, e1, ro, if_true, g δ1 a1, h, e2], a2, pp u1 u2⟩
theorem RX.weak {α : Type} {m : DE → Option (α × DE)} {x : α} (h : RX p A m x A1) (l : Le A1 A2) : RX p A m x A2 := fun δ a => by
  obtain ⟨δ1, e1, a1, u⟩ := h δ a
  exact ⟨δ1, e1, a1.le l, u⟩
end
/-! ### blocks -/
/-- how a block with ends of all kinds ends -/
inductive Res (β ρ : Type) where
  | nx (b : β) | bk (b : β) | ct (b : β) | rt (r : ρ)
  deriving DecidableEq
def RB {τ : Type} (A : List Sl) (m : Blk) (n : Option τ) (S : τ → Out → Prop) : Prop := ∀ t, n = some t → ∀ δ, Agr A δ → ∃ out, m δ = some out ∧ S t out
def Nx {β : Type} (A : β → List Sl) : β → Out → Prop := fun b out => ∃ δ, out = .nx δ ∧ Agr (A b) δ
def Rt {ρ : Type} (er : ρ → D) (A : ρ → List Sl) : ρ → Out → Prop := fun r out => ∃ δ, out = .rt (er r) δ ∧ Agr (A r) δ
def Rs {β ρ : Type} (A : β → List Sl) (T : ρ → Out → Prop) : Res β ρ → Out → Prop
  | .nx b, out => ∃ δ, out = .nx δ ∧ Agr (A b) δ
  | .bk b, out => ∃ δ, out = .bk δ ∧ Agr (A b) δ
  | .ct b, out => ∃ δ, out = .ct δ ∧ Agr (A b) δ
  | .rt r, out => T r out ∧ ∃ d δ, out = .rt d δ
/-- behind a value that may not be -/
def bnd {α β : Type} : Option α → (α → Option β) → Option β
  | none, _ => none
  | some a, f => f a
@[simp] theorem bnd_some {α β : Type} (a : α) (f : α → Option β) : bnd (some a) f = f a := rfl
@[simp] theorem bnd_none {α β : Type} (f : α → Option β) : bnd none f = none := rfl
/-- a name for a value -/
def lv {α β : Type} (a : α) (f : α → β) : β := f a
section
variable {p p1 p2 p3 : Bool} {τ β ρ α : Type} {A A1 A2 A3 : List Sl} {m ma mb rest : Blk} {S : τ → Out → Prop} {t : τ} {n : Option τ} {me : Den} {d : D} {r : R}
theorem bnd_eq {x : Option α} {f : α → Option β} {y : β} (h : bnd x f = some y) : ∃ a, x = some a ∧ f a = some y := by
  cases x with
  | none => cases h
  | some a => exact ⟨a, rfl, h⟩
theorem k_bnd {x : Option α} {f : α → Option τ} (h : ∀ a, x = some a → RB A m (f a) S) : RB A m (bnd x f) S := fun t e => by
  obtain ⟨a, h1, h2⟩ := bnd_eq e
  exact h a h1 t h2
theorem dSeq_dNx (m : Blk) : dSeq m dNx = m := by
  funext δ
  unfold dSeq
  cases e : m δ with
  | none => rfl
  | some o => cases o <;> rfl
theorem k_last (h : RB A (dSeq m dNx) n S) : RB A m n S := by rwa [dSeq_dNx] at h
theorem k_nil (h : RB A rest n S) : RB A (dSeq dNx rest) n S := h
theorem k_nx (h : ∀ δ, Agr A δ → S t (.nx δ)) : RB A dNx (some t) S := fun t' e δ a => by
  cases (Option.some.inj e)
  exact ⟨_, rfl, h δ a⟩
theorem k_ret {kp : Nat → Bool} (h : RV p A me (.own d) A1) (g : ∀ δ, Agr A1 δ → S t (.rt d δ)) : RB A (dSeq (dRet kp me) rest) (some t) S := fun t' e δ a => by
  cases (Option.some.inj e)
  obtain ⟨δ1, e1, a1, _⟩ := h δ a
  exact ⟨_, by simp only [dSeq, dRet, e1], g δ1 a1⟩
theorem k_retM {kp : Nat → Bool} {i : Nat} (h : RV p A me (.at i []) A1) (u : A1[i]? = some (.is d)) (k : kp i = false) (g : ∀ δ, Agr (A1.set i .any) δ → S t (.rt d δ)) : RB A (dSeq (dRet kp me) rest) (some t) S := fun t' e δ a => by
  cases (Option.some.inj e)
  obtain ⟨δ1, e1, a1, _⟩ := h δ a
  exact ⟨.rt d (δ1.set i none), by simp only [dSeq, dRet, e1, k, a1.get _ _ u]; rfl, g _ (a1.setAny i none)⟩
theorem k_asg {i : Nat} (h : RV p A me (.own d) A1) (hi : i < A1.length) (g : RB (A1.set i (.is d)) rest n S) : RB A (dSeq (dAsg (bName i) me) rest) n S := fun t' e δ a => by
  obtain ⟨δ1, e1, a1, _⟩ := h δ a
  have hl : i < δ1.length := by rw [a1.len]; exact hi
  simp only [dSeq, dAsg, e1, bName, hl, if_true]
  exact g t' e _ (a1.set i d)
/-- names for what a target takes -/
def Bd (vs : List Nat) (A : List Sl) (b : Bnd) (d : D) (A' : List Sl) : Prop := ∀ δ, Agr A δ → ∃ δ', b d δ = some δ' ∧ Agr A' δ' ∧ δ'.length = δ.length ∧ ∀ i, i ∉ vs → δ'[i]? = δ[i]?
def Bds (vs : List Nat) (A : List Sl) (b : Bnds) (d : List D) (A' : List Sl) : Prop := ∀ δ, Agr A δ → ∃ δ', b d δ = some δ' ∧ Agr A' δ' ∧ δ'.length = δ.length ∧ ∀ i, i ∉ vs → δ'[i]? = δ[i]?
theorem b_name {i : Nat} (hi : i < A.length) : Bd [i] A (bName i) d (A.set i (.is d)) := fun δ a =>
  ⟨δ.set i (some d), by simp only [bName, (show i < δ.length by rw [a.len]; exact hi), if_true], a.set i d, by simp, fun j hj => by rw [List.getElem?_set_ne (fun e => hj (by simp [e]))]⟩
theorem b_nil : Bds [] A bNil [] A := fun δ a => ⟨δ, rfl, a, rfl, fun _ _ => rfl⟩
theorem b_cons {vs vt : List Nat} {b : Bnd} {bs : Bnds} {ds : List D} (h : Bd vs A b d A1) (g : Bds vt A1 bs ds A2) : Bds (vs ++ vt) A (bCons b bs) (d :: ds) A2 := fun δ a => by
  obtain ⟨δ1, e1, a1, l1, k1⟩ := h δ a
  obtain ⟨δ2, e2, a2, l2, k2⟩ := g δ1 a1
  exact ⟨δ2, by simp only [bCons, e1, e2], a2, l2.trans l1, fun i hi => by
    simp only [List.mem_append, not_or] at hi
    rw [k2 i hi.2, k1 i hi.1]⟩
theorem b_tup {vs : List Nat} {k : Nat} {bs : Bnds} {ds : List D} (g : Bds vs A bs ds A1) (hl : ds.length = k) : Bd vs A (bTup k bs) (.tup ds) A1 := fun δ a => by
  obtain ⟨δ1, e1, a1, l1, k1⟩ := g δ a
  exact ⟨δ1, by simp only [bTup, hl, if_true, e1], a1, l1, k1⟩
theorem k_asgT {vs : List Nat} {b : Bnd} (h : RV p A me (.own d) A1) (hb : Bd vs A1 b d A2) (g : RB A2 rest n S) : RB A (dSeq (dAsg b me) rest) n S := fun t' e δ a => by
  obtain ⟨δ1, e1, a1, _⟩ := h δ a
  obtain ⟨δ2, e2, a2, _⟩ := hb δ1 a1
  simp only [dSeq, dAsg, e1, e2]
  exact g t' e _ a2
theorem k_expr (h : RV p A me r A1) (g : RB A1 rest n S) : RB A (dSeq (dDrop me) rest) n S := fun t' e δ a => by
  obtain ⟨δ1, e1, a1, _⟩ := h δ a
  simp only [dSeq, dDrop, e1]
  exact g t' e _ a1
theorem mutD_root {δ : DE} {i : Nat} {xs xs' : List D} {f : List D → Option (List D)} (h : δ[i]? = some (some (.lst xs))) (e : f xs = some xs') : mutD δ (.at i []) f = some (δ.set i (some (.lst xs'))) := by
  simp only [mutD, h, getP, e, setP]
theorem isLst_root {δ : DE} {i : Nat} {xs : List D} (h : δ[i]? = some (some (.lst xs))) : isLst δ (.at i []) = true := by
  simp only [isLst, deref, h, getP]
/-- append to a list that a name holds -/
theorem r_append {i : Nat} {mo : Den} {xs : List D} {q : Bool} (ho : RV p1 A mo (.at i []) A1) (g1 : A1[i]? = some (.is (.lst xs))) (h : RV p2 A1 me (.own d) A2) (g : A2[i]? = some (.is (.lst xs))) (hl : xs.length < 1000000) :
    RV false A (dAppend q mo me) (.own .non) (A2.set i (.is (.lst (xs ++ [d])))) := fun δ a => by
  obtain ⟨δ1, e1, a1, _⟩ := ho δ a
  obtain ⟨δ2, e2, a2, _⟩ := h δ1 a1
  refine ⟨_, ?_, a2.set i _, fun h => by cases h⟩
  simp only [dAppend, e1, e2, R.short, Bool.true_or, isLst_root (a1.get _ _ g1), Bool.and_self, if_true]
  rw [mutD_root (a2.get _ _ g) (xs' := xs ++ [d]) (by simp only [hl, if_true])]
theorem k_aug {i : Nat} {f : Int → Int → Int} {x y : Int} (g : A[i]? = some (.is (.int x))) (h : RV p A me (.own (.int y)) A1) (hi : i < A1.length) (c : RB (A1.set i (.is (.int (f x y)))) rest n S) : RB A (dSeq (dAug i f me) rest) n S := fun t' e δ a => by
  obtain ⟨δ1, e1, a1, _⟩ := h δ a
  have hl : i < δ1.length := by rw [a1.len]; exact hi
  simp only [dSeq, dAug, a.get _ _ g, e1, hl, if_true]
  exact c t' e _ (a1.set i _)
/-- both ways go on -/
theorem k_ifJ {c : DenT} {b : Bool} {na nb : Option β} {A' : β → List Sl} {k : β → Option τ} (h : RT p A c b A1) (h1 : b = true → RB A1 ma na (Nx A')) (h2 : b = false → RB A1 mb nb (Nx A')) (g : ∀ x, RB (A' x) rest (k x) S) :
    RB A (dSeq (dIf c ma mb) rest) (bnd (if b = true then na else nb) k) S := fun t' e δ a => by
  obtain ⟨δ1, e1, a1, _⟩ := h δ a
  obtain ⟨x, h3, h4⟩ := bnd_eq e
  cases b with
  | true =>
    obtain ⟨out, e2, δ2, rfl, a2⟩ := h1 rfl x h3 δ1 a1
    simp only [dSeq, dIf, e1, e2]
    exact g x t' h4 _ a2
  | false =>
    obtain ⟨out, e2, δ2, rfl, a2⟩ := h2 rfl x h3 δ1 a1
    simp only [dSeq, dIf, e1, e2]
    exact g x t' h4 _ a2
/-- both ways with what follows -/
theorem k_if {c : DenT} {b : Bool} {na nb : Option τ} (h : RT p A c b A1) (h1 : b = true → RB A1 (dSeq ma rest) na S) (h2 : b = false → RB A1 (dSeq mb rest) nb S) :
    RB A (dSeq (dIf c ma mb) rest) (if b = true then na else nb) S := fun t' e δ a => by
  obtain ⟨δ1, e1, a1, _⟩ := h δ a
  cases b with
  | true =>
    obtain ⟨out, e2, s⟩ := h1 rfl t' e δ1 a1
    refine ⟨out, ?_, s⟩
    simp only [dSeq, dIf, e1] at e2 ⊢
    exact e2
  | false =>
    obtain ⟨out, e2, s⟩ := h2 rfl t' e δ1 a1
    refine ⟨out, ?_, s⟩
    simp only [dSeq, dIf, e1] at e2 ⊢
    exact e2
end
end Y


set_option Elab.async false
set_option linter.all false
set_option maxRecDepth 100000
/-! loops, blocks in brackets -/
namespace Y
open PySem PySem.Spec PyProof.Rows L2 Z
def forN {α β : Type} (f : α → β → Option β) : List α → β → Option β
  | [], b => some b
  | x :: xs, b => match f x b with
    | some b' => forN f xs b'
    | none => none
def forR {α β ρ : Type} (f : α → β → Option (Res β ρ)) : List α → β → Option (Res β ρ)
  | [], b => some (.nx b)
  | x :: xs, b => match f x b with
    | some (.nx b') => forR f xs b'
    | some (.ct b') => forR f xs b'
    | some (.bk b') => some (.nx b')
    | some (.rt r) => some (.rt r)
    | none => none
def whileN {β : Type} (c : β → Option Bool) (f : β → Option β) : Nat → β → Option β
  | 0, _ => none
  | n + 1, b => match c b with
    | some true => match f b with
      | some b' => whileN c f n b'
      | none => none
    | some false => some b
    | none => none
def onR {β ρ τ : Type} (j : ρ → Option τ) (k : β → Option τ) : Res β ρ → Option τ
  | .nx b => k b
  | .rt r => j r
  | _ => none
def lcO {α β : Type} (t : α → Option Bool) (e : α → Option β) : List α → Option (List β)
  | [] => some []
  | x :: xs => match t x with
    | some true => match e x with
      | some y => match lcO t e xs with
        | some ys => some (y :: ys)
        | none => none
      | none => none
    | some false => lcO t e xs
    | none => none
def lcS {α β σ : Type} (t : α → σ → Option (Bool × σ)) (e : α → σ → Option (β × σ)) : List α → σ → Option (List β × σ)
  | [], s => some ([], s)
  | x :: xs, s => match t x s with
    | some (true, s1) => match e x s1 with
      | some (y, s2) => match lcS t e xs s2 with
        | some (ys, s3) => some (y :: ys, s3)
        | none => none
      | none => none
    | some (false, s1) => lcS t e xs s1
    | none => none
def allO {α : Type} (t e : α → Option Bool) : List α → Option Bool
  | [] => some true
  | x :: xs => match t x with
    | some true => match e x with
      | some true => allO t e xs
      | some false => some false
      | none => none
    | some false => allO t e xs
    | none => none
/-- the guards of a loop stand -/
def Gd (A : List Sl) (gs : List (Nat × D)) : Prop := ∀ δ, Agr A δ → gOk gs δ = true
theorem gd_nil {A : List Sl} : Gd A [] := fun _ _ => rfl
theorem gd_cons {A : List Sl} {i : Nat} {d : D} {gs : List (Nat × D)} (h : A[i]? = some (.is d)) (g : Gd A gs) : Gd A ((i, d) :: gs) := fun δ a => by
  simp only [gOk, a.get i d h, decide_true, g δ a, Bool.and_self]
section
variable {p p1 p2 p3 : Bool} {α β σ τ ρ : Type} {A A1 A2 A3 : List Sl} {m ma mb rest : Blk} {S : τ → Out → Prop} {n : Option τ} {me : Den} {mt : DenT} {ms : DenS} {bd : Bnd} {kp : Nat → Bool} {gs : List (Nat × D)} {A0 : β → List Sl}
theorem dForL_N {vs : List Nat} {e : α → D} {f : α → β → Option β} (hg : ∀ b, Gd (A0 b) gs) {B : α → β → List Sl} (hb : ∀ x b, Bd vs (A0 b) bd (e x) (B x b)) (hm : ∀ x b, RB (B x b) mb (f x b) (Nx A0)) :
    ∀ (xs : List α) (b b' : β), forN f xs b = some b' → ∀ δ, Agr (A0 b) δ → ∃ δ', dForL gs bd mb (xs.map e) δ = some (.nx δ') ∧ Agr (A0 b') δ'
  | [], b, b', h, δ, a => by
    cases (Option.some.inj h)
    exact ⟨δ, by simp only [List.map_nil, dForL, hg b δ a, if_true], a⟩
  | x :: xs, b, b', h, δ, a => by
    simp only [forN] at h
    cases h1 : f x b with
    | none => rw [h1] at h; cases h
    | some b1 =>
      rw [h1] at h
      obtain ⟨δ1, e1, a1, _⟩ := hb x b δ a
      obtain ⟨out, e2, δ2, rfl, a2⟩ := hm x b b1 h1 δ1 a1
      obtain ⟨δ3, e3, a3⟩ := dForL_N hg hb hm xs b1 b' h δ2 a2
      exact ⟨δ3, by simp only [List.map_cons, dForL, hg b δ a, if_true, e1, e2, e3], a3⟩
theorem k_forN {vs : List Nat} {xs : List α} {e : α → D} {f : α → β → Option β} {b0 : β} {B : α → β → List Sl} {k : β → Option τ} (A0 : β → List Sl) (hs : RS p A ms ⟨xs.map e, gs⟩ A1) (l : Le A1 (A0 b0)) (hk : gsIn kp gs = true) (hg : ∀ b, Gd (A0 b) gs)
    (hb : ∀ x b, Bd vs (A0 b) bd (e x) (B x b)) (hm : ∀ x b, RB (B x b) mb (f x b) (Nx A0)) (hr : ∀ b, RB (A0 b) rest (k b) S) : RB A (dSeq (dFor kp ms bd mb) rest) (bnd (forN f xs b0) k) S := fun t e δ a => by
  obtain ⟨b, h1, h2⟩ := bnd_eq e
  obtain ⟨δ1, e1, a1, _⟩ := hs δ a
  obtain ⟨δ2, e2, a2⟩ := dForL_N hg hb hm xs b0 b h1 δ1 (a1.le l)
  simp only [dSeq, dFor, e1, hk, if_true, e2]
  exact hr b t h2 δ2 a2
theorem dForL_R {vs : List Nat} {e : α → D} {f : α → β → Option (Res β ρ)} {T : ρ → Out → Prop} (hg : ∀ b, Gd (A0 b) gs) {B : α → β → List Sl} (hb : ∀ x b, Bd vs (A0 b) bd (e x) (B x b)) (hm : ∀ x b, RB (B x b) mb (f x b) (Rs A0 T)) :
    ∀ (xs : List α) (b : β) (r : Res β ρ), forR f xs b = some r → ∀ δ, Agr (A0 b) δ → ∃ out, dForL gs bd mb (xs.map e) δ = some out ∧ match r with | .nx b' => ∃ δ', out = .nx δ' ∧ Agr (A0 b') δ' | .rt r => T r out ∧ ∃ d δ, out = .rt d δ | _ => False
  | [], b, b', h, δ, a => by
    cases (Option.some.inj h)
    exact ⟨_, by simp only [List.map_nil, dForL, hg b δ a, if_true], δ, rfl, a⟩
  | x :: xs, b, b', h, δ, a => by
    simp only [forR] at h
    cases h1 : f x b with
    | none => rw [h1] at h; cases h
    | some b1 =>
      rw [h1] at h
      obtain ⟨δ1, e1, a1, _⟩ := hb x b δ a
      obtain ⟨out, e2, s⟩ := hm x b b1 h1 δ1 a1
      cases b1 with
      | nx b1 =>
        obtain ⟨δ2, rfl, a2⟩ := s
        obtain ⟨o3, e3, a3⟩ := dForL_R hg hb hm xs b1 b' h δ2 a2
        exact ⟨o3, by simp only [List.map_cons, dForL, hg b δ a, if_true, e1, e2, e3], a3⟩
      | ct b1 =>
        obtain ⟨δ2, rfl, a2⟩ := s
        obtain ⟨o3, e3, a3⟩ := dForL_R hg hb hm xs b1 b' h δ2 a2
        exact ⟨o3, by simp only [List.map_cons, dForL, hg b δ a, if_true, e1, e2, e3], a3⟩
      | bk b1 =>
        obtain ⟨δ2, rfl, a2⟩ := s
        cases (Option.some.inj h)
        exact ⟨.nx δ2, by simp only [List.map_cons, dForL, hg b δ a, if_true, e1, e2], δ2, rfl, a2⟩
      | rt r1 =>
        cases (Option.some.inj h)
        obtain ⟨s1, d, δ2, rfl⟩ := s
        exact ⟨_, by simp only [List.map_cons, dForL, hg b δ a, if_true, e1, e2], s1, d, δ2, rfl⟩
theorem k_forR {vs : List Nat} {xs : List α} {e : α → D} {f : α → β → Option (Res β ρ)} {b0 : β} {B : α → β → List Sl} {k : β → Option τ} {j : ρ → Option τ} (T : ρ → Out → Prop) (A0 : β → List Sl) (hs : RS p A ms ⟨xs.map e, gs⟩ A1) (l : Le A1 (A0 b0)) (hk : gsIn kp gs = true) (hg : ∀ b, Gd (A0 b) gs)
    (hb : ∀ x b, Bd vs (A0 b) bd (e x) (B x b)) (hm : ∀ x b, RB (B x b) mb (f x b) (Rs A0 T)) (hj : ∀ r t out, j r = some t → T r out → (∃ d δ, out = .rt d δ) → S t out) (hr : ∀ b, RB (A0 b) rest (k b) S) : RB A (dSeq (dFor kp ms bd mb) rest) (bnd (forR f xs b0) (onR j k)) S := fun t e δ a => by
  obtain ⟨b, h1, h2⟩ := bnd_eq e
  obtain ⟨δ1, e1, a1, _⟩ := hs δ a
  obtain ⟨o2, e2, a2⟩ := dForL_R hg hb hm xs b0 b h1 δ1 (a1.le l)
  simp only [dSeq, dFor, e1, hk, if_true, e2]
  cases b with
  | nx b =>
    obtain ⟨δ2, rfl, a2⟩ := a2
    exact hr b t h2 δ2 a2
  | rt r =>
    obtain ⟨s, d, δ2, rfl⟩ := a2
    exact ⟨_, rfl, hj r t _ h2 s ⟨d, δ2, rfl⟩⟩
  | bk b => exact a2.elim
  | ct b => exact a2.elim
theorem dWhile_N {c : β → Option Bool} {f : β → Option β} (hc : ∀ b v, c b = some v → RT p (A0 b) mt v (A0 b)) (hm : ∀ b, c b = some true → RB (A0 b) mb (f b) (Nx A0)) :
    ∀ (n : Nat) (b b' : β), whileN c f n b = some b' → ∀ δ, Agr (A0 b) δ → ∃ δ', dWhile mt mb n δ = some (.nx δ') ∧ Agr (A0 b') δ'
  | 0, b, b', h, δ, a => by cases h
  | n + 1, b, b', h, δ, a => by
    simp only [whileN] at h
    cases h0 : c b with
    | none => rw [h0] at h; cases h
    | some v =>
      rw [h0] at h
      obtain ⟨δ1, e1, a1, _⟩ := hc b v h0 δ a
      cases v with
      | false =>
        cases (Option.some.inj h)
        exact ⟨δ1, by simp only [dWhile, e1], a1⟩
      | true =>
        cases h1 : f b with
        | none => rw [h1] at h; cases h
        | some b1 =>
          rw [h1] at h
          obtain ⟨out, e2, δ2, rfl, a2⟩ := hm b h0 b1 h1 δ1 a1
          obtain ⟨δ3, e3, a3⟩ := dWhile_N hc hm n b1 b' h δ2 a2
          exact ⟨δ3, by simp only [dWhile, e1, e2, e3], a3⟩
theorem k_whileN {c : β → Option Bool} {f : β → Option β} {b0 : β} {k : β → Option τ} {w : Nat} (A0 : β → List Sl) (l : Le A (A0 b0)) (hc : ∀ b v, c b = some v → RT p (A0 b) mt v (A0 b)) (hm : ∀ b, c b = some true → RB (A0 b) mb (f b) (Nx A0)) (hr : ∀ b, RB (A0 b) rest (k b) S) :
    RB A (dSeq (dWhile mt mb w) rest) (bnd (whileN c f w b0) k) S := fun t e δ a => by
  obtain ⟨b, h1, h2⟩ := bnd_eq e
  obtain ⟨δ2, e2, a2⟩ := dWhile_N hc hm w b0 b h1 δ (a.le l)
  simp only [dSeq, e2]
  exact hr b t h2 δ2 a2
/-! leaves -/
theorem nx_le {b : β} (l : Le A (A0 b)) : ∀ δ, Agr A δ → Nx A0 b (.nx δ) := fun δ a => ⟨δ, rfl, a.le l⟩
theorem rs_nx {T : ρ → Out → Prop} {b : β} (l : Le A (A0 b)) : ∀ δ, Agr A δ → Rs A0 T (.nx b) (.nx δ) := fun δ a => ⟨δ, rfl, a.le l⟩
theorem rs_rt {T : ρ → Out → Prop} {r : ρ} {d : D} (h : ∀ δ, Agr A δ → T r (.rt d δ)) : ∀ δ, Agr A δ → Rs A0 T (.rt r) (.rt d δ) := fun δ a => ⟨h δ a, d, δ, rfl⟩
theorem rt_le {er : ρ → D} {Ar : ρ → List Sl} {r : ρ} (l : Le A (Ar r)) : ∀ δ, Agr A δ → Rt er Ar r (.rt (er r) δ) := fun δ a => ⟨δ, rfl, a.le l⟩
theorem j_some {T : ρ → Out → Prop} : ∀ r t out, (some r : Option ρ) = some t → T r out → (∃ d δ, out = .rt d δ) → T t out := fun r t out e h _ => by cases e; exact h
/-! blocks in brackets -/
theorem restD_len (δ0 : DE) : ∀ (vs : List Nat) (δ2 : DE), (restD δ0 δ2 vs).length = δ2.length
  | [], _ => rfl
  | v :: vs, δ2 => by rw [restD, restD_len δ0 vs, List.length_set]
theorem restD_get (δ0 : DE) : ∀ (vs : List Nat) (δ2 : DE) (i : Nat), i ∉ vs → (restD δ0 δ2 vs)[i]? = δ2[i]?
  | [], _, _, _ => rfl
  | v :: vs, δ2, i, h => by
    simp only [List.mem_cons, not_or] at h
    rw [restD, restD_get δ0 vs _ i h.2, List.getElem?_set_ne (Ne.symm h.1)]
theorem setSl_get {A : List Sl} : ∀ {vs : List Nat} {i : Nat} {d : D}, (setSl A vs)[i]? = some (.is d) → i ∉ vs
  | [], _, _, _ => by simp
  | v :: vs, i, d, h => by
    rw [setSl, List.getElem?_set] at h
    by_cases hv : v = i
    · rw [if_pos hv] at h
      split at h <;> cases h
    · rw [if_neg hv] at h
      simp only [List.mem_cons, not_or]
      exact ⟨Ne.symm hv, setSl_get h⟩
theorem Agr.rst {A : List Sl} {vs : List Nat} {δ2 : DE} (h : Agr (setSl A vs) δ2) (δ0 : DE) : Agr (setSl A vs) (restD δ0 δ2 vs) :=
  ⟨by rw [restD_len]; exact h.len, fun i d e => by rw [restD_get δ0 vs δ2 i (setSl_get e)]; exact h.get i d e⟩
theorem wipe_get2 : ∀ {vs : List Nat} {δ : DE} {i : Nat}, i ∈ vs → i < δ.length → (wipeD δ vs)[i]? = some none
  | v :: vs, δ, i, h, hl => by
    rw [wipeD, List.getElem?_set]
    by_cases hv : v = i
    · rw [if_pos hv, if_pos (by rw [wipeD_len]; omega)]
    · rw [if_neg hv]
      rcases List.mem_cons.mp h with h | h
      · exact absurd h.symm hv
      · exact wipe_get2 h hl
theorem wipe_get3 : ∀ {vs : List Nat} {δ : DE} {i : Nat}, i ∉ vs → (wipeD δ vs)[i]? = δ[i]?
  | [], _, _, _ => rfl
  | v :: vs, δ, i, h => by
    simp only [List.mem_cons, not_or] at h
    rw [wipeD, List.getElem?_set_ne (Ne.symm h.1), wipe_get3 h.2]
/-- what changes only the block's own names is as before when they are wiped -/
theorem wipe_eq {vs : List Nat} {δ δ' : DE} (hl : δ'.length = δ.length) (h : ∀ i, i ∉ vs → δ'[i]? = δ[i]?) : wipeD δ' vs = wipeD δ vs := by
  apply List.ext_getElem?
  intro i
  by_cases hv : i ∈ vs
  · by_cases hi : i < δ.length
    · rw [wipe_get2 hv hi, wipe_get2 hv (by omega)]
    · rw [List.getElem?_eq_none (by rw [wipeD_len]; omega), List.getElem?_eq_none (by rw [wipeD_len]; omega)]
  · rw [wipe_get3 hv, wipe_get3 hv, h i hv]
theorem dLcL_S {vs vb : List Nat} {B : α → σ → List Sl} {B1 : α → σ → List Sl} {A0 : σ → List Sl} {ex : α → D} {g : β → D} {t : α → σ → Option (Bool × σ)} {e : α → σ → Option (β × σ)} (hg : ∀ s, Gd (setSl (A0 s) vs) gs) (hb : ∀ x s, Bd vb (setSl (A0 s) vs) bd (ex x) (B x s))
    (ht : ∀ x s v s', t x s = some (v, s') → RT p1 (B x s) mt v (B1 x s')) (he : ∀ x s y s', e x s = some (y, s') → RV p2 (B1 x s) me (.own (g y)) (B1 x s')) (hw : ∀ x s, Le (setSl (B1 x s) vs) (setSl (A0 s) vs)) :
    ∀ (xs : List α) (s : σ) (ys : List β) (s' : σ), lcS t e xs s = some (ys, s') → ∀ δ, Agr (setSl (A0 s) vs) δ → ∃ δ', dLcL gs vs bd mt me (xs.map ex) δ = some (ys.map g, δ') ∧ Agr (setSl (A0 s') vs) δ'
  | [], s, ys, s', h, δ, a => by
    cases (Option.some.inj h)
    exact ⟨δ, by simp only [List.map_nil, dLcL, hg s δ a, if_true], a⟩
  | x :: xs, s, ys, s', h, δ, a => by
    simp only [lcS] at h
    obtain ⟨δ1, e1, a1, _⟩ := hb x s δ a
    cases h1 : t x s with
    | none => rw [h1] at h; cases h
    | some q =>
      obtain ⟨v, s1⟩ := q
      rw [h1] at h
      obtain ⟨δ2, e2, a2, _⟩ := ht x s v s1 h1 δ1 a1
      cases v with
      | false =>
        obtain ⟨δ3, e3, a3⟩ := dLcL_S hg hb ht he hw xs s1 ys s' h _ ((a2.wipe vs).le (hw x s1))
        exact ⟨δ3, by simp only [List.map_cons, dLcL, hg s δ a, if_true, e1, e2, e3], a3⟩
      | true =>
        simp only at h
        cases h3 : e x s1 with
        | none => rw [h3] at h; cases h
        | some q =>
          obtain ⟨y, s2⟩ := q
          rw [h3] at h
          obtain ⟨δ4, e4, a4, _⟩ := he x s1 y s2 h3 δ2 a2
          cases h5 : lcS t e xs s2 with
          | none => simp only [h5] at h; cases h
          | some q =>
            obtain ⟨zs, s3⟩ := q
            simp only [h5] at h
            cases (Option.some.inj h)
            obtain ⟨δ3, e3, a3⟩ := dLcL_S hg hb ht he hw xs s2 _ _ h5 _ ((a4.wipe vs).le (hw x s2))
            exact ⟨δ3, by simp only [List.map_cons, dLcL, hg s δ a, if_true, e1, e2, e4, e3], a3⟩
/-- with effects -/
theorem r_lcS {vs vb : List Nat} {xs : List α} {ys : List β} {s s' : σ} {ex : α → D} {g : β → D} {t : α → σ → Option (Bool × σ)} {e : α → σ → Option (β × σ)} {B B1 : α → σ → List Sl} (A0 : σ → List Sl) (hs : RS p A ms ⟨xs.map ex, gs⟩ (A0 s)) (hk : gsIn (kpOut vs) gs = true) (h : lcS t e xs s = some (ys, s')) (hg : ∀ s, Gd (setSl (A0 s) vs) gs)
    (hb : ∀ x s, Bd vb (setSl (A0 s) vs) bd (ex x) (B x s)) (ht : ∀ x s v s', t x s = some (v, s') → RT p1 (B x s) mt v (B1 x s')) (he : ∀ x s y s', e x s = some (y, s') → RV p2 (B1 x s) me (.own (g y)) (B1 x s')) (hw : ∀ x s, Le (setSl (B1 x s) vs) (setSl (A0 s) vs)) :
    RV false A (dLc vs ms bd mt me) (.own (.lst (ys.map g))) (setSl (A0 s') vs) := fun δ a => by
  obtain ⟨δ1, e1, a1, _⟩ := hs δ a
  obtain ⟨δ2, e2, a2⟩ := dLcL_S hg hb ht he hw xs s ys s' h _ (a1.wipe vs)
  exact ⟨_, by simp only [dLc, e1, hk, if_true, e2], a2.rst δ1, fun h => by cases h⟩
end
end Y


set_option Elab.async false
set_option linter.all false
set_option maxRecDepth 100000
/-! blocks in brackets without effects, generators -/
namespace Y
open PySem PySem.Spec PyProof.Rows L2 Z
section
variable {p p1 p2 p3 : Bool} {α β σ τ ρ : Type} {A A1 A2 A3 : List Sl} {me : Den} {mt : DenT} {ms : DenS} {bd : Bnd} {gs : List (Nat × D)}
theorem restD_wipe (δ0 : DE) : ∀ vs : List Nat, restD δ0 (wipeD δ0 vs) vs = δ0
  | [] => rfl
  | v :: vs => by
    rw [restD, wipeD, List.set_set]
    cases h : (wipeD δ0 vs)[v]? with
    | none =>
      have hl := List.getElem?_eq_none_iff.mp h
      simp only [h]
      rw [List.set_eq_of_length_le hl]
      exact restD_wipe δ0 vs
    | some x =>
      obtain ⟨hl, hx⟩ := List.getElem?_eq_some_iff.mp h
      simp only [h]
      have e : (wipeD δ0 vs).set v x = wipeD δ0 vs := by rw [← hx]; exact List.set_getElem_self hl
      rw [e]
      exact restD_wipe δ0 vs
theorem wipe_idem (vs : List Nat) (δ : DE) : wipeD (wipeD δ vs) vs = wipeD δ vs := wipe_eq (wipeD_len δ vs) fun i hi => wipe_get3 hi
/-- one item: what the test and the element do in the wiped environment -/
structure El {vs vb : List Nat} (A : List Sl) (bd : Bnd) (mt : DenT) (me : Den) (ex : α → D) (g : β → D) (t : α → Option Bool) (e : α → Option β) (B : α → List Sl) : Prop where
  fb : ∀ x, Bd vb (setSl A vs) bd (ex x) (B x)
  ft : ∀ x v, t x = some v → RT true (B x) mt v (B x)
  fe : ∀ x y, t x = some true → e x = some y → RV true (B x) me (.own (g y)) (B x)
  fs : ∀ i ∈ vb, i ∈ vs
theorem El.run {vs vb : List Nat} {ex : α → D} {g : β → D} {t : α → Option Bool} {e : α → Option β} {B : α → List Sl} (E : El (vs := vs) (vb := vb) A bd mt me ex g t e B) {δw : DE} (a : Agr (setSl A vs) δw) (hw : wipeD δw vs = δw) (x : α) :
    ∃ δ1, bd (ex x) δw = some δ1 ∧ wipeD δ1 vs = δw ∧ (∀ v, t x = some v → mt δ1 = some (v, δ1)) ∧ (∀ y, t x = some true → e x = some y → me δ1 = some (.own (g y), δ1)) := by
  obtain ⟨δ1, e1, a1, l1, k1⟩ := E.fb x δw a
  refine ⟨δ1, e1, ?_, fun v hv => ?_, fun y hv hy => ?_⟩
  · rw [wipe_eq (δ := δw) (vs := vs) l1 fun i hi => k1 i fun h => hi (E.fs i h), hw]
  · obtain ⟨δ2, e2, a2, u⟩ := E.ft x v hv δ1 a1
    rw [u rfl] at e2; exact e2
  · obtain ⟨δ2, e2, a2, u⟩ := E.fe x y hv hy δ1 a1
    rw [u rfl] at e2; exact e2
theorem dLcL_O {vs vb : List Nat} {ex : α → D} {g : β → D} {t : α → Option Bool} {e : α → Option β} {B : α → List Sl} (E : El (vs := vs) (vb := vb) A bd mt me ex g t e B) {δw : DE} (a : Agr (setSl A vs) δw) (hw : wipeD δw vs = δw) (hg : gOk gs δw = true) :
    ∀ (xs : List α) (ys : List β), lcO t e xs = some ys → dLcL gs vs bd mt me (xs.map ex) δw = some (ys.map g, δw)
  | [], ys, h => by
    cases (Option.some.inj h)
    simp only [List.map_nil, dLcL, hg, if_true]
  | x :: xs, ys, h => by
    obtain ⟨δ1, e1, w1, t1, m1⟩ := E.run a hw x
    simp only [lcO] at h
    cases h1 : t x with
    | none => rw [h1] at h; cases h
    | some v =>
      rw [h1] at h
      cases v with
      | false =>
        have ih := dLcL_O E a hw hg xs ys h
        simp only [List.map_cons, dLcL, hg, if_true, e1, t1 _ h1, w1, ih]
      | true =>
        cases h2 : e x with
        | none => simp only [h2] at h; cases h
        | some y =>
          simp only [h2] at h
          cases h3 : lcO t e xs with
          | none => simp only [h3] at h; cases h
          | some zs =>
            simp only [h3] at h
            cases (Option.some.inj h)
            have ih := dLcL_O E a hw hg xs zs h3
            simp only [List.map_cons, dLcL, hg, if_true, e1, t1 _ h1, m1 _ h1 h2, w1, ih]
theorem r_lcO {vs vb : List Nat} {xs : List α} {ys : List β} {ex : α → D} {g : β → D} {t : α → Option Bool} {e : α → Option β} {B : α → List Sl} (hs : RS p A ms ⟨xs.map ex, gs⟩ A1) (hk : gsIn (kpOut vs) gs = true) (hg : Gd (setSl A1 vs) gs) (E : El (vs := vs) (vb := vb) A1 bd mt me ex g t e B) (h : lcO t e xs = some ys) :
    RV p A (dLc vs ms bd mt me) (.own (.lst (ys.map g))) A1 := fun δ a => by
  obtain ⟨δ1, e1, a1, u⟩ := hs δ a
  have := dLcL_O E (a1.wipe vs) (wipe_idem vs δ1) (hg _ (a1.wipe vs)) xs ys h
  exact ⟨δ1, by simp only [dLc, e1, hk, if_true, this, restD_wipe], a1, u⟩
theorem gOk_wipe {vs : List Nat} {δ : DE} : ∀ {gs : List (Nat × D)}, gOk gs (wipeD δ vs) = true → gOk gs δ = true
  | [], _ => rfl
  | (i, d) :: gs, h => by
    simp only [gOk, Bool.and_eq_true, decide_eq_true_eq] at h ⊢
    refine ⟨?_, gOk_wipe h.2⟩
    by_cases hv : i ∈ vs
    · by_cases hl : i < δ.length
      · rw [wipe_get2 hv hl] at h; cases h.1
      · rw [List.getElem?_eq_none (by rw [wipeD_len]; omega)] at h; cases h.1
    · rw [wipe_get3 hv] at h; exact h.1
end
end Y


set_option Elab.async false
set_option linter.all false
set_option maxRecDepth 100000
/-! typed values and what the operators make of them -/
namespace Y
open PySem PySem.Spec PyProof.Rows L2 Z
/-- values of a kind as data that cannot be changed -/
structure Enc (α : Type) where
  enc : α → D
  eq : ∀ a b, eqD (enc a) (enc b) = true ↔ a = b
  imm : ∀ a, (enc a).imm = true
  dp : Nat
  hdp : ∀ a, (enc a).dp ≤ dp
  nn : Bool
  hnn : nn = true → ∀ a, enc a ≠ .non
  al : Bool
  hal : al = true → ∀ a b, PySem.W.alike (toPy (enc a)) (toPy (enc b)) = true
  nol : al = true → ∀ a, (enc a).nol = true
  tk : Bool
  htk : tk = true → ∀ a, isTupN (enc a) = true
  pl : Bool
  hpl : pl = true → ∀ a, isPlainS (enc a) = true
/-- rows of values of kinds that are known -/
structure Rw (α : Type) where
  row : α → List D
  len : Nat
  hlen : ∀ a, (row a).length = len
  eq : ∀ a b, PyData.eqvAll (toPys (row a)) (toPys (row b)) = true ↔ a = b
  imm : ∀ a, D.imms (row a) = true
  dp : Nat
  hdp : ∀ a, D.dps (row a) ≤ dp
  al : Bool
  hal : al = true → ∀ a b, PySem.W.alikeAll (toPys (row a)) (toPys (row b)) = true
  nol : al = true → ∀ a, D.nols (row a) = true
  tag : Option Str := none
  htag : ∀ s, tag = some s → ∀ a, ∃ r, row a = .str s :: r := by intro s h; cases h
def Ei : Enc Int where
  enc := .int
  eq a b := by simp [eqD, toPy, PyData.eqv]
  imm _ := rfl
  nol _ _ := rfl
  dp := 0
  hdp _ := by simp [D.dp]
  nn := true
  hnn _ a h := by cases h
  al := true
  hal _ a b := by simp [toPy, PySem.W.alike]
  tk := false
  htk h := by cases h
  pl := true
  hpl _ _ := rfl
def Eb : Enc Bool where
  enc := .bl
  eq a b := by simp [eqD, toPy, PyData.eqv]
  imm _ := rfl
  nol _ _ := rfl
  dp := 0
  hdp _ := by simp [D.dp]
  nn := true
  hnn _ a h := by cases h
  al := true
  hal _ a b := by simp [toPy, PySem.W.alike]
  tk := false
  htk h := by cases h
  pl := true
  hpl _ _ := rfl
def Es : Enc Str where
  enc := .str
  eq a b := by simp [eqD, toPy, PyData.eqv]
  imm _ := rfl
  nol _ _ := rfl
  dp := 0
  hdp _ := by simp [D.dp]
  nn := true
  hnn _ a h := by cases h
  al := true
  hal _ a b := by simp [toPy, PySem.W.alike]
  tk := false
  htk h := by cases h
  pl := true
  hpl _ _ := rfl
def Eu : Enc Unit where
  enc _ := .non
  eq a b := by simp [eqD, toPy, PyData.eqv]
  imm _ := rfl
  nol _ _ := rfl
  dp := 0
  hdp _ := by simp [D.dp]
  nn := false
  hnn h := by cases h
  al := true
  hal _ a b := by simp [toPy, PySem.W.alike]
  tk := false
  htk h := by cases h
  pl := false
  hpl h := by cases h
theorem eqv_non_l {d : D} (n : d.imm = true) (h : eqD .non d = true) : d = .non := by cases d <;> simp_all [eqD, toPy, PyData.eqv, D.imm]
theorem eqv_non_r {d : D} (n : d.imm = true) (h : eqD d .non = true) : d = .non := by cases d <;> simp_all [eqD, toPy, PyData.eqv, D.imm]
/-- a value or None -/
def Eo {α : Type} (E : Enc α) (h : E.nn = true) : Enc (Option α) where
  enc o := match o with
    | some a => E.enc a
    | none => .non
  eq a b := by
    cases a with
    | none => cases b with
      | none => simp [eqD, toPy, PyData.eqv]
      | some b => simp only [reduceCtorEq, iff_false]; exact fun e => E.hnn h b (eqv_non_l (E.imm b) e)
    | some a => cases b with
      | none => simp only [reduceCtorEq, iff_false]; exact fun e => E.hnn h a (eqv_non_r (E.imm a) e)
      | some b => simp only [Option.some.injEq]; exact E.eq a b
  imm a := by cases a with
    | none => rfl
    | some a => exact E.imm a
  nol h := by cases h
  dp := E.dp
  hdp a := by cases a with
    | none => simp [D.dp]
    | some a => exact E.hdp a
  nn := false
  hnn h := by cases h
  al := false
  hal h := by cases h
  tk := false
  htk h := by cases h
  pl := false
  hpl h := by cases h
section
variable {α β : Type} (E : Enc α)
theorem map_eqv : ∀ (a b : List α), PyData.eqvAll (toPys (a.map E.enc)) (toPys (b.map E.enc)) = true ↔ a = b
  | [], [] => by simp [toPys, PyData.eqvAll]
  | [], _ :: _ => by simp [toPys, PyData.eqvAll]
  | _ :: _, [] => by simp [toPys, PyData.eqvAll]
  | x :: xs, y :: ys => by
    simp only [List.map_cons, toPys, PyData.eqvAll, Bool.and_eq_true, List.cons.injEq]
    exact and_congr (E.eq x y) (map_eqv xs ys)
theorem map_imms : ∀ (a : List α), D.imms (a.map E.enc) = true
  | [] => rfl
  | x :: xs => by simp only [List.map_cons, D.imms, E.imm x, map_imms xs, Bool.and_self]
theorem map_nols (ha : E.al = true) : ∀ (a : List α), D.nols (a.map E.enc) = true
  | [] => rfl
  | x :: xs => by simp only [List.map_cons, D.nols, E.nol ha x, map_nols ha xs, Bool.and_self]
theorem map_dps : ∀ (a : List α), D.dps (a.map E.enc) ≤ E.dp
  | [] => by simp [D.dps]
  | x :: xs => by
    simp only [List.map_cons, D.dps]
    have := E.hdp x
    have := map_dps xs
    omega
theorem map_alike (h : E.al = true) : ∀ (a b : List α), PySem.W.alikeAll (toPys (a.map E.enc)) (toPys (b.map E.enc)) = true
  | [], _ => by simp [toPys, PySem.W.alikeAll]
  | _ :: _, [] => by simp [toPys, PySem.W.alikeAll]
  | x :: xs, y :: ys => by
    simp only [List.map_cons, toPys, PySem.W.alikeAll, E.hal h x y, map_alike h xs ys, Bool.and_self]
/-- rows of any length, of one kind -/
def Et : Enc (List α) where
  enc xs := .tup (xs.map E.enc)
  eq a b := by simp only [eqD, toPy, PyData.eqv]; exact map_eqv E a b
  imm a := map_imms E a
  nol ha a := map_nols E ha a
  dp := E.dp + 1
  hdp a := by simp only [D.dp]; have := map_dps E a; omega
  nn := true
  hnn _ a h := by cases h
  al := E.al
  hal h a b := by simp only [toPy, PySem.W.alike]; exact map_alike E h a b
  tk := true
  htk _ _ := rfl
  pl := false
  hpl h := by cases h
def R1 : Rw α where
  row a := [E.enc a]
  len := 1
  hlen _ := rfl
  eq a b := by simp only [toPys, PyData.eqvAll, Bool.and_true]; exact E.eq a b
  imm a := by simp only [D.imms, E.imm a, Bool.and_self]
  nol ha a := by simp only [D.nols, E.nol ha a, Bool.and_self]
  dp := E.dp
  hdp a := by simp only [D.dps]; have := E.hdp a; omega
  al := E.al
  hal h a b := by simp only [toPys, PySem.W.alikeAll, E.hal h a b, Bool.and_self]
def Rc (F : Rw β) : Rw (α × β) where
  row a := E.enc a.1 :: F.row a.2
  len := F.len + 1
  hlen a := by simp only [List.length_cons, F.hlen]
  eq a b := by
    obtain ⟨a1, a2⟩ := a
    obtain ⟨b1, b2⟩ := b
    simp only [toPys, PyData.eqvAll, Bool.and_eq_true, Prod.mk.injEq]
    exact and_congr (E.eq a1 b1) (F.eq a2 b2)
  imm a := by simp only [D.imms, E.imm, F.imm, Bool.and_self]
  nol h a := by
    simp only [Bool.and_eq_true] at h
    simp only [D.nols, E.nol h.1, F.nol h.2, Bool.and_self]
  dp := max E.dp F.dp
  hdp a := by simp only [D.dps]; have := E.hdp a.1; have := F.hdp a.2; omega
  al := E.al && F.al
  hal h a b := by
    simp only [Bool.and_eq_true] at h
    simp only [toPys, PySem.W.alikeAll, E.hal h.1, F.hal h.2, Bool.and_self]
end
/-- a row as a tuple -/
def Er {α : Type} (F : Rw α) (h : (F.len != 0) = true := by rfl) : Enc α where
  enc a := .tup (F.row a)
  eq a b := by simp only [eqD, toPy, PyData.eqv]; exact F.eq a b
  imm a := F.imm a
  nol h a := F.nol h a
  dp := F.dp + 1
  hdp a := by simp only [D.dp]; have := F.hdp a; omega
  nn := true
  hnn _ a h := by cases h
  al := F.al
  hal h a b := by simp only [toPy, PySem.W.alike]; exact F.hal h a b
  tk := true
  htk _ a := by
    have := F.hlen a
    cases e : F.row a with
    | nil => rw [e] at this; simp at this; rw [← this] at h; simp at h
    | cons x xs => rfl
  pl := false
  hpl h := by cases h
/-! ### operators -/
section
variable {α β : Type} (E : Enc α) {n : Nat}
theorem enc_dep (a : α) (h : Nat.ble E.dp 59 = true) : dep (E.enc a) = true := dep_of (by have := E.hdp a; have := Nat.le_of_ble_eq_true h; omega)
theorem encs_dep (xs : List α) (h : Nat.ble E.dp 59 = true) : D.dps (xs.map E.enc) + 1 ≤ 60 := by have := map_dps E xs; have := Nat.le_of_ble_eq_true h; omega
theorem eqD_enc [DecidableEq α] (a b : α) : eqD (E.enc a) (E.enc b) = decide (a = b) := by
  rw [Bool.eq_iff_iff, E.eq, decide_eq_true_eq]
variable [DecidableEq α]
theorem f_eq (a b : α) (h : Nat.ble E.dp 59 = true) : fEq [E.enc a, E.enc b] = some (.bl (decide (a = b))) := by
  simp only [fEq, enc_dep E _ h, Bool.and_self, if_true, eqD_enc]
theorem any_enc (xs : List α) (a : α) : anyEq (xs.map E.enc) (E.enc a) = decide (a ∈ xs) := by
  rw [Bool.eq_iff_iff, decide_eq_true_eq]
  unfold anyEq
  rw [List.any_map, List.any_eq_true]
  exact ⟨fun ⟨y, hy, e⟩ => by rw [← (E.eq y a).mp e]; exact hy, fun hm => ⟨a, hm, (E.eq a a).mpr rfl⟩⟩
theorem f_inT (a : α) (xs : List α) (h : Nat.ble E.dp 58 = true) : fIn [E.enc a, .tup (xs.map E.enc)] = some (.bl (decide (a ∈ xs))) := by
  have h2 : Nat.ble E.dp 59 = true := by have := Nat.le_of_ble_eq_true h; exact Nat.ble_eq_true_of_le (by omega)
  simp only [fIn, enc_dep E _ h2, dep_of (d := .tup (xs.map E.enc)) (by simp only [D.dp]; exact encs_dep E xs h2), Bool.and_self, if_true, any_enc]
theorem f_ninL (a : α) (xs : List α) (h : Nat.ble E.dp 58 = true) : fNotIn [E.enc a, .lst (xs.map E.enc)] = some (.bl (!decide (a ∈ xs))) := by
  have h2 : Nat.ble E.dp 59 = true := by have := Nat.le_of_ble_eq_true h; exact Nat.ble_eq_true_of_le (by omega)
  simp only [fNotIn, enc_dep E _ h2, dep_of (d := .lst (xs.map E.enc)) (by simp only [D.dp]; exact encs_dep E xs h2), Bool.and_self, if_true, any_enc]
/-- one text in another -/
def inS (i j : Str) : Bool := !(Builtin.Str.occurrences j i 0 j.length 1).isEmpty
theorem f_ninS (i j : Str) : fNotIn [.str i, .str j] = some (.bl (!inS i j)) := rfl
omit [DecidableEq α]
theorem f_isN (h : E.nn = true) (a : Option α) : fIs [(Eo E h).enc a, .non] = some (.bl a.isNone) := by
  cases a with
  | none => rfl
  | some a =>
    show fIs [E.enc a, .non] = _
    have := E.hnn h a
    cases e : E.enc a <;> simp_all [fIs, isNone]
theorem f_isNN (h : E.nn = true) (a : Option α) : fIsNot [(Eo E h).enc a, .non] = some (.bl (!a.isNone)) := by
  cases a with
  | none => rfl
  | some a =>
    show fIsNot [E.enc a, .non] = _
    have := E.hnn h a
    cases e : E.enc a <;> simp_all [fIsNot, isNone]
/-! numbers -/
theorem f_add (i j : Int) : fAdd [.int i, .int j] = some (.int (i + j)) := rfl
theorem f_sub (i j : Int) : fSub [.int i, .int j] = some (.int (i - j)) := rfl
def mulO (i j : Int) : Option Int := if -(2 ^ 64) < i ∧ i < 2 ^ 64 ∨ -(2 ^ 64) < j ∧ j < 2 ^ 64 then some (i * j) else none
theorem f_mul {i j k : Int} (h : mulO i j = some k) : fMul [.int i, .int j] = some (.int k) := by
  unfold mulO at h
  split at h
  · cases h; simp only [fMul]; rw [if_pos (by assumption)]
  · cases h
def modO (i j : Int) : Option Int := if j ≠ 0 then some (i.fmod j) else none
theorem f_mod {i j k : Int} (h : modO i j = some k) : fMod [.int i, .int j] = some (.int k) := by
  unfold modO at h
  split at h
  · cases h; simp only [fI2]; rw [if_pos (by assumption)]
  · cases h
theorem f_int (i : Int) : fInt [.int i] = some (.int i) := rfl
theorem f_lt (i j : Int) : fLt [.int i, .int j] = some (.bl (decide (i < j))) := fLt_int i j
theorem f_gt (i j : Int) : fGt [.int i, .int j] = some (.bl (decide (j < i))) := fGt_int i j
/-! order of other values -/
def Enc.lt (a b : α) : Bool := ltD (E.enc a) (E.enc b)
theorem enc_cmp (a b : α) (h : Nat.ble E.dp 59 = true) (ha : E.al = true) (hn : E.nn = true) : cmpOk (E.enc a) (E.enc b) = true := by
  simp only [cmpOk, E.hal ha, enc_dep E _ h, Bool.and_self, Bool.true_and]
  have := E.nol ha a
  have := E.hnn hn a
  cases e : E.enc a <;> simp_all [D.nol]
theorem lt_str (i j : Str) : Es.lt i j = decide (i.cps.toList < j.cps.toList) := PySem.W.dataLt_str i j
theorem lt_irrefl (a : α) : E.lt a a = false := lex_irrefl _
theorem lt_trans {a b c : α} (h1 : E.lt a b = true) (h2 : E.lt b c = true) : E.lt a c = true := lex_trans _ _ _ h1 h2
/-! rows -/
theorem f_lenL (xs : List α) : fLen [.lst (xs.map E.enc)] = some (.int xs.length) := by simp only [fLen, lenD, List.length_map]
theorem f_lenS (x : Str) : fLen [.str x] = some (.int x.length) := rfl
theorem atI_map (xs : List α) (i : Int) : L2.atI (xs.map E.enc) i = (L2.atI xs i).map E.enc := by
  simp only [L2.atI, List.length_map]
  cases ixN xs.length i with
  | none => rfl
  | some j => simp only [Option.bind_some, List.getElem?_map]
theorem s_L {r : R} {xs : List α} {i : Int} {v : α} (h : L2.atI xs i = some v) : subR r (.lst (xs.map E.enc)) i = some (.own (E.enc v)) := by
  simp only [subR, subD, atI_map, h, Option.map_some, E.imm v, if_true]
def atS (x : Str) (i : Int) : Option Str := (L2.atI x.cps.toList i).map fun c => ⟨#[c]⟩
theorem s_S {r : R} {x : Str} {i : Int} {v : Str} (h : atS x i = some v) : subR r (.str x) i = some (.own (.str v)) := by
  unfold atS at h
  simp only [subR, subD]
  cases e : L2.atI x.cps.toList i with
  | none => rw [e] at h; cases h
  | some c => rw [e] at h; cases h; rfl
/-- a place of a row that is known -/
theorem s_R {r : R} {ds : List D} {i : Int} {d : D} (h : L2.atI ds i = some d) (g : d.imm = true) : subR r (.tup ds) i = some (.own d) := by
  simp only [subR, subD, h, g, if_true]
theorem c_S (x : Str) (lo hi : Option Int) : sliceD lo hi (.str x) = some (.str (cutS x lo hi)) := rfl
theorem f_tuple (xs : List α) : fTuple [.lst (xs.map E.enc)] = some (.tup (xs.map E.enc)) := by simp only [fTuple, map_imms, if_true]
theorem t_S (x : Str) : truthD (.str x) = some ((x.length : Int) != 0) := rfl
theorem t_B (b : Bool) : truthD (.bl b) = some b := rfl
def catS (x y : Str) : Option Str := if x.length + y.length ≤ 1000000 then some (x ++ y) else none
theorem f_catS {x y z : Str} (h : catS x y = some z) : fAdd [.str x, .str y] = some (.str z) := by
  unfold catS at h
  split at h
  · cases h; simp only [fAdd]; rw [if_pos (by assumption)]
  · cases h
def pushO (xs : List α) (y : α) : Option (List α) := if xs.length < 1000000 then some (xs ++ [y]) else none
theorem push_eq {xs zs : List α} {y : α} (h : pushO xs y = some zs) : xs.length < 1000000 ∧ zs = xs ++ [y] := by
  unfold pushO at h
  split at h
  · cases h; exact ⟨by assumption, rfl⟩
  · cases h
/-! items -/
def rngN (lo : Int) (n : Nat) : List Int := (List.range n).map fun (k : Nat) => lo + (k : Int)
theorem rng_map (lo : Int) (n : Nat) : rangeD lo n = (rngN lo n).map Ei.enc := by
  simp only [rangeD, rngN, List.map_map]; rfl
def rngO (lo hi : Int) : Option (List Int) := if -1000000 ≤ lo ∧ lo ≤ 1000000 ∧ -1000000 ≤ hi ∧ hi ≤ 1000000 then some (rngN lo (hi - lo).toNat) else none
def numN {α : Type} : Nat → List α → List (Int × α)
  | _, [] => []
  | k, x :: xs => ((k : Int), x) :: numN (k + 1) xs
def numE : Enc (Int × α) := Er (Rc Ei (R1 E))
theorem num_map : ∀ (k : Nat) (xs : List α), enumD k (xs.map E.enc) = (numN k xs).map (numE E).enc
  | _, [] => rfl
  | k, x :: xs => by simp only [List.map_cons, enumD, numN, num_map (k + 1) xs]; rfl
def chrs (x : Str) : List Str := x.cps.toList.map fun c => ⟨#[c]⟩
theorem chars_map (x : Str) : chars x = (chrs x).map Es.enc := by simp only [chars, chrs, List.map_map]; rfl
section
variable {p : Bool} {A A1 : List Sl} {m : Den} {mr : DE → Option (List R × DE)}
theorem i_rng1 {hi : Int} {zs : List Int} (h : RA p A mr [.own (.int hi)] A1) (e : rngO 0 hi = some zs) : RS p A (sRange mr) ⟨zs.map Ei.enc, []⟩ A1 := fun δ a => by
  obtain ⟨δ1, e1, a1, u⟩ := h δ a
  unfold rngO at e
  split at e
  · rename_i hh
    cases e
    refine ⟨δ1, ?_, a1, u⟩
    simp only [sRange, e1]
    rw [if_pos hh.2.2, rng_map, Int.sub_zero]
  · cases e
theorem i_rng2 {lo hi : Int} {zs : List Int} (h : RA p A mr [.own (.int lo), .own (.int hi)] A1) (e : rngO lo hi = some zs) : RS p A (sRange mr) ⟨zs.map Ei.enc, []⟩ A1 := fun δ a => by
  obtain ⟨δ1, e1, a1, u⟩ := h δ a
  unfold rngO at e
  split at e
  · rename_i hh
    cases e
    refine ⟨δ1, ?_, a1, u⟩
    simp only [sRange, e1]
    rw [if_pos hh, rng_map]
  · cases e
theorem i_L {xs : List α} (h : RV p A m (.own (.lst (xs.map E.enc))) A1) : RS p A (sSeq m) ⟨xs.map E.enc, []⟩ A1 := fun δ a => by
  obtain ⟨δ1, e1, a1, u⟩ := h δ a
  exact ⟨δ1, by simp only [sSeq, e1, map_imms, if_true], a1, u⟩
theorem i_V {xs : List α} {i : Nat} (h : RV p A m (.at i []) A1) (g : A1[i]? = some (.is (.lst (xs.map E.enc)))) : RS p A (sSeq m) ⟨xs.map E.enc, [(i, .lst (xs.map E.enc))]⟩ A1 := fun δ a => by
  obtain ⟨δ1, e1, a1, u⟩ := h δ a
  exact ⟨δ1, by simp only [sSeq, e1, a1.get _ _ g, map_imms, if_true], a1, u⟩
theorem i_S {x : Str} (h : RV p A m (.own (.str x)) A1) : RS p A (sSeq m) ⟨(chrs x).map Es.enc, []⟩ A1 := fun δ a => by
  obtain ⟨δ1, e1, a1, u⟩ := h δ a
  exact ⟨δ1, by simp only [sSeq, e1, chars_map], a1, u⟩
end
/-! sorting -/
def Enc.sort (xs : List α) : List α := xs.mergeSort fun a b => PySem.W.dataLe false toPy (E.enc a) (E.enc b)
theorem sort_map (xs : List α) : sortD (xs.map E.enc) = (E.sort xs).map E.enc := by
  unfold sortD Enc.sort
  exact (List.map_mergeSort (f := E.enc) (r := fun a b => PySem.W.dataLe false toPy (E.enc a) (E.enc b)) (s := PySem.W.dataLe false toPy) (fun a _ b _ => rfl)).symm
theorem all_map (q : D → Bool) (h : ∀ a, q (E.enc a) = true) : ∀ xs : List α, (xs.map E.enc).all q = true := fun xs => by
  rw [List.all_map, List.all_eq_true]; exact fun a _ => h a
theorem sortOk_map (xs : List α) (h : Nat.ble E.dp 59 = true) (ha : E.al = true) (hk : (E.tk || E.pl) = true) : sortOk (xs.map E.enc) = true := by
  unfold sortOk
  simp only [Bool.and_eq_true, map_nols E ha, true_and]
  refine ⟨all_map E _ (fun a => enc_dep E a h) xs, all_map E _ (fun a => all_map E _ (fun b => E.hal ha a b) xs) xs, ?_⟩
  rw [Bool.or_eq_true] at hk ⊢
  rcases hk with hk | hk
  · exact .inl (all_map E _ (E.htk hk) xs)
  · exact .inr (all_map E _ (E.hpl hk) xs)
theorem f_sort (xs : List α) (h : Nat.ble E.dp 59 = true) (ha : E.al = true) (hk : (E.tk || E.pl) = true) : fSort (xs.map E.enc) = some (.lst ((E.sort xs).map E.enc)) := by
  simp only [fSort, sortOk_map E xs h ha hk, if_true, sort_map]
theorem f_sortL (xs : List α) (h : Nat.ble E.dp 59 = true) (ha : E.al = true) (hk : (E.tk || E.pl) = true) : fSort1 [.lst (xs.map E.enc)] = some (.lst ((E.sort xs).map E.enc)) := by
  simp only [fSort1, itemsD, f_sort E xs h ha hk]
def nub [DecidableEq α] : List α → List α
  | [] => []
  | x :: xs => if x ∈ xs then nub xs else x :: nub xs
theorem enc_inj (a b : α) (h : E.enc a = E.enc b) : a = b := (E.eq a b).mp (by rw [h]; exact (E.eq b b).mpr rfl)
theorem mem_enc (a : α) (xs : List α) : E.enc a ∈ xs.map E.enc ↔ a ∈ xs :=
  ⟨fun h => by obtain ⟨b, hb, e⟩ := List.mem_map.mp h; rw [← enc_inj E b a e]; exact hb, fun h => List.mem_map.mpr ⟨a, h, rfl⟩⟩
theorem nub_map [DecidableEq α] : ∀ xs : List α, nubD (xs.map E.enc) = (nub xs).map E.enc
  | [] => rfl
  | x :: xs => by
    simp only [List.map_cons, nubD, nub, mem_enc, nub_map xs]
    split <;> simp
def setO' [DecidableEq α] (xs : List α) : Option (List α) := if xs.length < 1000 then some (E.sort (nub xs)) else none
theorem f_setS {xs zs : List Str} (h : setO' Es xs = some zs) : fSetS (xs.map Es.enc) = some (.lst (zs.map Es.enc)) := by
  unfold setO' at h
  split at h
  · rename_i hh
    cases h
    have hk : keysOk (xs.map Es.enc) = true := by
      simp only [keysOk, List.length_map, hh, decide_true, Bool.true_and, Bool.or_eq_true]
      exact .inr (all_map Es _ (fun _ => rfl) xs)
    simp only [fSetS, hk, if_true, setSortD, nub_map, sort_map]
  · cases h
/-! least and greatest -/
theorem minD_map (x : α) : ∀ xs : List α, minD (E.enc x) (xs.map E.enc) = E.enc (xs.foldl (fun a y => if E.lt y a then y else a) x) := by
  intro xs
  unfold minD
  induction xs generalizing x with
  | nil => rfl
  | cons y ys ih =>
    simp only [List.map_cons, List.foldl_cons]
    rw [← ih]
    congr 1
    unfold Enc.lt
    split <;> rfl
theorem maxD_map (x : α) : ∀ xs : List α, maxD (E.enc x) (xs.map E.enc) = E.enc (xs.foldl (fun a y => if E.lt a y then y else a) x) := by
  intro xs
  unfold maxD
  induction xs generalizing x with
  | nil => rfl
  | cons y ys ih =>
    simp only [List.map_cons, List.foldl_cons]
    rw [← ih]
    congr 1
    unfold Enc.lt
    split <;> rfl
theorem cmpAll_map (xs : List α) (h : Nat.ble E.dp 59 = true) (ha : E.al = true) (hn : E.nn = true) : cmpAll (xs.map E.enc) = true := by
  unfold cmpAll
  simp only [map_nols E ha, Bool.true_and]
  exact all_map E _ (fun a => all_map E _ (fun b => enc_cmp E a b h ha hn) xs) xs
end
end Y


set_option Elab.async false
set_option linter.all false
set_option maxRecDepth 100000
set_option maxHeartbeats 1000000
/-! what all laws share: the box of digits, drawing, sameness -/
namespace Y
open PySem PySem.Spec PyProof.Rows L2 Z
def m_law_cell : Blk :=
    (dSeq (dIf (dTb (dCall fLt (d2 true (dVar 1) (dCall fLen (dACons true (dVar 0) dANil)))))
    (dRet (kpL [0, 1]) (dSub true (dVar 0) (dVar 1)))
    dNx)
    (dRet (kpL [0, 1]) (dC (.int 0))))
def d_law_cell : Fn := dFn 2 2 (kpL [0, 1]) m_law_cell
def l_law_digits_1 : Blk :=
    (dIf (dTb (dCall fGt (d2 true (dVar 5) (dC (.int 0)))))
    (dSeq (dDrop (dAppend true (dVar 3) (dCall fMod (d2 true (dCall fInt (dACons true (dVar 5) dANil)) (dC (.int 1000))))))
    (dAsg (bName 5) (dCall fFdiv (d2 true (dVar 5) (dC (.int 1000))))))
    dNx)
def l_law_digits_2 : Blk :=
    (dSeq (dAsg (bName 7) (dCall fMod (d2 true (dCall fInt (dACons true (dCall fAdd (d2 true (dCall fAdd (d2 true (dCall fMul (d2 true (dVar 7) (dC (.int 16807)))) (dCall fMul (d2 true (dC (.int 7)) (dVar 6))))) (dC (.int 1)))) dANil)) (dC (.int 2147483647)))))
    (dDrop (dAppend true (dVar 3) (dCall fMod (d2 true (dCall fInt (dACons true (dCall fFdiv (d2 true (dVar 7) (dC (.int 997)))) dANil)) (dC (.int 1000)))))))
def l_law_digits_3 : Blk :=
    (dSeq (dAsg (bName 5) (dUser d_law_cell (dACons true (dVar 0) (dACons true (dVar 4) dANil))))
    (dSeq (dIf (dTb (dCall fLt (d2 true (dVar 5) (dC (.int 0)))))
    (dAsg (bName 5) (dCall fSub (d2 true (dC (.int 1)) (dCall fMul (d2 true (dC (.int 2)) (dVar 5))))))
    dNx)
    (dIf (dTb (dCall fGe (d2 true (dVar 5) (dCall fPow (d2 true (dC (.int 10)) (dC (.int 18)))))))
    (dFor (kpL [0, 1, 2, 3, 4, 7]) (sRange (dACons true (dC (.int 60)) dANil)) (bName 6)
    l_law_digits_1)
    (dSeq (dAsg (bName 7) (dCall fMod (d2 true (dCall fInt (dACons true (dCall fAdd (d2 true (dCall fAdd (d2 true (dCall fMul (d2 true (dVar 5) (dC (.int 48271)))) (dCall fMul (d2 true (dVar 4) (dC (.int 69621)))))) (dC (.int 11)))) dANil)) (dC (.int 2147483647)))))
    (dFor (kpL [0, 1, 2, 3, 4, 5]) (sRange (dACons true (dC (.int 12)) dANil)) (bName 6)
    l_law_digits_2)))))
def m_law_digits : Blk :=
    (dSeq (dAsg (bName 3) (dLst dANil))
    (dSeq (dFor (kpL [0, 1, 2, 3]) (sRange (dACons true (dVar 1) (dACons true (dVar 2) dANil))) (bName 4)
    l_law_digits_3)
    (dRet (kpL [0, 1, 2]) (dVar 3))))
def d_law_digits : Fn := dFn 8 3 (kpL [0, 1, 2]) m_law_digits
def m_law_box : Blk :=
    (dRet (kpL [0, 1, 2]) (dLst (dACons true (dUser d_law_digits (dACons true (dVar 0) (dACons true (dVar 1) (dACons true (dVar 2) dANil)))) (dACons true (dC (.int 0)) dANil))))
def d_law_box : Fn := dFn 3 3 (kpL [0, 1, 2]) m_law_box
def m_law_draw : Blk :=
    (dSeq (dAsg (bName 2) (dSub true (dVar 0) (dC (.int 1))))
    (dSeq (dSetI true true (dVar 0) (dC (.int 1)) (dCall fAdd (d2 true (dVar 2) (dC (.int 1)))))
    (dSeq (dIf (dTb (dCall fLt (d2 true (dVar 2) (dCall fLen (dACons true (dSub true (dVar 0) (dC (.int 0))) dANil)))))
    (dRet (kpL [0, 1]) (dCall fMod (d2 true (dCall fInt (dACons true (dSub true (dSub true (dVar 0) (dC (.int 0))) (dVar 2)) dANil)) (dVar 1))))
    dNx)
    (dRet (kpL [0, 1]) (dC (.int 0))))))
def d_law_draw : Fn := dFn 3 2 (kpL [0, 1]) m_law_draw
def l_law_same_1 (rec : Fn) : Blk :=
    (dIf (dNot (dTv (dUser rec (dACons true (dSub true (dVar 0) (dVar 2)) (dACons true (dSub true (dVar 1) (dVar 2)) dANil)))))
    (dRet (kpL [0, 1]) (dC (.bl false)))
    dNx)
def m_law_same (rec : Fn) : Blk :=
    (dSeq (dIf (dTv (dCall (fIsa PyData.isTuple) (dACons true (dVar 1) dANil)))
    (dSeq (dIf (dOr (dNot (dTv (dCall (fIsa PyData.isTuple) (dACons true (dVar 0) dANil)))) (dTb (dCall fNe (d2 true (dCall fLen (dACons true (dVar 0) dANil)) (dCall fLen (dACons true (dVar 1) dANil))))))
    (dRet (kpL [0, 1]) (dC (.bl false)))
    dNx)
    (dSeq (dFor (kpL [0, 1]) (sRange (dACons true (dCall fLen (dACons true (dVar 1) dANil)) dANil)) (bName 2)
    (l_law_same_1 rec))
    (dRet (kpL [0, 1]) (dC (.bl true)))))
    dNx)
    (dSeq (dIf (dTb (dCall fIs (d2 true (dVar 1) (dC .non))))
    (dRet (kpL [0, 1]) (dCall fIs (d2 true (dVar 0) (dC .non))))
    dNx)
    (dSeq (dIf (dTv (dCall (fIsa PyData.isBool) (dACons true (dVar 1) dANil)))
    (dRet (kpL [0, 1]) (dAndV (dCall (fIsa PyData.isBool) (dACons true (dVar 0) dANil)) (dCall fEq (d2 true (dVar 0) (dVar 1)))))
    dNx)
    (dSeq (dIf (dTv (dCall (fIsa PyData.isInt) (dACons true (dVar 1) dANil)))
    (dRet (kpL [0, 1]) (dAndV (dCall (fIsa PyData.isInt) (dACons true (dVar 0) dANil)) (dAndV (dNotV (dCall (fIsa PyData.isBool) (dACons true (dVar 0) dANil))) (dCall fEq (d2 true (dVar 0) (dVar 1))))))
    dNx)
    (dRet (kpL [0, 1]) (dAndV (dCall (fIsa PyData.isStr) (dACons true (dVar 0) dANil)) (dCall fEq (d2 true (dVar 0) (dVar 1)))))))))
def d_law_same : Nat → Fn
  | 0 => fun _ => none
  | n + 1 => dFn 3 2 (kpL [0, 1]) (m_law_same (d_law_same n))
theorem atI_ints (xs : List Int) (k : Nat) (h : k < xs.length) : L2.atI (xs.map D.int) (k : Int) = some (D.int xs[k]) := by
  simp [L2.atI, L2.ixN, h]
theorem rangeD_at {lo : Int} {n : Nat} {p q : List D} {x : D} (e : rangeD lo n = p ++ x :: q) : x = .int (lo + p.length) ∧ p.length < n := by
  have h : (rangeD lo n)[p.length]? = some x := by rw [e]; simp
  obtain ⟨h1, h2⟩ := rangeD_get h
  exact ⟨h2, h1⟩
theorem cell_ok (c : List D → D) (hc : c = .lst ∨ c = .frz) (xs : List Int) (k : Nat) : d_law_cell [c (xs.map .int), .int k] = some (.int (xs.getD k 0), [some (c (xs.map .int)), some (.int k)]) := by
  by_cases h : k < xs.length
  · have e := atI_ints xs k h
    rcases hc with rfl | rfl <;>
    simp [d_law_cell, m_law_cell, dFn, env0, dSeq, dNx, dBk, dCt, dIf, dTb, dTv, dAnd, dOr, dNot, dAndV, dOrV, dNotV, dIfE, dCall, dACons, dANil, dVar, dC, derefs, deref, getP, setP, dRet, dRetN, dSub, subR, subD, R.short, lenD, fLen, fInt, fTuple, dTup, dLst, owns, fI2, D.imm, D.imms, truthD, dAsg, bName, bTup, bCons, bNil, dDrop, dAppend, isLst, mutD, dSetI, dUser, rootsOk, roots, puts, fins, kpL, dAug, fAdd, fMul, fMod, fFdiv, fSub, fLt_int, fGt_int, fLe_int, fGe_int, fEq_int, fNe_int, fEq_str, h, e]
  · rcases hc with rfl | rfl <;>
    simp [d_law_cell, m_law_cell, dFn, env0, dSeq, dNx, dBk, dCt, dIf, dTb, dTv, dAnd, dOr, dNot, dAndV, dOrV, dNotV, dIfE, dCall, dACons, dANil, dVar, dC, derefs, deref, getP, setP, dRet, dRetN, dSub, subR, subD, R.short, lenD, fLen, fInt, fTuple, dTup, dLst, owns, fI2, D.imm, D.imms, truthD, dAsg, bName, bTup, bCons, bNil, dDrop, dAppend, isLst, mutD, dSetI, dUser, rootsOk, roots, puts, fins, kpL, dAug, fAdd, fMul, fMod, fFdiv, fSub, fLt_int, fGt_int, fLe_int, fGe_int, fEq_int, fNe_int, fEq_str, h]
/-- the box: its digits, the place -/
def box (ds : List Int) (n : Nat) : D := .lst [.lst (ds.map .int), .int n]
theorem big_step (s f l k z : Option D) (ds : List Int) (c t : Int) (hl : ds.length < 1000000) : ∃ (ds' : List Int) (c' : Int), l_law_digits_1 [s, f, l, some (.lst (ds.map .int)), k, some (.int c), some (.int t), z] = some (.nx [s, f, l, some (.lst (ds'.map .int)), k, some (.int c'), some (.int t), z]) ∧ ds'.length ≤ ds.length + 1 := by
  by_cases hc : 0 < c
  · exact ⟨ds ++ [c.fmod 1000], c.fdiv 1000, by simp [l_law_digits_1, dFn, env0, dSeq, dNx, dBk, dCt, dIf, dTb, dTv, dAnd, dOr, dNot, dAndV, dOrV, dNotV, dIfE, dCall, dACons, dANil, dVar, dC, derefs, deref, getP, setP, dRet, dRetN, dSub, subR, subD, R.short, lenD, fLen, fInt, fTuple, dTup, dLst, owns, fI2, D.imm, D.imms, truthD, dAsg, bName, bTup, bCons, bNil, dDrop, dAppend, isLst, mutD, dSetI, dUser, rootsOk, roots, puts, fins, kpL, dAug, fAdd, fMul, fMod, fFdiv, fSub, fLt_int, fGt_int, fLe_int, fGe_int, fEq_int, fNe_int, fEq_str, hc, hl], by simp⟩
  · exact ⟨ds, c, by simp [l_law_digits_1, dFn, env0, dSeq, dNx, dBk, dCt, dIf, dTb, dTv, dAnd, dOr, dNot, dAndV, dOrV, dNotV, dIfE, dCall, dACons, dANil, dVar, dC, derefs, deref, getP, setP, dRet, dRetN, dSub, subR, subD, R.short, lenD, fLen, fInt, fTuple, dTup, dLst, owns, fI2, D.imm, D.imms, truthD, dAsg, bName, bTup, bCons, bNil, dDrop, dAppend, isLst, mutD, dSetI, dUser, rootsOk, roots, puts, fins, kpL, dAug, fAdd, fMul, fMod, fFdiv, fSub, fLt_int, fGt_int, fLe_int, fGe_int, fEq_int, fNe_int, fEq_str, hc], by simp⟩
theorem small_step (s f l k c : Option D) (ds : List Int) (z t : Int) (hl : ds.length < 1000000) : ∃ (ds' : List Int) (z' : Int), l_law_digits_2 [s, f, l, some (.lst (ds.map .int)), k, c, some (.int t), some (.int z)] = some (.nx [s, f, l, some (.lst (ds'.map .int)), k, c, some (.int t), some (.int z')]) ∧ ds'.length ≤ ds.length + 1 :=
  ⟨ds ++ [(((z * 16807 + 7 * t + 1).fmod 2147483647).fdiv 997).fmod 1000], (z * 16807 + 7 * t + 1).fmod 2147483647, by simp [l_law_digits_2, dFn, env0, dSeq, dNx, dBk, dCt, dIf, dTb, dTv, dAnd, dOr, dNot, dAndV, dOrV, dNotV, dIfE, dCall, dACons, dANil, dVar, dC, derefs, deref, getP, setP, dRet, dRetN, dSub, subR, subD, R.short, lenD, fLen, fInt, fTuple, dTup, dLst, owns, fI2, D.imm, D.imms, truthD, dAsg, bName, bTup, bCons, bNil, dDrop, dAppend, isLst, mutD, dSetI, dUser, rootsOk, roots, puts, fins, kpL, dAug, fAdd, fMul, fMod, fFdiv, fSub, fLt_int, fGt_int, fLe_int, fGe_int, fEq_int, fNe_int, fEq_str, hl], by simp⟩
theorem big_ok (s f l k t z : Option D) (ds : List Int) (cell : Int) (hl : ds.length ≤ 100000) : ∃ (ds' : List Int) (c' t' : Option D), dForL [] (bName 6) l_law_digits_1 (rangeD 0 60) [s, f, l, some (.lst (ds.map .int)), k, some (.int cell), t, z] = some (.nx [s, f, l, some (.lst (ds'.map .int)), k, c', t', z]) ∧ ds'.length ≤ ds.length + 60 := by
  obtain ⟨δ', e, ds', c', t', rfl, hl'⟩ := dForL_inv (gs := []) (b := bName 6) (mb := l_law_digits_1)
    (fun p δ => ∃ (ds' : List Int), ∃ (c' : Int), ∃ t', δ = [s, f, l, some (.lst (ds'.map .int)), k, some (.int c'), t', z] ∧ ds'.length ≤ ds.length + p.length) (rangeD 0 60) [] _ (fun _ _ _ => rfl) (fun p x q δ he ⟨ds1, c1, t1, h1, h2⟩ => by
      subst h1
      obtain ⟨rfl, hp⟩ := rangeD_at (p := p) he
      obtain ⟨ds2, c2, e2, h3⟩ := big_step s f l k z ds1 c1 (0 + p.length) (by omega)
      exact ⟨_, _, rfl, .inl e2, ds2, c2, _, rfl, by simp; omega⟩) ⟨ds, cell, t, rfl, by simp⟩
  refine ⟨ds', _, _, e, ?_⟩
  simpa [rangeD_len] using hl'
theorem small_ok (s f l k c t : Option D) (ds : List Int) (seed : Int) (hl : ds.length ≤ 100000) : ∃ (ds' : List Int) (z' t' : Option D), dForL [] (bName 6) l_law_digits_2 (rangeD 0 12) [s, f, l, some (.lst (ds.map .int)), k, c, t, some (.int seed)] = some (.nx [s, f, l, some (.lst (ds'.map .int)), k, c, t', z']) ∧ ds'.length ≤ ds.length + 60 := by
  obtain ⟨δ', e, ds', c', t', rfl, hl'⟩ := dForL_inv (gs := []) (b := bName 6) (mb := l_law_digits_2)
    (fun p δ => ∃ (ds' : List Int), ∃ (c' : Int), ∃ t', δ = [s, f, l, some (.lst (ds'.map .int)), k, c, t', some (.int c')] ∧ ds'.length ≤ ds.length + p.length) (rangeD 0 12) [] _ (fun _ _ _ => rfl) (fun p x q δ he ⟨ds1, c1, t1, h1, h2⟩ => by
      subst h1
      obtain ⟨rfl, hp⟩ := rangeD_at (p := p) he
      obtain ⟨ds2, c2, e2, h3⟩ := small_step s f l k c ds1 c1 (0 + p.length) (by omega)
      exact ⟨_, _, rfl, .inl e2, ds2, c2, _, rfl, by simp; omega⟩) ⟨ds, seed, t, rfl, by simp⟩
  refine ⟨ds', _, _, e, ?_⟩
  have := hl'
  simp [rangeD_len] at this
  omega
theorem fPow_1018 : fPow [.int 10, .int 18] = some (.int 1000000000000000000) := by
  simp [fI2]
theorem dSeq_nx {a b : Blk} {δ δ1 : DE} (h : a δ = some (.nx δ1)) : dSeq a b δ = b δ1 := by simp only [dSeq, h]
theorem dIf_t {c : DenT} {a b : Blk} {δ δ1 : DE} (h : c δ = some (true, δ1)) : dIf c a b δ = a δ1 := by simp only [dIf, h]
theorem dIf_f {c : DenT} {a b : Blk} {δ δ1 : DE} (h : c δ = some (false, δ1)) : dIf c a b δ = b δ1 := by simp only [dIf, h]
def r_law_digits : Blk := dIf (dTb (dCall fGe (d2 true (dVar 5) (dCall fPow (d2 true (dC (.int 10)) (dC (.int 18)))))))
    (dFor (kpL [0, 1, 2, 3, 4, 7]) (sRange (dACons true (dC (.int 60)) dANil)) (bName 6)
    l_law_digits_1)
    (dSeq (dAsg (bName 7) (dCall fMod (d2 true (dCall fInt (dACons true (dCall fAdd (d2 true (dCall fAdd (d2 true (dCall fMul (d2 true (dVar 5) (dC (.int 48271)))) (dCall fMul (d2 true (dVar 4) (dC (.int 69621)))))) (dC (.int 11)))) dANil)) (dC (.int 2147483647)))))
    (dFor (kpL [0, 1, 2, 3, 4, 5]) (sRange (dACons true (dC (.int 12)) dANil)) (bName 6)
    l_law_digits_2))
theorem ge_t (a b c d e f g : Option D) (u : Int) (h : (1000000000000000000 : Int) ≤ u) : dTb (dCall fGe (d2 true (dVar 5) (dCall fPow (d2 true (dC (.int 10)) (dC (.int 18)))))) [a, b, c, d, e, some (.int u), f, g] = some (true, [a, b, c, d, e, some (.int u), f, g]) := by
  have hh : decide ((1000000000000000000 : Int) ≤ u) = true := decide_eq_true h
  simp [dTb, dCall, dVar, dACons, dANil, derefs, deref, dC, D.imm, R.short, fPow_1018, fGe_int]
  exact h
theorem ge_f (a b c d e f g : Option D) (u : Int) (h : ¬ (1000000000000000000 : Int) ≤ u) : dTb (dCall fGe (d2 true (dVar 5) (dCall fPow (d2 true (dC (.int 10)) (dC (.int 18)))))) [a, b, c, d, e, some (.int u), f, g] = some (false, [a, b, c, d, e, some (.int u), f, g]) := by
  simp [dTb, dCall, dVar, dACons, dANil, derefs, deref, dC, D.imm, R.short, fPow_1018, fGe_int]
  omega
theorem digit_step (c : List D → D) (hc : c = .lst ∨ c = .frz) (xs : List Int) (f l cell turn seed : Option D) (ds : List Int) (k v : Int) (e0 : d_law_cell [c (xs.map .int), .int k] = some (.int v, [some (c (xs.map .int)), some (.int k)])) (hl : ds.length ≤ 50000) : ∃ (ds' : List Int) (cell' turn' seed' : Option D),
    l_law_digits_3 [some (c (xs.map .int)), f, l, some (.lst (ds.map .int)), some (.int k), cell, turn, seed] = some (.nx [some (c (xs.map .int)), f, l, some (.lst (ds'.map .int)), some (.int k), cell', turn', seed']) ∧ ds'.length ≤ ds.length + 60 := by
  have hv : ∃ u : Int, l_law_digits_3 [some (c (xs.map .int)), f, l, some (.lst (ds.map .int)), some (.int k), cell, turn, seed] = r_law_digits [some (c (xs.map .int)), f, l, some (.lst (ds.map .int)), some (.int k), some (.int u), turn, seed] := by
    unfold l_law_digits_3
    rw [dSeq_nx (δ1 := [some (c (xs.map .int)), f, l, some (.lst (ds.map .int)), some (.int k), some (.int v), turn, seed]) (by rcases hc with rfl | rfl <;> simp [dFn, env0, dSeq, dNx, dBk, dCt, dIf, dTb, dTv, dAnd, dOr, dNot, dAndV, dOrV, dNotV, dIfE, dCall, dACons, dANil, dVar, dC, derefs, deref, getP, setP, dRet, dRetN, dSub, subR, subD, R.short, lenD, fLen, fInt, fTuple, dTup, dLst, owns, fI2, D.imm, D.imms, truthD, dAsg, bName, bTup, bCons, bNil, dDrop, dAppend, isLst, mutD, dSetI, dUser, rootsOk, roots, puts, fins, kpL, dAug, fAdd, fMul, fMod, fFdiv, fSub, fLt_int, fGt_int, fLe_int, fGe_int, fEq_int, fNe_int, fEq_str, e0])]
    by_cases hn : v < 0
    · refine ⟨1 - 2 * v, ?_⟩
      rw [dSeq_nx (δ1 := [some (c (xs.map .int)), f, l, some (.lst (ds.map .int)), some (.int k), some (.int (1 - 2 * v)), turn, seed]) (by rcases hc with rfl | rfl <;> simp [dFn, env0, dSeq, dNx, dBk, dCt, dIf, dTb, dTv, dAnd, dOr, dNot, dAndV, dOrV, dNotV, dIfE, dCall, dACons, dANil, dVar, dC, derefs, deref, getP, setP, dRet, dRetN, dSub, subR, subD, R.short, lenD, fLen, fInt, fTuple, dTup, dLst, owns, fI2, D.imm, D.imms, truthD, dAsg, bName, bTup, bCons, bNil, dDrop, dAppend, isLst, mutD, dSetI, dUser, rootsOk, roots, puts, fins, kpL, dAug, fAdd, fMul, fMod, fFdiv, fSub, fLt_int, fGt_int, fLe_int, fGe_int, fEq_int, fNe_int, fEq_str, hn])]
      rfl
    · refine ⟨v, ?_⟩
      rw [dSeq_nx (δ1 := [some (c (xs.map .int)), f, l, some (.lst (ds.map .int)), some (.int k), some (.int v), turn, seed]) (by rcases hc with rfl | rfl <;> simp [dFn, env0, dSeq, dNx, dBk, dCt, dIf, dTb, dTv, dAnd, dOr, dNot, dAndV, dOrV, dNotV, dIfE, dCall, dACons, dANil, dVar, dC, derefs, deref, getP, setP, dRet, dRetN, dSub, subR, subD, R.short, lenD, fLen, fInt, fTuple, dTup, dLst, owns, fI2, D.imm, D.imms, truthD, dAsg, bName, bTup, bCons, bNil, dDrop, dAppend, isLst, mutD, dSetI, dUser, rootsOk, roots, puts, fins, kpL, dAug, fAdd, fMul, fMod, fFdiv, fSub, fLt_int, fGt_int, fLe_int, fGe_int, fEq_int, fNe_int, fEq_str, hn])]
      rfl
  obtain ⟨u, hu⟩ := hv
  rw [hu]
  unfold r_law_digits
  by_cases hb : (1000000000000000000 : Int) ≤ u
  · obtain ⟨ds', c', t', e, h⟩ := big_ok (some (c (xs.map .int))) f l (some (.int k)) turn seed ds u (by omega)
    refine ⟨ds', c', t', seed, ?_, h⟩
    rw [dIf_t (ge_t _ _ _ _ _ _ _ u hb)]
    simp [dFn, env0, dSeq, dNx, dBk, dCt, dIf, dTb, dTv, dAnd, dOr, dNot, dAndV, dOrV, dNotV, dIfE, dCall, dACons, dANil, dVar, dC, derefs, deref, getP, setP, dRet, dRetN, dSub, subR, subD, R.short, lenD, fLen, fInt, fTuple, dTup, dLst, owns, fI2, D.imm, D.imms, truthD, dAsg, bName, bTup, bCons, bNil, dDrop, dAppend, isLst, mutD, dSetI, dUser, rootsOk, roots, puts, fins, kpL, dAug, fAdd, fMul, fMod, fFdiv, fSub, fLt_int, fGt_int, fLe_int, fGe_int, fEq_int, fNe_int, fEq_str, dFor, sRange, gsIn, e]
  · obtain ⟨ds', z', t', e, h⟩ := small_ok (some (c (xs.map .int))) f l (some (.int k)) (some (.int u)) turn ds ((u * 48271 + k * 69621 + 11).fmod 2147483647) (by omega)
    refine ⟨ds', some (.int u), t', z', ?_, h⟩
    rw [dIf_f (ge_f _ _ _ _ _ _ _ u hb)]
    rw [dSeq_nx (δ1 := [some (c (xs.map .int)), f, l, some (.lst (ds.map .int)), some (.int k), some (.int u), turn, some (.int ((u * 48271 + k * 69621 + 11).fmod 2147483647))]) (by simp [dFn, env0, dSeq, dNx, dBk, dCt, dIf, dTb, dTv, dAnd, dOr, dNot, dAndV, dOrV, dNotV, dIfE, dCall, dACons, dANil, dVar, dC, derefs, deref, getP, setP, dRet, dRetN, dSub, subR, subD, R.short, lenD, fLen, fInt, fTuple, dTup, dLst, owns, fI2, D.imm, D.imms, truthD, dAsg, bName, bTup, bCons, bNil, dDrop, dAppend, isLst, mutD, dSetI, dUser, rootsOk, roots, puts, fins, kpL, dAug, fAdd, fMul, fMod, fFdiv, fSub, fLt_int, fGt_int, fLe_int, fGe_int, fEq_int, fNe_int, fEq_str])]
    simp [dFn, env0, dSeq, dNx, dBk, dCt, dIf, dTb, dTv, dAnd, dOr, dNot, dAndV, dOrV, dNotV, dIfE, dCall, dACons, dANil, dVar, dC, derefs, deref, getP, setP, dRet, dRetN, dSub, subR, subD, R.short, lenD, fLen, fInt, fTuple, dTup, dLst, owns, fI2, D.imm, D.imms, truthD, dAsg, bName, bTup, bCons, bNil, dDrop, dAppend, isLst, mutD, dSetI, dUser, rootsOk, roots, puts, fins, kpL, dAug, fAdd, fMul, fMod, fFdiv, fSub, fLt_int, fGt_int, fLe_int, fGe_int, fEq_int, fNe_int, fEq_str, dFor, sRange, gsIn, e]
theorem digits_ok (c : List D → D) (hc : c = .lst ∨ c = .frz) (xs : List Int) : ∃ ds : List Int, d_law_digits [c (xs.map .int), .int 0, .int 62] = some (.lst (ds.map .int), [some (c (xs.map .int)), some (.int 0), some (.int 62)]) := by
  obtain ⟨δ', e, ds, k, cell, turn, seed, rfl, hl⟩ := dForL_inv (gs := []) (b := bName 4) (mb := l_law_digits_3)
    (fun p δ => ∃ (ds : List Int), ∃ k cell turn seed, δ = [some (c (xs.map .int)), some (.int 0), some (.int 62), some (.lst (ds.map .int)), k, cell, turn, seed] ∧ ds.length ≤ 60 * p.length)
    (rangeD 0 62) [] [some (c (xs.map .int)), some (.int 0), some (.int 62), some (.lst []), none, none, none, none] (fun _ _ _ => rfl) (fun p x q δ he ⟨ds, k, cell, turn, seed, h1, h2⟩ => by
      subst h1
      obtain ⟨rfl, hp⟩ := rangeD_at (p := p) he
      obtain ⟨ds2, c2, t2, s2, e2, h3⟩ := digit_step c hc xs (some (.int 0)) (some (.int 62)) cell turn seed ds p.length _ (cell_ok c hc xs p.length) (by omega)
      rw [Int.zero_add]
      exact ⟨_, _, rfl, .inl e2, ds2, _, c2, t2, s2, rfl, by simp; omega⟩) ⟨[], none, none, none, none, rfl, by simp⟩
  refine ⟨ds, ?_⟩
  rcases hc with rfl | rfl <;> simp [d_law_digits, m_law_digits, dFn, env0, dSeq, dNx, dBk, dCt, dIf, dTb, dTv, dAnd, dOr, dNot, dAndV, dOrV, dNotV, dIfE, dCall, dACons, dANil, dVar, dC, derefs, deref, getP, setP, dRet, dRetN, dSub, subR, subD, R.short, lenD, fLen, fInt, fTuple, dTup, dLst, owns, fI2, D.imm, D.imms, truthD, dAsg, bName, bTup, bCons, bNil, dDrop, dAppend, isLst, mutD, dSetI, dUser, rootsOk, roots, puts, fins, kpL, dAug, fAdd, fMul, fMod, fFdiv, fSub, fLt_int, fGt_int, fLe_int, fGe_int, fEq_int, fNe_int, fEq_str, dFor, sRange, gsIn, e]
theorem box_ok (c : List D → D) (hc : c = .lst ∨ c = .frz) (xs : List Int) : ∃ ds : List Int, d_law_box [c (xs.map .int), .int 0, .int 62] = some (box ds 0, [some (c (xs.map .int)), some (.int 0), some (.int 62)]) := by
  obtain ⟨ds, e⟩ := digits_ok c hc xs
  refine ⟨ds, ?_⟩
  rcases hc with rfl | rfl <;> simp [d_law_box, m_law_box, box, dFn, env0, dSeq, dNx, dBk, dCt, dIf, dTb, dTv, dAnd, dOr, dNot, dAndV, dOrV, dNotV, dIfE, dCall, dACons, dANil, dVar, dC, derefs, deref, getP, setP, dRet, dRetN, dSub, subR, subD, R.short, lenD, fLen, fInt, fTuple, dTup, dLst, owns, fI2, D.imm, D.imms, truthD, dAsg, bName, bTup, bCons, bNil, dDrop, dAppend, isLst, mutD, dSetI, dUser, rootsOk, roots, puts, fins, kpL, dAug, fAdd, fMul, fMod, fFdiv, fSub, fLt_int, fGt_int, fLe_int, fGe_int, fEq_int, fNe_int, fEq_str, e]
def Same (n : Nat) (x : D) : Prop := x.imm = true ∧ d_law_same n [x, x] = some (.bl true, [some x, some x])
theorem same_int (n : Nat) (i : Int) : Same (n + 1) (.int i) := by
  refine ⟨by simp [D.imm], ?_⟩
  simp [d_law_same, m_law_same, dFn, env0, dSeq, dNx, dBk, dCt, dIf, dTb, dTv, dAnd, dOr, dNot, dAndV, dOrV, dNotV, dIfE, dCall, dACons, dANil, dVar, dC, derefs, deref, getP, setP, dRet, dRetN, dSub, subR, subD, R.short, lenD, fLen, fInt, fTuple, dTup, dLst, owns, fI2, D.imm, D.imms, truthD, dAsg, bName, bTup, bCons, bNil, dDrop, dAppend, isLst, mutD, dSetI, dUser, rootsOk, roots, puts, fins, kpL, dAug, fAdd, fMul, fMod, fFdiv, fSub, fLt_int, fGt_int, fLe_int, fGe_int, fEq_int, fNe_int, fEq_str, fIsa, toPy, PyData.isTuple, PyData.isBool, PyData.isInt, fIs, isNone]
theorem same_str (n : Nat) (i : Str) : Same (n + 1) (.str i) := by
  refine ⟨by simp [D.imm], ?_⟩
  simp [d_law_same, m_law_same, dFn, env0, dSeq, dNx, dBk, dCt, dIf, dTb, dTv, dAnd, dOr, dNot, dAndV, dOrV, dNotV, dIfE, dCall, dACons, dANil, dVar, dC, derefs, deref, getP, setP, dRet, dRetN, dSub, subR, subD, R.short, lenD, fLen, fInt, fTuple, dTup, dLst, owns, fI2, D.imm, D.imms, truthD, dAsg, bName, bTup, bCons, bNil, dDrop, dAppend, isLst, mutD, dSetI, dUser, rootsOk, roots, puts, fins, kpL, dAug, fAdd, fMul, fMod, fFdiv, fSub, fLt_int, fGt_int, fLe_int, fGe_int, fEq_int, fNe_int, fEq_str, fIsa, toPy, PyData.isTuple, PyData.isBool, PyData.isInt, PyData.isStr, fIs, isNone]
theorem same_tup (n : Nat) (xs : List D) (hl : xs.length ≤ 1000000) (h : ∀ x ∈ xs, Same n x) : Same (n + 1) (.tup xs) := by
  have him : (D.tup xs).imm = true := by simp only [D.imm]; rw [D.imms_iff]; exact fun x hx => (h x hx).1
  refine ⟨him, ?_⟩
  obtain ⟨δ', e, k', rfl⟩ := dForL_inv (gs := []) (b := bName 2) (mb := l_law_same_1 (d_law_same n)) (fun p δ => ∃ k, δ = [some (.tup xs), some (.tup xs), k]) (rangeD 0 xs.length) [] [some (.tup xs), some (.tup xs), none] (fun _ _ _ => rfl)
    (fun p x q δ he ⟨k, h1⟩ => by
      subst h1
      obtain ⟨rfl, hp⟩ := rangeD_at (p := p) he
      rw [Int.zero_add]
      refine ⟨[some (.tup xs), some (.tup xs), some (.int p.length)], [some (.tup xs), some (.tup xs), some (.int p.length)], rfl, .inl ?_, _, rfl⟩
      have hx := h xs[p.length] (List.getElem_mem hp)
      have e1 : L2.atI xs (p.length : Int) = some xs[p.length] := by simp [L2.atI, L2.ixN, hp]
      obtain ⟨h1, h2⟩ := hx
      generalize xs[p.length] = y at *
      unfold l_law_same_1
      rw [dIf_f (δ1 := [some (.tup xs), some (.tup xs), some (.int p.length)])]
      · rfl
      · generalize hX : D.tup xs = X at *
        have e2 : subD X (p.length : Int) = some y := by subst hX; exact e1
        simp [dNot, dTv, dUser, dACons, dSub, dVar, him, deref, subR, e2, h1, R.short, dANil, D.imm, rootsOk, roots, derefs, h2, puts, truthD]) ⟨none, rfl⟩
  have hl2 : -1000000 ≤ (xs.length : Int) ∧ (xs.length : Int) ≤ 1000000 := by omega
  have him2 : D.imms xs = true := by simpa only [D.imm] using him
  have e5 : m_law_same (d_law_same n) [some (.tup xs), some (.tup xs), none] = some (.rt (.bl true) [some (.tup xs), some (.tup xs), k']) := by
    unfold m_law_same
    have : (dIf (dTv (dCall (fIsa PyData.isTuple) (dACons true (dVar 1) dANil)))
    (dSeq (dIf (dOr (dNot (dTv (dCall (fIsa PyData.isTuple) (dACons true (dVar 0) dANil)))) (dTb (dCall fNe (d2 true (dCall fLen (dACons true (dVar 0) dANil)) (dCall fLen (dACons true (dVar 1) dANil))))))
    (dRet (kpL [0, 1]) (dC (.bl false)))
    dNx)
    (dSeq (dFor (kpL [0, 1]) (sRange (dACons true (dCall fLen (dACons true (dVar 1) dANil)) dANil)) (bName 2)
    (l_law_same_1 (d_law_same n)))
    (dRet (kpL [0, 1]) (dC (.bl true)))))
    dNx) [some (.tup xs), some (.tup xs), none] = some (.rt (.bl true) [some (.tup xs), some (.tup xs), k']) := by
      rw [dIf_t (δ1 := [some (.tup xs), some (.tup xs), none]) (by simp [dFn, env0, dSeq, dNx, dBk, dCt, dIf, dTb, dTv, dAnd, dOr, dNot, dAndV, dOrV, dNotV, dIfE, dCall, dACons, dANil, dVar, dC, derefs, deref, getP, setP, dRet, dRetN, dSub, subR, subD, R.short, lenD, fLen, fInt, fTuple, dTup, dLst, owns, fI2, D.imm, D.imms, truthD, dAsg, bName, bTup, bCons, bNil, dDrop, dAppend, isLst, mutD, dSetI, dUser, rootsOk, roots, puts, fins, kpL, dAug, fAdd, fMul, fMod, fFdiv, fSub, fLt_int, fGt_int, fLe_int, fGe_int, fEq_int, fNe_int, fEq_str, fIsa, toPy, PyData.isTuple, him2])]
      rw [dSeq_nx (δ1 := [some (.tup xs), some (.tup xs), none]) (by simp [dFn, env0, dSeq, dNx, dBk, dCt, dIf, dTb, dTv, dAnd, dOr, dNot, dAndV, dOrV, dNotV, dIfE, dCall, dACons, dANil, dVar, dC, derefs, deref, getP, setP, dRet, dRetN, dSub, subR, subD, R.short, lenD, fLen, fInt, fTuple, dTup, dLst, owns, fI2, D.imm, D.imms, truthD, dAsg, bName, bTup, bCons, bNil, dDrop, dAppend, isLst, mutD, dSetI, dUser, rootsOk, roots, puts, fins, kpL, dAug, fAdd, fMul, fMod, fFdiv, fSub, fLt_int, fGt_int, fLe_int, fGe_int, fEq_int, fNe_int, fEq_str, fIsa, toPy, PyData.isTuple, him2])]
      rw [dSeq_nx (δ1 := [some (.tup xs), some (.tup xs), k']) (by simp [dFor, sRange, dFn, env0, dSeq, dNx, dBk, dCt, dIf, dTb, dTv, dAnd, dOr, dNot, dAndV, dOrV, dNotV, dIfE, dCall, dACons, dANil, dVar, dC, derefs, deref, getP, setP, dRet, dRetN, dSub, subR, subD, R.short, lenD, fLen, fInt, fTuple, dTup, dLst, owns, fI2, D.imm, D.imms, truthD, dAsg, bName, bTup, bCons, bNil, dDrop, dAppend, isLst, mutD, dSetI, dUser, rootsOk, roots, puts, fins, kpL, dAug, fAdd, fMul, fMod, fFdiv, fSub, fLt_int, fGt_int, fLe_int, fGe_int, fEq_int, fNe_int, fEq_str, him2, hl2, gsIn, e])]
      simp [dFn, env0, dSeq, dNx, dBk, dCt, dIf, dTb, dTv, dAnd, dOr, dNot, dAndV, dOrV, dNotV, dIfE, dCall, dACons, dANil, dVar, dC, derefs, deref, getP, setP, dRet, dRetN, dSub, subR, subD, R.short, lenD, fLen, fInt, fTuple, dTup, dLst, owns, fI2, D.imm, D.imms, truthD, dAsg, bName, bTup, bCons, bNil, dDrop, dAppend, isLst, mutD, dSetI, dUser, rootsOk, roots, puts, fins, kpL, dAug, fAdd, fMul, fMod, fFdiv, fSub, fLt_int, fGt_int, fLe_int, fGe_int, fEq_int, fNe_int, fEq_str]
    simp only [dSeq, this]
  simp [d_law_same, dFn, env0, e5, fins, kpL]
theorem same_bl (n : Nat) (i : Bool) : Same (n + 1) (.bl i) := by
  refine ⟨by simp [D.imm], ?_⟩
  have e : fEq [.bl i, .bl i] = some (.bl true) := by
    have h : dep (.bl i) = true := dep_of (by simp [D.dp])
    simp [fEq, h, eqD, toPy, PyData.eqv]
  simp [d_law_same, m_law_same, dFn, env0, dSeq, dNx, dBk, dCt, dIf, dTb, dTv, dAnd, dOr, dNot, dAndV, dOrV, dNotV, dIfE, dCall, dACons, dANil, dVar, dC, derefs, deref, getP, setP, dRet, dRetN, dSub, subR, subD, R.short, lenD, fLen, fInt, fTuple, dTup, dLst, owns, fI2, D.imm, D.imms, truthD, dAsg, bName, bTup, bCons, bNil, dDrop, dAppend, isLst, mutD, dSetI, dUser, rootsOk, roots, puts, fins, kpL, dAug, fAdd, fMul, fMod, fFdiv, fSub, fLt_int, fGt_int, fLe_int, fGe_int, fEq_int, fNe_int, fEq_str, fIsa, toPy, PyData.isTuple, PyData.isBool, PyData.isInt, PyData.isStr, fIs, isNone, e]
theorem same_non (n : Nat) : Same (n + 1) .non := by
  refine ⟨by simp [D.imm], ?_⟩
  simp [d_law_same, m_law_same, dFn, env0, dSeq, dNx, dBk, dCt, dIf, dTb, dTv, dAnd, dOr, dNot, dAndV, dOrV, dNotV, dIfE, dCall, dACons, dANil, dVar, dC, derefs, deref, getP, setP, dRet, dRetN, dSub, subR, subD, R.short, lenD, fLen, fInt, fTuple, dTup, dLst, owns, fI2, D.imm, D.imms, truthD, dAsg, bName, bTup, bCons, bNil, dDrop, dAppend, isLst, mutD, dSetI, dUser, rootsOk, roots, puts, fins, kpL, dAug, fAdd, fMul, fMod, fFdiv, fSub, fLt_int, fGt_int, fLe_int, fGe_int, fEq_int, fNe_int, fEq_str, fIsa, toPy, PyData.isTuple, PyData.isBool, PyData.isInt, PyData.isStr, fIs, isNone]
mutual
/-- no row in it is too long -/
def szD : D → Bool
  | .tup xs => decide (xs.length ≤ 1000000) && szDs xs
  | .lst _ => false
  | .frz _ => false
  | .dic _ _ => false
  | .obj _ _ _ => false
  | _ => true
def szDs : List D → Bool
  | [] => true
  | x :: xs => szD x && szDs xs
end
mutual
theorem same_all : ∀ (d : D) (n : Nat), szD d = true → d.dp < n → Same n d
  | _, 0, _, l => by omega
  | .non, n + 1, _, _ => same_non n
  | .bl b, n + 1, _, _ => same_bl n b
  | .int i, n + 1, _, _ => same_int n i
  | .str x, n + 1, _, _ => same_str n x
  | .tup xs, n + 1, z, l => by
    simp only [szD, Bool.and_eq_true, decide_eq_true_eq] at z
    simp only [D.dp] at l
    exact same_tup n xs z.1 fun x hx => sames_all xs n z.2 (by omega) x hx
  | .lst _, _ + 1, h, _ => by simp [szD] at h
  | .frz _, _ + 1, h, _ => by simp [szD] at h
  | .dic _ _, _ + 1, h, _ => by simp [szD] at h
  | .obj _ _ _, _ + 1, h, _ => by simp [szD] at h
theorem sames_all : ∀ (ds : List D) (n : Nat), szDs ds = true → D.dps ds < n → ∀ x ∈ ds, Same n x
  | [], _, _, _, x, hx => nomatch hx
  | y :: ds, n, z, l, x, hx => by
    simp only [szDs, Bool.and_eq_true] at z
    simp only [D.dps] at l
    rcases List.mem_cons.mp hx with e | hx
    · rw [e]; exact same_all y n z.1 (by omega)
    · exact sames_all ds n z.2 (by omega) x hx
end
section
variable {α : Type} (E : Enc α) [DecidableEq α]
/-- the same, and not too long -/
def sameO (a b : α) : Option Bool := if a = b ∧ szD (E.enc a) = true then some true else none
theorem f_same {a b : α} {v : Bool} {n : Nat} (h : sameO E a b = some v) (hd : Nat.ble (E.dp + 1) n = true) : d_law_same n [E.enc a, E.enc b] = some (.bl v, [some (E.enc a), some (E.enc b)]) := by
  unfold sameO at h
  split at h
  · rename_i hh
    cases h
    rw [← hh.1]
    exact (same_all _ n hh.2 (by have := E.hdp a; have := Nat.le_of_ble_eq_true hd; omega)).2
  · cases h
end
/-! the box as a value -/
abbrev Box := List Int × Nat
def boxE (b : Box) : D := box b.1 b.2
/-- drawing where all is well -/
def drawO (b : Box) (m : Int) : Option (Int × Box) := if 0 < m then some (if b.2 < b.1.length then (b.1.getD b.2 0).fmod m else 0, (b.1, b.2 + 1)) else none
theorem f_draw {b : Box} {m : Int} {v : Int × Box} (h : drawO b m = some v) : d_law_draw [boxE b, .int m] = some (.int v.1, [some (boxE v.2), some (.int m)]) := by
  obtain ⟨ds, n⟩ := b
  unfold drawO at h
  split at h
  · rename_i hm
    cases h
    have hm0 : m ≠ 0 := by omega
    by_cases h : n < ds.length
    · have e := atI_ints ds n h
      simp [d_law_draw, m_law_draw, boxE, box, dFn, env0, dSeq, dNx, dBk, dCt, dIf, dTb, dTv, dAnd, dOr, dNot, dAndV, dOrV, dNotV, dIfE, dCall, dACons, dANil, dVar, dC, derefs, deref, getP, setP, dRet, dRetN, dSub, subR, subD, R.short, lenD, fLen, fInt, fTuple, dTup, dLst, owns, fI2, D.imm, D.imms, truthD, dAsg, bName, bTup, bCons, bNil, dDrop, dAppend, isLst, mutD, dSetI, dUser, rootsOk, roots, puts, fins, kpL, dAug, fAdd, fMul, fMod, fFdiv, fSub, fLt_int, fGt_int, fLe_int, fGe_int, fEq_int, fNe_int, fEq_str, h, e, L2.atI, L2.ixN, hm0]
    · simp [d_law_draw, m_law_draw, boxE, box, dFn, env0, dSeq, dNx, dBk, dCt, dIf, dTb, dTv, dAnd, dOr, dNot, dAndV, dOrV, dNotV, dIfE, dCall, dACons, dANil, dVar, dC, derefs, deref, getP, setP, dRet, dRetN, dSub, subR, subD, R.short, lenD, fLen, fInt, fTuple, dTup, dLst, owns, fI2, D.imm, D.imms, truthD, dAsg, bName, bTup, bCons, bNil, dDrop, dAppend, isLst, mutD, dSetI, dUser, rootsOk, roots, puts, fins, kpL, dAug, fAdd, fMul, fMod, fFdiv, fSub, fLt_int, fGt_int, fLe_int, fGe_int, fEq_int, fNe_int, fEq_str, h, L2.atI, L2.ixN]
  · cases h
theorem draw_some (b : Box) {m : Int} (hm : 0 < m) : ∃ r, 0 ≤ r ∧ r < m ∧ drawO b m = some (r, (b.1, b.2 + 1)) := by
  unfold drawO
  rw [if_pos hm]
  refine ⟨_, ?_, ?_, rfl⟩
  · split
    · exact Int.fmod_nonneg_of_pos _ hm
    · exact Int.le_refl 0
  · split
    · exact Int.fmod_lt_of_pos _ hm
    · exact hm
theorem boxE_imm (b : Box) : (boxE b).imm = false := by simp [boxE, box, D.imm]
theorem f_box {c : List D → D} (hc : c = .lst ∨ c = .frz) (xs : List Int) : ∃ b : Box, d_law_box [c (xs.map .int), .int 0, .int 62] = some (boxE b, [some (c (xs.map .int)), some (.int 0), some (.int 62)]) := by
  obtain ⟨ds, e⟩ := box_ok c hc xs
  exact ⟨(ds, 0), e⟩
/-! rules that the printed texts use -/
@[reducible] def Lx {α : Type} (E : Enc α) (xs : List α) : D := .lst (xs.map E.enc)
section
variable {α β τ ρ : Type} {p p1 p2 p3 : Bool} {A A1 A2 A3 : List Sl} {m ma mb mn : Den} {S : τ → Out → Prop} {rest : Blk}
theorem r_draw {i : Nat} {b : Box} {k : Int} {v : Int × Box} (hb : A[i]? = some (.is (boxE b))) (hm : RV p A mn (.own (.int k)) A) (e : drawO b k = some v) : RV false A (dUser d_law_draw (dACons true (dVar i) (dACons true mn dANil))) (.own (.int v.1)) (A.set i (.is (boxE v.2))) := fun δ a => by
  obtain ⟨δ', e1, e2, _⟩ := r_user (f := d_law_draw) (r_acons (q := true) (r_varM hb (boxE_imm b)) (r_acons (q := true) hm r_anil rfl) rfl) (by simp [rootsOk, roots]) (drfs_cons (drf_at hb) (drfs_cons drf_own drfs_nil)) (f_draw e) (.pth (l := []) hb (.own .nil) rfl) δ a
  refine ⟨δ', e1, ?_, fun h => by cases h⟩
  rw [List.set_set] at e2
  exact e2
theorem k_asgF {i : Nat} {me : Den} {v : α} {f : α → Option τ} (ex : α → D) (h : RV p A me (.own (ex v)) A1) (hi : i < A1.length) (g : ∀ x, RB (A1.set i (.is (ex x))) rest (f x) S) : RB A (dSeq (dAsg (bName i) me) rest) (lv v f) S := k_asg h hi (g v)
def RVO (p : Bool) (A : List Sl) (m : Den) (ex : α → D) (n : Option α) (A' : List Sl) : Prop := ∀ v, n = some v → RV p A m (.own (ex v)) A'
def RTO (p : Bool) (A : List Sl) (m : DenT) (n : Option Bool) (A' : List Sl) : Prop := ∀ v, n = some v → RT p A m v A'
theorem o_bnd {ex : α → D} {x : Option β} {f : β → Option α} (h : ∀ a, x = some a → RVO p A m ex (f a) A1) : RVO p A m ex (bnd x f) A1 := fun v e => by
  obtain ⟨a, h1, h2⟩ := bnd_eq e
  exact h a h1 v h2
theorem o_some {ex : α → D} {v : α} (h : RV p A m (.own (ex v)) A1) : RVO p A m ex (some v) A1 := fun _ e => by cases e; exact h
theorem to_bnd {mt : DenT} {x : Option β} {f : β → Option Bool} (h : ∀ a, x = some a → RTO p A mt (f a) A1) : RTO p A mt (bnd x f) A1 := fun v e => by
  obtain ⟨a, h1, h2⟩ := bnd_eq e
  exact h a h1 v h2
theorem to_some {mt : DenT} {v : Bool} (h : RT p A mt v A1) : RTO p A mt (some v) A1 := fun _ e => by cases e; exact h
def andO (x : Bool) (n : Option Bool) : Option Bool := if x = true then n else some false
def orO (x : Bool) (n : Option Bool) : Option Bool := if x = true then some true else n
theorem o_orV {x : Bool} {n : Option Bool} {v : Bool} (h : RV p1 A ma (.own (.bl x)) A) (h1 : x = false → RVO p2 A mb D.bl n A) (e : orO x n = some v) : RV (p1 && p2) A (dOrV ma mb) (.own (.bl v)) A := by
  cases x with
  | false => have := r_orV h (fun hx => h1 hx v e); simpa using this
  | true => cases e; exact r_orV (y := false) h (fun hx => by cases hx)
theorem o_and {ta tb : DenT} {x : Bool} {n : Option Bool} {v : Bool} (h : RT p1 A ta x A) (h1 : x = true → RTO p2 A tb n A) (e : andO x n = some v) : RT (p1 && p2) A (dAnd ta tb) v A := by
  cases x with
  | true => have := r_and h (fun hx => h1 hx v e); simpa using this
  | false => cases e; exact r_and (y := false) h (fun hx => by cases hx)
theorem o_ife {c : DenT} {b : Bool} {ex : α → D} {na nb : Option α} {v : α} (h : RT p1 A c b A1) (h1 : b = true → RVO p2 A1 ma ex na A2) (h2 : b = false → RVO p3 A1 mb ex nb A2) (e : (if b = true then na else nb) = some v) : RV (p1 && (p2 && p3)) A (dIfE c ma mb) (.own (ex v)) A2 := by
  cases b with
  | true =>
    refine fun δ a => ?_
    obtain ⟨δ1, e1, a1, u1⟩ := h δ a
    obtain ⟨δ2, e2, a2, u2⟩ := h1 rfl v e δ1 a1
    exact ⟨δ2, by simp only [dIfE, e1, e2], a2, fun h => by simp only [Bool.and_eq_true] at h; rw [u2 h.2.1, u1 h.1]⟩
  | false =>
    refine fun δ a => ?_
    obtain ⟨δ1, e1, a1, u1⟩ := h δ a
    obtain ⟨δ2, e2, a2, u2⟩ := h2 rfl v e δ1 a1
    exact ⟨δ2, by simp only [dIfE, e1, e2], a2, fun h => by simp only [Bool.and_eq_true] at h; rw [u2 h.2.2, u1 h.1]⟩
theorem co_opt {E : Enc α} {hn : E.nn = true} {o : Option α} {v : α} (e : o = some v) (h : RV p A m (.own ((Eo E hn).enc o)) A1) : RV p A m (.own (E.enc v)) A1 := by rw [e] at h; exact h
theorem r_push {i : Nat} {mo me : Den} {E : Enc α} {xs zs : List α} {y : α} {q : Bool} (e : pushO xs y = some zs) (ho : RV p1 A mo (.at i []) A1) (g1 : A1[i]? = some (.is (Lx E xs))) (h : RV p2 A1 me (.own (E.enc y)) A2) (g : A2[i]? = some (.is (Lx E xs))) :
    RV false A (dAppend q mo me) (.own .non) (A2.set i (.is (Lx E zs))) := by
  obtain ⟨hl, rfl⟩ := push_eq e
  have := r_append (q := q) ho g1 h g (by simpa using hl)
  simpa [Lx] using this
theorem k_augI {i : Nat} {me : Den} {f : Int → Int → Int} {x y : Int} {k : Int → Option τ} (g : A[i]? = some (.is (.int x))) (h : RV p A me (.own (.int y)) A1) (hi : i < A1.length) (c : ∀ z, RB (A1.set i (.is (Ei.enc z))) rest (k z) S) : RB A (dSeq (dAug i f me) rest) (lv (f x y) k) S := k_aug g h hi (c _)
/-- the call of a def, from its body -/
def finsS (kp : Nat → Bool) : Nat → Nat → List Sl → Option (List (Option D))
  | _, 0, _ => some []
  | i, n + 1, [] => none
  | i, n + 1, s :: A => match finsS kp (i + 1) n A with
    | some fs => if kp i = true then match s with
        | .is d => some (some d :: fs)
        | .any => none
      else some (none :: fs)
    | none => none
theorem fins_ok (kp : Nat → Bool) : ∀ (n i : Nat) (A : List Sl) (δ : DE) (fs : List (Option D)), Agr A δ → finsS kp i n A = some fs → fins kp i n δ = fs
  | 0, _, _, δ, fs, _, h => by cases h; cases δ <;> rfl
  | n + 1, i, [], _, _, _, h => by cases h
  | n + 1, i, s :: A, [], _, a, _ => by have := a.len; simp at this
  | n + 1, i, s :: A, x :: δ, fs, a, h => by
    simp only [finsS] at h
    cases h1 : finsS kp (i + 1) n A with
    | none => rw [h1] at h; cases h
    | some gs =>
      rw [h1] at h
      have a' : Agr A δ := ⟨by have := a.len; simpa using this, fun j d e => a.get (j + 1) d e⟩
      have ih := fins_ok kp n (i + 1) A δ gs a' h1
      simp only [fins, ih]
      by_cases hk : kp i = true
      · simp only [hk, if_true] at h ⊢
        cases s with
        | any => cases h
        | is d => cases h; have := a.get 0 d rfl; simp at this; rw [this]
      · simp only [hk, if_false] at h ⊢
        cases h; rfl
theorem agr_env0 (nN np : Nat) (ds : List D) : Agr (ds.map Sl.is ++ List.replicate (nN - np) Sl.any) (env0 nN np ds) where
  len := by simp [env0]
  get i d h := by
    unfold env0
    by_cases hi : i < ds.length
    · rw [List.getElem?_append_left (by simpa using hi)] at h ⊢
      rw [List.getElem?_map] at h ⊢
      cases e : ds[i]? with
      | none => rw [e] at h; cases h
      | some x => rw [e] at h; cases h; rfl
    · rw [List.getElem?_append_right (by simpa using hi), List.getElem?_replicate] at h
      split at h <;> cases h
theorem def_ok {nN np : Nat} {kp : Nat → Bool} {mb : Blk} {n : Option ρ} {er : ρ → D} {Ar : ρ → List Sl} {ds : List D} {r : ρ} {fs : List (Option D)} (h : RB (ds.map Sl.is ++ List.replicate (nN - np) Sl.any) mb n (Rt er Ar)) (e : n = some r) (hl : ds.length = np) (hf : finsS kp 0 np (Ar r) = some fs) :
    dFn nN np kp mb ds = some (er r, fs) := by
  obtain ⟨out, e1, δ, rfl, a⟩ := h r e _ (agr_env0 nN np ds)
  simp only [dFn, hl, if_true, e1, fins_ok kp np 0 _ δ fs a hf]
theorem box_step {c : List D → D} (hc : c = .lst ∨ c = .frz) (xs : List Int) : ∃ b : Box, ∀ (rest : Blk) (tl : DE), dSeq (dAsg (bName 1) (dUser d_law_box (dACons true (dVar 0) (dACons true (dC (.int 0)) (dACons true (dC (.int 62)) dANil))))) rest (some (c (xs.map .int)) :: none :: tl) =
    rest (some (c (xs.map .int)) :: some (boxE b) :: tl) := by
  obtain ⟨b, e⟩ := f_box hc xs
  refine ⟨b, fun rest tl => ?_⟩
  have hi : D.imms (xs.map D.int) = true := map_imms Ei xs
  rcases hc with rfl | rfl <;> simp [dFn, env0, dSeq, dNx, dBk, dCt, dIf, dTb, dTv, dAnd, dOr, dNot, dAndV, dOrV, dNotV, dIfE, dCall, dACons, dANil, dVar, dC, derefs, deref, getP, setP, dRet, dRetN, dSub, subR, subD, R.short, lenD, fLen, fInt, fTuple, dTup, dLst, owns, fI2, D.imm, D.imms, truthD, dAsg, bName, bTup, bCons, bNil, dDrop, dAppend, isLst, mutD, dSetI, dUser, rootsOk, roots, puts, fins, kpL, dAug, fAdd, fMul, fMod, fFdiv, fSub, fLt_int, fGt_int, fLe_int, fGe_int, fEq_int, fNe_int, fEq_str, e, hi]
end
/-! what is plain -/
section
variable {α β : Type}
end
end Y


set_option Elab.async false
set_option linter.all false
set_option maxRecDepth 100000
/-! plain laws of the typed functions -/
namespace Y
open PySem PySem.Spec PyProof.Rows L2 Z
section
variable {α β γ ρ τ : Type}
@[simp] theorem lv_eq (a : α) (f : α → β) : lv a f = f a := rfl
@[simp] theorem onR_nx (j : ρ → Option τ) (k : β → Option τ) (b : β) : onR j k (.nx b) = k b := rfl
@[simp] theorem onR_rt (j : ρ → Option τ) (k : β → Option τ) (r : ρ) : onR j k (.rt r) = j r := rfl
@[simp] theorem forN_nil (f : α → β → Option β) (b : β) : forN f [] b = some b := rfl
@[simp] theorem forR_nil (f : α → β → Option (Res β ρ)) (b : β) : forR f [] b = some (.nx b) := rfl
/-- a loop that ends, by what holds behind each part of its items -/
theorem forN_inv {f : α → β → Option β} (I : List α → β → Prop) : ∀ (xs pre : List α) (b : β), I pre b → (∀ p x q b, pre ++ xs = p ++ x :: q → I p b → ∃ b', f x b = some b' ∧ I (p ++ [x]) b') → ∃ b', forN f xs b = some b' ∧ I (pre ++ xs) b'
  | [], pre, b, h, _ => ⟨b, rfl, by rwa [List.append_nil]⟩
  | x :: xs, pre, b, h, hs => by
    obtain ⟨b1, e1, h1⟩ := hs pre x xs b rfl h
    obtain ⟨b', e, h'⟩ := forN_inv I xs (pre ++ [x]) b1 h1 fun p y q b e => hs p y q b (by rw [← e]; simp)
    exact ⟨b', by simp only [forN, e1, e], by simpa using h'⟩
/-- a loop that never leaves -/
theorem forR_nx {f : α → β → Option (Res β ρ)} (I : β → Prop) : ∀ (xs : List α) (b : β), I b → (∀ x ∈ xs, ∀ b, I b → ∃ b', f x b = some (.nx b') ∧ I b') → ∃ b', forR f xs b = some (.nx b') ∧ I b'
  | [], b, h, _ => ⟨b, rfl, h⟩
  | x :: xs, b, h, hs => by
    obtain ⟨b1, e1, h1⟩ := hs x (by simp) b h
    obtain ⟨b', e, h'⟩ := forR_nx I xs b1 h1 fun y hy => hs y (List.mem_cons_of_mem _ hy)
    exact ⟨b', by simp only [forR, e1, e], h'⟩
/-! conditions in parts -/
@[simp] theorem andO_some (x y : Bool) : andO x (some y) = some (x && y) := by cases x <;> rfl
@[simp] theorem orO_some (x y : Bool) : orO x (some y) = some (x || y) := by cases x <;> rfl
@[simp] theorem andO_f (n : Option Bool) : andO false n = some false := rfl
@[simp] theorem andO_t (n : Option Bool) : andO true n = n := rfl
@[simp] theorem orO_t (n : Option Bool) : orO true n = some true := rfl
@[simp] theorem orO_f (n : Option Bool) : orO false n = n := rfl
@[simp] theorem bnd_ite (c : Prop) [Decidable c] (x y : Option α) (f : α → Option β) : bnd (if c then x else y) f = if c then bnd x f else bnd y f := by split <;> rfl
/-! rows -/
theorem ixN_nat (n k : Nat) : ixN n (k : Int) = if k < n then some k else none := by
  unfold ixN
  rw [if_pos (by omega)]
  by_cases h : k < n
  · rw [if_pos (by omega), if_pos h, Int.toNat_natCast]
  · rw [if_neg (by omega), if_neg h]
@[simp] theorem atI_nat (xs : List α) (k : Nat) : L2.atI xs (k : Int) = xs[k]? := by
  unfold L2.atI
  rw [ixN_nat]
  by_cases h : k < xs.length
  · rw [if_pos h]; rfl
  · rw [if_neg h, List.getElem?_eq_none (by omega)]; rfl
theorem sIx_some {n k d : Nat} (h : k ≤ n) : HT.sIx n d (some (k : Int)) = k := by
  unfold HT.sIx; simp only []; split <;> omega
theorem cutG_take (xs : List α) (k : Nat) (h : k ≤ xs.length) : cutG xs none (some (k : Int)) = xs.take k := by
  unfold cutG
  rw [sIx_some h]
  simp [HT.sIx]
theorem cutG_drop (xs : List α) (k : Nat) (h : k ≤ xs.length) : cutG xs (some (k : Int)) none = xs.drop k := by
  unfold cutG
  rw [sIx_some h]
  simp only [HT.sIx]
  exact List.take_of_length_le (by simp)
/-! sameness -/
theorem same_self {E : Enc α} [DecidableEq α] {a : α} (h : szD (E.enc a) = true) : sameO E a a = some true := by simp [sameO, h]
@[simp] theorem sz_I (i : Int) : szD (Ei.enc i) = true := rfl
@[simp] theorem sz_S (i : Str) : szD (Es.enc i) = true := rfl
@[simp] theorem sz_B (i : Bool) : szD (Eb.enc i) = true := rfl
@[simp] theorem sz_U (i : Unit) : szD (Eu.enc i) = true := rfl
/-- a row's parts -/
def szR (F : Rw α) (a : α) : Bool := szDs (F.row a)
@[simp] theorem szR_1 (E : Enc α) (a : α) : szR (R1 E) a = szD (E.enc a) := by simp [szR, R1, szDs]
@[simp] theorem szR_c (E : Enc α) (F : Rw β) (a : α × β) : szR (Rc E F) a = (szD (E.enc a.1) && szR F a.2) := rfl
/-! rows that grow -/
theorem push_ok {xs : List α} {y : α} (h : xs.length < 1000000) : pushO xs y = some (xs ++ [y]) := by simp [pushO, h]
theorem mod_ok {i j : Int} (h : j ≠ 0) : modO i j = some (i.fmod j) := by simp [modO, h]
theorem setO'_ok {E : Enc α} [DecidableEq α] {xs : List α} (h : xs.length < 1000) : setO' E xs = some (E.sort (nub xs)) := by simp [setO', h]
end
/-! sorting numbers -/
theorem dataLe_int (a b : Int) : PySem.W.dataLe false toPy (Ei.enc a) (Ei.enc b) = decide (a ≤ b) := by
  show (!ltD (.int b) (.int a)) = decide (a ≤ b)
  rw [ltD_int]
  exact not_dec (by omega)
end Y


set_option Elab.async false
set_option linter.all false
set_option maxRecDepth 100000
/-! more plain laws -/
namespace Y
open PySem PySem.Spec PyProof.Rows L2 Z
section
variable {α β γ ρ τ : Type}
end
end Y


set_option Elab.async false
set_option linter.all false
set_option maxRecDepth 100000
/-! more typed rules: zip, list methods, chains, sets of rows, tuple targets -/
namespace Y
open PySem PySem.Spec PyProof.Rows L2 Z
section
variable {p p1 p2 p3 : Bool} {A A1 A2 A3 : List Sl} {α β γ τ : Type} {rest : Blk} {S : τ → Out → Prop} {me : Den} {mr : DE → Option (List R × DE)}
theorem k_asgTF {vs : List Nat} {b : Bnd} {v : α} {f : α → Option τ} {B : α → List Sl} (ex : α → D) (h : RV p A me (.own (ex v)) A1) (hb : ∀ x, Bd vs A1 b (ex x) (B x)) (g : ∀ x, RB (B x) rest (f x) S) : RB A (dSeq (dAsg b me) rest) (lv v f) S := k_asgT h (hb v) (g v)
/-! zip -/
/-! methods of lists -/
/-! a < b < c -/
/-! sets -/
mutual
theorem cl_nol : ∀ (d : D), d.cl = true → d.imm = true → d.nol = true
  | .non, _, _ => rfl
  | .int _, _, _ => rfl
  | .str _, _, _ => rfl
  | .bl _, h, _ => by cases h
  | .tup xs, h, i => cls_nols xs h i
  | .lst _, _, i => by cases i
  | .frz _, h, _ => by cases h
  | .dic _ _, h, _ => by cases h
  | .obj _ _ _, h, _ => by cases h
theorem cls_nols : ∀ (ds : List D), D.cls ds = true → D.imms ds = true → D.nols ds = true
  | [], _, _ => rfl
  | x :: xs, h, i => by
    simp only [D.cls, D.imms, D.nols, Bool.and_eq_true] at h i ⊢
    exact ⟨cl_nol x h.1 i.1, cls_nols xs h.2 i.2⟩
end
class ClE (E : Enc α) : Prop where
  cl : ∀ a, (E.enc a).cl = true
class ClR (E : Rw α) : Prop where
  cl : ∀ a, D.cls (E.row a) = true
class TpE (E : Enc α) : Prop where
  tp : ∀ a, isTup (E.enc a) = true
instance : ClE Ei := ⟨fun _ => rfl⟩
instance : ClE Es := ⟨fun _ => rfl⟩
instance : ClE Eu := ⟨fun _ => rfl⟩
instance {E : Enc α} {h} [ClE E] : ClE (Eo E h) := ⟨fun a => by cases a with
  | none => rfl
  | some a => exact ClE.cl a⟩
theorem cls_map (E : Enc α) [ClE E] : ∀ xs : List α, D.cls (xs.map E.enc) = true
  | [] => rfl
  | x :: xs => by simp only [List.map_cons, D.cls, ClE.cl x, cls_map E xs, Bool.and_self]
instance {E : Enc α} [ClE E] : ClE (Et E) := ⟨fun a => cls_map E a⟩
instance {E : Enc α} : TpE (Et E) := ⟨fun a => rfl⟩
instance {E : Enc α} [ClE E] : ClR (R1 E) := ⟨fun a => by simp only [R1, D.cls, ClE.cl, Bool.and_self]⟩
instance {E : Enc α} {F : Rw β} [ClE E] [ClR F] : ClR (Rc E F) := ⟨fun a => by simp only [Rc, D.cls, ClE.cl, ClR.cl, Bool.and_self]⟩
instance {F : Rw α} {h} [ClR F] : ClE (Er F h) := ⟨fun a => ClR.cl (E := F) a⟩
instance {F : Rw α} {h} : TpE (Er F h) := ⟨fun a => rfl⟩
/-! min, max of two -/
theorem f_max2X (E : Enc α) (a b : α) (h : Nat.ble E.dp 59 = true) (ha : E.al = true) (hn : E.nn = true) : fMax2X [E.enc a, E.enc b] = some (E.enc (if E.lt a b then b else a)) := by
  have := cmpAll_map E [a, b] h ha hn
  simp only [List.map_cons, List.map_nil] at this
  have e := maxD_map E a [b]
  simp only [List.map_cons, List.map_nil, List.foldl_cons, List.foldl_nil] at e
  simp only [fMax2X, fMax, this, if_true, e]
theorem f_min2X (E : Enc α) (a b : α) (h : Nat.ble E.dp 59 = true) (ha : E.al = true) (hn : E.nn = true) : fMin2X [E.enc a, E.enc b] = some (E.enc (if E.lt b a then b else a)) := by
  have := cmpAll_map E [a, b] h ha hn
  simp only [List.map_cons, List.map_nil] at this
  have e := minD_map E a [b]
  simp only [List.map_cons, List.map_nil, List.foldl_cons, List.foldl_nil] at e
  simp only [fMin2X, fMin, this, if_true, e]
/-! a def that may end without return -/
end
end Y


set_option Elab.async false
set_option linter.all false
set_option maxRecDepth 100000
/-! comprehensions with two clauses, typed -/
namespace Y
open PySem PySem.Spec PyProof.Rows L2 Z
section
variable {p : Bool} {α β γ : Type} {A A1 : List Sl} {me : Den} {mt mt1 : DenT} {ms ms1 : DenS} {bd bd1 : Bnd} {gs : List (Nat × D)}
structure El2 {vs vb vs1 vb1 : List Nat} (A : List Sl) (bd : Bnd) (mt : DenT) (ms1 : DenS) (bd1 : Bnd) (mt1 : DenT) (me : Den) (ex : α → D) (ex1 : γ → D) (g : β → D) (t : α → Option Bool) (s : α → Option (List γ)) (t1 : α → γ → Option Bool) (e : α → γ → Option β) (B : α → List Sl) (gs1 : α → List γ → List (Nat × D)) (B1 : α → γ → List Sl) : Prop where
  fb : ∀ x, Bd vb (setSl A vs) bd (ex x) (B x)
  ft : ∀ x v, t x = some v → RT true (B x) mt v (B x)
  fi : ∀ x ys, t x = some true → s x = some ys → RS true (B x) ms1 ⟨ys.map ex1, gs1 x ys⟩ (B x) ∧ gsIn (kpOut vs1) (gs1 x ys) = true ∧ Gd (setSl (B x) vs1) (gs1 x ys)
  fe : ∀ x, El (vs := vs1) (vb := vb1) (B x) bd1 mt1 me ex1 g (t1 x) (e x) (B1 x)
  fs : ∀ i ∈ vb, i ∈ vs
  fs1 : ∀ i ∈ vs1, i ∈ vs
theorem wipe_in2 {vs vs1 : List Nat} (h : ∀ i ∈ vs1, i ∈ vs) (δ : DE) : wipeD (wipeD δ vs1) vs = wipeD δ vs := wipe_eq (wipeD_len δ vs1) fun i hi => wipe_get3 fun z => hi (h i z)
/-! plain -/
end
end Y


set_option Elab.async false
set_option linter.all false
set_option maxRecDepth 100000
/-! taking a list away from its name; x[::-1]; slices of rows -/
namespace Y
open PySem PySem.Spec PyProof.Rows L2 Z
section
variable {p : Bool} {A A1 : List Sl} {α : Type} {m : Den} {r : R} {d : D}
theorem Agr.none {A : List Sl} {δ : DE} (h : Agr A δ) (i : Nat) : Agr (A.set i .any) (δ.set i none) where
  len := by simp [h.len]
  get j d e := by
    rw [List.getElem?_set] at e
    by_cases hj : i = j
    · rw [if_pos hj] at e
      split at e <;> cases e
    · rw [if_neg hj] at e
      rw [List.getElem?_set_ne hj]
      exact h.get j d e
theorem r_takeI {i : Nat} (h : A[i]? = some (.is d)) (hi : d.imm = true) : RV true A (dTake i) (.own d) A := fun δ a => by
  refine ⟨δ, ?_, a, fun _ => rfl⟩
  simp only [dTake, a.get i d h, hi, if_true]
def inB [DecidableEq α] (a : α) (xs : List α) : Bool := decide (a ∈ xs)
@[simp] theorem inB_eq [DecidableEq α] (a : α) (xs : List α) : inB a xs = true ↔ a ∈ xs := by simp [inB]
theorem f_inTB [DecidableEq α] (E : Enc α) (a : α) (xs : List α) (h : Nat.ble E.dp 58 = true) : fIn [E.enc a, .tup (xs.map E.enc)] = some (.bl (inB a xs)) := f_inT E a xs h
theorem f_ninLB [DecidableEq α] (E : Enc α) (a : α) (xs : List α) (h : Nat.ble E.dp 58 = true) : fNotIn [E.enc a, .lst (xs.map E.enc)] = some (.bl (!inB a xs)) := f_ninL E a xs h
/-! x[::-1] -/
/-! rows cut at known places -/
/-! t + u, the kinds brought together -/
end
end Y


set_option Elab.async false
set_option linter.all false
set_option maxRecDepth 100000
/-! rows of several kinds, told apart by their lengths; calls on data of unknown kinds -/
namespace Y
open PySem PySem.Spec PyProof.Rows L2 Z
theorem eqvAll_len : ∀ {xs ys : List PyData}, PyData.eqvAll xs ys = true → xs.length = ys.length
  | [], [], _ => rfl
  | [], _ :: _, h => by simp [PyData.eqvAll] at h
  | _ :: _, [], h => by simp [PyData.eqvAll] at h
  | x :: xs, y :: ys, h => by
    simp only [PyData.eqvAll, Bool.and_eq_true] at h
    simp only [List.length_cons, eqvAll_len h.2]
theorem toPys_len : ∀ xs : List D, (toPys xs).length = xs.length
  | [] => rfl
  | x :: xs => by simp only [toPys, List.length_cons, toPys_len xs]
structure Alt (α : Type) where
  row : α → List D
  keys : List (Nat × Option Str)
  hkey : ∀ a, ∃ k ∈ keys, (row a).length = k.1 ∧ ∀ s, k.2 = some s → ∃ r, row a = .str s :: r
  eq : ∀ a b, PyData.eqvAll (toPys (row a)) (toPys (row b)) = true ↔ a = b
  imm : ∀ a, D.imms (row a) = true
  dp : Nat
  hdp : ∀ a, D.dps (row a) ≤ dp
/-- kinds of rows that no row has in common -/
def disK (k : Nat × Option Str) (ks : List (Nat × Option Str)) : Bool := ks.all fun k' => k.1 != k'.1 || (match k.2, k'.2 with
  | some a, some b => decide (a ≠ b)
  | _, _ => false)
theorem disK_no {k k' : Nat × Option Str} {ks : List (Nat × Option Str)} (h : disK k ks = true) (hk : k' ∈ ks) {xs ys : List D} (l1 : xs.length = k.1) (l2 : ys.length = k'.1) (t1 : ∀ s, k.2 = some s → ∃ r, xs = .str s :: r) (t2 : ∀ s, k'.2 = some s → ∃ r, ys = .str s :: r) (e : PyData.eqvAll (toPys xs) (toPys ys) = true) : False := by
  have h1 := List.all_eq_true.mp h k' hk
  rw [Bool.or_eq_true] at h1
  rcases h1 with h1 | h1
  · have := eqvAll_len e
    rw [toPys_len, toPys_len, l1, l2] at this
    rw [this] at h1; simp at h1
  · obtain ⟨n, o⟩ := k
    obtain ⟨n', o'⟩ := k'
    dsimp only at h1 t1 t2
    cases o with
    | none => simp at h1
    | some s => cases o' with
      | none => simp at h1
      | some t =>
        obtain ⟨r, rfl⟩ := t1 s rfl
        obtain ⟨r', rfl⟩ := t2 t rfl
        simp only [toPys, PyData.eqvAll, Bool.and_eq_true] at e
        have : s = t := (Es.eq s t).mp e.1
        simp [this] at h1
def R0 : Rw Unit where
  row _ := []
  len := 0
  hlen _ := rfl
  eq a b := by simp [toPys, PyData.eqvAll]
  imm _ := rfl
  nol _ _ := rfl
  dp := 0
  hdp _ := by simp [D.dps]
  al := true
  hal _ a b := by simp [toPys, PySem.W.alikeAll]
section
variable {α β : Type}
def A1 (F : Rw α) : Alt α where
  row := F.row
  keys := [(F.len, F.tag)]
  hkey a := ⟨_, List.mem_cons_self, F.hlen a, fun s h => F.htag s h a⟩
  eq := F.eq
  imm := F.imm
  dp := F.dp
  hdp := F.hdp
def Ac (F : Rw α) (G : Alt β) (h : disK (F.len, F.tag) G.keys = true) : Alt (α ⊕ β) where
  row := Sum.elim F.row G.row
  keys := (F.len, F.tag) :: G.keys
  hkey a := by
    cases a with
    | inl a => exact ⟨_, List.mem_cons_self, F.hlen a, fun s h => F.htag s h a⟩
    | inr b =>
      obtain ⟨k, hk, r⟩ := G.hkey b
      exact ⟨k, List.mem_cons_of_mem _ hk, r⟩
  eq a b := by
    cases a with
    | inl a => cases b with
      | inl b => simp only [Sum.elim_inl, Sum.inl.injEq]; exact F.eq a b
      | inr b =>
        simp only [Sum.elim_inl, Sum.elim_inr, reduceCtorEq, iff_false]
        intro e
        obtain ⟨k, hk, hl, ht⟩ := G.hkey b
        exact disK_no h hk (F.hlen a) hl (fun s h => F.htag s h a) ht e
    | inr a => cases b with
      | inl b =>
        simp only [Sum.elim_inl, Sum.elim_inr, reduceCtorEq, iff_false]
        intro e
        obtain ⟨k, hk, hl, ht⟩ := G.hkey a
        rw [PySem.W.eqvAll_comm] at e
        exact disK_no h hk (F.hlen b) hl (fun s h => F.htag s h b) ht e
      | inr b => simp only [Sum.elim_inr, Sum.inr.injEq]; exact G.eq a b
  imm a := by cases a with
    | inl a => exact F.imm a
    | inr a => exact G.imm a
  dp := max F.dp G.dp
  hdp a := by cases a with
    | inl a => have := F.hdp a; simp only [Sum.elim_inl]; omega
    | inr a => have := G.hdp a; simp only [Sum.elim_inr]; omega
end
/-! lists of data of unknown kinds -/
section
variable {p p1 p2 : Bool} {A A1 A2 : List Sl} {mr : DE → Option (List R × DE)} {rs : List R} {ds : List D}
end
end Y
namespace Y
open PySem PySem.Spec PyProof.Rows L2 Z
section
variable {α : Type}
end
end Y
namespace Y
open PySem PySem.Spec PyProof.Rows L2 Z
end Y
namespace Y
open PySem PySem.Spec PyProof.Rows L2 Z
end Y


set_option Elab.async false
set_option linter.all false
set_option maxRecDepth 100000
/-! sorted by a lambda's keys, typed -/
namespace Y
open PySem PySem.Spec PyProof.Rows L2 Z
variable {α β γ : Type}
/-- sorted by the keys kf -/
def sortKO (G : Enc γ) (ok : α → Bool) (kf : α → γ) (xs : List α) : Option (List α) := if xs.all ok = true then some (xs.mergeSort fun a b => PySem.W.dataLe false toPy (G.enc (kf a)) (G.enc (kf b))) else none
theorem keysP_map {f : PyData → Option PyData} {g : α → D} {k : α → PyData} : ∀ {xs : List α}, (∀ x ∈ xs, f (toPy (g x)) = some (k x)) → keysP f (xs.map g) = some (xs.map k)
  | [], _ => rfl
  | x :: xs, h => by simp only [List.map_cons, keysP, h x List.mem_cons_self, keysP_map fun y hy => h y (List.mem_cons_of_mem _ hy)]
theorem f_sortK (E : Enc α) (G : Enc γ) {ok : α → Bool} {kf : α → γ} {f : PyData → Option PyData} {xs ys : List α} (hf : ∀ x, ok x = true → f (toPy (E.enc x)) = some (toPy (G.enc (kf x)))) (e : sortKO G ok kf xs = some ys)
    (h : Nat.ble G.dp 59 = true) (ha : G.al = true) (hk : ∀ c, isTupP (toPy (G.enc c)) = true) (hE : E.al = true := by rfl) : sortK f (xs.map E.enc) = some (.lst (ys.map E.enc)) := by
  unfold sortKO at e
  split at e
  case isFalse => cases e
  rename_i hok
  cases e
  have hx : ∀ x ∈ xs, f (toPy (E.enc x)) = some (toPy (G.enc (kf x))) := fun x hx => hf x (List.all_eq_true.mp hok x hx)
  have kk := keysP_map (f := f) (g := E.enc) (k := fun x => toPy (G.enc (kf x))) hx
  unfold sortK
  rw [kk]
  have ho : sortPOk (xs.map fun x => toPy (G.enc (kf x))) = true := by
    unfold sortPOk
    simp only [Bool.and_eq_true, List.all_eq_true, List.mem_map, forall_exists_index, and_imp, forall_apply_eq_imp_iff₂, Bool.or_eq_true, decide_eq_true_eq]
    refine ⟨fun x _ => ?_, fun x _ y _ => G.hal ha _ _, ?_⟩
    · have := enc_dep G (kf x) h
      exact dep_le this
    · exact .inl fun x _ => hk _
  simp only [map_nols E hE, ho, Bool.and_self, if_true]
  congr 2
  refine (List.map_mergeSort (f := E.enc) (r := fun a b => PySem.W.dataLe false toPy (G.enc (kf a)) (G.enc (kf b))) (s := PySem.W.dataLe false (keyP f)) (fun a ha b hb => ?_)).symm
  have e1 : keyP f (E.enc a) = toPy (G.enc (kf a)) := by simp [keyP, hx a ha]
  have e2 : keyP f (E.enc b) = toPy (G.enc (kf b)) := by simp [keyP, hx b hb]
  simp only [PySem.W.dataLe, PySem.W.sortLe, e1, e2]
theorem r_sortK {p : Bool} {A A1 : List Sl} {m : Den} {r : R} {E : Enc α} {G : Enc γ} {ok : α → Bool} {kf : α → γ} {fk : DE → PyData → Option PyData} {xs ys : List α} (h : RV p A m r A1) (g : Drf A1 r (.lst (xs.map E.enc)))
    (hf : ∀ δ, Agr A1 δ → ∀ x, ok x = true → fk δ (toPy (E.enc x)) = some (toPy (G.enc (kf x)))) (e : sortKO G ok kf xs = some ys) (hd : Nat.ble G.dp 59 = true) (ha : G.al = true) (hk : ∀ c, isTupP (toPy (G.enc c)) = true) (hE : E.al = true := by rfl) : RV p A (dSortK fk m) (.own (.lst (ys.map E.enc))) A1 := fun δ a => by
  obtain ⟨δ1, e1, a1, u⟩ := h δ a
  exact ⟨δ1, by simp only [dSortK, e1, g δ1 a1, f_sortK E G (hf δ1 a1) e hd ha hk hE], a1, u⟩
theorem er_tupP {F : Rw α} {h : (F.len != 0) = true} (c : α) : isTupP (toPy ((Er F h).enc c)) = true := by
  have hl := F.hlen c
  have e : (Er F h).enc c = .tup (F.row c) := rfl
  rw [e]
  cases hr : F.row c with
  | nil => rw [hr] at hl; simp at hl; rw [← hl] at h; simp at h
  | cons x r => simp [toPy, toPys, isTupP]
def okLS (x : Str) : Bool := decide (x.length ≤ 1000000)
theorem kl_S (x : Str) (h : okLS x = true) : (((some (toPy (Es.enc x))).bind lenP).bind fun a => (some (toPy (Es.enc x))).bind fun b => some (.tuple [a, b])) = some (toPy ((Er (Rc Ei (R1 Es)) rfl).enc ((x.length : Int), x))) := by
  have h := of_decide_eq_true h
  have h2 : x.length ≤ sizeLine := by rw [sizeLine_eq]; omega
  have e : Es.enc x = .str x := rfl
  simp only [e, toPy, Option.bind_some, lenP]
  rw [if_pos h2]
  simp [Er, Rc, R1, Ei, toPy, e, toPys]
section
variable {p : Bool} {A A1 : List Sl} {bd : Bnd} {mt : DenT} {me : Den} {ms : DenS} {gs : List (Nat × D)}
/-- any, all of values that have a truth -/
def trA (tr : β → Bool) (e : α → Option β) : α → Option Bool := fun x => (e x).map tr
theorem dG_allG {vs vb : List Nat} {ex : α → D} {g : β → D} {tr : β → Bool} (htr : ∀ y, truthS (g y) = some (tr y)) (him : ∀ y, (g y).imm = true) {t : α → Option Bool} {e : α → Option β} {B : α → List Sl} (E : El (vs := vs) (vb := vb) A bd mt me ex g t e B) {δw : DE} (a : Agr (setSl A vs) δw) (hw : wipeD δw vs = δw) :
    ∀ (xs : List α) (v : Bool), allO t (trA tr e) xs = some v → ∃ R, dG stopAll (gx vs bd mt me δw) (xs.map ex) = some R ∧ allT R = some v
  | [], v, h => by
    cases (Option.some.inj h)
    exact ⟨[], rfl, rfl⟩
  | x :: xs, w, h => by
    obtain ⟨δ1, e1, w1, t1, m1⟩ := E.run a hw x
    simp only [allO, trA] at h
    cases h1 : t x with
    | none => rw [h1] at h; cases h
    | some v =>
      rw [h1] at h
      cases v with
      | false =>
        obtain ⟨R, ih, q⟩ := dG_allG htr him E a hw xs w h
        exact ⟨R, by simp only [List.map_cons, dG, gx, e1, t1 _ h1, w1, if_true, ih], q⟩
      | true =>
        cases h2 : e x with
        | none => simp only [h2, Option.map_none] at h; cases h
        | some y =>
          simp only [h2, Option.map_some] at h
          cases hy : tr y with
          | false =>
            rw [hy] at h
            cases (Option.some.inj h)
            exact ⟨[g y], by simp only [List.map_cons, dG, gx, e1, t1 _ h1, m1 _ h1 h2, w1, him, and_self, if_true, stopAll, htr, hy], by simp only [allT, htr, hy]⟩
          | true =>
            rw [hy] at h
            obtain ⟨R, ih, q⟩ := dG_allG htr him E a hw xs w h
            exact ⟨g y :: R, by simp only [List.map_cons, dG, gx, e1, t1 _ h1, m1 _ h1 h2, w1, him, and_self, if_true, stopAll, htr, hy, ih]; rfl, by simp only [allT, htr, hy, q]⟩
end
section
variable {p1 p2 p3 : Bool} {A A1 A2 : List Sl} {mr : DE → Option (List R × DE)}
/-- the slots written out -/
theorem k_eqA {τ : Type} {A A' : List Sl} {m : Blk} {n : Option τ} {S : τ → Out → Prop} (e : A = A') (h : RB A' m n S) : RB A m n S := e ▸ h
/-! min, max of a generator that hands out ints -/
/-! sorted(range(n), key=lambda w: ns[w]) -/
end
section
variable {p p1 p2 : Bool} {A A1 A2 : List Sl} {m mr1 : Den} {r : R} {mr : DE → Option (List R × DE)}
end
end Y


set_option Elab.async false
set_option linter.all false
set_option maxRecDepth 100000
/-! generator expressions with two clauses, typed -/
namespace Y
open PySem PySem.Spec PyProof.Rows L2 Z
theorem allT_any : ∀ {R : List D} {v : Bool}, allT R = some v → R.any stopAll = !v
  | [], v, h => by cases (Option.some.inj h); rfl
  | d :: R, v, h => by
    simp only [allT] at h
    cases hd : truthS d with
    | none => rw [hd] at h; cases h
    | some b =>
      rw [hd] at h
      cases b with
      | true => simp only [List.any_cons, stopAll, hd, Bool.false_or]; exact allT_any h
      | false =>
        cases (Option.some.inj h)
        simp only [List.any_cons, stopAll, hd, Bool.true_or, Bool.not_false]
theorem allT_app : ∀ {R R' : List D} {v : Bool}, allT R = some true → allT R' = some v → allT (R ++ R') = some v
  | [], _, _, _, h => h
  | d :: R, R', v, h, h' => by
    simp only [allT] at h
    cases hd : truthS d with
    | none => rw [hd] at h; cases h
    | some b =>
      rw [hd] at h
      cases b with
      | true => simp only [List.cons_append, allT, hd]; exact allT_app h h'
      | false => cases (Option.some.inj h)
section
variable {p : Bool} {α β γ : Type} {A A1 : List Sl} {me : Den} {mt mt1 : DenT} {ms ms1 : DenS} {bd bd1 : Bnd} {gs : List (Nat × D)}
section
variable {vs vb vs1 vb1 : List Nat} {ex : α → D} {ex1 : γ → D} {g : β → D} {t : α → Option Bool} {s : α → Option (List γ)} {t1 : α → γ → Option Bool} {e : α → γ → Option β} {B : α → List Sl} {gs1 : α → List γ → List (Nat × D)} {B1 : α → γ → List Sl} {stop : D → Bool}
/-- one item of the outer thing -/
theorem gx2_run (E : El2 (vs := vs) (vb := vb) (vs1 := vs1) (vb1 := vb1) A bd mt ms1 bd1 mt1 me ex ex1 g t s t1 e B gs1 B1) {δw : DE} (a : Agr (setSl A vs) δw) (hw : wipeD δw vs = δw) (x : α) :
    (t x = some false → gx2 vs vs1 bd mt ms1 bd1 mt1 me stop δw (ex x) = some []) ∧
    (∀ ys, t x = some true → s x = some ys → ∃ δi, Agr (setSl (B x) vs1) δi ∧ wipeD δi vs1 = δi ∧ gx2 vs vs1 bd mt ms1 bd1 mt1 me stop δw (ex x) = dG stop (gx vs1 bd1 mt1 me δi) (ys.map ex1)) := by
  obtain ⟨δ1, e1, a1, l1, k1⟩ := E.fb x δw a
  have w1 : wipeD δ1 vs = δw := by rw [wipe_eq (δ := δw) (vs := vs) l1 fun i hi => k1 i fun h => hi (E.fs i h), hw]
  refine ⟨fun ht => ?_, fun ys ht hs => ?_⟩
  · obtain ⟨δ2, e2, a2, u2⟩ := E.ft x _ ht δ1 a1
    rw [u2 rfl] at e2
    simp only [gx2, e1, e2, w1, if_true]
  · obtain ⟨δ2, e2, a2, u2⟩ := E.ft x _ ht δ1 a1
    rw [u2 rfl] at e2
    obtain ⟨i1, i2, i3⟩ := E.fi x ys ht hs
    obtain ⟨δ3, e3, a3, u3⟩ := i1 δ1 a1
    rw [u3 rfl] at e3
    have aw : Agr (setSl (B x) vs1) (wipeD δ1 vs1) := a1.wipe vs1
    have hww : wipeD (wipeD δ1 vs1) vs = δw := by rw [wipe_in2 E.fs1, w1]
    exact ⟨_, aw, wipe_idem vs1 δ1, by simp only [gx2, e1, e2, e3, i3 _ aw, hww, and_self, if_true]⟩
theorem dG2_all {tr : β → Bool} (htr : ∀ y, truthS (g y) = some (tr y)) (him : ∀ y, (g y).imm = true) (E : El2 (vs := vs) (vb := vb) (vs1 := vs1) (vb1 := vb1) A bd mt ms1 bd1 mt1 me ex ex1 g t s t1 e B gs1 B1) {δw : DE} (a : Agr (setSl A vs) δw) (hw : wipeD δw vs = δw) :
    ∀ (xs : List α) (v : Bool), allO t (fun x => bnd (s x) fun ys => allO (t1 x) (trA tr (e x)) ys) xs = some v → ∃ R, dG2 stopAll (gx2 vs vs1 bd mt ms1 bd1 mt1 me stopAll δw) (xs.map ex) = some R ∧ allT R = some v
  | [], v, h => by
    cases (Option.some.inj h)
    exact ⟨[], rfl, rfl⟩
  | x :: xs, w, h => by
    obtain ⟨r1, r2⟩ := gx2_run (stop := stopAll) E a hw x
    simp only [allO] at h
    cases h1 : t x with
    | none => rw [h1] at h; cases h
    | some v =>
      rw [h1] at h
      cases v with
      | false =>
        obtain ⟨R, ih, q⟩ := dG2_all htr him E a hw xs w h
        exact ⟨R, by simp only [List.map_cons, dG2, r1 h1, List.any_nil, Bool.false_eq_true, if_false, ih, List.nil_append], q⟩
      | true =>
        cases h2 : s x with
        | none => simp only [h2, bnd] at h; cases h
        | some ys =>
          obtain ⟨δi, ai, wi, er⟩ := r2 ys h1 h2
          simp only [h2, bnd] at h
          cases h3 : allO (t1 x) (trA tr (e x)) ys with
          | none => simp only [h3] at h; cases h
          | some b =>
            simp only [h3] at h
            obtain ⟨R1, g1, g2⟩ := dG_allG htr him (E.fe x) ai wi ys b h3
            rw [g1] at er
            have an := allT_any g2
            cases b with
            | false =>
              cases (Option.some.inj h)
              exact ⟨R1, by simp only [List.map_cons, dG2, er, an, Bool.not_false, if_true], g2⟩
            | true =>
              obtain ⟨R, ih, q⟩ := dG2_all htr him E a hw xs w h
              exact ⟨R1 ++ R, by simp only [List.map_cons, dG2, er, an, Bool.not_true, Bool.false_eq_true, if_false, ih], allT_app g2 q⟩
theorem r_allG2 {xs : List α} {v : Bool} {tr : β → Bool} (htr : ∀ y, truthS (g y) = some (tr y)) (him : ∀ y, (g y).imm = true) (hs : RS p A ms ⟨xs.map ex, gs⟩ A1) (hg : Gd (setSl A1 vs) gs)
    (E : El2 (vs := vs) (vb := vb) (vs1 := vs1) (vb1 := vb1) A1 bd mt ms1 bd1 mt1 me ex ex1 g t s t1 e B gs1 B1) (h : allO t (fun x => bnd (s x) fun ys => allO (t1 x) (trA tr (e x)) ys) xs = some v) : RV p A (dFold fAll (dGe2 vs vs1 ms bd mt ms1 bd1 mt1 me stopAll)) (.own (.bl v)) A1 := fun δ a => by
  obtain ⟨δ1, e1, a1, u⟩ := hs δ a
  obtain ⟨R, e2, e3⟩ := dG2_all htr him E (a1.wipe vs) (wipe_idem vs δ1) xs v h
  exact ⟨δ1, by simp only [dFold, dGe2, e1, gOk_wipe (hg _ (a1.wipe vs)), if_true, e2, fAll, e3, Option.map_some], a1, u⟩
end
/-- elements that are truths themselves -/
theorem trA_id {e : α → Option Bool} : trA (fun b => b) e = e := by
  funext x
  unfold trA
  cases e x <;> rfl
section
variable {vs vb vs1 vb1 : List Nat} {ex : α → D} {ex1 : γ → D} {t : α → Option Bool} {s : α → Option (List γ)} {t1 e : α → γ → Option Bool} {B : α → List Sl} {gs1 : α → List γ → List (Nat × D)} {B1 : α → γ → List Sl}
theorem r_all2 {xs : List α} {v : Bool} (hs : RS p A ms ⟨xs.map ex, gs⟩ A1) (hg : Gd (setSl A1 vs) gs)
    (E : El2 (vs := vs) (vb := vb) (vs1 := vs1) (vb1 := vb1) A1 bd mt ms1 bd1 mt1 me ex ex1 D.bl t s t1 e B gs1 B1) (h : allO t (fun x => bnd (s x) fun ys => allO (t1 x) (e x) ys) xs = some v) : RV p A (dFold fAll (dGe2 vs vs1 ms bd mt ms1 bd1 mt1 me stopAll)) (.own (.bl v)) A1 :=
  r_allG2 (tr := fun b => b) (fun _ => rfl) (fun _ => rfl) hs hg E (by simp only [trA_id]; exact h)
end
end
end Y


set_option Elab.async false
set_option linter.all false
set_option maxRecDepth 100000
/-! dicts, typed -/
namespace Y
open PySem PySem.Spec PyProof.Rows L2 Z
section
variable {α β τ : Type}
/-- a dict as a datum -/
def Dx (E : Enc α) (F : Enc β) (d : List (α × β)) : D := .dic (d.map fun p => E.enc p.1) (d.map fun p => F.enc p.2)
def dGet [DecidableEq α] : List (α × β) → α → Option β
  | [], _ => none
  | p :: r, k => if p.1 = k then some p.2 else dGet r k
def dHas [DecidableEq α] (d : List (α × β)) (k : α) : Bool := d.any fun p => decide (p.1 = k)
def dPut [DecidableEq α] (d : List (α × β)) (k : α) (v : β) : List (α × β) := if dHas d k = true then d.map (fun p => if p.1 = k then (p.1, v) else p) else d ++ [(k, v)]
def dPutO [DecidableEq α] (d : List (α × β)) (k : α) (v : β) : Option (List (α × β)) := if d.length < 1000000 then some (dPut d k v) else none
/-- all values of the kind can be keys of one dict -/
structure FamE (E : Enc α) : Prop where
  fam : ∀ xs : List α, famOk (xs.map E.enc) = true
theorem famS : FamE Es := ⟨fun xs => by simp [famOk, List.all_map, Function.comp_def, Es, keyA]⟩
theorem enc_eq (E : Enc α) {a b : α} : E.enc a = E.enc b ↔ a = b := ⟨fun h => (E.eq a b).mp (by rw [h]; exact (E.eq b b).mpr rfl), fun h => by rw [h]⟩
variable {E : Enc α} {F : Enc β}
theorem keys_enc (E : Enc α) (d : List (α × β)) : (d.map fun p => E.enc p.1) = (d.map (·.1)).map E.enc := by rw [List.map_map]; rfl
theorem fam_keys {E : Enc α} (fe : FamE E) (d : List (α × β)) (k : α) : famOk (E.enc k :: d.map fun p => E.enc p.1) = true := by
  rw [keys_enc]; exact fe.fam (k :: d.map (·.1))
theorem has_enc (E : Enc α) [DecidableEq α] (d : List (α × β)) (k : α) : decide (E.enc k ∈ d.map fun p => E.enc p.1) = dHas d k := by
  unfold dHas
  rw [Bool.eq_iff_iff]
  simp only [decide_eq_true_eq, List.mem_map, List.any_eq_true]
  exact ⟨fun ⟨p, h1, h2⟩ => ⟨p, h1, (enc_eq E).mp h2⟩, fun ⟨p, h1, h2⟩ => ⟨p, h1, (enc_eq E).mpr h2⟩⟩
theorem look_enc [DecidableEq α] : ∀ (d : List (α × β)) (k : α), lookD (d.map fun p => E.enc p.1) (d.map fun p => F.enc p.2) (E.enc k) = (dGet d k).map F.enc
  | [], _ => rfl
  | p :: d, k => by
    simp only [List.map_cons, lookD, dGet]
    by_cases h : p.1 = k
    · rw [if_pos (by rw [h]), if_pos h]; rfl
    · rw [if_neg (fun z => h ((enc_eq E).mp z)), if_neg h, look_enc d k]
theorem f_din {E : Enc α} (F : Enc β) [DecidableEq α] (fe : FamE E) (d : List (α × β)) (k : α) : fDIn [E.enc k, Dx E F d] = some (.bl (dHas d k)) := by
  simp only [fDIn, Dx, fam_keys fe, if_true, has_enc]
theorem f_dnin {E : Enc α} (F : Enc β) [DecidableEq α] (fe : FamE E) (d : List (α × β)) (k : α) : fDNotIn [E.enc k, Dx E F d] = some (.bl (!dHas d k)) := by
  simp only [fDNotIn, Dx, fam_keys fe, if_true, has_enc]
theorem set_enc [DecidableEq α] (k : α) (v : β) : ∀ d : List (α × β), setD (d.map fun p => E.enc p.1) (d.map fun p => F.enc p.2) (E.enc k) (F.enc v) = (d.map (fun p => if p.1 = k then (p.1, v) else p)).map fun p => F.enc p.2
  | [] => rfl
  | p :: d => by
    simp only [List.map_cons, setD, set_enc k v d]
    by_cases h : p.1 = k
    · rw [if_pos (by rw [h]), if_pos h]
    · rw [if_neg (fun z => h ((enc_eq E).mp z)), if_neg h]
theorem put_enc [DecidableEq α] (d : List (α × β)) (k : α) (v : β) : (D.dic (putD (d.map fun p => E.enc p.1) (d.map fun p => F.enc p.2) (E.enc k) (F.enc v)).1 (putD (d.map fun p => E.enc p.1) (d.map fun p => F.enc p.2) (E.enc k) (F.enc v)).2) = Dx E F (dPut d k v) := by
  have hm := has_enc E d k
  unfold putD dPut Dx
  by_cases h : dHas d k = true
  · rw [if_pos (by rw [h] at hm; exact of_decide_eq_true hm), if_pos h, set_enc]
    have e : (d.map (fun p => if p.1 = k then (p.1, v) else p)).map (fun p => E.enc p.1) = d.map fun p => E.enc p.1 := by
      rw [List.map_map]
      apply List.map_congr_left
      intro p _
      simp only [Function.comp]
      split <;> rfl
    rw [e]
  · have h2 : dHas d k = false := by cases hh : dHas d k <;> simp_all
    rw [if_neg (by rw [h2] at hm; exact of_decide_eq_false hm), if_neg h]
    simp only [List.map_append, List.map_cons, List.map_nil]
section
variable {A A1 A2 A3 : List Sl} {rest : Blk} {S : τ → Out → Prop} {p1 p2 p3 : Bool} {me mo mi mk mv : Den}
theorem r_dnew (E : Enc α) (F : Enc β) : RV true A dDNew (.own (Dx E F [])) A := fun δ a => ⟨δ, rfl, a, fun _ => rfl⟩
theorem r_disp1 (fe : FamE E) {k : α} {v : β} (hk : RV p1 A mk (.own (E.enc k)) A1) (hv : RV p2 A1 mv (.own (F.enc v)) A2) : RV (p1 && p2) A (dDisp1 mk mv) (.own (Dx E F [(k, v)])) A2 := fun δ a => by
  obtain ⟨δ1, e1, a1, u1⟩ := hk δ a
  obtain ⟨δ2, e2, a2, u2⟩ := hv δ1 a1
  have hf : famOk [E.enc k] = true := fe.fam [k]
  exact ⟨δ2, by simp only [dDisp1, e1, e2, hf, E.imm, F.imm, Bool.and_self, if_true]; rfl, a2, pp u1 u2⟩
theorem k_dset {i : Nat} [DecidableEq α] (fe : FamE E) {d : List (α × β)} {k : α} {v : β} {f : List (α × β) → Option τ} (h : RV p1 A me (.own (F.enc v)) A1) (ho : RV p2 A1 mo (.at i []) A2) (hi : RV p3 A2 mi (.own (E.enc k)) A3) (g : A3[i]? = some (.is (Dx E F d)))
    (c : ∀ zs, dPutO d k v = some zs → RB (A3.set i (.is (Dx E F zs))) rest (f zs) S) : RB A (dSeq (dDSet mo mi me) rest) (bnd (dPutO d k v) f) S := fun t e δ a => by
  obtain ⟨zs, h1, h2⟩ := bnd_eq e
  obtain ⟨δ1, e1, a1, _⟩ := h δ a
  obtain ⟨δ2, e2, a2, _⟩ := ho δ1 a1
  obtain ⟨δ3, e3, a3, _⟩ := hi δ2 a2
  have hd : δ3[i]? = some (some (.dic (d.map fun p => E.enc p.1) (d.map fun p => F.enc p.2))) := a3.get i _ g
  have hz := h1
  unfold dPutO at hz
  split at hz
  · rename_i hl
    cases (Option.some.inj hz)
    have := c _ h1 t h2 _ (a3.set i (Dx E F (dPut d k v)))
    simp only [dSeq, dDSet, e1, e2, e3, hd, fam_keys fe, E.imm, F.imm, List.length_map, hl, decide_true, Bool.and_self, if_true, put_enc]
    exact this
  · cases hz
end
end
end Y


set_option Elab.async false
set_option linter.all false
set_option maxRecDepth 100000
/-! row * number, list.count: typed -/
namespace Y
open PySem PySem.Spec PyProof.Rows L2 Z
section
variable {α : Type} {p1 p2 : Bool} {A A1 A2 : List Sl} {mr : DE → Option (List R × DE)}
end
/-! tests of which the later part draws -/
section
variable {p p1 p2 : Bool} {A : List Sl} {ta tb : DenT} {i : Nat} {b : Box}
end
end Y


set_option Elab.async false
set_option linter.all false
set_option maxRecDepth 100000
/-! lists that nobody changes: values like others -/
namespace Y
open PySem PySem.Spec PyProof.Rows L2 Z
section
variable {α : Type} (E : Enc α)
def Ef : Enc (List α) where
  enc xs := .frz (xs.map E.enc)
  eq a b := by simp only [eqD, toPy, PyData.eqv]; exact map_eqv E a b
  imm a := rfl
  dp := E.dp + 1
  hdp a := by simp only [D.dp]; have := map_dps E a; omega
  nn := true
  hnn _ a h := by cases h
  al := false
  hal h := by cases h
  nol h := by cases h
  tk := false
  htk h := by cases h
  pl := false
  hpl h := by cases h
variable {p : Bool} {A A1 : List Sl} {m : Den}
end
end Y


set_option Elab.async false
set_option linter.all false
set_option maxRecDepth 100000
/-! lists one behind the other, not of any value, kinds that are told apart: typed -/
namespace Y
open PySem PySem.Spec PyProof.Rows L2 Z
section
variable {α β : Type} {p : Bool} {A A1 : List Sl} {m : Den} {r : R} {d : D} {b : Bool}
/-! one of two kinds that are never alike -/
end
end Y


set_option Elab.async false
set_option linter.all false
set_option maxRecDepth 100000
/-! list(range(n)): typed -/
namespace Y
open PySem PySem.Spec PyProof.Rows L2 Z
section
variable {p : Bool} {A A1 : List Sl} {m : Den}
end
end Y


set_option Elab.async false
set_option linter.all false
set_option maxRecDepth 100000
/-! what is not reached; and, or by truth -/
namespace Y
open PySem PySem.Spec PyProof.Rows L2 Z
section
variable {A : List Sl} {p1 p2 : Bool} {ma mb : Den} {α : Type} {E : Enc α} {x y : α} {t : Bool}
end
end Y


set_option Elab.async false
set_option linter.all false
set_option maxRecDepth 100000
/-! what kind a part of a row of several kinds is -/
namespace Y
open PySem PySem.Spec PyProof.Rows L2 Z
section
variable {p1 p2 q : Bool} {A A1 A2 : List Sl} {ma mb : Den} {ra rb : R} {α : Type} {G : Alt α} {g : PyData → Bool} {i : Int} {a : α} {b : Bool} {sel : α → Option Bool}
end
end Y


set_option Elab.async false
set_option linter.all false
set_option maxRecDepth 100000
/-! min, max of what a generator hands out: rows -/
namespace Y
open PySem PySem.Spec PyProof.Rows L2 Z
variable {α : Type}
end Y


set_option Elab.async false
set_option linter.all false
set_option maxRecDepth 100000
/-! list.remove of rows -/
namespace Y
open PySem PySem.Spec PyProof.Rows L2 Z
section
variable {α : Type} {A A1 A2 : List Sl} {p1 p2 : Bool} {mr : DE → Option (List R × DE)}
end
end Y




set_option Elab.async false
set_option linter.all false
set_option maxRecDepth 100000
/-! ranges that go down, typed -/
namespace Y
open PySem PySem.Spec PyProof.Rows L2 Z
end Y


set_option Elab.async false
set_option linter.all false
set_option maxRecDepth 100000
/-! two rows, one behind the other -/
namespace Y
open PySem PySem.Spec PyProof.Rows L2 Z
end Y


set_option Elab.async false
set_option linter.all false
set_option maxRecDepth 100000
/-! texts, typed: join, index, count, enumerate -/
namespace Y
open PySem PySem.Spec PyProof.Rows L2 Z
def joinO (s : Str) (ys : List Str) : Option Str := if (ys.map (·.length)).sum + ys.length * s.length ≤ 1000000 then some (joinZ s ys) else none
theorem strs_map : ∀ ys : List Str, strsD (ys.map Es.enc) = some ys
  | [] => rfl
  | y :: ys => by
    show strsD (.str y :: ys.map Es.enc) = _
    simp only [strsD, strs_map ys]
theorem f_join {s z : Str} {ys : List Str} {d : D} (i : itemsD d = some (ys.map Es.enc)) (h : joinO s ys = some z) : fJoin s [d] = some (.str z) := by
  unfold joinO at h
  simp only [fJoin, i, strs_map]
  split at h
  · rename_i hc
    cases h
    rw [if_pos hc]
  · cases h
theorem f_joinL {s z : Str} {ys : List Str} (h : joinO s ys = some z) : fJoin s [.lst (ys.map Es.enc)] = some (.str z) := f_join rfl h
def sidxO (a b : Str) : Option Int := match Builtin.Str.occurrences a b 0 a.length 1 with
  | i :: _ => some (i : Nat)
  | [] => none
section
variable {p : Bool} {A A1 A2 : List Sl} {m m2 : Den}
theorem r_sidx {a b : Str} {i : Int} (h1 : RV p A m (.own (Es.enc a)) A1) (h2 : RV p A1 m2 (.own (Es.enc b)) A2) (e : sidxO a b = some i) : RV p A (dSM fSIdx m m2) (.own (Ei.enc i)) A2 := fun δ g => by
  obtain ⟨δ1, e1, a1, u1⟩ := h1 δ g
  obtain ⟨δ2, e2, a2, u2⟩ := h2 δ1 a1
  have e1 : m δ = some (.own (.str a), δ1) := e1
  have e2 : m2 δ1 = some (.own (.str b), δ2) := e2
  unfold sidxO at e
  split at e
  · rename_i j r eo
    cases e
    exact ⟨δ2, by simp only [dSM, e1, e2, fSIdx, eo]; rfl, a2, fun hp => (u2 hp).trans (u1 hp)⟩
  · cases e
theorem i_numS {x : Str} (h : RV p A m (.own (.str x)) A1) : RS p A (sEnumS m) ⟨(numN 0 (chrs x)).map (numE Es).enc, []⟩ A1 := fun δ a => by
  obtain ⟨δ1, e1, a1, u⟩ := h δ a
  exact ⟨δ1, by simp only [sEnumS, e1, chars_map, num_map], a1, u⟩
end
end Y


set_option Elab.async false
set_option linter.all false
set_option maxRecDepth 100000
/-! x += a text, typed -/
namespace Y
open PySem PySem.Spec PyProof.Rows L2 Z
section
variable {p : Bool} {A A1 : List Sl} {rest : Blk} {τ : Type} {S : τ → Out → Prop}
theorem k_augS {i : Nat} {me : Den} {x y : Str} {k : Str → Option τ} (g : A[i]? = some (.is (.str x))) (h : RV p A me (.own (.str y)) A1) (hi : i < A1.length) (c : ∀ z, RB (A1.set i (.is (Es.enc z))) rest (k z) S) : RB A (dSeq (dAugS i me) rest) (bnd (catS x y) k) S := fun t' e δ a => by
  obtain ⟨z, h3, h4⟩ := bnd_eq e
  obtain ⟨δ1, e1, a1, _⟩ := h δ a
  have hl : i < δ1.length := by rw [a1.len]; exact hi
  unfold catS at h3
  split at h3
  · rename_i hc
    cases h3
    simp only [dSeq, dAugS, a.get _ _ g, e1, hl, hc, and_self, if_true]
    exact c _ t' h4 _ (a1.set i _)
  · cases h3
end
end Y


set_option Elab.async false
set_option linter.all false
set_option maxRecDepth 100000
/-! sorted(set(a text)), typed -/
namespace Y
open PySem PySem.Spec PyProof.Rows L2 Z
theorem r_setC {p : Bool} {A A1 : List Sl} {m : Den} {x : Str} {zs : List Str} (h : RV p A m (.own (Es.enc x)) A1) (e : setO' Es (chrs x) = some zs) : RV p A (dSetC m) (.own (.lst (zs.map Es.enc))) A1 := fun δ a => by
  obtain ⟨δ1, e1, a1, u⟩ := h δ a
  have e1 : m δ = some (.own (.str x), δ1) := e1
  have hf := f_setS e
  rw [← chars_map] at hf
  simp only [fSetS] at hf
  split at hf
  · rename_i hk
    have hz : setSortD (chars x) = zs.map Es.enc := by injection hf with hf; injection hf
    exact ⟨δ1, by simp only [dSetC, e1, hk, if_true, hz], a1, u⟩
  · cases hf
end Y


set_option Elab.async false
set_option linter.all false
set_option maxRecDepth 100000
/-! a list that is locked: nothing else changes -/
namespace Y
open PySem PySem.Spec PyProof.Rows L2 Z
end Y


set_option Elab.async false
set_option linter.all false
set_option maxRecDepth 100000
/-! dicts, typed: d.get(k), list(d) -/
namespace Y
open PySem PySem.Spec PyProof.Rows L2 Z
section
variable {α β : Type} {E : Enc α} {F : Enc β}
theorem f_dgetm [DecidableEq α] (fe : FamE E) {hn : F.nn = true} (d : List (α × β)) (k : α) : fDGetM [Dx E F d, E.enc k] = some ((Eo F hn).enc (dGet d k)) := by
  simp only [fDGetM, Dx, fam_keys fe, if_true, look_enc]
  cases dGet d k <;> rfl
theorem f_dlist (E : Enc α) (F : Enc β) (d : List (α × β)) : fDList [Dx E F d] = some (.lst ((d.map (·.1)).map E.enc)) := by
  simp only [fDList, Dx, keys_enc]
theorem r_dgetm [DecidableEq α] (fe : FamE E) {hn : F.nn = true} {A A1 : List Sl} {s : Nat} {qe p : Bool} {me : Den} {d : List (α × β)} {k : α} (g : A[s]? = some (.is (Dx E F d))) (h : RV p A me (.own (E.enc k)) A1) (g1 : A1[s]? = some (.is (Dx E F d))) : RV (true && (p && true)) A (dDGN s qe me) (.own ((Eo F hn).enc (dGet d k))) A1 := fun δ a => by
  have hd : δ[s]? = some (some (.dic (d.map fun p => E.enc p.1) (d.map fun p => F.enc p.2))) := a.get s _ g
  have := r_call (f := fDGetM) (r_acons (q := qe && true) (r_varM g (by rfl)) (r_acons (q := true) h r_anil rfl) rfl) (drfs_cons (drf_at g1) (drfs_cons drf_own drfs_nil)) (f_dgetm fe (hn := hn) d k) δ a
  obtain ⟨δ1, e1, a1, u⟩ := this
  refine ⟨δ1, ?_, a1, u⟩
  simp only [dDGN, hd]
  exact e1
end
end Y


set_option Elab.async false
set_option linter.all false
set_option maxRecDepth 100000
set_option maxHeartbeats 20000000
set_option synthInstance.maxHeartbeats 400000
set_option synthInstance.maxSize 4000
namespace P30
open PySem PySem.Spec PyProof.Rows L2 Z Y
def top (i : Nat) : Stmt := PySem.Challenge.pw_tracehouse_k30_prefixes_and_rests.main.body.getD i (.Pass ⟨0, 0, 0, 0⟩)
structure Ctx (K : PySem.W.Frag) (mg : Str → Option Value) (base : Heap) where
  f_independent : Addr
  g_independent : FuncData
  d_independent : Def K mg "independent" (top 1) ["alphabet", "x", "y"] f_independent g_independent
  f_free : Addr
  g_free : FuncData
  d_free : Def K mg "free" (top 2) ["alphabet", "word", "other"] f_free g_free
  f_firsts : Addr
  g_firsts : FuncData
  d_firsts : Def K mg "firsts" (top 4) ["alphabet", "word"] f_firsts g_firsts
  f_without_first : Addr
  g_without_first : FuncData
  d_without_first : Def K mg "without_first" (top 6) ["word", "letter"] f_without_first g_without_first
  f_least : Addr
  g_least : FuncData
  d_least : Def K mg "least" (top 7) ["alphabet", "word"] f_least g_least
  f_left_behind : Addr
  g_left_behind : FuncData
  d_left_behind : Def K mg "left_behind" (top 9) ["alphabet", "word", "other"] f_left_behind g_left_behind
  f_is_prefix : Addr
  g_is_prefix : FuncData
  d_is_prefix : Def K mg "is_prefix" (top 10) ["alphabet", "word", "other"] f_is_prefix g_is_prefix
  f_rest : Addr
  g_rest : FuncData
  d_rest : Def K mg "rest" (top 11) ["alphabet", "word", "other"] f_rest g_rest
  f_prefixes : Addr
  g_prefixes : FuncData
  d_prefixes : Def K mg "prefixes" (top 12) ["alphabet", "word"] f_prefixes g_prefixes
  f_law_cell : Addr
  g_law_cell : FuncData
  d_law_cell : Def K mg "_law_cell" (top 14) ["script", "k"] f_law_cell g_law_cell
  f_law_digits : Addr
  g_law_digits : FuncData
  d_law_digits : Def K mg "_law_digits" (top 15) ["script", "first", "last"] f_law_digits g_law_digits
  f_law_draw : Addr
  g_law_draw : FuncData
  d_law_draw : Def K mg "_law_draw" (top 16) ["box", "many"] f_law_draw g_law_draw
  f_law_same : Addr
  g_law_same : FuncData
  d_law_same : Def K mg "_law_same" (top 17) ["actual", "expected"] f_law_same g_law_same
  f_law_box : Addr
  g_law_box : FuncData
  d_law_box : Def K mg "_law_box" (top 18) ["script", "first", "last"] f_law_box g_law_box
  f_law_alphabet : Addr
  g_law_alphabet : FuncData
  d_law_alphabet : Def K mg "_law_alphabet" (top 19) ["box", "most"] f_law_alphabet g_law_alphabet
  f_law_word : Addr
  g_law_word : FuncData
  d_law_word : Def K mg "_law_word" (top 20) ["box", "alphabet", "most"] f_law_word g_law_word
  f_law_free : Addr
  g_law_free : FuncData
  d_law_free : Def K mg "_law_free" (top 21) ["alphabet", "x", "y"] f_law_free g_law_free
  f_law_leaders : Addr
  g_law_leaders : FuncData
  d_law_leaders : Def K mg "_law_leaders" (top 22) ["alphabet", "word"] f_law_leaders g_law_leaders
  f_law_without : Addr
  g_law_without : FuncData
  d_law_without : Def K mg "_law_without" (top 23) ["word", "x"] f_law_without g_law_without
  f_law_least : Addr
  g_law_least : FuncData
  d_law_least : Def K mg "_law_least" (top 24) ["alphabet", "word"] f_law_least g_law_least
  f_law_rest : Addr
  g_law_rest : FuncData
  d_law_rest : Def K mg "_law_rest" (top 25) ["alphabet", "word", "other"] f_law_rest g_law_rest
  f_law_class : Addr
  g_law_class : FuncData
  d_law_class : Def K mg "_law_class" (top 26) ["alphabet", "word"] f_law_class g_law_class
  f_law_mixed : Addr
  g_law_mixed : FuncData
  d_law_mixed : Def K mg "_law_mixed" (top 27) ["box", "alphabet", "word"] f_law_mixed g_law_mixed
  f_law : Addr
  g_law : FuncData
  d_law : Def K mg "law" (top 28) ["script"] f_law g_law
  n_range : mg "range" = none
  n_len : mg "len" = none
  n_int : mg "int" = none
  n_tuple : mg "tuple" = none
  n_sorted : mg "sorted" = none
  n_set : mg "set" = none
  n_list : mg "list" = none
  n_enumerate : mg "enumerate" = none
  n_all : mg "all" = none
  n_min : mg "min" = none
  n_max : mg "max" = none
  n_isinstance : mg "isinstance" = none
  n_bool : mg "bool" = none
  n_str : mg "str" = none
  bm : BMod base mg
section
variable {P : Program} {w : World} {K : PySem.W.Frag} {mg : Str → Option Value} {base : Heap}
def N_law_cell : List Str := ["script", "k"]
theorem S_law_cell : FnScope N_law_cell ["script", "k"] (defScope (top 14)) := ⟨rfl, rfl, rfl, by decide +kernel, rfl, by decide +kernel, by decide +kernel⟩
theorem ok_law_cell (C : Ctx K mg base) : FnOk P w K mg base CX0 1 C.f_law_cell C.g_law_cell ["script", "k"] (spD ⟨K, w⟩ d_law_cell) :=
  z_defF (N := N_law_cell) (ps := ["script", "k"]) (kp := (kpL [0, 1])) (m := m_law_cell) C.d_law_cell.fz S_law_cell fun cc A outer s H E hr =>
    (z_cons (z_if (z_tcmp (o_lt (h64 hr)) (z_var 1) (z_callB c_len (by rfl) C.n_len bb_len (z_acons (z_var 0) z_anil)))
    (z_sone (z_ret (z_sub (z_var 0) (z_var 1))))
    z_nil)
    (z_sone (z_ret z_int)))
def N_law_digits : List Str := ["script", "first", "last", "digits", "k", "cell", "turn", "seed"]
theorem S_law_digits : FnScope N_law_digits ["script", "first", "last"] (defScope (top 15)) := ⟨rfl, rfl, rfl, by decide +kernel, rfl, by decide +kernel, by decide +kernel⟩
theorem ok_law_digits (C : Ctx K mg base) : FnOk P w K mg base CX0 2 C.f_law_digits C.g_law_digits ["script", "first", "last"] (spD ⟨K, w⟩ d_law_digits) :=
  z_defF (N := N_law_digits) (ps := ["script", "first", "last"]) (kp := (kpL [0, 1, 2])) (m := m_law_digits) C.d_law_digits.fz S_law_digits fun cc A outer s H E hr =>
    (z_cons (z_set (i := 3) S_law_digits.nd (by rfl) (by first | exact .inl rfl | exact .inr rfl) (by rfl) (z_lst z_anil))
    (z_cons (z_for (kp' := (kpL [0, 1, 2, 3])) .never (by rfl) (z_range2 (by rfl) C.n_range (z_acons (z_var 1) (z_acons (z_var 2) z_anil)) (h2 := fun _ _ _ h => acons_len2 h)) (z_gname S_law_digits.nd (by rfl) (by first | exact .inl rfl | exact .inr rfl) (by rfl))
    (z_cons (z_set (i := 5) S_law_digits.nd (by rfl) (by first | exact .inl rfl | exact .inr rfl) (by rfl) (z_call (ok_law_cell C) (hr.mono (by decide)) (by rfl) C.d_law_cell.g C.d_law_cell.kp C.d_law_cell.b (z_acons (z_var 0) (z_acons (z_var 4) z_anil))))
    (z_cons (z_if (z_tcmp (o_lt (h64 hr)) (z_var 5) z_int)
    (z_sone (z_set (i := 5) S_law_digits.nd (by rfl) (by first | exact .inl rfl | exact .inr rfl) (by rfl) (z_bin o_sub z_int (z_bin o_mul z_int (z_var 5)))))
    z_nil)
    (z_sone (z_if (z_tcmp (o_ge (h64 hr)) (z_var 5) (z_bin o_pow z_int z_int))
    (z_sone (z_for (kp' := (kpL [0, 1, 2, 3, 4, 7])) .never (by rfl) (z_range1 (by rfl) C.n_range (z_acons z_int z_anil) (h1 := fun _ _ _ h => acons_len1 h)) (z_gname S_law_digits.nd (by rfl) (by first | exact .inl rfl | exact .inr rfl) (by rfl))
    (z_sone (z_if (z_tcmp (o_gt (h64 hr)) (z_var 5) z_int)
    (z_cons (z_expr (z_append (z_var 3) (z_bin o_mod (z_callTy c_int (by rfl) C.n_int bb_int (z_acons (z_var 5) z_anil)) z_int)))
    (z_sone (z_set (i := 5) S_law_digits.nd (by rfl) (by first | exact .inl rfl | exact .inr rfl) (by rfl) (z_bin o_fdiv (z_var 5) z_int))))
    z_nil)) (kpL_sub (by decide))))
    (z_cons (z_set (i := 7) S_law_digits.nd (by rfl) (by first | exact .inl rfl | exact .inr rfl) (by rfl) (z_bin o_mod (z_callTy c_int (by rfl) C.n_int bb_int (z_acons (z_bin o_add (z_bin o_add (z_bin o_mul (z_var 5) z_int) (z_bin o_mul (z_var 4) z_int)) z_int) z_anil)) z_int))
    (z_sone (z_for (kp' := (kpL [0, 1, 2, 3, 4, 5])) .never (by rfl) (z_range1 (by rfl) C.n_range (z_acons z_int z_anil) (h1 := fun _ _ _ h => acons_len1 h)) (z_gname S_law_digits.nd (by rfl) (by first | exact .inl rfl | exact .inr rfl) (by rfl))
    (z_cons (z_set (i := 7) S_law_digits.nd (by rfl) (by first | exact .inl rfl | exact .inr rfl) (by rfl) (z_bin o_mod (z_callTy c_int (by rfl) C.n_int bb_int (z_acons (z_bin o_add (z_bin o_add (z_bin o_mul (z_var 7) z_int) (z_bin o_mul z_int (z_var 6))) z_int) z_anil)) z_int))
    (z_sone (z_expr (z_append (z_var 3) (z_bin o_mod (z_callTy c_int (by rfl) C.n_int bb_int (z_acons (z_bin o_fdiv (z_var 7) z_int) z_anil)) z_int))))) (kpL_sub (by decide))))))))) (kpL_sub (by decide)))
    (z_sone (z_ret (z_var 3)))))
def N_law_box : List Str := ["script", "first", "last"]
theorem S_law_box : FnScope N_law_box ["script", "first", "last"] (defScope (top 18)) := ⟨rfl, rfl, rfl, by decide +kernel, rfl, by decide +kernel, by decide +kernel⟩
theorem ok_law_box (C : Ctx K mg base) : FnOk P w K mg base CX0 3 C.f_law_box C.g_law_box ["script", "first", "last"] (spD ⟨K, w⟩ d_law_box) :=
  z_defF (N := N_law_box) (ps := ["script", "first", "last"]) (kp := (kpL [0, 1, 2])) (m := m_law_box) C.d_law_box.fz S_law_box fun cc A outer s H E hr =>
    (z_sone (z_ret (z_lst (z_acons (z_call (ok_law_digits C) (hr.mono (by decide)) (by rfl) C.d_law_digits.g C.d_law_digits.kp C.d_law_digits.b (z_acons (z_var 0) (z_acons (z_var 1) (z_acons (z_var 2) z_anil)))) (z_acons z_int z_anil)))))
def N_law_draw : List Str := ["box", "many", "at"]
theorem S_law_draw : FnScope N_law_draw ["box", "many"] (defScope (top 16)) := ⟨rfl, rfl, rfl, by decide +kernel, rfl, by decide +kernel, by decide +kernel⟩
theorem ok_law_draw (C : Ctx K mg base) : FnOk P w K mg base CX0 1 C.f_law_draw C.g_law_draw ["box", "many"] (spD ⟨K, w⟩ d_law_draw) :=
  z_defF (N := N_law_draw) (ps := ["box", "many"]) (kp := (kpL [0, 1])) (m := m_law_draw) C.d_law_draw.fz S_law_draw fun cc A outer s H E hr =>
    (z_cons (z_set (i := 2) S_law_draw.nd (by rfl) (by first | exact .inl rfl | exact .inr rfl) (by rfl) (z_sub (z_var 0) z_int))
    (z_cons (z_setI (z_bin o_add (z_var 2) z_int) (z_var 0) z_int)
    (z_cons (z_if (z_tcmp (o_lt (h64 hr)) (z_var 2) (z_callB c_len (by rfl) C.n_len bb_len (z_acons (z_sub (z_var 0) z_int) z_anil)))
    (z_sone (z_ret (z_bin o_mod (z_callTy c_int (by rfl) C.n_int bb_int (z_acons (z_sub (z_sub (z_var 0) z_int) (z_var 2)) z_anil)) (z_var 1))))
    z_nil)
    (z_sone (z_ret z_int)))))
def N_law_alphabet : List Str := ["box", "most", "letters", "pairs", "j", "k"]
theorem S_law_alphabet : FnScope N_law_alphabet ["box", "most"] (defScope (top 19)) := ⟨rfl, rfl, rfl, by decide +kernel, rfl, by decide +kernel, by decide +kernel⟩
def l_law_alphabet_1 : Blk :=
    (dIf (dTb (dCall fLt (d2 true (dUser d_law_draw (dACons true (dVar 0) (dACons true (dC (.int 5)) dANil))) (dC (.int 2)))))
    (dDrop (dAppend true (dVar 3) (dCall fAdd (d2 true (dSub true (dVar 2) (dVar 4)) (dSub true (dVar 2) (dVar 5))))))
    dNx)
def l_law_alphabet_2 : Blk :=
    (dFor (kpL [0, 1, 2, 3, 4]) (sRange (dACons true (dCall fAdd (d2 true (dVar 4) (dC (.int 1)))) (dACons true (dCall fLen (dACons true (dVar 2) dANil)) dANil))) (bName 5)
    l_law_alphabet_1)
def m_law_alphabet : Blk :=
    (dSeq (dAsg (bName 2) (dSlice false (dC (.str "abcdef")) dNoP (dPart (dCall fAdd (d2 false (dC (.int 1)) (dUser d_law_draw (dACons true (dVar 0) (dACons true (dVar 1) dANil))))))))
    (dSeq (dAsg (bName 3) (dLst dANil))
    (dSeq (dFor (kpL [0, 1, 2, 3]) (sRange (dACons true (dCall fLen (dACons true (dVar 2) dANil)) dANil)) (bName 4)
    l_law_alphabet_2)
    (dRet (kpL [0, 1]) (dTup (dACons true (dC (.str "alphabet")) (dACons true (dVar 2) (dACons true (dCall fTuple (dACons true (dCall fSort1 (dACons true (dVar 3) dANil)) dANil)) dANil))))))))
def d_law_alphabet : Fn := dFn 6 2 (kpL [0, 1]) m_law_alphabet
theorem ok_law_alphabet (C : Ctx K mg base) : FnOk P w K mg base CX0 2 C.f_law_alphabet C.g_law_alphabet ["box", "most"] (spD ⟨K, w⟩ d_law_alphabet) :=
  z_defF (N := N_law_alphabet) (ps := ["box", "most"]) (kp := (kpL [0, 1])) (m := m_law_alphabet) C.d_law_alphabet.fz S_law_alphabet fun cc A outer s H E hr =>
    (z_cons (z_set (i := 2) S_law_alphabet.nd (by rfl) (by first | exact .inl rfl | exact .inr rfl) (by rfl) (z_slice z_str z_ponone (z_posome (z_bin o_add z_int (z_call (ok_law_draw C) (hr.mono (by decide)) (by rfl) C.d_law_draw.g C.d_law_draw.kp C.d_law_draw.b (z_acons (z_var 0) (z_acons (z_var 1) z_anil)))))))
    (z_cons (z_set (i := 3) S_law_alphabet.nd (by rfl) (by first | exact .inl rfl | exact .inr rfl) (by rfl) (z_lst z_anil))
    (z_cons (z_for (kp' := (kpL [0, 1, 2, 3])) .never (by rfl) (z_range1 (by rfl) C.n_range (z_acons (z_callB c_len (by rfl) C.n_len bb_len (z_acons (z_var 2) z_anil)) z_anil) (h1 := fun _ _ _ h => acons_len1 h)) (z_gname S_law_alphabet.nd (by rfl) (by first | exact .inl rfl | exact .inr rfl) (by rfl))
    (z_sone (z_for (kp' := (kpL [0, 1, 2, 3, 4])) .never (by rfl) (z_range2 (by rfl) C.n_range (z_acons (z_bin o_add (z_var 4) z_int) (z_acons (z_callB c_len (by rfl) C.n_len bb_len (z_acons (z_var 2) z_anil)) z_anil)) (h2 := fun _ _ _ h => acons_len2 h)) (z_gname S_law_alphabet.nd (by rfl) (by first | exact .inl rfl | exact .inr rfl) (by rfl))
    (z_sone (z_if (z_tcmp (o_lt (h64 hr)) (z_call (ok_law_draw C) (hr.mono (by decide)) (by rfl) C.d_law_draw.g C.d_law_draw.kp C.d_law_draw.b (z_acons (z_var 0) (z_acons z_int z_anil))) z_int)
    (z_sone (z_expr (z_append (z_var 3) (z_bin o_add (z_sub (z_var 2) (z_var 4)) (z_sub (z_var 2) (z_var 5))))))
    z_nil)) (kpL_sub (by decide)))) (kpL_sub (by decide)))
    (z_sone (z_ret (z_tup (z_acons z_str (z_acons (z_var 2) (z_acons (z_callTy c_tuple (by rfl) C.n_tuple bb_tuple (z_acons (z_callB (c_sorted (hu_of hr)) (by rfl) C.n_sorted bb_sorted (z_acons (z_var 3) z_anil)) z_anil)) z_anil)))))))))
def N_law_word : List Str := ["box", "alphabet", "most", "word", "k"]
theorem S_law_word : FnScope N_law_word ["box", "alphabet", "most"] (defScope (top 20)) := ⟨rfl, rfl, rfl, by decide +kernel, rfl, by decide +kernel, by decide +kernel⟩
def l_law_word_1 : Blk :=
    (dAsg (bName 3) (dCall fAdd (d2 false (dVar 3) (dSub false (dSub true (dVar 1) (dC (.int 1))) (dUser d_law_draw (dACons true (dVar 0) (dACons true (dCall fLen (dACons true (dSub true (dVar 1) (dC (.int 1))) dANil)) dANil)))))))
def m_law_word : Blk :=
    (dSeq (dAsg (bName 3) (dC (.str "")))
    (dSeq (dFor (kpL [0, 1, 2]) (sRange (dACons true (dUser d_law_draw (dACons true (dVar 0) (dACons true (dCall fAdd (d2 true (dVar 2) (dC (.int 1)))) dANil))) dANil)) (bName 4)
    l_law_word_1)
    (dRet (kpL [0, 1, 2]) (dVar 3))))
def d_law_word : Fn := dFn 5 3 (kpL [0, 1, 2]) m_law_word
theorem ok_law_word (C : Ctx K mg base) : FnOk P w K mg base CX0 2 C.f_law_word C.g_law_word ["box", "alphabet", "most"] (spD ⟨K, w⟩ d_law_word) :=
  z_defF (N := N_law_word) (ps := ["box", "alphabet", "most"]) (kp := (kpL [0, 1, 2])) (m := m_law_word) C.d_law_word.fz S_law_word fun cc A outer s H E hr =>
    (z_cons (z_set (i := 3) S_law_word.nd (by rfl) (by first | exact .inl rfl | exact .inr rfl) (by rfl) z_str)
    (z_cons (z_for (kp' := (kpL [0, 1, 2])) .never (by rfl) (z_range1 (by rfl) C.n_range (z_acons (z_call (ok_law_draw C) (hr.mono (by decide)) (by rfl) C.d_law_draw.g C.d_law_draw.kp C.d_law_draw.b (z_acons (z_var 0) (z_acons (z_bin o_add (z_var 2) z_int) z_anil))) z_anil) (h1 := fun _ _ _ h => acons_len1 h)) (z_gname S_law_word.nd (by rfl) (by first | exact .inl rfl | exact .inr rfl) (by rfl))
    (z_sone (z_set (i := 3) S_law_word.nd (by rfl) (by first | exact .inl rfl | exact .inr rfl) (by rfl) (z_bin o_add (z_var 3) (z_sub (z_sub (z_var 1) z_int) (z_call (ok_law_draw C) (hr.mono (by decide)) (by rfl) C.d_law_draw.g C.d_law_draw.kp C.d_law_draw.b (z_acons (z_var 0) (z_acons (z_callB c_len (by rfl) C.n_len bb_len (z_acons (z_sub (z_var 1) z_int) z_anil)) z_anil))))))) (kpL_sub (by decide)))
    (z_sone (z_ret (z_var 3)))))
def N_law_free : List Str := ["alphabet", "x", "y"]
theorem S_law_free : FnScope N_law_free ["alphabet", "x", "y"] (defScope (top 21)) := ⟨rfl, rfl, rfl, by decide +kernel, rfl, by decide +kernel, by decide +kernel⟩
def m_law_free : Blk :=
    (dRet (kpL [0, 1, 2]) (dOrV (dCall fIn (d2 true (dCall fAdd (d2 true (dVar 1) (dVar 2))) (dSub true (dVar 0) (dC (.int 2))))) (dCall fIn (d2 true (dCall fAdd (d2 true (dVar 2) (dVar 1))) (dSub true (dVar 0) (dC (.int 2)))))))
def d_law_free : Fn := dFn 3 3 (kpL [0, 1, 2]) m_law_free
theorem ok_law_free (C : Ctx K mg base) : FnOk P w K mg base CX0 1 C.f_law_free C.g_law_free ["alphabet", "x", "y"] (spD ⟨K, w⟩ d_law_free) :=
  z_defF (N := N_law_free) (ps := ["alphabet", "x", "y"]) (kp := (kpL [0, 1, 2])) (m := m_law_free) C.d_law_free.fz S_law_free fun cc A outer s H E hr =>
    (z_sone (z_ret (z_or (z_cmp (o_in (h65 hr)) (z_bin o_add (z_var 1) (z_var 2)) (z_sub (z_var 0) z_int)) (z_one (z_cmp (o_in (h65 hr)) (z_bin o_add (z_var 2) (z_var 1)) (z_sub (z_var 0) z_int))))))
def N_law_class : List Str := ["alphabet", "word", "found", "at", "known", "here", "k", "there"]
theorem S_law_class : FnScope N_law_class ["alphabet", "word"] (defScope (top 26)) := ⟨rfl, rfl, rfl, by decide +kernel, rfl, by decide +kernel, by decide +kernel⟩
def l_law_class_1 : Blk :=
    (dIf (dTv (dUser d_law_free (dACons true (dVar 0) (dACons true (dSub true (dVar 5) (dVar 6)) (dACons true (dSub true (dVar 5) (dCall fAdd (d2 true (dVar 6) (dC (.int 1))))) dANil)))))
    (dSeq (dAsg (bName 7) (dCall fAdd (d2 true (dCall fAdd (d2 true (dCall fAdd (d2 true (dSlice true (dVar 5) dNoP (dPart (dVar 6))) (dSub true (dVar 5) (dCall fAdd (d2 true (dVar 6) (dC (.int 1))))))) (dSub true (dVar 5) (dVar 6)))) (dSlice true (dVar 5) (dPart (dCall fAdd (d2 true (dVar 6) (dC (.int 2))))) dNoP))))
    (dIf (dTb (dCall fDNotIn (d2 true (dVar 7) (dVar 4))))
    (dSeq (dDSet (dVar 4) (dVar 7) (dC (.bl true)))
    (dDrop (dAppend false (dVar 2) (dTake 7))))
    dNx))
    dNx)
def l_law_class_2 : Blk :=
    (dSeq (dAsg (bName 5) (dSub true (dVar 2) (dVar 3)))
    (dSeq (dAsg (bName 3) (dCall fAdd (d2 true (dVar 3) (dC (.int 1)))))
    (dFor (kpL [0, 1, 2, 3, 4, 5]) (sRange (dACons true (dCall fSub (d2 true (dCall fLen (dACons true (dVar 5) dANil)) (dC (.int 1)))) dANil)) (bName 6)
    l_law_class_1)))
def m_law_class : Blk :=
    (dSeq (dAsg (bName 2) (dLst (dACons true (dVar 1) dANil)))
    (dSeq (dAsg (bName 3) (dC (.int 0)))
    (dSeq (dAsg (bName 4) (dDisp1 (dVar 1) (dC (.bl true))))
    (dSeq (dWhile (dTb (dCall fLt (d2 true (dVar 3) (dCall fLen (dACons true (dVar 2) dANil)))))
    l_law_class_2 10000)
    (dRet (kpL [0, 1]) (dVar 2))))))
def d_law_class : Fn := dFn 8 2 (kpL [0, 1]) m_law_class
theorem ok_law_class (C : Ctx K mg base) : FnOk P w K mg base CX0 2 C.f_law_class C.g_law_class ["alphabet", "word"] (spD ⟨K, w⟩ d_law_class) :=
  z_defF (N := N_law_class) (ps := ["alphabet", "word"]) (kp := (kpL [0, 1])) (m := m_law_class) C.d_law_class.fz S_law_class fun cc A outer s H E hr =>
    (z_cons (z_set (i := 2) S_law_class.nd (by rfl) (by first | exact .inl rfl | exact .inr rfl) (by rfl) (z_lst (z_acons (z_var 1) z_anil)))
    (z_cons (z_set (i := 3) S_law_class.nd (by rfl) (by first | exact .inl rfl | exact .inr rfl) (by rfl) z_int)
    (z_cons (z_set (i := 4) S_law_class.nd (by rfl) (by first | exact .inl rfl | exact .inr rfl) (by rfl) (z_disp1 (h65 hr) (z_var 1) z_bl))
    (z_cons (z_while 10000 .never (z_tcmp (o_lt (h64 hr)) (z_var 3) (z_callB c_len (by rfl) C.n_len bb_len (z_acons (z_var 2) z_anil)))
    (z_cons (z_set (i := 5) S_law_class.nd (by rfl) (by first | exact .inl rfl | exact .inr rfl) (by rfl) (z_sub (z_var 2) (z_var 3)))
    (z_cons (z_set (i := 3) S_law_class.nd (by rfl) (by first | exact .inl rfl | exact .inr rfl) (by rfl) (z_bin o_add (z_var 3) z_int))
    (z_sone (z_for (kp' := (kpL [0, 1, 2, 3, 4, 5])) .never (by rfl) (z_range1 (by rfl) C.n_range (z_acons (z_bin o_sub (z_callB c_len (by rfl) C.n_len bb_len (z_acons (z_var 5) z_anil)) z_int) z_anil) (h1 := fun _ _ _ h => acons_len1 h)) (z_gname S_law_class.nd (by rfl) (by first | exact .inl rfl | exact .inr rfl) (by rfl))
    (z_sone (z_if (z_tv (z_call (ok_law_free C) (hr.mono (by decide)) (by rfl) C.d_law_free.g C.d_law_free.kp C.d_law_free.b (z_acons (z_var 0) (z_acons (z_sub (z_var 5) (z_var 6)) (z_acons (z_sub (z_var 5) (z_bin o_add (z_var 6) z_int)) z_anil)))))
    (z_cons (z_set (i := 7) S_law_class.nd (by rfl) (by first | exact .inl rfl | exact .inr rfl) (by rfl) (z_bin o_add (z_bin o_add (z_bin o_add (z_slice (z_var 5) z_ponone (z_posome (z_var 6))) (z_sub (z_var 5) (z_bin o_add (z_var 6) z_int))) (z_sub (z_var 5) (z_var 6))) (z_slice (z_var 5) (z_posome (z_bin o_add (z_var 6) z_int)) z_ponone)))
    (z_sone (z_if (z_tcmp (o_dnotin (h65 hr)) (z_var 7) (z_var 4))
    (z_cons (z_dset (h65 hr) z_bl (z_var 4) (z_var 7))
    (z_sone (z_expr (z_append (z_var 2) (z_take 7)))))
    z_nil)))
    z_nil)) (kpL_sub (by decide)))))))
    (z_sone (z_ret (z_var 2)))))))
def N_law_leaders : List Str := ["alphabet", "word", "found", "x", "ahead", "y"]
theorem S_law_leaders : FnScope N_law_leaders ["alphabet", "word"] (defScope (top 22)) := ⟨rfl, rfl, rfl, by decide +kernel, rfl, by decide +kernel, by decide +kernel⟩
def l_law_leaders_1 : Blk :=
    (dSeq (dAsg (bName 4) (dSlice true (dVar 1) dNoP (dPart (dSM fSIdx (dVar 1) (dVar 3)))))
    (dIf (dTb (dCall fEq (d2 true (dCall fLen (dACons true (dLc [5] (sSeq (dVar 4)) (bName 5) (dNot (dTv (dUser d_law_free (dACons true (dVar 0) (dACons true (dVar 3) (dACons true (dVar 5) dANil)))))) (dVar 5)) dANil)) (dC (.int 0)))))
    (dDrop (dAppend false (dVar 2) (dTake 3)))
    dNx))
def m_law_leaders : Blk :=
    (dSeq (dAsg (bName 2) (dLst dANil))
    (dSeq (dFor (kpL [0, 1, 2, 5]) (sSeq (dSetC (dVar 1))) (bName 3)
    l_law_leaders_1)
    (dRet (kpL [0, 1, 5]) (dVar 2))))
def d_law_leaders : Fn := dFn 6 2 (kpL [0, 1, 5]) m_law_leaders
theorem ok_law_leaders (C : Ctx K mg base) : FnOk P w K mg base CX0 2 C.f_law_leaders C.g_law_leaders ["alphabet", "word"] (spD ⟨K, w⟩ d_law_leaders) :=
  z_defF (N := N_law_leaders) (ps := ["alphabet", "word"]) (kp := (kpL [0, 1, 5])) (m := m_law_leaders) C.d_law_leaders.fz S_law_leaders fun cc A outer s H E hr =>
    (z_cons (z_set (i := 2) S_law_leaders.nd (by rfl) (by first | exact .inl rfl | exact .inr rfl) (by rfl) (z_lst z_anil))
    (z_cons (z_for (kp' := (kpL [0, 1, 2, 5])) .never (by rfl) (z_seq (z_sortSetC (hu_of hr) (by rfl) (by rfl) C.n_sorted (by rfl) C.n_set (z_var 1))) (z_gname S_law_leaders.nd (by rfl) (by first | exact .inl rfl | exact .inr rfl) (by rfl))
    (z_cons (z_set (i := 4) S_law_leaders.nd (by rfl) (by first | exact .inl rfl | exact .inr rfl) (by rfl) (z_slice (z_var 1) z_ponone (z_posome (z_sindex (z_var 1) (z_var 3)))))
    (z_sone (z_if (z_tcmp (o_eq (h64 hr)) (z_callB c_len (by rfl) C.n_len bb_len (z_acons (z_lc (own := [("y", 5)]) (by rfl) S_law_leaders.nd (z_seq (z_var 4)) (blkOk_by (N := N_law_leaders) (sc := defScope (top 22)) (by decide +kernel)) (fun _ _ _ _ _ => (z_gname S_law_leaders.nd (by rfl) (by first | exact .inl rfl | exact .inr rfl) (by rfl))) (fun _ _ _ _ _ => (z_tsone (z_not (z_tv (z_call (ok_law_free C) (hr.mono (by decide)) (by rfl) C.d_law_free.g C.d_law_free.kp C.d_law_free.b (z_acons (z_var 0) (z_acons (z_var 3) (z_acons (z_var 5) z_anil)))))))) (fun _ _ _ _ _ => (z_var 5))) z_anil)) z_int)
    (z_sone (z_expr (z_append (z_var 2) (z_take 3))))
    z_nil))) (kpL_sub (by decide)))
    (z_sone (z_ret (z_var 2)))))
def N_law_without : List Str := ["word", "x", "place"]
theorem S_law_without : FnScope N_law_without ["word", "x"] (defScope (top 23)) := ⟨rfl, rfl, rfl, by decide +kernel, rfl, by decide +kernel, by decide +kernel⟩
def m_law_without : Blk :=
    (dSeq (dAsg (bName 2) (dSM fSIdx (dVar 0) (dVar 1)))
    (dRet (kpL [0, 1]) (dCall fAdd (d2 true (dSlice true (dVar 0) dNoP (dPart (dVar 2))) (dSlice true (dVar 0) (dPart (dCall fAdd (d2 true (dVar 2) (dC (.int 1))))) dNoP)))))
def d_law_without : Fn := dFn 3 2 (kpL [0, 1]) m_law_without
theorem ok_law_without (C : Ctx K mg base) : FnOk P w K mg base CX0 1 C.f_law_without C.g_law_without ["word", "x"] (spD ⟨K, w⟩ d_law_without) :=
  z_defF (N := N_law_without) (ps := ["word", "x"]) (kp := (kpL [0, 1])) (m := m_law_without) C.d_law_without.fz S_law_without fun cc A outer s H E hr =>
    (z_cons (z_set (i := 2) S_law_without.nd (by rfl) (by first | exact .inl rfl | exact .inr rfl) (by rfl) (z_sindex (z_var 0) (z_var 1)))
    (z_sone (z_ret (z_bin o_add (z_slice (z_var 0) z_ponone (z_posome (z_var 2))) (z_slice (z_var 0) (z_posome (z_bin o_add (z_var 2) z_int)) z_ponone)))))
def N_law_least : List Str := ["alphabet", "word", "built", "x"]
theorem S_law_least : FnScope N_law_least ["alphabet", "word"] (defScope (top 24)) := ⟨rfl, rfl, rfl, by decide +kernel, rfl, by decide +kernel, by decide +kernel⟩
def l_law_least_1 : Blk :=
    (dSeq (dAsg (bName 3) (dSub true (dUser d_law_leaders (dACons true (dVar 0) (dACons true (dVar 1) dANil))) (dC (.int 0))))
    (dSeq (dAsg (bName 2) (dCall fAdd (d2 true (dVar 2) (dVar 3))))
    (dAsg (bName 1) (dUser d_law_without (dACons true (dVar 1) (dACons true (dVar 3) dANil))))))
def m_law_least : Blk :=
    (dSeq (dAsg (bName 2) (dC (.str "")))
    (dSeq (dWhile (dTb (dCall fGt (d2 true (dCall fLen (dACons true (dVar 1) dANil)) (dC (.int 0)))))
    l_law_least_1 1000)
    (dRet (kpL [0]) (dVar 2))))
def d_law_least : Fn := dFn 4 2 (kpL [0]) m_law_least
theorem ok_law_least (C : Ctx K mg base) : FnOk P w K mg base CX0 3 C.f_law_least C.g_law_least ["alphabet", "word"] (spD ⟨K, w⟩ d_law_least) :=
  z_defF (N := N_law_least) (ps := ["alphabet", "word"]) (kp := (kpL [0])) (m := m_law_least) C.d_law_least.fz S_law_least fun cc A outer s H E hr =>
    (z_cons (z_set (i := 2) S_law_least.nd (by rfl) (by first | exact .inl rfl | exact .inr rfl) (by rfl) z_str)
    (z_cons (z_while 1000 .never (z_tcmp (o_gt (h64 hr)) (z_callB c_len (by rfl) C.n_len bb_len (z_acons (z_var 1) z_anil)) z_int)
    (z_cons (z_set (i := 3) S_law_least.nd (by rfl) (by first | exact .inl rfl | exact .inr rfl) (by rfl) (z_sub (z_call (ok_law_leaders C) (hr.mono (by decide)) (by rfl) C.d_law_leaders.g C.d_law_leaders.kp C.d_law_leaders.b (z_acons (z_var 0) (z_acons (z_var 1) z_anil))) z_int))
    (z_cons (z_set (i := 2) S_law_least.nd (by rfl) (by first | exact .inl rfl | exact .inr rfl) (by rfl) (z_bin o_add (z_var 2) (z_var 3)))
    (z_sone (z_set (i := 1) S_law_least.nd (by rfl) (by first | exact .inl rfl | exact .inr rfl) (by rfl) (z_call (ok_law_without C) (hr.mono (by decide)) (by rfl) C.d_law_without.g C.d_law_without.kp C.d_law_without.b (z_acons (z_var 1) (z_acons (z_var 3) z_anil))))))))
    (z_sone (z_ret (z_var 2)))))
def N_independent : List Str := ["alphabet", "x", "y"]
theorem S_independent : FnScope N_independent ["alphabet", "x", "y"] (defScope (top 1)) := ⟨rfl, rfl, rfl, by decide +kernel, rfl, by decide +kernel, by decide +kernel⟩
def m_independent : Blk :=
    (dRet (kpL [0, 1, 2]) (dCall fIn (d2 true (dCall fAdd (d2 true (dCall fMin2X (dACons true (dVar 1) (dACons true (dVar 2) dANil))) (dCall fMax2X (dACons true (dVar 1) (dACons true (dVar 2) dANil))))) (dSub true (dVar 0) (dC (.int 2))))))
def d_independent : Fn := dFn 3 3 (kpL [0, 1, 2]) m_independent
theorem ok_independent (C : Ctx K mg base) : FnOk P w K mg base CX0 1 C.f_independent C.g_independent ["alphabet", "x", "y"] (spD ⟨K, w⟩ d_independent) :=
  z_defF (N := N_independent) (ps := ["alphabet", "x", "y"]) (kp := (kpL [0, 1, 2])) (m := m_independent) C.d_independent.fz S_independent fun cc A outer s H E hr =>
    (z_sone (z_ret (z_cmp (o_in (h65 hr)) (z_bin o_add (z_callB (c_min2X rfl (h64 hr)) (by rfl) C.n_min bb_min (z_acons (z_var 1) (z_acons (z_var 2) z_anil))) (z_callB (c_max2X rfl (h64 hr)) (by rfl) C.n_max bb_max (z_acons (z_var 1) (z_acons (z_var 2) z_anil)))) (z_sub (z_var 0) z_int))))
def N_free : List Str := ["alphabet", "word", "other", "x", "y"]
theorem S_free : FnScope N_free ["alphabet", "word", "other"] (defScope (top 2)) := ⟨rfl, rfl, rfl, by decide +kernel, rfl, by decide +kernel, by decide +kernel⟩
def m_free : Blk :=
    (dRet (kpL [0, 1, 2, 3, 4]) (dFold fAll (dGe2 [3, 4] [4] (sSeq (dVar 1)) (bName 3) dYes (sSeq (dVar 2)) (bName 4) dYes (dUser d_independent (dACons true (dVar 0) (dACons true (dVar 3) (dACons true (dVar 4) dANil)))) stopAll)))
def d_free : Fn := dFn 5 3 (kpL [0, 1, 2, 3, 4]) m_free
theorem ok_free (C : Ctx K mg base) : FnOk P w K mg base CX0 3 C.f_free C.g_free ["alphabet", "word", "other"] (spD ⟨K, w⟩ d_free) :=
  z_defF (N := N_free) (ps := ["alphabet", "word", "other"]) (kp := (kpL [0, 1, 2, 3, 4])) (m := m_free) C.d_free.fz S_free fun cc A outer s H E hr =>
    (z_sone (z_ret (z_allY (k := 1) (hr.mono (by decide)) (by rfl) C.n_all (z_gen2 (own := [("x", 3), ("y", 4)]) (k := 1) (vs1 := [4]) (hr.mono (by decide)) (by rfl) (by rfl) S_free.nd C.bm ⟨rfl, rfl⟩ (z_seq (z_var 1)) (blkOk_by (N := N_free) (sc := defScope (top 2)) (by decide +kernel)) (fun _ _ _ _ _ _ _ hg => (z_gname S_free.nd (by rfl) (by first | exact .inl rfl | exact .inr rfl) (by rfl))) (fun _ _ _ _ _ _ _ hg => z_tsnil) (by decide) (fun _ _ _ _ _ _ _ hg => (z_seq (z_var 2))) (fun _ _ _ _ _ _ _ hg => (z_gname S_free.nd (by rfl) (by first | exact .inl rfl | exact .inr rfl) (by rfl))) (fun _ _ _ _ _ _ _ hg => z_tsnil) (fun _ _ _ _ _ _ _ hg => (z_call (ok_independent C) (hg.mono (by decide)) (by rfl) C.d_independent.g C.d_independent.kp C.d_independent.b (z_acons (z_var 0) (z_acons (z_var 3) (z_acons (z_var 4) z_anil)))))))))
def N_firsts : List Str := ["alphabet", "word", "found", "place", "letter"]
theorem S_firsts : FnScope N_firsts ["alphabet", "word"] (defScope (top 4)) := ⟨rfl, rfl, rfl, by decide +kernel, rfl, by decide +kernel, by decide +kernel⟩
def m_firsts : Blk :=
    (dSeq (dAsg (bName 2) (dLc [3, 4] (sEnumS (dVar 1)) (bTup 2 (bCons (bName 3) (bCons (bName 4) bNil))) (dTv (dUser d_free (dACons true (dVar 0) (dACons true (dVar 4) (dACons true (dSlice true (dVar 1) dNoP (dPart (dVar 3))) dANil))))) (dVar 4)))
    (dRet (kpL [0, 1, 3, 4]) (dCall (fJoin "") (dACons true (dCall fSort1 (dACons true (dVar 2) dANil)) dANil))))
def d_firsts : Fn := dFn 5 2 (kpL [0, 1, 3, 4]) m_firsts
theorem ok_firsts (C : Ctx K mg base) : FnOk P w K mg base CX0 4 C.f_firsts C.g_firsts ["alphabet", "word"] (spD ⟨K, w⟩ d_firsts) :=
  z_defF (N := N_firsts) (ps := ["alphabet", "word"]) (kp := (kpL [0, 1, 3, 4])) (m := m_firsts) C.d_firsts.fz S_firsts fun cc A outer s H E hr =>
    (z_cons (z_setLc (i := 2) (own := [("place", 3), ("letter", 4)]) (by rfl) S_firsts.nd (by rfl) (by rfl) (by rfl) (by rfl) (z_enumS (by rfl) C.n_enumerate (z_var 1)) (blkOk_by (N := N_firsts) (sc := defScope (top 4)) (by decide +kernel)) (fun _ _ _ _ _ => (z_gtup (by rfl) (z_gscons (z_gname S_firsts.nd (by rfl) (by first | exact .inl rfl | exact .inr rfl) (by rfl)) (z_gscons (z_gname S_firsts.nd (by rfl) (by first | exact .inl rfl | exact .inr rfl) (by rfl)) z_gsnil)))) (fun _ _ _ _ _ => (z_tsone (z_tv (z_call (ok_free C) (hr.mono (by decide)) (by rfl) C.d_free.g C.d_free.kp C.d_free.b (z_acons (z_var 0) (z_acons (z_var 4) (z_acons (z_slice (z_var 1) z_ponone (z_posome (z_var 3))) z_anil))))))) (fun _ _ _ _ _ => (z_var 4)))
    (z_sone (z_ret (z_join (z_callB (c_sorted (hu_of hr)) (by rfl) C.n_sorted bb_sorted (z_acons (z_var 2) z_anil))))))
def N_without_first : List Str := ["word", "letter", "place"]
theorem S_without_first : FnScope N_without_first ["word", "letter"] (defScope (top 6)) := ⟨rfl, rfl, rfl, by decide +kernel, rfl, by decide +kernel, by decide +kernel⟩
def m_without_first : Blk :=
    (dSeq (dAsg (bName 2) (dSM fSIdx (dVar 0) (dVar 1)))
    (dRet (kpL [0, 1]) (dCall fAdd (d2 true (dSlice true (dVar 0) dNoP (dPart (dVar 2))) (dSlice true (dVar 0) (dPart (dCall fAdd (d2 true (dVar 2) (dC (.int 1))))) dNoP)))))
def d_without_first : Fn := dFn 3 2 (kpL [0, 1]) m_without_first
theorem ok_without_first (C : Ctx K mg base) : FnOk P w K mg base CX0 1 C.f_without_first C.g_without_first ["word", "letter"] (spD ⟨K, w⟩ d_without_first) :=
  z_defF (N := N_without_first) (ps := ["word", "letter"]) (kp := (kpL [0, 1])) (m := m_without_first) C.d_without_first.fz S_without_first fun cc A outer s H E hr =>
    (z_cons (z_set (i := 2) S_without_first.nd (by rfl) (by first | exact .inl rfl | exact .inr rfl) (by rfl) (z_sindex (z_var 0) (z_var 1)))
    (z_sone (z_ret (z_bin o_add (z_slice (z_var 0) z_ponone (z_posome (z_var 2))) (z_slice (z_var 0) (z_posome (z_bin o_add (z_var 2) z_int)) z_ponone)))))
def N_least : List Str := ["alphabet", "word", "found", "letter"]
theorem S_least : FnScope N_least ["alphabet", "word"] (defScope (top 7)) := ⟨rfl, rfl, rfl, by decide +kernel, rfl, by decide +kernel, by decide +kernel⟩
def l_least_1 : Blk :=
    (dSeq (dAsg (bName 3) (dSub true (dUser d_firsts (dACons true (dVar 0) (dACons true (dVar 1) dANil))) (dC (.int 0))))
    (dSeq (dAugS 2 (dVar 3))
    (dAsg (bName 1) (dUser d_without_first (dACons true (dVar 1) (dACons true (dVar 3) dANil))))))
def m_least : Blk :=
    (dSeq (dAsg (bName 2) (dC (.str "")))
    (dSeq (dWhile (dTv (dVar 1))
    l_least_1 1000)
    (dRet (kpL [0]) (dVar 2))))
def d_least : Fn := dFn 4 2 (kpL [0]) m_least
theorem ok_least (C : Ctx K mg base) : FnOk P w K mg base CX0 5 C.f_least C.g_least ["alphabet", "word"] (spD ⟨K, w⟩ d_least) :=
  z_defF (N := N_least) (ps := ["alphabet", "word"]) (kp := (kpL [0])) (m := m_least) C.d_least.fz S_least fun cc A outer s H E hr =>
    (z_cons (z_set (i := 2) S_least.nd (by rfl) (by first | exact .inl rfl | exact .inr rfl) (by rfl) z_str)
    (z_cons (z_while 1000 .never (z_tv (z_var 1))
    (z_cons (z_set (i := 3) S_least.nd (by rfl) (by first | exact .inl rfl | exact .inr rfl) (by rfl) (z_sub (z_call (ok_firsts C) (hr.mono (by decide)) (by rfl) C.d_firsts.g C.d_firsts.kp C.d_firsts.b (z_acons (z_var 0) (z_acons (z_var 1) z_anil))) z_int))
    (z_cons (z_augS (i := 2) S_least.nd (by rfl) (by first | exact .inl rfl | exact .inr rfl) (by rfl) (z_var 3))
    (z_sone (z_set (i := 1) S_least.nd (by rfl) (by first | exact .inl rfl | exact .inr rfl) (by rfl) (z_call (ok_without_first C) (hr.mono (by decide)) (by rfl) C.d_without_first.g C.d_without_first.kp C.d_without_first.b (z_acons (z_var 1) (z_acons (z_var 3) z_anil))))))))
    (z_sone (z_ret (z_var 2)))))
def N_prefixes : List Str := ["alphabet", "word", "found", "seen", "place", "prefix", "left", "letter", "shorter", "_"]
theorem S_prefixes : FnScope N_prefixes ["alphabet", "word"] (defScope (top 12)) := ⟨rfl, rfl, rfl, by decide +kernel, rfl, by decide +kernel, by decide +kernel⟩
def l_prefixes_1 : Blk :=
    (dSeq (dAsg (bName 8) (dUser d_without_first (dACons true (dVar 6) (dACons true (dVar 7) dANil))))
    (dIf (dTb (dCall fDNotIn (d2 true (dVar 8) (dVar 3))))
    (dSeq (dDSet (dVar 3) (dVar 8) (dC (.bl true)))
    (dDrop (dAppend true (dVar 2) (dTup (dACons true (dCall fAdd (d2 true (dVar 5) (dVar 7))) (dACons true (dVar 8) dANil))))))
    dNx))
def l_prefixes_2 : Blk :=
    (dSeq (dAsg (bTup 2 (bCons (bName 5) (bCons (bName 6) bNil))) (dSub true (dVar 2) (dVar 4)))
    (dSeq (dFor (kpL [0, 1, 2, 3, 4, 5, 6, 9]) (sSeq (dUser d_firsts (dACons true (dVar 0) (dACons true (dVar 6) dANil)))) (bName 7)
    l_prefixes_1)
    (dAug 4 (fun i j => i + j) (dC (.int 1)))))
def m_prefixes : Blk :=
    (dSeq (dAsg (bName 2) (dLst (dACons true (dTup (dACons true (dC (.str "")) (dACons true (dVar 1) dANil))) dANil)))
    (dSeq (dAsg (bName 3) (dDisp1 (dVar 1) (dC (.bl true))))
    (dSeq (dAsg (bName 4) (dC (.int 0)))
    (dSeq (dWhile (dTb (dCall fLt (d2 true (dVar 4) (dCall fLen (dACons true (dVar 2) dANil)))))
    l_prefixes_2 10000)
    (dRet (kpL [0, 1, 9]) (dCall fTuple (dACons true (dSortK (kTup2 (kLen kName) kName) (dLc [5, 9] (sSeq (dVar 2)) (bTup 2 (bCons (bName 5) (bCons (bName 9) bNil))) dYes (dUser d_least (dACons true (dVar 0) (dACons true (dVar 5) dANil))))) dANil)))))))
def d_prefixes : Fn := dFn 10 2 (kpL [0, 1, 9]) m_prefixes
theorem ok_prefixes (C : Ctx K mg base) : FnOk P w K mg base CX0 6 C.f_prefixes C.g_prefixes ["alphabet", "word"] (spD ⟨K, w⟩ d_prefixes) :=
  z_defF (N := N_prefixes) (ps := ["alphabet", "word"]) (kp := (kpL [0, 1, 9])) (m := m_prefixes) C.d_prefixes.fz S_prefixes fun cc A outer s H E hr =>
    (z_cons (z_set (i := 2) S_prefixes.nd (by rfl) (by first | exact .inl rfl | exact .inr rfl) (by rfl) (z_lst (z_acons (z_tup (z_acons z_str (z_acons (z_var 1) z_anil))) z_anil)))
    (z_cons (z_set (i := 3) S_prefixes.nd (by rfl) (by first | exact .inl rfl | exact .inr rfl) (by rfl) (z_disp1 (h65 hr) (z_var 1) z_bl))
    (z_cons (z_set (i := 4) S_prefixes.nd (by rfl) (by first | exact .inl rfl | exact .inr rfl) (by rfl) z_int)
    (z_cons (z_while 10000 .never (z_tcmp (o_lt (h64 hr)) (z_var 4) (z_callB c_len (by rfl) C.n_len bb_len (z_acons (z_var 2) z_anil)))
    (z_cons (z_asg (z_sub (z_var 2) (z_var 4)) (z_gtup (by rfl) (z_gscons (z_gname S_prefixes.nd (by rfl) (by first | exact .inl rfl | exact .inr rfl) (by rfl)) (z_gscons (z_gname S_prefixes.nd (by rfl) (by first | exact .inl rfl | exact .inr rfl) (by rfl)) z_gsnil))))
    (z_cons (z_for (kp' := (kpL [0, 1, 2, 3, 4, 5, 6, 9])) .never (by rfl) (z_seq (z_call (ok_firsts C) (hr.mono (by decide)) (by rfl) C.d_firsts.g C.d_firsts.kp C.d_firsts.b (z_acons (z_var 0) (z_acons (z_var 6) z_anil)))) (z_gname S_prefixes.nd (by rfl) (by first | exact .inl rfl | exact .inr rfl) (by rfl))
    (z_cons (z_set (i := 8) S_prefixes.nd (by rfl) (by first | exact .inl rfl | exact .inr rfl) (by rfl) (z_call (ok_without_first C) (hr.mono (by decide)) (by rfl) C.d_without_first.g C.d_without_first.kp C.d_without_first.b (z_acons (z_var 6) (z_acons (z_var 7) z_anil))))
    (z_sone (z_if (z_tcmp (o_dnotin (h65 hr)) (z_var 8) (z_var 3))
    (z_cons (z_dset (h65 hr) z_bl (z_var 3) (z_var 8))
    (z_sone (z_expr (z_append (z_var 2) (z_tup (z_acons (z_bin o_add (z_var 5) (z_var 7)) (z_acons (z_var 8) z_anil)))))))
    z_nil))) (kpL_sub (by decide)))
    (z_sone (z_aug (i := 4) S_prefixes.nd (by rfl) (by first | exact .inl rfl | exact .inr rfl) (by rfl) z_int ip_add)))))
    (z_sone (z_ret (z_callTy c_tuple (by rfl) C.n_tuple bb_tuple (z_acons (z_sortK (k := 0) (hr.mono (by decide)) (by rfl) C.bm (by rfl) C.n_sorted (z_lc (own := [("prefix", 5), ("_", 9)]) (by rfl) S_prefixes.nd (z_seq (z_var 2)) (blkOk_by (N := N_prefixes) (sc := defScope (top 12)) (by decide +kernel)) (fun _ _ _ _ _ => (z_gtup (by rfl) (z_gscons (z_gname S_prefixes.nd (by rfl) (by first | exact .inl rfl | exact .inr rfl) (by rfl)) (z_gscons (z_gname S_prefixes.nd (by rfl) (by first | exact .inl rfl | exact .inr rfl) (by rfl)) z_gsnil)))) (fun _ _ _ _ _ => z_tsnil) (fun _ _ _ _ _ => (z_call (ok_least C) (hr.mono (by decide)) (by rfl) C.d_least.g C.d_least.kp C.d_least.b (z_acons (z_var 0) (z_acons (z_var 5) z_anil))))) (lamSc_by (by kernel_rfl)) (k_tup2 (k_len k_name (by rfl) C.n_len) k_name) (fun _ _ _ _ _ _ => by rfl) (by rfl)) z_anil))))))))
def N_law_same : List Str := ["actual", "expected", "k"]
theorem S_law_same : FnScope N_law_same ["actual", "expected"] (defScope (top 17)) := ⟨rfl, rfl, rfl, by decide +kernel, rfl, by decide +kernel, by decide +kernel⟩
theorem ok_law_same (C : Ctx K mg base) : ∀ n, FnOk P w K mg base CX0 (n + 0) C.f_law_same C.g_law_same ["actual", "expected"] (spD ⟨K, w⟩ (d_law_same n))
  | 0 => fn_none
  | n + 1 => z_defF (N := N_law_same) (ps := ["actual", "expected"]) (kp := (kpL [0, 1])) (m := m_law_same (d_law_same n)) (k := n + 0) C.d_law_same.fz S_law_same fun cc A outer s H E hr =>
    (z_cons (z_if (z_tv (z_isa isa_tuple (by rfl) C.n_isinstance bb_isinstance (by rfl) C.n_tuple bb_tuple (z_var 1)))
    (z_cons (z_if (PW.pt (z_wor (z_not (z_tv (z_isa isa_tuple (by rfl) C.n_isinstance bb_isinstance (by rfl) C.n_tuple bb_tuple (z_var 0)))) (z_wor1 (z_tcmp (o_ne (h64 hr)) (z_callB c_len (by rfl) C.n_len bb_len (z_acons (z_var 0) z_anil)) (z_callB c_len (by rfl) C.n_len bb_len (z_acons (z_var 1) z_anil))))))
    (z_sone (z_ret z_bl))
    z_nil)
    (z_cons (z_for (kp' := (kpL [0, 1])) .never (by rfl) (z_range1 (by rfl) C.n_range (z_acons (z_callB c_len (by rfl) C.n_len bb_len (z_acons (z_var 1) z_anil)) z_anil) (h1 := fun _ _ _ h => acons_len1 h)) (z_gname S_law_same.nd (by rfl) (by first | exact .inl rfl | exact .inr rfl) (by rfl))
    (z_sone (z_if (z_not (z_tv (z_call (ok_law_same C n) (hr.mono (by omega)) (by rfl) C.d_law_same.g C.d_law_same.kp C.d_law_same.b (z_acons (z_sub (z_var 0) (z_var 2)) (z_acons (z_sub (z_var 1) (z_var 2)) z_anil)))))
    (z_sone (z_ret z_bl))
    z_nil)) (kpL_sub (by decide)))
    (z_sone (z_ret z_bl))))
    z_nil)
    (z_cons (z_if (z_tcmp (o_is) (z_var 1) z_non)
    (z_sone (z_ret (z_cmp (o_is) (z_var 0) z_non)))
    z_nil)
    (z_cons (z_if (z_tv (z_isa isa_bool (by rfl) C.n_isinstance bb_isinstance (by rfl) C.n_bool bb_bool (z_var 1)))
    (z_sone (z_ret (z_and (z_isa isa_bool (by rfl) C.n_isinstance bb_isinstance (by rfl) C.n_bool bb_bool (z_var 0)) (z_one (z_cmp (o_eq (h64 hr)) (z_var 0) (z_var 1))))))
    z_nil)
    (z_cons (z_if (z_tv (z_isa isa_int (by rfl) C.n_isinstance bb_isinstance (by rfl) C.n_int bb_int (z_var 1)))
    (z_sone (z_ret (z_and (z_isa isa_int (by rfl) C.n_isinstance bb_isinstance (by rfl) C.n_int bb_int (z_var 0)) (z_and (z_notV (z_isa isa_bool (by rfl) C.n_isinstance bb_isinstance (by rfl) C.n_bool bb_bool (z_var 0))) (z_one (z_cmp (o_eq (h64 hr)) (z_var 0) (z_var 1)))))))
    z_nil)
    (z_sone (z_ret (z_and (z_isa isa_str (by rfl) C.n_isinstance bb_isinstance (by rfl) C.n_str bb_str (z_var 0)) (z_one (z_cmp (o_eq (h64 hr)) (z_var 0) (z_var 1))))))))))
def N_law_mixed : List Str := ["box", "alphabet", "word", "turn", "k"]
theorem S_law_mixed : FnScope N_law_mixed ["box", "alphabet", "word"] (defScope (top 27)) := ⟨rfl, rfl, rfl, by decide +kernel, rfl, by decide +kernel, by decide +kernel⟩
def l_law_mixed_1 : Blk :=
    (dSeq (dAsg (bName 4) (dUser d_law_draw (dACons true (dVar 0) (dACons true (dCall fLen (dACons true (dVar 2) dANil)) dANil))))
    (dIf (dAnd (dTb (dCall fLt (d2 true (dCall fAdd (d2 true (dVar 4) (dC (.int 1)))) (dCall fLen (dACons true (dVar 2) dANil))))) (dTv (dUser d_law_free (dACons true (dVar 1) (dACons true (dSub true (dVar 2) (dVar 4)) (dACons true (dSub true (dVar 2) (dCall fAdd (d2 true (dVar 4) (dC (.int 1))))) dANil))))))
    (dAsg (bName 2) (dCall fAdd (d2 true (dCall fAdd (d2 true (dCall fAdd (d2 true (dSlice true (dVar 2) dNoP (dPart (dVar 4))) (dSub true (dVar 2) (dCall fAdd (d2 true (dVar 4) (dC (.int 1))))))) (dSub true (dVar 2) (dVar 4)))) (dSlice true (dVar 2) (dPart (dCall fAdd (d2 true (dVar 4) (dC (.int 2))))) dNoP))))
    dNx))
def m_law_mixed : Blk :=
    (dSeq (dFor (kpL [0, 1]) (sRange (dACons true (dCall fMul (d2 true (dC (.int 2)) (dCall fLen (dACons true (dVar 2) dANil)))) dANil)) (bName 3)
    l_law_mixed_1)
    (dRet (kpL [0, 1]) (dVar 2)))
def d_law_mixed : Fn := dFn 5 3 (kpL [0, 1]) m_law_mixed
theorem ok_law_mixed (C : Ctx K mg base) : FnOk P w K mg base CX0 2 C.f_law_mixed C.g_law_mixed ["box", "alphabet", "word"] (spD ⟨K, w⟩ d_law_mixed) :=
  z_defF (N := N_law_mixed) (ps := ["box", "alphabet", "word"]) (kp := (kpL [0, 1])) (m := m_law_mixed) C.d_law_mixed.fz S_law_mixed fun cc A outer s H E hr =>
    (z_cons (z_for (kp' := (kpL [0, 1])) .never (by rfl) (z_range1 (by rfl) C.n_range (z_acons (z_bin o_mul z_int (z_callB c_len (by rfl) C.n_len bb_len (z_acons (z_var 2) z_anil))) z_anil) (h1 := fun _ _ _ h => acons_len1 h)) (z_gname S_law_mixed.nd (by rfl) (by first | exact .inl rfl | exact .inr rfl) (by rfl))
    (z_cons (z_set (i := 4) S_law_mixed.nd (by rfl) (by first | exact .inl rfl | exact .inr rfl) (by rfl) (z_call (ok_law_draw C) (hr.mono (by decide)) (by rfl) C.d_law_draw.g C.d_law_draw.kp C.d_law_draw.b (z_acons (z_var 0) (z_acons (z_callB c_len (by rfl) C.n_len bb_len (z_acons (z_var 2) z_anil)) z_anil))))
    (z_sone (z_if (PW.pt (z_wand (z_tcmp (o_lt (h64 hr)) (z_bin o_add (z_var 4) z_int) (z_callB c_len (by rfl) C.n_len bb_len (z_acons (z_var 2) z_anil))) (z_wand1 (z_tv (z_call (ok_law_free C) (hr.mono (by decide)) (by rfl) C.d_law_free.g C.d_law_free.kp C.d_law_free.b (z_acons (z_var 1) (z_acons (z_sub (z_var 2) (z_var 4)) (z_acons (z_sub (z_var 2) (z_bin o_add (z_var 4) z_int)) z_anil))))))))
    (z_sone (z_set (i := 2) S_law_mixed.nd (by rfl) (by first | exact .inl rfl | exact .inr rfl) (by rfl) (z_bin o_add (z_bin o_add (z_bin o_add (z_slice (z_var 2) z_ponone (z_posome (z_var 4))) (z_sub (z_var 2) (z_bin o_add (z_var 4) z_int))) (z_sub (z_var 2) (z_var 4))) (z_slice (z_var 2) (z_posome (z_bin o_add (z_var 4) z_int)) z_ponone))))
    z_nil))) (kpL_sub (by decide)))
    (z_sone (z_ret (z_var 2))))
def N_left_behind : List Str := ["alphabet", "word", "other", "letter"]
theorem S_left_behind : FnScope N_left_behind ["alphabet", "word", "other"] (defScope (top 9)) := ⟨rfl, rfl, rfl, by decide +kernel, rfl, by decide +kernel, by decide +kernel⟩
def l_left_behind_1 : Blk :=
    (dSeq (dIf (dTb (dCall fNotIn (d2 false (dVar 3) (dUser d_firsts (dACons true (dVar 0) (dACons true (dVar 2) dANil))))))
    (dRet (kpL [0, 1]) (dC .non))
    dNx)
    (dAsg (bName 2) (dUser d_without_first (dACons true (dVar 2) (dACons true (dVar 3) dANil)))))
def m_left_behind : Blk :=
    (dSeq (dFor (kpL [0, 1]) (sSeq (dVar 1)) (bName 3)
    l_left_behind_1)
    (dRet (kpL [0, 1]) (dVar 2)))
def d_left_behind : Fn := dFn 4 3 (kpL [0, 1]) m_left_behind
theorem ok_left_behind (C : Ctx K mg base) : FnOk P w K mg base CX0 5 C.f_left_behind C.g_left_behind ["alphabet", "word", "other"] (spD ⟨K, w⟩ d_left_behind) :=
  z_defF (N := N_left_behind) (ps := ["alphabet", "word", "other"]) (kp := (kpL [0, 1])) (m := m_left_behind) C.d_left_behind.fz S_left_behind fun cc A outer s H E hr =>
    (z_cons (z_for (kp' := (kpL [0, 1])) .never (by rfl) (z_seq (z_var 1)) (z_gname S_left_behind.nd (by rfl) (by first | exact .inl rfl | exact .inr rfl) (by rfl))
    (z_cons (z_if (z_tcmp (o_notIn (h65 hr)) (z_var 3) (z_call (ok_firsts C) (hr.mono (by decide)) (by rfl) C.d_firsts.g C.d_firsts.kp C.d_firsts.b (z_acons (z_var 0) (z_acons (z_var 2) z_anil))))
    (z_sone (z_ret z_non))
    z_nil)
    (z_sone (z_set (i := 2) S_left_behind.nd (by rfl) (by first | exact .inl rfl | exact .inr rfl) (by rfl) (z_call (ok_without_first C) (hr.mono (by decide)) (by rfl) C.d_without_first.g C.d_without_first.kp C.d_without_first.b (z_acons (z_var 2) (z_acons (z_var 3) z_anil)))))) (kpL_sub (by decide)))
    (z_sone (z_ret (z_var 2))))
def N_is_prefix : List Str := ["alphabet", "word", "other"]
theorem S_is_prefix : FnScope N_is_prefix ["alphabet", "word", "other"] (defScope (top 10)) := ⟨rfl, rfl, rfl, by decide +kernel, rfl, by decide +kernel, by decide +kernel⟩
def m_is_prefix : Blk :=
    (dRet (kpL [0, 1, 2]) (dCall fIsNot (d2 true (dUser d_left_behind (dACons true (dVar 0) (dACons true (dVar 1) (dACons true (dVar 2) dANil)))) (dC .non))))
def d_is_prefix : Fn := dFn 3 3 (kpL [0, 1, 2]) m_is_prefix
theorem ok_is_prefix (C : Ctx K mg base) : FnOk P w K mg base CX0 6 C.f_is_prefix C.g_is_prefix ["alphabet", "word", "other"] (spD ⟨K, w⟩ d_is_prefix) :=
  z_defF (N := N_is_prefix) (ps := ["alphabet", "word", "other"]) (kp := (kpL [0, 1, 2])) (m := m_is_prefix) C.d_is_prefix.fz S_is_prefix fun cc A outer s H E hr =>
    (z_sone (z_ret (z_cmp (o_isnot) (z_call (ok_left_behind C) (hr.mono (by decide)) (by rfl) C.d_left_behind.g C.d_left_behind.kp C.d_left_behind.b (z_acons (z_var 0) (z_acons (z_var 1) (z_acons (z_var 2) z_anil)))) z_non)))
def N_rest : List Str := ["alphabet", "word", "other", "left"]
theorem S_rest : FnScope N_rest ["alphabet", "word", "other"] (defScope (top 11)) := ⟨rfl, rfl, rfl, by decide +kernel, rfl, by decide +kernel, by decide +kernel⟩
def m_rest : Blk :=
    (dSeq (dAsg (bName 3) (dUser d_left_behind (dACons true (dVar 0) (dACons true (dVar 1) (dACons true (dVar 2) dANil)))))
    (dRet (kpL [0, 1, 2]) (dIfE (dTb (dCall fIs (d2 true (dVar 3) (dC .non)))) (dC .non) (dUser d_least (dACons true (dVar 0) (dACons true (dVar 3) dANil))))))
def d_rest : Fn := dFn 4 3 (kpL [0, 1, 2]) m_rest
theorem ok_rest (C : Ctx K mg base) : FnOk P w K mg base CX0 6 C.f_rest C.g_rest ["alphabet", "word", "other"] (spD ⟨K, w⟩ d_rest) :=
  z_defF (N := N_rest) (ps := ["alphabet", "word", "other"]) (kp := (kpL [0, 1, 2])) (m := m_rest) C.d_rest.fz S_rest fun cc A outer s H E hr =>
    (z_cons (z_set (i := 3) S_rest.nd (by rfl) (by first | exact .inl rfl | exact .inr rfl) (by rfl) (z_call (ok_left_behind C) (hr.mono (by decide)) (by rfl) C.d_left_behind.g C.d_left_behind.kp C.d_left_behind.b (z_acons (z_var 0) (z_acons (z_var 1) (z_acons (z_var 2) z_anil)))))
    (z_sone (z_ret (z_ife (z_tcmp (o_is) (z_var 3) z_non) z_non (z_call (ok_least C) (hr.mono (by decide)) (by rfl) C.d_least.g C.d_least.kp C.d_least.b (z_acons (z_var 0) (z_acons (z_var 3) z_anil)))))))
def N_law_rest : List Str := ["alphabet", "word", "other", "x"]
theorem S_law_rest : FnScope N_law_rest ["alphabet", "word", "other"] (defScope (top 25)) := ⟨rfl, rfl, rfl, by decide +kernel, rfl, by decide +kernel, by decide +kernel⟩
def l_law_rest_1 : Blk :=
    (dSeq (dIf (dTb (dCall fNotIn (d2 false (dVar 3) (dUser d_law_leaders (dACons true (dVar 0) (dACons true (dVar 2) dANil))))))
    (dRet (kpL [0, 1]) (dC .non))
    dNx)
    (dAsg (bName 2) (dUser d_law_without (dACons true (dVar 2) (dACons true (dVar 3) dANil)))))
def m_law_rest : Blk :=
    (dSeq (dFor (kpL [0, 1]) (sSeq (dVar 1)) (bName 3)
    l_law_rest_1)
    (dRet (kpL [0, 1]) (dUser d_law_least (dACons true (dVar 0) (dACons true (dVar 2) dANil)))))
def d_law_rest : Fn := dFn 4 3 (kpL [0, 1]) m_law_rest
theorem ok_law_rest (C : Ctx K mg base) : FnOk P w K mg base CX0 4 C.f_law_rest C.g_law_rest ["alphabet", "word", "other"] (spD ⟨K, w⟩ d_law_rest) :=
  z_defF (N := N_law_rest) (ps := ["alphabet", "word", "other"]) (kp := (kpL [0, 1])) (m := m_law_rest) C.d_law_rest.fz S_law_rest fun cc A outer s H E hr =>
    (z_cons (z_for (kp' := (kpL [0, 1])) .never (by rfl) (z_seq (z_var 1)) (z_gname S_law_rest.nd (by rfl) (by first | exact .inl rfl | exact .inr rfl) (by rfl))
    (z_cons (z_if (z_tcmp (o_notIn (h65 hr)) (z_var 3) (z_call (ok_law_leaders C) (hr.mono (by decide)) (by rfl) C.d_law_leaders.g C.d_law_leaders.kp C.d_law_leaders.b (z_acons (z_var 0) (z_acons (z_var 2) z_anil))))
    (z_sone (z_ret z_non))
    z_nil)
    (z_sone (z_set (i := 2) S_law_rest.nd (by rfl) (by first | exact .inl rfl | exact .inr rfl) (by rfl) (z_call (ok_law_without C) (hr.mono (by decide)) (by rfl) C.d_law_without.g C.d_law_without.kp C.d_law_without.b (z_acons (z_var 2) (z_acons (z_var 3) z_anil)))))) (kpL_sub (by decide)))
    (z_sone (z_ret (z_call (ok_law_least C) (hr.mono (by decide)) (by rfl) C.d_law_least.g C.d_law_least.kp C.d_law_least.b (z_acons (z_var 0) (z_acons (z_var 2) z_anil))))))
def N_law : List Str := ["script", "box", "alphabet", "word", "beginnings", "alike", "k", "due", "tried", "other", "found"]
theorem S_law : FnScope N_law ["script"] (defScope (top 28)) := ⟨rfl, rfl, rfl, by decide +kernel, rfl, by decide +kernel, by decide +kernel⟩
def l_law_1 : Blk :=
    (dDSet (dVar 4) (dUser d_law_least (dACons true (dVar 2) (dACons true (dSlice true (dVar 5) dNoP (dPart (dVar 6))) dANil))) (dUser d_law_least (dACons true (dVar 2) (dACons true (dSlice true (dVar 5) (dPart (dVar 6)) dNoP) dANil))))
def l_law_2 : Blk :=
    (dFor (kpL [0, 1, 2, 3, 4, 5, 7, 8, 9, 10]) (sRange (dACons true (dCall fAdd (d2 true (dCall fLen (dACons true (dVar 5) dANil)) (dC (.int 1)))) dANil)) (bName 6)
    l_law_1)
def l_law_3 : Blk :=
    (dDrop (dAppend false (dVar 8) (dUser d_law_mixed (dACons false (dVar 1) (dACons false (dVar 2) (dACons true (dSub false (dVar 7) (dCall fMod (d2 true (dCall fInt (dACons true (dUser d_law_draw (dACons true (dVar 1) (dACons true (dC (.int 1000)) dANil))) dANil)) (dCall fLen (dACons true (dVar 7) dANil))))) dANil))))))
def l_law_4 : Blk :=
    (dSeq (dAsg (bName 10) (dUser d_law_least (dACons true (dVar 2) (dACons true (dVar 9) dANil))))
    (dSeq (dIf (dNot (dTv (dUser (d_law_same 8) (dACons true (dUser d_is_prefix (dACons true (dVar 2) (dACons true (dVar 9) (dACons true (dVar 3) dANil)))) (dACons true (dCall fDIn (d2 true (dVar 10) (dVar 4))) dANil)))))
    (dRet (kpL [0, 1, 2, 3, 4, 5, 6, 7, 8]) (dC (.bl false)))
    dNx)
    (dIf (dNot (dTv (dUser (d_law_same 8) (dACons true (dUser d_rest (dACons true (dVar 2) (dACons true (dVar 9) (dACons true (dVar 3) dANil)))) (dACons true (dDGN 4 true (dVar 10)) dANil)))))
    (dRet (kpL [0, 1, 2, 3, 4, 5, 6, 7, 8]) (dC (.bl false)))
    dNx)))
def l_law_5 : Blk :=
    (dSeq (dAsg (bName 7) (dUser d_law_rest (dACons true (dVar 2) (dACons true (dVar 9) (dACons true (dVar 3) dANil)))))
    (dSeq (dIf (dNot (dTv (dUser (d_law_same 8) (dACons true (dUser d_is_prefix (dACons true (dVar 2) (dACons true (dVar 9) (dACons true (dVar 3) dANil)))) (dACons true (dCall fIsNot (d2 true (dVar 7) (dC .non))) dANil)))))
    (dRet (kpL [0, 1, 2, 3, 4, 5, 6, 8, 10]) (dC (.bl false)))
    dNx)
    (dIf (dNot (dTv (dUser (d_law_same 8) (dACons true (dUser d_rest (dACons true (dVar 2) (dACons true (dVar 9) (dACons true (dVar 3) dANil)))) (dACons true (dVar 7) dANil)))))
    (dRet (kpL [0, 1, 2, 3, 4, 5, 6, 8, 10]) (dC (.bl false)))
    dNx)))
def r_law : Blk :=
    (dSeq (dAsg (bName 2) (dUser d_law_alphabet (dACons true (dVar 1) (dACons true (dC (.int 4)) dANil))))
    (dSeq (dAsg (bName 3) (dUser d_law_word (dACons true (dVar 1) (dACons true (dVar 2) (dACons true (dC (.int 6)) dANil)))))
    (dSeq (dAsg (bName 4) dDNew)
    (dSeq (dFor (kpL [0, 1, 2, 3, 4, 7, 8, 9, 10]) (sSeq (dUser d_law_class (dACons true (dVar 2) (dACons true (dVar 3) dANil)))) (bName 5)
    l_law_2)
    (dSeq (dAsg (bName 7) (dSortK (kTup2 (kLen kName) kName) (dCall fDList (dACons true (dVar 4) dANil))))
    (dSeq (dIf (dNot (dTv (dUser (d_law_same 8) (dACons true (dUser d_prefixes (dACons true (dVar 2) (dACons true (dVar 3) dANil))) (dACons true (dCall fTuple (dACons true (dVar 7) dANil)) dANil)))))
    (dRet (kpL [0]) (dC (.bl false)))
    dNx)
    (dSeq (dAsg (bName 8) (dLc [6] (sRange (dACons true (dC (.int 3)) dANil)) (bName 6) dYes (dUser d_law_word (dACons true (dVar 1) (dACons true (dVar 2) (dACons true (dC (.int 4)) dANil))))))
    (dSeq (dFor (kpL [0, 1, 2, 3, 4, 5, 7, 8, 9, 10]) (sRange (dACons true (dC (.int 3)) dANil)) (bName 6)
    l_law_3)
    (dSeq (dFor (kpL [0, 1, 2, 3, 4, 5, 6, 7, 8]) (sSeq (dVar 8)) (bName 9)
    l_law_4)
    (dSeq (dAsg (bName 2) (dUser d_law_alphabet (dACons true (dVar 1) (dACons true (dC (.int 6)) dANil))))
    (dSeq (dAsg (bName 3) (dUser d_law_word (dACons true (dVar 1) (dACons true (dVar 2) (dACons true (dC (.int 14)) dANil)))))
    (dSeq (dFor (kpL [0, 1, 2, 3, 4, 5, 6, 8, 10]) (sSeq (dLst (dACons false (dSlice false (dUser d_law_mixed (dACons true (dVar 1) (dACons true (dVar 2) (dACons true (dVar 3) dANil)))) dNoP (dPart (dUser d_law_draw (dACons true (dVar 1) (dACons true (dC (.int 15)) dANil))))) (dACons true (dUser d_law_word (dACons true (dVar 1) (dACons true (dVar 2) (dACons true (dC (.int 5)) dANil)))) dANil)))) (bName 9)
    l_law_5)
    (dRet (kpL [0]) (dC (.bl true)))))))))))))))
def m_law : Blk :=
    (dSeq (dAsg (bName 1) (dUser d_law_box (dACons true (dVar 0) (dACons true (dC (.int 0)) (dACons true (dC (.int 62)) dANil)))))
    r_law)
def d_law : Fn := dFn 11 1 (kpL [0]) m_law
theorem ok_law (C : Ctx K mg base) : FnOk P w K mg base CX0 9 C.f_law C.g_law ["script"] (spD ⟨K, w⟩ d_law) :=
  z_defF (N := N_law) (ps := ["script"]) (kp := (kpL [0])) (m := m_law) C.d_law.fz S_law fun cc A outer s H E hr =>
    (z_cons (z_set (i := 1) S_law.nd (by rfl) (by first | exact .inl rfl | exact .inr rfl) (by rfl) (z_call (ok_law_box C) (hr.mono (by decide)) (by rfl) C.d_law_box.g C.d_law_box.kp C.d_law_box.b (z_acons (z_var 0) (z_acons z_int (z_acons z_int z_anil)))))
    (z_cons (z_set (i := 2) S_law.nd (by rfl) (by first | exact .inl rfl | exact .inr rfl) (by rfl) (z_call (ok_law_alphabet C) (hr.mono (by decide)) (by rfl) C.d_law_alphabet.g C.d_law_alphabet.kp C.d_law_alphabet.b (z_acons (z_var 1) (z_acons z_int z_anil))))
    (z_cons (z_set (i := 3) S_law.nd (by rfl) (by first | exact .inl rfl | exact .inr rfl) (by rfl) (z_call (ok_law_word C) (hr.mono (by decide)) (by rfl) C.d_law_word.g C.d_law_word.kp C.d_law_word.b (z_acons (z_var 1) (z_acons (z_var 2) (z_acons z_int z_anil)))))
    (z_cons (z_set (i := 4) S_law.nd (by rfl) (by first | exact .inl rfl | exact .inr rfl) (by rfl) z_dnew)
    (z_cons (z_for (kp' := (kpL [0, 1, 2, 3, 4, 7, 8, 9, 10])) .never (by rfl) (z_seq (z_call (ok_law_class C) (hr.mono (by decide)) (by rfl) C.d_law_class.g C.d_law_class.kp C.d_law_class.b (z_acons (z_var 2) (z_acons (z_var 3) z_anil)))) (z_gname S_law.nd (by rfl) (by first | exact .inl rfl | exact .inr rfl) (by rfl))
    (z_sone (z_for (kp' := (kpL [0, 1, 2, 3, 4, 5, 7, 8, 9, 10])) .never (by rfl) (z_range1 (by rfl) C.n_range (z_acons (z_bin o_add (z_callB c_len (by rfl) C.n_len bb_len (z_acons (z_var 5) z_anil)) z_int) z_anil) (h1 := fun _ _ _ h => acons_len1 h)) (z_gname S_law.nd (by rfl) (by first | exact .inl rfl | exact .inr rfl) (by rfl))
    (z_sone (z_dset (h65 hr) (z_call (ok_law_least C) (hr.mono (by decide)) (by rfl) C.d_law_least.g C.d_law_least.kp C.d_law_least.b (z_acons (z_var 2) (z_acons (z_slice (z_var 5) (z_posome (z_var 6)) z_ponone) z_anil))) (z_var 4) (z_call (ok_law_least C) (hr.mono (by decide)) (by rfl) C.d_law_least.g C.d_law_least.kp C.d_law_least.b (z_acons (z_var 2) (z_acons (z_slice (z_var 5) z_ponone (z_posome (z_var 6))) z_anil))))) (kpL_sub (by decide)))) (kpL_sub (by decide)))
    (z_cons (z_set (i := 7) S_law.nd (by rfl) (by first | exact .inl rfl | exact .inr rfl) (by rfl) (z_sortK (k := 0) (hr.mono (by decide)) (by rfl) C.bm (by rfl) C.n_sorted (z_callTy (c_dlist (by rfl)) (by rfl) C.n_list bb_list (z_acons (z_var 4) z_anil)) (lamSc_by (by kernel_rfl)) (k_tup2 (k_len k_name (by rfl) C.n_len) k_name) (fun _ _ _ _ _ _ => by rfl) (by rfl)))
    (z_cons (z_if (z_not (z_tv (z_call (ok_law_same C 8) (hr.mono (by decide)) (by rfl) C.d_law_same.g C.d_law_same.kp C.d_law_same.b (z_acons (z_call (ok_prefixes C) (hr.mono (by decide)) (by rfl) C.d_prefixes.g C.d_prefixes.kp C.d_prefixes.b (z_acons (z_var 2) (z_acons (z_var 3) z_anil))) (z_acons (z_callTy c_tuple (by rfl) C.n_tuple bb_tuple (z_acons (z_var 7) z_anil)) z_anil)))))
    (z_sone (z_ret z_bl))
    z_nil)
    (z_cons (z_setLc (i := 8) (own := [("k", 6)]) (by rfl) S_law.nd (by rfl) (by rfl) (by rfl) (by rfl) (z_range1 (by rfl) C.n_range (z_acons z_int z_anil) (h1 := fun _ _ _ h => acons_len1 h)) (blkOk_by (N := N_law) (sc := defScope (top 28)) (by decide +kernel)) (fun _ _ _ _ _ => (z_gname S_law.nd (by rfl) (by first | exact .inl rfl | exact .inr rfl) (by rfl))) (fun _ _ _ _ _ => z_tsnil) (fun _ _ _ _ _ => (z_call (ok_law_word C) (hr.mono (by decide)) (by rfl) C.d_law_word.g C.d_law_word.kp C.d_law_word.b (z_acons (z_var 1) (z_acons (z_var 2) (z_acons z_int z_anil))))))
    (z_cons (z_for (kp' := (kpL [0, 1, 2, 3, 4, 5, 7, 8, 9, 10])) .never (by rfl) (z_range1 (by rfl) C.n_range (z_acons z_int z_anil) (h1 := fun _ _ _ h => acons_len1 h)) (z_gname S_law.nd (by rfl) (by first | exact .inl rfl | exact .inr rfl) (by rfl))
    (z_sone (z_expr (z_append (z_var 8) (z_call (ok_law_mixed C) (hr.mono (by decide)) (by rfl) C.d_law_mixed.g C.d_law_mixed.kp C.d_law_mixed.b (z_acons (z_var 1) (z_acons (z_var 2) (z_acons (z_sub (z_var 7) (z_bin o_mod (z_callTy c_int (by rfl) C.n_int bb_int (z_acons (z_call (ok_law_draw C) (hr.mono (by decide)) (by rfl) C.d_law_draw.g C.d_law_draw.kp C.d_law_draw.b (z_acons (z_var 1) (z_acons z_int z_anil))) z_anil)) (z_callB c_len (by rfl) C.n_len bb_len (z_acons (z_var 7) z_anil)))) z_anil))))))) (kpL_sub (by decide)))
    (z_cons (z_for (kp' := (kpL [0, 1, 2, 3, 4, 5, 6, 7, 8])) .never (by rfl) (z_seq (z_var 8)) (z_gname S_law.nd (by rfl) (by first | exact .inl rfl | exact .inr rfl) (by rfl))
    (z_cons (z_set (i := 10) S_law.nd (by rfl) (by first | exact .inl rfl | exact .inr rfl) (by rfl) (z_call (ok_law_least C) (hr.mono (by decide)) (by rfl) C.d_law_least.g C.d_law_least.kp C.d_law_least.b (z_acons (z_var 2) (z_acons (z_var 9) z_anil))))
    (z_cons (z_if (z_not (z_tv (z_call (ok_law_same C 8) (hr.mono (by decide)) (by rfl) C.d_law_same.g C.d_law_same.kp C.d_law_same.b (z_acons (z_call (ok_is_prefix C) (hr.mono (by decide)) (by rfl) C.d_is_prefix.g C.d_is_prefix.kp C.d_is_prefix.b (z_acons (z_var 2) (z_acons (z_var 9) (z_acons (z_var 3) z_anil)))) (z_acons (z_cmp (o_din (h65 hr)) (z_var 10) (z_var 4)) z_anil)))))
    (z_sone (z_ret z_bl))
    z_nil)
    (z_sone (z_if (z_not (z_tv (z_call (ok_law_same C 8) (hr.mono (by decide)) (by rfl) C.d_law_same.g C.d_law_same.kp C.d_law_same.b (z_acons (z_call (ok_rest C) (hr.mono (by decide)) (by rfl) C.d_rest.g C.d_rest.kp C.d_rest.b (z_acons (z_var 2) (z_acons (z_var 9) (z_acons (z_var 3) z_anil)))) (z_acons (z_dgetm (h65 hr) (z_var 4) (z_var 10)) z_anil)))))
    (z_sone (z_ret z_bl))
    z_nil)))) (kpL_sub (by decide)))
    (z_cons (z_set (i := 2) S_law.nd (by rfl) (by first | exact .inl rfl | exact .inr rfl) (by rfl) (z_call (ok_law_alphabet C) (hr.mono (by decide)) (by rfl) C.d_law_alphabet.g C.d_law_alphabet.kp C.d_law_alphabet.b (z_acons (z_var 1) (z_acons z_int z_anil))))
    (z_cons (z_set (i := 3) S_law.nd (by rfl) (by first | exact .inl rfl | exact .inr rfl) (by rfl) (z_call (ok_law_word C) (hr.mono (by decide)) (by rfl) C.d_law_word.g C.d_law_word.kp C.d_law_word.b (z_acons (z_var 1) (z_acons (z_var 2) (z_acons z_int z_anil)))))
    (z_cons (z_for (kp' := (kpL [0, 1, 2, 3, 4, 5, 6, 8, 10])) .never (by rfl) (z_seq (z_lst (z_acons (z_slice (z_call (ok_law_mixed C) (hr.mono (by decide)) (by rfl) C.d_law_mixed.g C.d_law_mixed.kp C.d_law_mixed.b (z_acons (z_var 1) (z_acons (z_var 2) (z_acons (z_var 3) z_anil)))) z_ponone (z_posome (z_call (ok_law_draw C) (hr.mono (by decide)) (by rfl) C.d_law_draw.g C.d_law_draw.kp C.d_law_draw.b (z_acons (z_var 1) (z_acons z_int z_anil))))) (z_acons (z_call (ok_law_word C) (hr.mono (by decide)) (by rfl) C.d_law_word.g C.d_law_word.kp C.d_law_word.b (z_acons (z_var 1) (z_acons (z_var 2) (z_acons z_int z_anil)))) z_anil)))) (z_gname S_law.nd (by rfl) (by first | exact .inl rfl | exact .inr rfl) (by rfl))
    (z_cons (z_set (i := 7) S_law.nd (by rfl) (by first | exact .inl rfl | exact .inr rfl) (by rfl) (z_call (ok_law_rest C) (hr.mono (by decide)) (by rfl) C.d_law_rest.g C.d_law_rest.kp C.d_law_rest.b (z_acons (z_var 2) (z_acons (z_var 9) (z_acons (z_var 3) z_anil)))))
    (z_cons (z_if (z_not (z_tv (z_call (ok_law_same C 8) (hr.mono (by decide)) (by rfl) C.d_law_same.g C.d_law_same.kp C.d_law_same.b (z_acons (z_call (ok_is_prefix C) (hr.mono (by decide)) (by rfl) C.d_is_prefix.g C.d_is_prefix.kp C.d_is_prefix.b (z_acons (z_var 2) (z_acons (z_var 9) (z_acons (z_var 3) z_anil)))) (z_acons (z_cmp (o_isnot) (z_var 7) z_non) z_anil)))))
    (z_sone (z_ret z_bl))
    z_nil)
    (z_sone (z_if (z_not (z_tv (z_call (ok_law_same C 8) (hr.mono (by decide)) (by rfl) C.d_law_same.g C.d_law_same.kp C.d_law_same.b (z_acons (z_call (ok_rest C) (hr.mono (by decide)) (by rfl) C.d_rest.g C.d_rest.kp C.d_rest.b (z_acons (z_var 2) (z_acons (z_var 9) (z_acons (z_var 3) z_anil)))) (z_acons (z_var 7) z_anil)))))
    (z_sone (z_ret z_bl))
    z_nil)))) (kpL_sub (by decide)))
    (z_sone (z_ret z_bl)))))))))))))))
end
end P30


set_option Elab.async false
set_option linter.all false
set_option maxRecDepth 100000
set_option maxHeartbeats 20000000
set_option synthInstance.maxHeartbeats 400000
set_option synthInstance.maxSize 4000
namespace P30
open PySem PySem.Spec PyProof.Rows L2 Z Y
def n_law_alphabet_b1 (letters : Str) (pairs : (List Str)) (t6' : Int) : Int → (Box × (List Str)) → Option (Box × (List Str)) :=
  fun (t10' : Int) (s9' : Box × (List Str)) =>
  bnd (drawO s9'.1 (5 : Int)) fun v11' =>
  bnd (if (decide (v11'.1 < (2 : Int))) = true then (bnd (atS letters t6') fun a13' =>
  bnd (atS letters t10') fun a15' =>
  bnd (catS a13' a15') fun a17' =>
  bnd (pushO s9'.2 a17') fun pairs19' =>
  some pairs19') else (some s9'.2)) fun (pairs : (List Str)) =>
  some (v11'.2, pairs)
def n_law_alphabet_b2 (letters : Str) (pairs : (List Str)) : Int → (Box × (List Str)) → Option (Box × (List Str)) :=
  fun (t6' : Int) (s5' : Box × (List Str)) =>
  bnd (rngO (t6' + (1 : Int)) (Str.length letters : Int)) fun r7' =>
  bnd (forN (n_law_alphabet_b1 letters pairs t6') r7' (s5'.1, s5'.2)) fun (s9' : Box × (List Str)) =>
  some (s9'.1, s9'.2)
def n_law_alphabet (box_ : Box) (most : Int) : Option ((Str × Str × (List Str)) × Box) :=
  bnd (drawO box_ most) fun v1' =>
  lv (cutS (("abcdef" : String) : Str) none (some ((1 : Int) + v1'.1))) fun (letters : Str) =>
  lv [] fun (pairs : (List Str)) =>
  bnd (rngO (0 : Int) (Str.length letters : Int)) fun r3' =>
  bnd (forN (n_law_alphabet_b2 letters pairs) r3' (v1'.2, pairs)) fun (s5' : Box × (List Str)) =>
  some (((("alphabet" : String) : Str), letters, (Es.sort s5'.2)), s5'.1)
def n_law_word_b1 (alphabet : (Str × Str × (List Str))) (word : Str) : Int → (Box × Str) → Option (Box × Str) :=
  fun (t6' : Int) (s5' : Box × Str) =>
  bnd (drawO s5'.1 (Str.length alphabet.2.1 : Int)) fun v7' =>
  bnd (atS alphabet.2.1 v7'.1) fun a9' =>
  bnd (catS s5'.2 a9') fun a11' =>
  lv a11' fun (word : Str) =>
  some (v7'.2, word)
def n_law_word (box_ : Box) (alphabet : (Str × Str × (List Str))) (most : Int) : Option (Str × Box) :=
  lv (("" : String) : Str) fun (word : Str) =>
  bnd (drawO box_ (most + (1 : Int))) fun v1' =>
  bnd (rngO (0 : Int) v1'.1) fun r3' =>
  bnd (forN (n_law_word_b1 alphabet word) r3' (v1'.2, word)) fun (s5' : Box × Str) =>
  some (s5'.2, s5'.1)
def n_law_free (alphabet : (Str × Str × (List Str))) (x : Str) (y : Str) : Option Bool :=
  bnd (catS x y) fun a3' =>
  bnd (orO (inB a3' alphabet.2.2) (bnd (catS y x) fun a5' => some ((inB a5' alphabet.2.2)))) fun a7' =>
  some a7'
def n_law_class_b1 (alphabet : (Str × Str × (List Str))) (here : Str) : Int → ((List Str) × (List (Str × Bool))) → Option ((List Str) × (List (Str × Bool))) :=
  fun (t7' : Int) (s6' : (List Str) × (List (Str × Bool))) =>
  bnd (atS here t7') fun a12' =>
  bnd (atS here (t7' + (1 : Int))) fun a14' =>
  bnd (n_law_free alphabet a12' a14') fun a16' =>
  bnd (if a16' = true then (bnd (atS here (t7' + (1 : Int))) fun a18' =>
  bnd (catS (cutS here none (some t7')) a18') fun a20' =>
  bnd (atS here t7') fun a22' =>
  bnd (catS a20' a22') fun a24' =>
  bnd (catS a24' (cutS here (some (t7' + (2 : Int))) none)) fun a26' =>
  lv a26' fun (there : Str) =>
  bnd (if (!dHas s6'.2 there) = true then (bnd (dPutO s6'.2 there true) fun known28' =>
  bnd (pushO s6'.1 there) fun found29' =>
  some (found29', known28')) else (some (s6'.1, s6'.2))) fun (s32' : (List Str) × (List (Str × Bool))) =>
  some (s32'.1, s32'.2)) else (some (s6'.1, s6'.2))) fun (s33' : (List Str) × (List (Str × Bool))) =>
  some (s33'.1, s33'.2)
def n_law_class_b2 (alphabet : (Str × Str × (List Str))) (at_ : Int) : ((List Str) × Int × (List (Str × Bool))) → Option ((List Str) × Int × (List (Str × Bool))) :=
  fun (s1' : (List Str) × Int × (List (Str × Bool))) =>
  bnd (L2.atI s1'.1 s1'.2.1) fun a2' =>
  lv a2' fun (here : Str) =>
  lv (s1'.2.1 + (1 : Int)) fun (at_ : Int) =>
  bnd (rngO (0 : Int) ((Str.length here : Int) - (1 : Int))) fun r4' =>
  bnd (forN (n_law_class_b1 alphabet here) r4' (s1'.1, s1'.2.2)) fun (s6' : (List Str) × (List (Str × Bool))) =>
  some (s6'.1, at_, s6'.2)
def n_law_class (alphabet : (Str × Str × (List Str))) (word : Str) : Option (List Str) :=
  lv [word] fun (found : (List Str)) =>
  lv (0 : Int) fun (at_ : Int) =>
  lv [(word, true)] fun (known : (List (Str × Bool))) =>
  bnd (whileN (fun (s1' : (List Str) × Int × (List (Str × Bool))) => (some ((decide (s1'.2.1 < (List.length s1'.1 : Int)))))) (n_law_class_b2 alphabet at_) 10000 (found, at_, known)) fun (s1' : (List Str) × Int × (List (Str × Bool))) =>
  some s1'.1
def n_law_leaders_b1 (alphabet : (Str × Str × (List Str))) (word : Str) (found : (List Str)) : Str → ((List Str)) → Option ((List Str)) :=
  fun (t3' : Str) (found' : (List Str)) =>
  bnd (sidxO word t3') fun a4' =>
  lv (cutS word none (some a4')) fun (ahead : Str) =>
  bnd (lcO (fun t6' => (bnd (n_law_free alphabet t3' t6') fun a7' => some ((!a7')))) (fun t6' => (some (t6'))) (chrs ahead)) fun a9' =>
  bnd (if (decide ((List.length a9' : Int) = (0 : Int))) = true then (bnd (pushO found' t3') fun found11' =>
  some found11') else (some found')) fun (found : (List Str)) =>
  some found
def n_law_leaders (alphabet : (Str × Str × (List Str))) (word : Str) : Option (List Str) :=
  lv [] fun (found : (List Str)) =>
  bnd (setO' Es (chrs word)) fun a1' =>
  bnd (forN (n_law_leaders_b1 alphabet word found) a1' found) fun (found' : (List Str)) =>
  some found'
def n_law_without (word : Str) (x : Str) : Option Str :=
  bnd (sidxO word x) fun a1' =>
  lv a1' fun (place : Int) =>
  bnd (catS (cutS word none (some place)) (cutS word (some (place + (1 : Int))) none)) fun a3' =>
  some a3'
def n_law_least_b1 (alphabet : (Str × Str × (List Str))) (word : Str) (built : Str) : (Str × Str) → Option (Str × Str) :=
  fun (s1' : Str × Str) =>
  bnd (n_law_leaders alphabet s1'.1) fun a2' =>
  bnd (L2.atI a2' (0 : Int)) fun a4' =>
  lv a4' fun (x : Str) =>
  bnd (catS s1'.2 x) fun a6' =>
  lv a6' fun (built : Str) =>
  bnd (n_law_without s1'.1 x) fun a8' =>
  lv a8' fun (word : Str) =>
  some (word, built)
def n_law_least (alphabet : (Str × Str × (List Str))) (word : Str) : Option Str :=
  lv (("" : String) : Str) fun (built : Str) =>
  bnd (whileN (fun (s1' : Str × Str) => (some ((decide ((0 : Int) < (Str.length s1'.1 : Int)))))) (n_law_least_b1 alphabet word built) 1000 (word, built)) fun (s1' : Str × Str) =>
  some s1'.2
def n_independent (alphabet : (Str × Str × (List Str))) (x : Str) (y : Str) : Option Bool :=
  bnd (catS (if Es.lt y x then y else x) (if Es.lt x y then y else x)) fun a1' =>
  some (inB a1' alphabet.2.2)
def n_free (alphabet : (Str × Str × (List Str))) (word : Str) (other : Str) : Option Bool :=
  bnd (allO (fun t1' => some true) (fun t1' => bnd (some ((chrs other))) fun t5' => allO (fun t2' => some true) ((fun t2' => (bnd (n_independent alphabet t1' t2') fun a3' => some (a3')))) t5') (chrs word)) fun a6' =>
  some a6'
def n_firsts (alphabet : (Str × Str × (List Str))) (word : Str) : Option Str :=
  bnd (lcO (fun t1' => (bnd (n_free alphabet t1'.2 (cutS word none (some t1'.1))) fun a2' => some (a2'))) (fun t1' => (some (t1'.2))) (numN 0 (chrs word))) fun a4' =>
  lv a4' fun (found : (List Str)) =>
  bnd (joinO "" (Es.sort found)) fun a6' =>
  some a6'
def n_without_first (word : Str) (letter : Str) : Option Str :=
  bnd (sidxO word letter) fun a1' =>
  lv a1' fun (place : Int) =>
  bnd (catS (cutS word none (some place)) (cutS word (some (place + (1 : Int))) none)) fun a3' =>
  some a3'
def n_least_b1 (alphabet : (Str × Str × (List Str))) (word : Str) : (Str × Str) → Option (Str × Str) :=
  fun (s1' : Str × Str) =>
  bnd (n_firsts alphabet s1'.1) fun a2' =>
  bnd (atS a2' (0 : Int)) fun a4' =>
  lv a4' fun (letter : Str) =>
  bnd (catS s1'.2 letter) fun (found6' : Str) =>
  bnd (n_without_first s1'.1 letter) fun a7' =>
  lv a7' fun (word : Str) =>
  some (word, found6')
def n_least (alphabet : (Str × Str × (List Str))) (word : Str) : Option Str :=
  lv (("" : String) : Str) fun (found : Str) =>
  bnd (whileN (fun (s1' : Str × Str) => (some (((Str.length s1'.1 : Int) != 0)))) (n_least_b1 alphabet word) 1000 (word, found)) fun (s1' : Str × Str) =>
  some s1'.2
def n_prefixes_b1 (t4' : (Str × Str)) : Str → ((List (Str × Str)) × (List (Str × Bool))) → Option ((List (Str × Str)) × (List (Str × Bool))) :=
  fun (t8' : Str) (s7' : (List (Str × Str)) × (List (Str × Bool))) =>
  bnd (n_without_first t4'.2 t8') fun a9' =>
  lv a9' fun (shorter : Str) =>
  bnd (if (!dHas s7'.2 shorter) = true then (bnd (dPutO s7'.2 shorter true) fun seen11' =>
  bnd (catS t4'.1 t8') fun a12' =>
  bnd (pushO s7'.1 (a12', shorter)) fun found14' =>
  some (found14', seen11')) else (some (s7'.1, s7'.2))) fun (s17' : (List (Str × Str)) × (List (Str × Bool))) =>
  some (s17'.1, s17'.2)
def n_prefixes_b2 (alphabet : (Str × Str × (List Str))) (place : Int) : ((List (Str × Str)) × (List (Str × Bool)) × Int) → Option ((List (Str × Str)) × (List (Str × Bool)) × Int) :=
  fun (s1' : (List (Str × Str)) × (List (Str × Bool)) × Int) =>
  bnd (L2.atI s1'.1 s1'.2.2) fun a2' =>
  lv a2' fun t4' =>
  bnd (n_firsts alphabet t4'.2) fun a5' =>
  bnd (forN (n_prefixes_b1 t4') (chrs a5') (s1'.1, s1'.2.1)) fun (s7' : (List (Str × Str)) × (List (Str × Bool))) =>
  lv (s1'.2.2 + (1 : Int)) fun (place : Int) =>
  some (s7'.1, s7'.2, place)
def n_prefixes (alphabet : (Str × Str × (List Str))) (word : Str) : Option (List Str) :=
  lv [((("" : String) : Str), word)] fun (found : (List (Str × Str))) =>
  lv [(word, true)] fun (seen : (List (Str × Bool))) =>
  lv (0 : Int) fun (place : Int) =>
  bnd (whileN (fun (s1' : (List (Str × Str)) × (List (Str × Bool)) × Int) => (some ((decide (s1'.2.2 < (List.length s1'.1 : Int)))))) (n_prefixes_b2 alphabet place) 10000 (found, seen, place)) fun (s1' : (List (Str × Str)) × (List (Str × Bool)) × Int) =>
  bnd (lcO (fun t18' => some true) (fun t18' => (bnd (n_least alphabet t18'.1) fun a19' => some (a19'))) s1'.1) fun a21' =>
  bnd (sortKO (Er (Rc Ei (R1 Es)) rfl) okLS (fun z => ((Str.length z : Int), z)) a21') fun a23' =>
  some a23'
def n_law_mixed_b1 (alphabet : (Str × Str × (List Str))) (word : Str) : Int → (Box × Str) → Option (Box × Str) :=
  fun (t6' : Int) (s5' : Box × Str) =>
  bnd (drawO s5'.1 (Str.length s5'.2 : Int)) fun v7' =>
  lv v7'.1 fun (k : Int) =>
  bnd (andO (decide ((k + (1 : Int)) < (Str.length s5'.2 : Int))) (bnd (atS s5'.2 k) fun a13' => bnd (atS s5'.2 (k + (1 : Int))) fun a15' => bnd (n_law_free alphabet a13' a15') fun a17' => some (a17'))) fun a19' =>
  bnd (if a19' = true then (bnd (atS s5'.2 (k + (1 : Int))) fun a21' =>
  bnd (catS (cutS s5'.2 none (some k)) a21') fun a23' =>
  bnd (atS s5'.2 k) fun a25' =>
  bnd (catS a23' a25') fun a27' =>
  bnd (catS a27' (cutS s5'.2 (some (k + (2 : Int))) none)) fun a29' =>
  lv a29' fun (word : Str) =>
  some word) else (some s5'.2)) fun (word : Str) =>
  some (v7'.2, word)
def n_law_mixed (box_ : Box) (alphabet : (Str × Str × (List Str))) (word : Str) : Option (Str × Box) :=
  bnd (mulO (2 : Int) (Str.length word : Int)) fun a1' =>
  bnd (rngO (0 : Int) a1') fun r3' =>
  bnd (forN (n_law_mixed_b1 alphabet word) r3' (box_, word)) fun (s5' : Box × Str) =>
  some (s5'.2, s5'.1)
def n_left_behind_b1 (alphabet : (Str × Str × (List Str))) (other : Str) : Str → (Str) → Option (Res (Str) (Option Str)) :=
  fun (t1' : Str) (other' : Str) =>
  bnd (n_firsts alphabet other') fun a2' =>
  if (!inS t1' a2') = true then (some (.rt (none : (Option Str)))) else
  bnd (n_without_first other' t1') fun a4' =>
  lv a4' fun (other : Str) =>
  some (.nx other)
def n_left_behind (alphabet : (Str × Str × (List Str))) (word : Str) (other : Str) : Option (Option Str) :=
  bnd (forR (ρ := (Option Str)) (n_left_behind_b1 alphabet other) (chrs word) other) (onR some fun (other' : Str) =>
  some (some other'))
def n_is_prefix (alphabet : (Str × Str × (List Str))) (word : Str) (other : Str) : Option Bool :=
  bnd (n_left_behind alphabet word other) fun a1' =>
  some (!Option.isNone a1')
def n_rest (alphabet : (Str × Str × (List Str))) (word : Str) (other : Str) : Option (Option Str) :=
  bnd (n_left_behind alphabet word other) fun a1' =>
  lv a1' fun (left : (Option Str)) =>
  bnd (if (Option.isNone left) = true then (some ((none : (Option Str)))) else (bnd (left) fun a8' => bnd (n_least alphabet a8') fun a9' => some ((some a9')))) fun a11' =>
  some a11'
def n_law_rest_b1 (alphabet : (Str × Str × (List Str))) (other : Str) : Str → (Str) → Option (Res (Str) (Option Str)) :=
  fun (t1' : Str) (other' : Str) =>
  bnd (n_law_leaders alphabet other') fun a2' =>
  if (!inB t1' a2') = true then (some (.rt (none : (Option Str)))) else
  bnd (n_law_without other' t1') fun a4' =>
  lv a4' fun (other : Str) =>
  some (.nx other)
def n_law_rest (alphabet : (Str × Str × (List Str))) (word : Str) (other : Str) : Option (Option Str) :=
  bnd (forR (ρ := (Option Str)) (n_law_rest_b1 alphabet other) (chrs word) other) (onR some fun (other' : Str) =>
  bnd (n_law_least alphabet other') fun a6' =>
  some (some a6'))
def n_law_b1 (alphabet : (Str × Str × (List Str))) (t7' : Str) : Int → ((List (Str × Str))) → Option ((List (Str × Str))) :=
  fun (t10' : Int) (beginnings' : (List (Str × Str))) =>
  bnd (n_law_least alphabet (cutS t7' (some t10') none)) fun a11' =>
  bnd (n_law_least alphabet (cutS t7' none (some t10'))) fun a13' =>
  bnd (dPutO beginnings' a13' a11') fun beginnings15' =>
  some beginnings15'
def n_law_b2 (alphabet : (Str × Str × (List Str))) (word : Str) (due : (List Str)) : Str → (Box) → Option (Res (Box) Bool) :=
  fun (t73' : Str) (box_' : Box) =>
  bnd (n_law_rest alphabet t73' word) fun a74' =>
  lv a74' fun (due : (Option Str)) =>
  bnd (n_is_prefix alphabet t73' word) fun a76' =>
  bnd (sameO Eb a76' (!Option.isNone due)) fun a78' =>
  if (!a78') = true then (some (.rt false)) else
  bnd (n_rest alphabet t73' word) fun a80' =>
  bnd (sameO (Eo Es rfl) a80' due) fun a82' =>
  if (!a82') = true then (some (.rt false)) else
  some (.nx box_')
def n_law_b3 (alphabet : (Str × Str × (List Str))) (word : Str) (beginnings' : ((List (Str × Str)))) : Str → (Unit) → Option (Res (Unit) Bool) :=
  fun (t52' : Str) (s51' : Unit) =>
  bnd (n_law_least alphabet t52') fun a53' =>
  lv a53' fun (found : Str) =>
  bnd (n_is_prefix alphabet t52' word) fun a55' =>
  bnd (sameO Eb a55' (dHas beginnings' found)) fun a57' =>
  if (!a57') = true then (some (.rt false)) else
  bnd (n_rest alphabet t52' word) fun a59' =>
  bnd (sameO (Eo Es rfl) a59' (dGet beginnings' found)) fun a61' =>
  if (!a61') = true then (some (.rt false)) else
  some (.nx ())
def n_law_b4 (alphabet : (Str × Str × (List Str))) (due : (List Str)) : Int → (Box × (List Str)) → Option (Box × (List Str)) :=
  fun (t34' : Int) (s33' : Box × (List Str)) =>
  bnd (drawO s33'.1 (1000 : Int)) fun v41' =>
  bnd (modO v41'.1 (List.length due : Int)) fun a43' =>
  bnd (L2.atI due a43') fun a45' =>
  bnd (n_law_mixed v41'.2 alphabet a45') fun a47' =>
  bnd (pushO s33'.2 a47'.1) fun tried49' =>
  some (a47'.2, tried49')
def n_law_b5 (alphabet : (Str × Str × (List Str))) : Str → ((List (Str × Str))) → Option ((List (Str × Str))) :=
  fun (t7' : Str) (beginnings' : (List (Str × Str))) =>
  bnd (rngO (0 : Int) ((Str.length t7' : Int) + (1 : Int))) fun r8' =>
  bnd (forN (n_law_b1 alphabet t7') r8' beginnings') fun (beginnings' : (List (Str × Str))) =>
  some beginnings'
def n_law (box : Box) : Option Bool :=
  bnd (n_law_alphabet box (4 : Int)) fun a1' =>
  lv a1'.1 fun (alphabet : (Str × Str × (List Str))) =>
  bnd (n_law_word a1'.2 alphabet (6 : Int)) fun a3' =>
  lv a3'.1 fun (word : Str) =>
  lv [] fun (beginnings : (List (Str × Str))) =>
  bnd (n_law_class alphabet word) fun a5' =>
  bnd (forN (n_law_b5 alphabet) a5' beginnings) fun (beginnings' : (List (Str × Str))) =>
  bnd (sortKO (Er (Rc Ei (R1 Es)) rfl) okLS (fun z => ((Str.length z : Int), z)) (List.map (fun p => p.1) beginnings')) fun a17' =>
  lv a17' fun (due : (List Str)) =>
  bnd (n_prefixes alphabet word) fun a19' =>
  bnd (sameO (Et Es) a19' due) fun a21' =>
  if (!a21') = true then (some false) else
  bnd (rngO (0 : Int) (3 : Int)) fun r23' =>
  bnd (lcS (fun t25' s26' => some (true, s26')) (fun t25' s26' => bnd (n_law_word s26' alphabet (4 : Int)) fun a27' => some (a27'.1, a27'.2)) r23' a3'.2) fun a29' =>
  lv a29'.1 fun (tried : (List Str)) =>
  bnd (rngO (0 : Int) (3 : Int)) fun r31' =>
  bnd (forN (n_law_b4 alphabet due) r31' (a29'.2, tried)) fun (s33' : Box × (List Str)) =>
  bnd (forR (ρ := Bool) (n_law_b3 alphabet word beginnings') s33'.2 ()) (onR some fun (s51' : Unit) =>
  bnd (n_law_alphabet s33'.1 (6 : Int)) fun a63' =>
  lv a63'.1 fun (alphabet : (Str × Str × (List Str))) =>
  bnd (n_law_word a63'.2 alphabet (14 : Int)) fun a65' =>
  lv a65'.1 fun (word : Str) =>
  bnd (n_law_mixed a65'.2 alphabet word) fun a67' =>
  bnd (drawO a67'.2 (15 : Int)) fun v69' =>
  bnd (n_law_word v69'.2 alphabet (5 : Int)) fun a71' =>
  bnd (forR (ρ := Bool) (n_law_b2 alphabet word due) [(cutS a67'.1 none (some v69'.1)), a71'.1] a71'.2) (onR some fun (box_' : Box) =>
  some true))
end P30


set_option Elab.async false
set_option linter.all false
set_option maxRecDepth 100000
set_option maxHeartbeats 20000000
set_option synthInstance.maxHeartbeats 400000
set_option synthInstance.maxSize 4000
namespace P30
open PySem PySem.Spec PyProof.Rows L2 Z Y
def T_law_alphabet (box_ : Box) (most : Int) : ((Str × Str × (List Str)) × Box) → Out → Prop := Rt (fun (r : ((Str × Str × (List Str)) × Box)) => (Er (Rc Es (Rc Es (R1 (Et Es))))).enc r.1) (fun (r : ((Str × Str × (List Str)) × Box)) => [.is (boxE r.2), .is (Ei.enc most), .any, .any, .any, .any])
theorem ref_law_alphabet {box_ : Box} {most : Int} {r : ((Str × Str × (List Str)) × Box)} (h : n_law_alphabet box_ most = some r) : d_law_alphabet [boxE box_, Ei.enc most] = some ((fun (r : ((Str × Str × (List Str)) × Box)) => (Er (Rc Es (Rc Es (R1 (Et Es))))).enc r.1) r, [some (boxE r.2), some (Ei.enc most)]) :=
  def_ok (Ar := fun (r : ((Str × Str × (List Str)) × Box)) => [.is (boxE r.2), .is (Ei.enc most), .any, .any, .any, .any]) (show RB _ m_law_alphabet (n_law_alphabet box_ most) (T_law_alphabet box_ most) from
  (k_bnd fun v1' h2' => (k_asgF Es.enc (r_slice r_c r_nop (r_part (r_call (r_acons r_c (r_acons (r_draw rfl (r_var (d := Ei.enc most) rfl (Ei.imm _)) h2') r_anil rfl) rfl) (drfs_cons drf_own (drfs_cons drf_own drfs_nil)) (f_add _ _))) rfl drf_own (c_S _ _ _)) (by exact Nat.le_of_ble_eq_true rfl) fun letters => (k_asgF (Lx Es) (r_lst r_anil rfl (Nat.le_of_ble_eq_true rfl)) (by exact Nat.le_of_ble_eq_true rfl) fun pairs => (k_bnd fun r3' h4' => (k_forN (fun s5' => [.is (boxE s5'.1), .is (Ei.enc most), .is (Es.enc letters), .is ((Lx Es) s5'.2), .any, .any]) (i_rng1 (r_acons (r_call (r_acons (r_var (d := Es.enc letters) rfl (Es.imm _)) r_anil rfl) (drfs_cons drf_own drfs_nil) (f_lenS _)) r_anil rfl) h4') (by exact (.eq (.eq (.eq (.eq (.any (.any .nil))))))) rfl (fun _ => gd_nil) (fun t6' s5' => (b_name (by exact Nat.le_of_ble_eq_true rfl))) (fun t6' s5' => (k_last (k_bnd fun r7' h8' => (k_forN (fun s9' => [.is (boxE s9'.1), .is (Ei.enc most), .is (Es.enc letters), .is ((Lx Es) s9'.2), .is (Ei.enc t6'), .any]) (i_rng2 (r_acons (r_call (r_acons (r_var (d := Ei.enc t6') rfl (Ei.imm _)) (r_acons r_c r_anil rfl) rfl) (drfs_cons drf_own (drfs_cons drf_own drfs_nil)) (f_add _ _)) (r_acons (r_call (r_acons (r_var (d := Es.enc letters) rfl (Es.imm _)) r_anil rfl) (drfs_cons drf_own drfs_nil) (f_lenS _)) r_anil rfl) rfl) h8') (by exact (.eq (.eq (.eq (.eq (.eq (.any .nil))))))) rfl (fun _ => gd_nil) (fun t10' s9' => (b_name (by exact Nat.le_of_ble_eq_true rfl))) (fun t10' s9' => (k_last (k_bnd fun v11' h12' => (k_ifJ (A' := (fun pairs => [.is (boxE v11'.2), .is (Ei.enc most), .is (Es.enc letters), .is ((Lx Es) pairs), .is (Ei.enc t6'), .is (Ei.enc t10')])) (r_tb (r_call (r_acons (r_draw rfl r_c h12') (r_acons r_c r_anil rfl) rfl) (drfs_cons drf_own (drfs_cons drf_own drfs_nil)) (f_lt _ _))) (fun _ => (k_last (k_bnd fun a13' h14' => k_bnd fun a15' h16' => k_bnd fun a17' h18' => k_bnd fun pairs19' h20' => (k_expr (r_push (E := Es) h20' (r_varM (d := (Lx Es) s9'.2) rfl rfl) rfl (r_call (r_acons (r_sub (r_var (d := Es.enc letters) rfl (Es.imm _)) (r_var (d := Ei.enc t6') rfl (Ei.imm _)) rfl drf_own drf_own (s_S h14')) (r_acons (r_sub (r_var (d := Es.enc letters) rfl (Es.imm _)) (r_var (d := Ei.enc t10') rfl (Ei.imm _)) rfl drf_own drf_own (s_S h16')) r_anil rfl) rfl) (drfs_cons drf_own (drfs_cons drf_own drfs_nil)) (f_catS h18')) rfl) (k_nx (nx_le (by exact (.eq (.eq (.eq (.eq (.eq (.eq .nil))))))))))))) (fun _ => (k_nx (nx_le (by exact (.eq (.eq (.eq (.eq (.eq (.eq .nil)))))))))) fun pairs => (k_nx (nx_le (by exact (.eq (.eq (.eq (.eq (.eq (.any .nil))))))))))))) fun s9' => (k_nx (nx_le (by exact (.eq (.eq (.eq (.eq (.any (.any .nil))))))))))))) fun s5' => (k_last (k_ret (r_tup (r_acons r_c (r_acons (r_var (d := Es.enc letters) rfl (Es.imm _)) (r_acons (r_call (r_acons (r_call (r_acons (r_varM (d := (Lx Es) s5'.2) rfl rfl) r_anil rfl) (drfs_cons (drf_at rfl) drfs_nil) (f_sortL Es s5'.2 rfl rfl rfl)) r_anil rfl) (drfs_cons drf_own drfs_nil) (f_tuple Es (Es.sort s5'.2))) r_anil rfl) rfl) rfl) rfl (Nat.le_of_ble_eq_true rfl)) (rt_le (by exact (.eq (.eq (.any (.any (.any (.any .nil)))))))))))))))) h rfl rfl
def T_law_word (box_ : Box) (alphabet : (Str × Str × (List Str))) (most : Int) : (Str × Box) → Out → Prop := Rt (fun (r : (Str × Box)) => Es.enc r.1) (fun (r : (Str × Box)) => [.is (boxE r.2), .is ((Er (Rc Es (Rc Es (R1 (Et Es))))).enc alphabet), .is (Ei.enc most), .any, .any])
theorem ref_law_word {box_ : Box} {alphabet : (Str × Str × (List Str))} {most : Int} {r : (Str × Box)} (h : n_law_word box_ alphabet most = some r) : d_law_word [boxE box_, (Er (Rc Es (Rc Es (R1 (Et Es))))).enc alphabet, Ei.enc most] = some ((fun (r : (Str × Box)) => Es.enc r.1) r, [some (boxE r.2), some ((Er (Rc Es (Rc Es (R1 (Et Es))))).enc alphabet), some (Ei.enc most)]) :=
  def_ok (Ar := fun (r : (Str × Box)) => [.is (boxE r.2), .is ((Er (Rc Es (Rc Es (R1 (Et Es))))).enc alphabet), .is (Ei.enc most), .any, .any]) (show RB _ m_law_word (n_law_word box_ alphabet most) (T_law_word box_ alphabet most) from
  (k_asgF Es.enc r_c (by exact Nat.le_of_ble_eq_true rfl) fun word => (k_bnd fun v1' h2' => k_bnd fun r3' h4' => (k_forN (fun s5' => [.is (boxE s5'.1), .is ((Er (Rc Es (Rc Es (R1 (Et Es))))).enc alphabet), .is (Ei.enc most), .is (Es.enc s5'.2), .any]) (i_rng1 (r_acons (r_draw rfl (r_call (r_acons (r_var (d := Ei.enc most) rfl (Ei.imm _)) (r_acons r_c r_anil rfl) rfl) (drfs_cons drf_own (drfs_cons drf_own drfs_nil)) (f_add _ _)) h2') r_anil rfl) h4') (by exact (.eq (.eq (.eq (.eq (.any .nil)))))) rfl (fun _ => gd_nil) (fun t6' s5' => (b_name (by exact Nat.le_of_ble_eq_true rfl))) (fun t6' s5' => (k_last (k_bnd fun v7' h8' => k_bnd fun a9' h10' => k_bnd fun a11' h12' => (k_asgF Es.enc (r_call (r_acons (r_var (d := Es.enc s5'.2) rfl (Es.imm _)) (r_acons (r_sub (r_sub (i := (1 : Int)) (r_var (d := (Er (Rc Es (Rc Es (R1 (Et Es))))).enc alphabet) rfl ((Er (Rc Es (Rc Es (R1 (Et Es))))).imm _)) r_c rfl drf_own drf_own (s_R (d := Es.enc alphabet.2.1) rfl (Es.imm _))) (r_draw rfl (r_call (r_acons (r_sub (i := (1 : Int)) (r_var (d := (Er (Rc Es (Rc Es (R1 (Et Es))))).enc alphabet) rfl ((Er (Rc Es (Rc Es (R1 (Et Es))))).imm _)) r_c rfl drf_own drf_own (s_R (d := Es.enc alphabet.2.1) rfl (Es.imm _))) r_anil rfl) (drfs_cons drf_own drfs_nil) (f_lenS _)) h8') rfl drf_own drf_own (s_S h10')) r_anil rfl) rfl) (drfs_cons drf_own (drfs_cons drf_own drfs_nil)) (f_catS h12')) (by exact Nat.le_of_ble_eq_true rfl) fun word => (k_nx (nx_le (by exact (.eq (.eq (.eq (.eq (.any .nil)))))))))))) fun s5' => (k_last (k_ret (r_var (d := Es.enc s5'.2) rfl (Es.imm _)) (rt_le (by exact (.eq (.eq (.eq (.any (.any .nil))))))))))))) h rfl rfl
def T_law_free (alphabet : (Str × Str × (List Str))) (x : Str) (y : Str) : Bool → Out → Prop := Rt Eb.enc (fun (r : Bool) => [.is ((Er (Rc Es (Rc Es (R1 (Et Es))))).enc alphabet), .is (Es.enc x), .is (Es.enc y)])
theorem ref_law_free {alphabet : (Str × Str × (List Str))} {x : Str} {y : Str} {r : Bool} (h : n_law_free alphabet x y = some r) : d_law_free [(Er (Rc Es (Rc Es (R1 (Et Es))))).enc alphabet, Es.enc x, Es.enc y] = some (Eb.enc r, [some ((Er (Rc Es (Rc Es (R1 (Et Es))))).enc alphabet), some (Es.enc x), some (Es.enc y)]) :=
  def_ok (Ar := fun (r : Bool) => [.is ((Er (Rc Es (Rc Es (R1 (Et Es))))).enc alphabet), .is (Es.enc x), .is (Es.enc y)]) (show RB _ m_law_free (n_law_free alphabet x y) (T_law_free alphabet x y) from
  (k_last (k_bnd fun a3' h4' => k_bnd fun a7' h8' => (k_ret (o_orV (r_call (r_acons (r_call (r_acons (r_var (d := Es.enc x) rfl (Es.imm _)) (r_acons (r_var (d := Es.enc y) rfl (Es.imm _)) r_anil rfl) rfl) (drfs_cons drf_own (drfs_cons drf_own drfs_nil)) (f_catS h4')) (r_acons (r_sub (i := (2 : Int)) (r_var (d := (Er (Rc Es (Rc Es (R1 (Et Es))))).enc alphabet) rfl ((Er (Rc Es (Rc Es (R1 (Et Es))))).imm _)) r_c rfl drf_own drf_own (s_R (d := (Et Es).enc alphabet.2.2) rfl ((Et Es).imm _))) r_anil rfl) rfl) (drfs_cons drf_own (drfs_cons drf_own drfs_nil)) (f_inTB Es a3' alphabet.2.2 rfl)) (fun _ => (o_bnd fun a5' h6' => o_some (r_call (r_acons (r_call (r_acons (r_var (d := Es.enc y) rfl (Es.imm _)) (r_acons (r_var (d := Es.enc x) rfl (Es.imm _)) r_anil rfl) rfl) (drfs_cons drf_own (drfs_cons drf_own drfs_nil)) (f_catS h6')) (r_acons (r_sub (i := (2 : Int)) (r_var (d := (Er (Rc Es (Rc Es (R1 (Et Es))))).enc alphabet) rfl ((Er (Rc Es (Rc Es (R1 (Et Es))))).imm _)) r_c rfl drf_own drf_own (s_R (d := (Et Es).enc alphabet.2.2) rfl ((Et Es).imm _))) r_anil rfl) rfl) (drfs_cons drf_own (drfs_cons drf_own drfs_nil)) (f_inTB Es a5' alphabet.2.2 rfl)))) h8') (rt_le (by exact (.eq (.eq (.eq .nil))))))))) h rfl rfl
def T_law_class (alphabet : (Str × Str × (List Str))) (word : Str) : (List Str) → Out → Prop := Rt (Lx Es) (fun (r : (List Str)) => [.is ((Er (Rc Es (Rc Es (R1 (Et Es))))).enc alphabet), .is (Es.enc word), .any, .any, .any, .any, .any, .any])
theorem ref_law_class {alphabet : (Str × Str × (List Str))} {word : Str} {r : (List Str)} (h : n_law_class alphabet word = some r) : d_law_class [(Er (Rc Es (Rc Es (R1 (Et Es))))).enc alphabet, Es.enc word] = some ((Lx Es) r, [some ((Er (Rc Es (Rc Es (R1 (Et Es))))).enc alphabet), some (Es.enc word)]) :=
  def_ok (Ar := fun (r : (List Str)) => [.is ((Er (Rc Es (Rc Es (R1 (Et Es))))).enc alphabet), .is (Es.enc word), .any, .any, .any, .any, .any, .any]) (show RB _ m_law_class (n_law_class alphabet word) (T_law_class alphabet word) from
  (k_asgF (Lx Es) (r_lst (r_acons (r_var (d := Es.enc word) rfl (Es.imm _)) r_anil rfl) rfl (Nat.le_of_ble_eq_true rfl)) (by exact Nat.le_of_ble_eq_true rfl) fun found => (k_asgF Ei.enc r_c (by exact Nat.le_of_ble_eq_true rfl) fun at_ => (k_asgF (Dx Es Eb) (r_disp1 (E := Es) (F := Eb) famS (r_var (d := Es.enc word) rfl (Es.imm _)) r_c) (by exact Nat.le_of_ble_eq_true rfl) fun known => (k_whileN (fun s1' => [.is ((Er (Rc Es (Rc Es (R1 (Et Es))))).enc alphabet), .is (Es.enc word), .is ((Lx Es) s1'.1), .is (Ei.enc s1'.2.1), .is ((Dx Es Eb) s1'.2.2), .any, .any, .any]) (by exact (.eq (.eq (.eq (.eq (.eq (.any (.any (.any .nil))))))))) (fun s1' => (to_some (r_tb (r_call (r_acons (r_var (d := Ei.enc s1'.2.1) rfl (Ei.imm _)) (r_acons (r_call (r_acons (r_varM (d := (Lx Es) s1'.1) rfl rfl) r_anil rfl) (drfs_cons (drf_at rfl) drfs_nil) (f_lenL Es s1'.1)) r_anil rfl) rfl) (drfs_cons drf_own (drfs_cons drf_own drfs_nil)) (f_lt _ _))))) (fun s1' _ => (k_bnd fun a2' h3' => (k_asgF Es.enc (r_sub (r_varM (d := (Lx Es) s1'.1) rfl rfl) (r_var (d := Ei.enc s1'.2.1) rfl (Ei.imm _)) rfl (drf_at rfl) drf_own (s_L Es h3')) (by exact Nat.le_of_ble_eq_true rfl) fun here => (k_asgF Ei.enc (r_call (r_acons (r_var (d := Ei.enc s1'.2.1) rfl (Ei.imm _)) (r_acons r_c r_anil rfl) rfl) (drfs_cons drf_own (drfs_cons drf_own drfs_nil)) (f_add _ _)) (by exact Nat.le_of_ble_eq_true rfl) fun at_ => (k_last (k_bnd fun r4' h5' => (k_forN (fun s6' => [.is ((Er (Rc Es (Rc Es (R1 (Et Es))))).enc alphabet), .is (Es.enc word), .is ((Lx Es) s6'.1), .is (Ei.enc at_), .is ((Dx Es Eb) s6'.2), .is (Es.enc here), .any, .any]) (i_rng1 (r_acons (r_call (r_acons (r_call (r_acons (r_var (d := Es.enc here) rfl (Es.imm _)) r_anil rfl) (drfs_cons drf_own drfs_nil) (f_lenS _)) (r_acons r_c r_anil rfl) rfl) (drfs_cons drf_own (drfs_cons drf_own drfs_nil)) (f_sub _ _)) r_anil rfl) h5') (by exact (.eq (.eq (.eq (.eq (.eq (.eq (.any (.any .nil))))))))) rfl (fun _ => gd_nil) (fun t7' s6' => (b_name (by exact Nat.le_of_ble_eq_true rfl))) (fun t7' s6' => (k_last (k_bnd fun a12' h13' => k_bnd fun a14' h15' => k_bnd fun a16' h17' => (k_ifJ (A' := (fun s33' => [.is ((Er (Rc Es (Rc Es (R1 (Et Es))))).enc alphabet), .is (Es.enc word), .is ((Lx Es) s33'.1), .is (Ei.enc at_), .is ((Dx Es Eb) s33'.2), .is (Es.enc here), .is (Ei.enc t7'), .any])) (r_tv (r_user (r_acons (r_var (d := (Er (Rc Es (Rc Es (R1 (Et Es))))).enc alphabet) rfl ((Er (Rc Es (Rc Es (R1 (Et Es))))).imm _)) (r_acons (r_sub (r_var (d := Es.enc here) rfl (Es.imm _)) (r_var (d := Ei.enc t7') rfl (Ei.imm _)) rfl drf_own drf_own (s_S h13')) (r_acons (r_sub (r_var (d := Es.enc here) rfl (Es.imm _)) (r_call (r_acons (r_var (d := Ei.enc t7') rfl (Ei.imm _)) (r_acons r_c r_anil rfl) rfl) (drfs_cons drf_own (drfs_cons drf_own drfs_nil)) (f_add _ _)) rfl drf_own drf_own (s_S h15')) r_anil rfl) rfl) rfl) rfl (drfs_cons drf_own (drfs_cons drf_own (drfs_cons drf_own drfs_nil))) (ref_law_free h17') (.own (.own (.own .nil)))) drf_own (t_B _)) (fun _ => (k_bnd fun a18' h19' => k_bnd fun a20' h21' => k_bnd fun a22' h23' => k_bnd fun a24' h25' => k_bnd fun a26' h27' => (k_asgF Es.enc (r_call (r_acons (r_call (r_acons (r_call (r_acons (r_slice (r_var (d := Es.enc here) rfl (Es.imm _)) r_nop (r_part (r_var (d := Ei.enc t7') rfl (Ei.imm _))) rfl drf_own (c_S _ _ _)) (r_acons (r_sub (r_var (d := Es.enc here) rfl (Es.imm _)) (r_call (r_acons (r_var (d := Ei.enc t7') rfl (Ei.imm _)) (r_acons r_c r_anil rfl) rfl) (drfs_cons drf_own (drfs_cons drf_own drfs_nil)) (f_add _ _)) rfl drf_own drf_own (s_S h19')) r_anil rfl) rfl) (drfs_cons drf_own (drfs_cons drf_own drfs_nil)) (f_catS h21')) (r_acons (r_sub (r_var (d := Es.enc here) rfl (Es.imm _)) (r_var (d := Ei.enc t7') rfl (Ei.imm _)) rfl drf_own drf_own (s_S h23')) r_anil rfl) rfl) (drfs_cons drf_own (drfs_cons drf_own drfs_nil)) (f_catS h25')) (r_acons (r_slice (r_var (d := Es.enc here) rfl (Es.imm _)) (r_part (r_call (r_acons (r_var (d := Ei.enc t7') rfl (Ei.imm _)) (r_acons r_c r_anil rfl) rfl) (drfs_cons drf_own (drfs_cons drf_own drfs_nil)) (f_add _ _))) r_nop rfl drf_own (c_S _ _ _)) r_anil rfl) rfl) (drfs_cons drf_own (drfs_cons drf_own drfs_nil)) (f_catS h27')) (by exact Nat.le_of_ble_eq_true rfl) fun there => (k_last (k_ifJ (A' := (fun s32' => [.is ((Er (Rc Es (Rc Es (R1 (Et Es))))).enc alphabet), .is (Es.enc word), .is ((Lx Es) s32'.1), .is (Ei.enc at_), .is ((Dx Es Eb) s32'.2), .is (Es.enc here), .is (Ei.enc t7'), .is (Es.enc there)])) (r_tb (r_call (r_acons (r_var (d := Es.enc there) rfl (Es.imm _)) (r_acons (r_varM (d := (Dx Es Eb) s6'.2) rfl rfl) r_anil rfl) rfl) (drfs_cons drf_own (drfs_cons (drf_at rfl) drfs_nil)) (f_dnin (E := Es) Eb famS s6'.2 there))) (fun _ => (k_dset (E := Es) (F := Eb) famS r_c (r_varM (d := (Dx Es Eb) s6'.2) rfl rfl) (r_var (d := Es.enc there) rfl (Es.imm _)) rfl fun known28' h31' => (k_last (k_bnd fun found29' h30' => (k_expr (r_push (E := Es) h30' (r_varM (d := (Lx Es) s6'.1) rfl rfl) rfl (r_takeI (d := Es.enc there) rfl (Es.imm _)) rfl) (k_nx (nx_le (by exact (.eq (.eq (.eq (.eq (.eq (.eq (.eq (.eq .nil)))))))))))))))) (fun _ => (k_nx (nx_le (by exact (.eq (.eq (.eq (.eq (.eq (.eq (.eq (.eq .nil)))))))))))) fun s32' => (k_nx (nx_le (by exact (.eq (.eq (.eq (.eq (.eq (.eq (.eq (.any .nil)))))))))))))))) (fun _ => (k_nx (nx_le (by exact (.eq (.eq (.eq (.eq (.eq (.eq (.eq (.any .nil)))))))))))) fun s33' => (k_nx (nx_le (by exact (.eq (.eq (.eq (.eq (.eq (.eq (.any (.any .nil))))))))))))))) fun s6' => (k_nx (nx_le (by exact (.eq (.eq (.eq (.eq (.eq (.any (.any (.any .nil)))))))))))))))))) fun s1' => (k_last (k_retM (r_varM (d := (Lx Es) s1'.1) rfl rfl) rfl rfl (rt_le (by exact (.eq (.eq (.any (.any (.any (.any (.any (.any .nil))))))))))))))))) h rfl rfl
def T_law_leaders (alphabet : (Str × Str × (List Str))) (word : Str) : (List Str) → Out → Prop := Rt (Lx Es) (fun (r : (List Str)) => [.is ((Er (Rc Es (Rc Es (R1 (Et Es))))).enc alphabet), .is (Es.enc word), .any, .any, .any, .any])
theorem ref_law_leaders {alphabet : (Str × Str × (List Str))} {word : Str} {r : (List Str)} (h : n_law_leaders alphabet word = some r) : d_law_leaders [(Er (Rc Es (Rc Es (R1 (Et Es))))).enc alphabet, Es.enc word] = some ((Lx Es) r, [some ((Er (Rc Es (Rc Es (R1 (Et Es))))).enc alphabet), some (Es.enc word)]) :=
  def_ok (Ar := fun (r : (List Str)) => [.is ((Er (Rc Es (Rc Es (R1 (Et Es))))).enc alphabet), .is (Es.enc word), .any, .any, .any, .any]) (show RB _ m_law_leaders (n_law_leaders alphabet word) (T_law_leaders alphabet word) from
  (k_asgF (Lx Es) (r_lst r_anil rfl (Nat.le_of_ble_eq_true rfl)) (by exact Nat.le_of_ble_eq_true rfl) fun found => (k_bnd fun a1' h2' => (k_forN (fun found' => [.is ((Er (Rc Es (Rc Es (R1 (Et Es))))).enc alphabet), .is (Es.enc word), .is ((Lx Es) found'), .any, .any, .any]) (i_L Es (r_setC (r_var (d := Es.enc word) rfl (Es.imm _)) h2')) (by exact (.eq (.eq (.eq (.any (.any (.any .nil))))))) rfl (fun _ => gd_nil) (fun t3' found' => (b_name (by exact Nat.le_of_ble_eq_true rfl))) (fun t3' found' => (k_bnd fun a4' h5' => (k_asgF Es.enc (r_slice (r_var (d := Es.enc word) rfl (Es.imm _)) r_nop (r_part (r_sidx (r_var (d := Es.enc word) rfl (Es.imm _)) (r_var (d := Es.enc t3') rfl (Es.imm _)) h5')) rfl drf_own (c_S _ _ _)) (by exact Nat.le_of_ble_eq_true rfl) fun ahead => (k_last (k_bnd fun a9' h10' => (k_ifJ (A' := (fun found => [.is ((Er (Rc Es (Rc Es (R1 (Et Es))))).enc alphabet), .is (Es.enc word), .is ((Lx Es) found), .is (Es.enc t3'), .is (Es.enc ahead), .any])) (r_tb (r_call (r_acons (r_call (r_acons (r_lcO (g := Es.enc) (i_S (r_var (d := Es.enc ahead) rfl (Es.imm _))) rfl gd_nil ⟨fun t6' => (b_name (by exact Nat.le_of_ble_eq_true rfl)), fun t6' => (to_bnd fun a7' h8' => to_some (r_not (r_tv (r_user (r_acons (r_var (d := (Er (Rc Es (Rc Es (R1 (Et Es))))).enc alphabet) rfl ((Er (Rc Es (Rc Es (R1 (Et Es))))).imm _)) (r_acons (r_var (d := Es.enc t3') rfl (Es.imm _)) (r_acons (r_var (d := Es.enc t6') rfl (Es.imm _)) r_anil rfl) rfl) rfl) rfl (drfs_cons drf_own (drfs_cons drf_own (drfs_cons drf_own drfs_nil))) (ref_law_free h8') (.own (.own (.own .nil)))) drf_own (t_B _)))), fun t6' y1 _ => (o_some (ex := Es.enc) (v := t6') (r_var (d := Es.enc t6') rfl (Es.imm _))) y1, by decide⟩ h10') r_anil rfl) (drfs_cons drf_own drfs_nil) (f_lenL Es a9')) (r_acons r_c r_anil rfl) rfl) (drfs_cons drf_own (drfs_cons drf_own drfs_nil)) (f_eq Ei (List.length a9' : Int) (0 : Int) rfl))) (fun _ => (k_last (k_bnd fun found11' h12' => (k_expr (r_push (E := Es) h12' (r_varM (d := (Lx Es) found') rfl rfl) rfl (r_takeI (d := Es.enc t3') rfl (Es.imm _)) rfl) (k_nx (nx_le (by exact (.eq (.eq (.eq (.eq (.eq (.any .nil))))))))))))) (fun _ => (k_nx (nx_le (by exact (.eq (.eq (.eq (.eq (.eq (.any .nil)))))))))) fun found => (k_nx (nx_le (by exact (.eq (.eq (.eq (.any (.any (.any .nil))))))))))))))) fun found' => (k_last (k_retM (r_varM (d := (Lx Es) found') rfl rfl) rfl rfl (rt_le (by exact (.eq (.eq (.any (.any (.any (.any .nil)))))))))))))) h rfl rfl
def T_law_without (word : Str) (x : Str) : Str → Out → Prop := Rt Es.enc (fun (r : Str) => [.is (Es.enc word), .is (Es.enc x), .any])
theorem ref_law_without {word : Str} {x : Str} {r : Str} (h : n_law_without word x = some r) : d_law_without [Es.enc word, Es.enc x] = some (Es.enc r, [some (Es.enc word), some (Es.enc x)]) :=
  def_ok (Ar := fun (r : Str) => [.is (Es.enc word), .is (Es.enc x), .any]) (show RB _ m_law_without (n_law_without word x) (T_law_without word x) from
  (k_bnd fun a1' h2' => (k_asgF Ei.enc (r_sidx (r_var (d := Es.enc word) rfl (Es.imm _)) (r_var (d := Es.enc x) rfl (Es.imm _)) h2') (by exact Nat.le_of_ble_eq_true rfl) fun place => (k_last (k_bnd fun a3' h4' => (k_ret (r_call (r_acons (r_slice (r_var (d := Es.enc word) rfl (Es.imm _)) r_nop (r_part (r_var (d := Ei.enc place) rfl (Ei.imm _))) rfl drf_own (c_S _ _ _)) (r_acons (r_slice (r_var (d := Es.enc word) rfl (Es.imm _)) (r_part (r_call (r_acons (r_var (d := Ei.enc place) rfl (Ei.imm _)) (r_acons r_c r_anil rfl) rfl) (drfs_cons drf_own (drfs_cons drf_own drfs_nil)) (f_add _ _))) r_nop rfl drf_own (c_S _ _ _)) r_anil rfl) rfl) (drfs_cons drf_own (drfs_cons drf_own drfs_nil)) (f_catS h4')) (rt_le (by exact (.eq (.eq (.any .nil))))))))))) h rfl rfl
def T_law_least (alphabet : (Str × Str × (List Str))) (word : Str) : Str → Out → Prop := Rt Es.enc (fun (r : Str) => [.is ((Er (Rc Es (Rc Es (R1 (Et Es))))).enc alphabet), .any, .any, .any])
theorem ref_law_least {alphabet : (Str × Str × (List Str))} {word : Str} {r : Str} (h : n_law_least alphabet word = some r) : d_law_least [(Er (Rc Es (Rc Es (R1 (Et Es))))).enc alphabet, Es.enc word] = some (Es.enc r, [some ((Er (Rc Es (Rc Es (R1 (Et Es))))).enc alphabet), none]) :=
  def_ok (Ar := fun (r : Str) => [.is ((Er (Rc Es (Rc Es (R1 (Et Es))))).enc alphabet), .any, .any, .any]) (show RB _ m_law_least (n_law_least alphabet word) (T_law_least alphabet word) from
  (k_asgF Es.enc r_c (by exact Nat.le_of_ble_eq_true rfl) fun built => (k_whileN (fun s1' => [.is ((Er (Rc Es (Rc Es (R1 (Et Es))))).enc alphabet), .is (Es.enc s1'.1), .is (Es.enc s1'.2), .any]) (by exact (.eq (.eq (.eq (.any .nil))))) (fun s1' => (to_some (r_tb (r_call (r_acons (r_call (r_acons (r_var (d := Es.enc s1'.1) rfl (Es.imm _)) r_anil rfl) (drfs_cons drf_own drfs_nil) (f_lenS _)) (r_acons r_c r_anil rfl) rfl) (drfs_cons drf_own (drfs_cons drf_own drfs_nil)) (f_gt _ _))))) (fun s1' _ => (k_bnd fun a2' h3' => k_bnd fun a4' h5' => (k_asgF Es.enc (r_sub (r_user (r_acons (r_var (d := (Er (Rc Es (Rc Es (R1 (Et Es))))).enc alphabet) rfl ((Er (Rc Es (Rc Es (R1 (Et Es))))).imm _)) (r_acons (r_var (d := Es.enc s1'.1) rfl (Es.imm _)) r_anil rfl) rfl) rfl (drfs_cons drf_own (drfs_cons drf_own drfs_nil)) (ref_law_leaders h3') (.own (.own .nil))) r_c rfl drf_own drf_own (s_L Es h5')) (by exact Nat.le_of_ble_eq_true rfl) fun x => (k_bnd fun a6' h7' => (k_asgF Es.enc (r_call (r_acons (r_var (d := Es.enc s1'.2) rfl (Es.imm _)) (r_acons (r_var (d := Es.enc x) rfl (Es.imm _)) r_anil rfl) rfl) (drfs_cons drf_own (drfs_cons drf_own drfs_nil)) (f_catS h7')) (by exact Nat.le_of_ble_eq_true rfl) fun built => (k_last (k_bnd fun a8' h9' => (k_asgF Es.enc (r_user (r_acons (r_var (d := Es.enc s1'.1) rfl (Es.imm _)) (r_acons (r_var (d := Es.enc x) rfl (Es.imm _)) r_anil rfl) rfl) rfl (drfs_cons drf_own (drfs_cons drf_own drfs_nil)) (ref_law_without h9') (.own (.own .nil))) (by exact Nat.le_of_ble_eq_true rfl) fun word => (k_nx (nx_le (by exact (.eq (.eq (.eq (.any .nil))))))))))))))) fun s1' => (k_last (k_ret (r_var (d := Es.enc s1'.2) rfl (Es.imm _)) (rt_le (by exact (.eq (.any (.any (.any .nil))))))))))) h rfl rfl
def T_independent (alphabet : (Str × Str × (List Str))) (x : Str) (y : Str) : Bool → Out → Prop := Rt Eb.enc (fun (r : Bool) => [.is ((Er (Rc Es (Rc Es (R1 (Et Es))))).enc alphabet), .is (Es.enc x), .is (Es.enc y)])
theorem ref_independent {alphabet : (Str × Str × (List Str))} {x : Str} {y : Str} {r : Bool} (h : n_independent alphabet x y = some r) : d_independent [(Er (Rc Es (Rc Es (R1 (Et Es))))).enc alphabet, Es.enc x, Es.enc y] = some (Eb.enc r, [some ((Er (Rc Es (Rc Es (R1 (Et Es))))).enc alphabet), some (Es.enc x), some (Es.enc y)]) :=
  def_ok (Ar := fun (r : Bool) => [.is ((Er (Rc Es (Rc Es (R1 (Et Es))))).enc alphabet), .is (Es.enc x), .is (Es.enc y)]) (show RB _ m_independent (n_independent alphabet x y) (T_independent alphabet x y) from
  (k_last (k_bnd fun a1' h2' => (k_ret (r_call (r_acons (r_call (r_acons (r_call (r_acons (r_var (d := Es.enc x) rfl (Es.imm _)) (r_acons (r_var (d := Es.enc y) rfl (Es.imm _)) r_anil rfl) rfl) (drfs_cons drf_own (drfs_cons drf_own drfs_nil)) (f_min2X Es x y rfl rfl rfl)) (r_acons (r_call (r_acons (r_var (d := Es.enc x) rfl (Es.imm _)) (r_acons (r_var (d := Es.enc y) rfl (Es.imm _)) r_anil rfl) rfl) (drfs_cons drf_own (drfs_cons drf_own drfs_nil)) (f_max2X Es x y rfl rfl rfl)) r_anil rfl) rfl) (drfs_cons drf_own (drfs_cons drf_own drfs_nil)) (f_catS h2')) (r_acons (r_sub (i := (2 : Int)) (r_var (d := (Er (Rc Es (Rc Es (R1 (Et Es))))).enc alphabet) rfl ((Er (Rc Es (Rc Es (R1 (Et Es))))).imm _)) r_c rfl drf_own drf_own (s_R (d := (Et Es).enc alphabet.2.2) rfl ((Et Es).imm _))) r_anil rfl) rfl) (drfs_cons drf_own (drfs_cons drf_own drfs_nil)) (f_inTB Es a1' alphabet.2.2 rfl)) (rt_le (by exact (.eq (.eq (.eq .nil))))))))) h rfl rfl
def T_free (alphabet : (Str × Str × (List Str))) (word : Str) (other : Str) : Bool → Out → Prop := Rt Eb.enc (fun (r : Bool) => [.is ((Er (Rc Es (Rc Es (R1 (Et Es))))).enc alphabet), .is (Es.enc word), .is (Es.enc other), .any, .any])
theorem ref_free {alphabet : (Str × Str × (List Str))} {word : Str} {other : Str} {r : Bool} (h : n_free alphabet word other = some r) : d_free [(Er (Rc Es (Rc Es (R1 (Et Es))))).enc alphabet, Es.enc word, Es.enc other] = some (Eb.enc r, [some ((Er (Rc Es (Rc Es (R1 (Et Es))))).enc alphabet), some (Es.enc word), some (Es.enc other)]) :=
  def_ok (Ar := fun (r : Bool) => [.is ((Er (Rc Es (Rc Es (R1 (Et Es))))).enc alphabet), .is (Es.enc word), .is (Es.enc other), .any, .any]) (show RB _ m_free (n_free alphabet word other) (T_free alphabet word other) from
  (k_last (k_bnd fun a6' h7' => (k_ret (r_all2 (ex1 := Es.enc) (gs1 := fun t1' _ => []) (i_S (r_var (d := Es.enc word) rfl (Es.imm _))) gd_nil ⟨fun t1' => (b_name (by exact Nat.le_of_ble_eq_true rfl)), fun t1' => (to_some r_yes), fun t1' ys _ hh => by cases hh; exact ⟨(i_S (r_var (d := Es.enc other) rfl (Es.imm _))), rfl, gd_nil⟩, fun t1' => ⟨fun t2' => (b_name (by exact Nat.le_of_ble_eq_true rfl)), fun t2' => (to_some r_yes), fun t2' y1 _ => (o_bnd fun a3' h4' => o_some (ex := Eb.enc) (v := a3') (r_user (r_acons (r_var (d := (Er (Rc Es (Rc Es (R1 (Et Es))))).enc alphabet) rfl ((Er (Rc Es (Rc Es (R1 (Et Es))))).imm _)) (r_acons (r_var (d := Es.enc t1') rfl (Es.imm _)) (r_acons (r_var (d := Es.enc t2') rfl (Es.imm _)) r_anil rfl) rfl) rfl) rfl (drfs_cons drf_own (drfs_cons drf_own (drfs_cons drf_own drfs_nil))) (ref_independent h4') (.own (.own (.own .nil))))) y1, by decide⟩, by decide, by decide⟩ h7') (rt_le (by exact (.eq (.eq (.eq (.any (.any .nil))))))))))) h rfl rfl
def T_firsts (alphabet : (Str × Str × (List Str))) (word : Str) : Str → Out → Prop := Rt Es.enc (fun (r : Str) => [.is ((Er (Rc Es (Rc Es (R1 (Et Es))))).enc alphabet), .is (Es.enc word), .any, .any, .any])
theorem ref_firsts {alphabet : (Str × Str × (List Str))} {word : Str} {r : Str} (h : n_firsts alphabet word = some r) : d_firsts [(Er (Rc Es (Rc Es (R1 (Et Es))))).enc alphabet, Es.enc word] = some (Es.enc r, [some ((Er (Rc Es (Rc Es (R1 (Et Es))))).enc alphabet), some (Es.enc word)]) :=
  def_ok (Ar := fun (r : Str) => [.is ((Er (Rc Es (Rc Es (R1 (Et Es))))).enc alphabet), .is (Es.enc word), .any, .any, .any]) (show RB _ m_firsts (n_firsts alphabet word) (T_firsts alphabet word) from
  (k_bnd fun a4' h5' => (k_asgF (Lx Es) (r_lcO (g := Es.enc) (i_numS (r_var (d := Es.enc word) rfl (Es.imm _))) rfl gd_nil ⟨fun t1' => (b_tup (b_cons (b_name (by exact Nat.le_of_ble_eq_true rfl)) (b_cons (b_name (by exact Nat.le_of_ble_eq_true rfl)) b_nil)) rfl), fun t1' => (to_bnd fun a2' h3' => to_some (r_tv (r_user (r_acons (r_var (d := (Er (Rc Es (Rc Es (R1 (Et Es))))).enc alphabet) rfl ((Er (Rc Es (Rc Es (R1 (Et Es))))).imm _)) (r_acons (r_var (d := Es.enc t1'.2) rfl (Es.imm _)) (r_acons (r_slice (r_var (d := Es.enc word) rfl (Es.imm _)) r_nop (r_part (r_var (d := Ei.enc t1'.1) rfl (Ei.imm _))) rfl drf_own (c_S _ _ _)) r_anil rfl) rfl) rfl) rfl (drfs_cons drf_own (drfs_cons drf_own (drfs_cons drf_own drfs_nil))) (ref_free h3') (.own (.own (.own .nil)))) drf_own (t_B _))), fun t1' y1 _ => (o_some (ex := Es.enc) (v := t1'.2) (r_var (d := Es.enc t1'.2) rfl (Es.imm _))) y1, by decide⟩ h5') (by exact Nat.le_of_ble_eq_true rfl) fun found => (k_last (k_bnd fun a6' h7' => (k_ret (r_call (r_acons (r_call (r_acons (r_varM (d := (Lx Es) found) rfl rfl) r_anil rfl) (drfs_cons (drf_at rfl) drfs_nil) (f_sortL Es found rfl rfl rfl)) r_anil rfl) (drfs_cons drf_own drfs_nil) (f_joinL h7')) (rt_le (by exact (.eq (.eq (.any (.any (.any .nil))))))))))))) h rfl rfl
def T_without_first (word : Str) (letter : Str) : Str → Out → Prop := Rt Es.enc (fun (r : Str) => [.is (Es.enc word), .is (Es.enc letter), .any])
theorem ref_without_first {word : Str} {letter : Str} {r : Str} (h : n_without_first word letter = some r) : d_without_first [Es.enc word, Es.enc letter] = some (Es.enc r, [some (Es.enc word), some (Es.enc letter)]) :=
  def_ok (Ar := fun (r : Str) => [.is (Es.enc word), .is (Es.enc letter), .any]) (show RB _ m_without_first (n_without_first word letter) (T_without_first word letter) from
  (k_bnd fun a1' h2' => (k_asgF Ei.enc (r_sidx (r_var (d := Es.enc word) rfl (Es.imm _)) (r_var (d := Es.enc letter) rfl (Es.imm _)) h2') (by exact Nat.le_of_ble_eq_true rfl) fun place => (k_last (k_bnd fun a3' h4' => (k_ret (r_call (r_acons (r_slice (r_var (d := Es.enc word) rfl (Es.imm _)) r_nop (r_part (r_var (d := Ei.enc place) rfl (Ei.imm _))) rfl drf_own (c_S _ _ _)) (r_acons (r_slice (r_var (d := Es.enc word) rfl (Es.imm _)) (r_part (r_call (r_acons (r_var (d := Ei.enc place) rfl (Ei.imm _)) (r_acons r_c r_anil rfl) rfl) (drfs_cons drf_own (drfs_cons drf_own drfs_nil)) (f_add _ _))) r_nop rfl drf_own (c_S _ _ _)) r_anil rfl) rfl) (drfs_cons drf_own (drfs_cons drf_own drfs_nil)) (f_catS h4')) (rt_le (by exact (.eq (.eq (.any .nil))))))))))) h rfl rfl
def T_least (alphabet : (Str × Str × (List Str))) (word : Str) : Str → Out → Prop := Rt Es.enc (fun (r : Str) => [.is ((Er (Rc Es (Rc Es (R1 (Et Es))))).enc alphabet), .any, .any, .any])
theorem ref_least {alphabet : (Str × Str × (List Str))} {word : Str} {r : Str} (h : n_least alphabet word = some r) : d_least [(Er (Rc Es (Rc Es (R1 (Et Es))))).enc alphabet, Es.enc word] = some (Es.enc r, [some ((Er (Rc Es (Rc Es (R1 (Et Es))))).enc alphabet), none]) :=
  def_ok (Ar := fun (r : Str) => [.is ((Er (Rc Es (Rc Es (R1 (Et Es))))).enc alphabet), .any, .any, .any]) (show RB _ m_least (n_least alphabet word) (T_least alphabet word) from
  (k_asgF Es.enc r_c (by exact Nat.le_of_ble_eq_true rfl) fun found => (k_whileN (fun s1' => [.is ((Er (Rc Es (Rc Es (R1 (Et Es))))).enc alphabet), .is (Es.enc s1'.1), .is (Es.enc s1'.2), .any]) (by exact (.eq (.eq (.eq (.any .nil))))) (fun s1' => (to_some (r_tv (r_var (d := Es.enc s1'.1) rfl (Es.imm _)) drf_own (t_S _)))) (fun s1' _ => (k_bnd fun a2' h3' => k_bnd fun a4' h5' => (k_asgF Es.enc (r_sub (r_user (r_acons (r_var (d := (Er (Rc Es (Rc Es (R1 (Et Es))))).enc alphabet) rfl ((Er (Rc Es (Rc Es (R1 (Et Es))))).imm _)) (r_acons (r_var (d := Es.enc s1'.1) rfl (Es.imm _)) r_anil rfl) rfl) rfl (drfs_cons drf_own (drfs_cons drf_own drfs_nil)) (ref_firsts h3') (.own (.own .nil))) r_c rfl drf_own drf_own (s_S h5')) (by exact Nat.le_of_ble_eq_true rfl) fun letter => (k_augS rfl (r_var (d := Es.enc letter) rfl (Es.imm _)) (by exact Nat.le_of_ble_eq_true rfl) fun found6' => (k_last (k_bnd fun a7' h8' => (k_asgF Es.enc (r_user (r_acons (r_var (d := Es.enc s1'.1) rfl (Es.imm _)) (r_acons (r_var (d := Es.enc letter) rfl (Es.imm _)) r_anil rfl) rfl) rfl (drfs_cons drf_own (drfs_cons drf_own drfs_nil)) (ref_without_first h8') (.own (.own .nil))) (by exact Nat.le_of_ble_eq_true rfl) fun word => (k_nx (nx_le (by exact (.eq (.eq (.eq (.any .nil)))))))))))))) fun s1' => (k_last (k_ret (r_var (d := Es.enc s1'.2) rfl (Es.imm _)) (rt_le (by exact (.eq (.any (.any (.any .nil))))))))))) h rfl rfl
def T_prefixes (alphabet : (Str × Str × (List Str))) (word : Str) : (List Str) → Out → Prop := Rt (Et Es).enc (fun (r : (List Str)) => [.is ((Er (Rc Es (Rc Es (R1 (Et Es))))).enc alphabet), .is (Es.enc word), .any, .any, .any, .any, .any, .any, .any, .any])
theorem ref_prefixes {alphabet : (Str × Str × (List Str))} {word : Str} {r : (List Str)} (h : n_prefixes alphabet word = some r) : d_prefixes [(Er (Rc Es (Rc Es (R1 (Et Es))))).enc alphabet, Es.enc word] = some ((Et Es).enc r, [some ((Er (Rc Es (Rc Es (R1 (Et Es))))).enc alphabet), some (Es.enc word)]) :=
  def_ok (Ar := fun (r : (List Str)) => [.is ((Er (Rc Es (Rc Es (R1 (Et Es))))).enc alphabet), .is (Es.enc word), .any, .any, .any, .any, .any, .any, .any, .any]) (show RB _ m_prefixes (n_prefixes alphabet word) (T_prefixes alphabet word) from
  (k_asgF (Lx (Er (Rc Es (R1 Es)))) (r_lst (r_acons (r_tup (r_acons r_c (r_acons (r_var (d := Es.enc word) rfl (Es.imm _)) r_anil rfl) rfl) rfl (Nat.le_of_ble_eq_true rfl)) r_anil rfl) rfl (Nat.le_of_ble_eq_true rfl)) (by exact Nat.le_of_ble_eq_true rfl) fun found => (k_asgF (Dx Es Eb) (r_disp1 (E := Es) (F := Eb) famS (r_var (d := Es.enc word) rfl (Es.imm _)) r_c) (by exact Nat.le_of_ble_eq_true rfl) fun seen => (k_asgF Ei.enc r_c (by exact Nat.le_of_ble_eq_true rfl) fun place => (k_whileN (fun s1' => [.is ((Er (Rc Es (Rc Es (R1 (Et Es))))).enc alphabet), .is (Es.enc word), .is ((Lx (Er (Rc Es (R1 Es)))) s1'.1), .is ((Dx Es Eb) s1'.2.1), .is (Ei.enc s1'.2.2), .any, .any, .any, .any, .any]) (by exact (.eq (.eq (.eq (.eq (.eq (.any (.any (.any (.any (.any .nil))))))))))) (fun s1' => (to_some (r_tb (r_call (r_acons (r_var (d := Ei.enc s1'.2.2) rfl (Ei.imm _)) (r_acons (r_call (r_acons (r_varM (d := (Lx (Er (Rc Es (R1 Es)))) s1'.1) rfl rfl) r_anil rfl) (drfs_cons (drf_at rfl) drfs_nil) (f_lenL (Er (Rc Es (R1 Es))) s1'.1)) r_anil rfl) rfl) (drfs_cons drf_own (drfs_cons drf_own drfs_nil)) (f_lt _ _))))) (fun s1' _ => (k_bnd fun a2' h3' => (k_asgTF (Er (Rc Es (R1 Es))).enc (r_sub (r_varM (d := (Lx (Er (Rc Es (R1 Es)))) s1'.1) rfl rfl) (r_var (d := Ei.enc s1'.2.2) rfl (Ei.imm _)) rfl (drf_at rfl) drf_own (s_L (Er (Rc Es (R1 Es))) h3')) (fun t4' => (b_tup (b_cons (b_name (by exact Nat.le_of_ble_eq_true rfl)) (b_cons (b_name (by exact Nat.le_of_ble_eq_true rfl)) b_nil)) rfl)) fun t4' => (k_eqA (A' := [.is ((Er (Rc Es (Rc Es (R1 (Et Es))))).enc alphabet), .is (Es.enc word), .is ((Lx (Er (Rc Es (R1 Es)))) s1'.1), .is ((Dx Es Eb) s1'.2.1), .is (Ei.enc s1'.2.2), .is (Es.enc t4'.1), .is (Es.enc t4'.2), .any, .any, .any]) rfl (k_bnd fun a5' h6' => (k_forN (fun s7' => [.is ((Er (Rc Es (Rc Es (R1 (Et Es))))).enc alphabet), .is (Es.enc word), .is ((Lx (Er (Rc Es (R1 Es)))) s7'.1), .is ((Dx Es Eb) s7'.2), .is (Ei.enc s1'.2.2), .is (Es.enc t4'.1), .is (Es.enc t4'.2), .any, .any, .any]) (i_S (r_user (r_acons (r_var (d := (Er (Rc Es (Rc Es (R1 (Et Es))))).enc alphabet) rfl ((Er (Rc Es (Rc Es (R1 (Et Es))))).imm _)) (r_acons (r_var (d := Es.enc t4'.2) rfl (Es.imm _)) r_anil rfl) rfl) rfl (drfs_cons drf_own (drfs_cons drf_own drfs_nil)) (ref_firsts h6') (.own (.own .nil)))) (by exact (.eq (.eq (.eq (.eq (.eq (.eq (.eq (.any (.any (.any .nil))))))))))) rfl (fun _ => gd_nil) (fun t8' s7' => (b_name (by exact Nat.le_of_ble_eq_true rfl))) (fun t8' s7' => (k_bnd fun a9' h10' => (k_asgF Es.enc (r_user (r_acons (r_var (d := Es.enc t4'.2) rfl (Es.imm _)) (r_acons (r_var (d := Es.enc t8') rfl (Es.imm _)) r_anil rfl) rfl) rfl (drfs_cons drf_own (drfs_cons drf_own drfs_nil)) (ref_without_first h10') (.own (.own .nil))) (by exact Nat.le_of_ble_eq_true rfl) fun shorter => (k_last (k_ifJ (A' := (fun s17' => [.is ((Er (Rc Es (Rc Es (R1 (Et Es))))).enc alphabet), .is (Es.enc word), .is ((Lx (Er (Rc Es (R1 Es)))) s17'.1), .is ((Dx Es Eb) s17'.2), .is (Ei.enc s1'.2.2), .is (Es.enc t4'.1), .is (Es.enc t4'.2), .is (Es.enc t8'), .is (Es.enc shorter), .any])) (r_tb (r_call (r_acons (r_var (d := Es.enc shorter) rfl (Es.imm _)) (r_acons (r_varM (d := (Dx Es Eb) s7'.2) rfl rfl) r_anil rfl) rfl) (drfs_cons drf_own (drfs_cons (drf_at rfl) drfs_nil)) (f_dnin (E := Es) Eb famS s7'.2 shorter))) (fun _ => (k_dset (E := Es) (F := Eb) famS r_c (r_varM (d := (Dx Es Eb) s7'.2) rfl rfl) (r_var (d := Es.enc shorter) rfl (Es.imm _)) rfl fun seen11' h16' => (k_last (k_bnd fun a12' h13' => k_bnd fun found14' h15' => (k_expr (r_push (E := (Er (Rc Es (R1 Es)))) h15' (r_varM (d := (Lx (Er (Rc Es (R1 Es)))) s7'.1) rfl rfl) rfl (r_tup (r_acons (r_call (r_acons (r_var (d := Es.enc t4'.1) rfl (Es.imm _)) (r_acons (r_var (d := Es.enc t8') rfl (Es.imm _)) r_anil rfl) rfl) (drfs_cons drf_own (drfs_cons drf_own drfs_nil)) (f_catS h13')) (r_acons (r_var (d := Es.enc shorter) rfl (Es.imm _)) r_anil rfl) rfl) rfl (Nat.le_of_ble_eq_true rfl)) rfl) (k_nx (nx_le (by exact (.eq (.eq (.eq (.eq (.eq (.eq (.eq (.eq (.eq (.any .nil)))))))))))))))))) (fun _ => (k_nx (nx_le (by exact (.eq (.eq (.eq (.eq (.eq (.eq (.eq (.eq (.eq (.any .nil)))))))))))))) fun s17' => (k_nx (nx_le (by exact (.eq (.eq (.eq (.eq (.eq (.eq (.eq (.any (.any (.any .nil)))))))))))))))))) fun s7' => (k_last (k_augI rfl r_c (by exact Nat.le_of_ble_eq_true rfl) fun place => (k_nx (nx_le (by exact (.eq (.eq (.eq (.eq (.eq (.any (.any (.any (.any (.any .nil))))))))))))))))))))) fun s1' => (k_last (k_bnd fun a21' h22' => k_bnd fun a23' h24' => (k_ret (r_call (r_acons (r_sortK (E := Es) (G := (Er (Rc Ei (R1 Es)) rfl)) (ok := okLS) (kf := (fun z => ((Str.length z : Int), z))) (r_lcO (g := Es.enc) (i_V (Er (Rc Es (R1 Es))) (r_varM (d := (Lx (Er (Rc Es (R1 Es)))) s1'.1) rfl rfl) rfl) rfl (gd_cons rfl gd_nil) ⟨fun t18' => (b_tup (b_cons (b_name (by exact Nat.le_of_ble_eq_true rfl)) (b_cons (b_name (by exact Nat.le_of_ble_eq_true rfl)) b_nil)) rfl), fun t18' => (to_some r_yes), fun t18' y1 _ => (o_bnd fun a19' h20' => o_some (ex := Es.enc) (v := a19') (r_user (r_acons (r_var (d := (Er (Rc Es (Rc Es (R1 (Et Es))))).enc alphabet) rfl ((Er (Rc Es (Rc Es (R1 (Et Es))))).imm _)) (r_acons (r_var (d := Es.enc t18'.1) rfl (Es.imm _)) r_anil rfl) rfl) rfl (drfs_cons drf_own (drfs_cons drf_own drfs_nil)) (ref_least h20') (.own (.own .nil)))) y1, by decide⟩ h22') drf_own (fun _ _ => kl_S) h24' rfl rfl er_tupP) r_anil rfl) (drfs_cons drf_own drfs_nil) (f_tuple Es a23')) (rt_le (by exact (.eq (.eq (.any (.any (.any (.any (.any (.any (.any (.any .nil)))))))))))))))))))) h rfl rfl
def T_law_mixed (box_ : Box) (alphabet : (Str × Str × (List Str))) (word : Str) : (Str × Box) → Out → Prop := Rt (fun (r : (Str × Box)) => Es.enc r.1) (fun (r : (Str × Box)) => [.is (boxE r.2), .is ((Er (Rc Es (Rc Es (R1 (Et Es))))).enc alphabet), .any, .any, .any])
theorem ref_law_mixed {box_ : Box} {alphabet : (Str × Str × (List Str))} {word : Str} {r : (Str × Box)} (h : n_law_mixed box_ alphabet word = some r) : d_law_mixed [boxE box_, (Er (Rc Es (Rc Es (R1 (Et Es))))).enc alphabet, Es.enc word] = some ((fun (r : (Str × Box)) => Es.enc r.1) r, [some (boxE r.2), some ((Er (Rc Es (Rc Es (R1 (Et Es))))).enc alphabet), none]) :=
  def_ok (Ar := fun (r : (Str × Box)) => [.is (boxE r.2), .is ((Er (Rc Es (Rc Es (R1 (Et Es))))).enc alphabet), .any, .any, .any]) (show RB _ m_law_mixed (n_law_mixed box_ alphabet word) (T_law_mixed box_ alphabet word) from
  (k_bnd fun a1' h2' => k_bnd fun r3' h4' => (k_forN (fun s5' => [.is (boxE s5'.1), .is ((Er (Rc Es (Rc Es (R1 (Et Es))))).enc alphabet), .is (Es.enc s5'.2), .any, .any]) (i_rng1 (r_acons (r_call (r_acons r_c (r_acons (r_call (r_acons (r_var (d := Es.enc word) rfl (Es.imm _)) r_anil rfl) (drfs_cons drf_own drfs_nil) (f_lenS _)) r_anil rfl) rfl) (drfs_cons drf_own (drfs_cons drf_own drfs_nil)) (f_mul h2')) r_anil rfl) h4') (by exact (.eq (.eq (.eq (.any (.any .nil)))))) rfl (fun _ => gd_nil) (fun t6' s5' => (b_name (by exact Nat.le_of_ble_eq_true rfl))) (fun t6' s5' => (k_bnd fun v7' h8' => (k_asgF Ei.enc (r_draw rfl (r_call (r_acons (r_var (d := Es.enc s5'.2) rfl (Es.imm _)) r_anil rfl) (drfs_cons drf_own drfs_nil) (f_lenS _)) h8') (by exact Nat.le_of_ble_eq_true rfl) fun k => (k_last (k_bnd fun a19' h20' => (k_ifJ (A' := (fun word => [.is (boxE v7'.2), .is ((Er (Rc Es (Rc Es (R1 (Et Es))))).enc alphabet), .is (Es.enc word), .is (Ei.enc t6'), .is (Ei.enc k)])) (o_and (r_tb (r_call (r_acons (r_call (r_acons (r_var (d := Ei.enc k) rfl (Ei.imm _)) (r_acons r_c r_anil rfl) rfl) (drfs_cons drf_own (drfs_cons drf_own drfs_nil)) (f_add _ _)) (r_acons (r_call (r_acons (r_var (d := Es.enc s5'.2) rfl (Es.imm _)) r_anil rfl) (drfs_cons drf_own drfs_nil) (f_lenS _)) r_anil rfl) rfl) (drfs_cons drf_own (drfs_cons drf_own drfs_nil)) (f_lt _ _))) (fun _ => (to_bnd fun a13' h14' => to_bnd fun a15' h16' => to_bnd fun a17' h18' => to_some (r_tv (r_user (r_acons (r_var (d := (Er (Rc Es (Rc Es (R1 (Et Es))))).enc alphabet) rfl ((Er (Rc Es (Rc Es (R1 (Et Es))))).imm _)) (r_acons (r_sub (r_var (d := Es.enc s5'.2) rfl (Es.imm _)) (r_var (d := Ei.enc k) rfl (Ei.imm _)) rfl drf_own drf_own (s_S h14')) (r_acons (r_sub (r_var (d := Es.enc s5'.2) rfl (Es.imm _)) (r_call (r_acons (r_var (d := Ei.enc k) rfl (Ei.imm _)) (r_acons r_c r_anil rfl) rfl) (drfs_cons drf_own (drfs_cons drf_own drfs_nil)) (f_add _ _)) rfl drf_own drf_own (s_S h16')) r_anil rfl) rfl) rfl) rfl (drfs_cons drf_own (drfs_cons drf_own (drfs_cons drf_own drfs_nil))) (ref_law_free h18') (.own (.own (.own .nil)))) drf_own (t_B _)))) h20') (fun _ => (k_last (k_bnd fun a21' h22' => k_bnd fun a23' h24' => k_bnd fun a25' h26' => k_bnd fun a27' h28' => k_bnd fun a29' h30' => (k_asgF Es.enc (r_call (r_acons (r_call (r_acons (r_call (r_acons (r_slice (r_var (d := Es.enc s5'.2) rfl (Es.imm _)) r_nop (r_part (r_var (d := Ei.enc k) rfl (Ei.imm _))) rfl drf_own (c_S _ _ _)) (r_acons (r_sub (r_var (d := Es.enc s5'.2) rfl (Es.imm _)) (r_call (r_acons (r_var (d := Ei.enc k) rfl (Ei.imm _)) (r_acons r_c r_anil rfl) rfl) (drfs_cons drf_own (drfs_cons drf_own drfs_nil)) (f_add _ _)) rfl drf_own drf_own (s_S h22')) r_anil rfl) rfl) (drfs_cons drf_own (drfs_cons drf_own drfs_nil)) (f_catS h24')) (r_acons (r_sub (r_var (d := Es.enc s5'.2) rfl (Es.imm _)) (r_var (d := Ei.enc k) rfl (Ei.imm _)) rfl drf_own drf_own (s_S h26')) r_anil rfl) rfl) (drfs_cons drf_own (drfs_cons drf_own drfs_nil)) (f_catS h28')) (r_acons (r_slice (r_var (d := Es.enc s5'.2) rfl (Es.imm _)) (r_part (r_call (r_acons (r_var (d := Ei.enc k) rfl (Ei.imm _)) (r_acons r_c r_anil rfl) rfl) (drfs_cons drf_own (drfs_cons drf_own drfs_nil)) (f_add _ _))) r_nop rfl drf_own (c_S _ _ _)) r_anil rfl) rfl) (drfs_cons drf_own (drfs_cons drf_own drfs_nil)) (f_catS h30')) (by exact Nat.le_of_ble_eq_true rfl) fun word => (k_nx (nx_le (by exact (.eq (.eq (.eq (.eq (.eq .nil)))))))))))) (fun _ => (k_nx (nx_le (by exact (.eq (.eq (.eq (.eq (.eq .nil))))))))) fun word => (k_nx (nx_le (by exact (.eq (.eq (.eq (.any (.any .nil)))))))))))))) fun s5' => (k_last (k_ret (r_var (d := Es.enc s5'.2) rfl (Es.imm _)) (rt_le (by exact (.eq (.eq (.any (.any (.any .nil)))))))))))) h rfl rfl
def T_left_behind (alphabet : (Str × Str × (List Str))) (word : Str) (other : Str) : (Option Str) → Out → Prop := Rt (Eo Es rfl).enc (fun (r : (Option Str)) => [.is ((Er (Rc Es (Rc Es (R1 (Et Es))))).enc alphabet), .is (Es.enc word), .any, .any])
theorem ref_left_behind {alphabet : (Str × Str × (List Str))} {word : Str} {other : Str} {r : (Option Str)} (h : n_left_behind alphabet word other = some r) : d_left_behind [(Er (Rc Es (Rc Es (R1 (Et Es))))).enc alphabet, Es.enc word, Es.enc other] = some ((Eo Es rfl).enc r, [some ((Er (Rc Es (Rc Es (R1 (Et Es))))).enc alphabet), some (Es.enc word), none]) :=
  def_ok (Ar := fun (r : (Option Str)) => [.is ((Er (Rc Es (Rc Es (R1 (Et Es))))).enc alphabet), .is (Es.enc word), .any, .any]) (show RB _ m_left_behind (n_left_behind alphabet word other) (T_left_behind alphabet word other) from
  (k_forR (j := some) (T_left_behind alphabet word other) (fun other' => [.is ((Er (Rc Es (Rc Es (R1 (Et Es))))).enc alphabet), .is (Es.enc word), .is (Es.enc other'), .any]) (i_S (r_var (d := Es.enc word) rfl (Es.imm _))) (by exact (.eq (.eq (.eq (.any .nil))))) rfl (fun _ => gd_nil) (fun t1' other' => (b_name (by exact Nat.le_of_ble_eq_true rfl))) (fun t1' other' => (k_bnd fun a2' h3' => (k_if (r_tb (r_call (r_acons (r_var (d := Es.enc t1') rfl (Es.imm _)) (r_acons (r_user (r_acons (r_var (d := (Er (Rc Es (Rc Es (R1 (Et Es))))).enc alphabet) rfl ((Er (Rc Es (Rc Es (R1 (Et Es))))).imm _)) (r_acons (r_var (d := Es.enc other') rfl (Es.imm _)) r_anil rfl) rfl) rfl (drfs_cons drf_own (drfs_cons drf_own drfs_nil)) (ref_firsts h3') (.own (.own .nil))) r_anil rfl) rfl) (drfs_cons drf_own (drfs_cons drf_own drfs_nil)) (f_ninS _ _))) (fun _ => (k_ret r_c (rs_rt (rt_le (by exact (.eq (.eq (.any (.any .nil))))))))) (fun _ => (k_nil (k_last (k_bnd fun a4' h5' => (k_asgF Es.enc (r_user (r_acons (r_var (d := Es.enc other') rfl (Es.imm _)) (r_acons (r_var (d := Es.enc t1') rfl (Es.imm _)) r_anil rfl) rfl) rfl (drfs_cons drf_own (drfs_cons drf_own drfs_nil)) (ref_without_first h5') (.own (.own .nil))) (by exact Nat.le_of_ble_eq_true rfl) fun other => (k_nx (rs_nx (by exact (.eq (.eq (.eq (.any .nil))))))))))))))) j_some fun other' => (k_last (k_ret (r_var (d := Es.enc other') rfl (Es.imm _)) (rt_le (by exact (.eq (.eq (.any (.any .nil)))))))))) h rfl rfl
def T_is_prefix (alphabet : (Str × Str × (List Str))) (word : Str) (other : Str) : Bool → Out → Prop := Rt Eb.enc (fun (r : Bool) => [.is ((Er (Rc Es (Rc Es (R1 (Et Es))))).enc alphabet), .is (Es.enc word), .is (Es.enc other)])
theorem ref_is_prefix {alphabet : (Str × Str × (List Str))} {word : Str} {other : Str} {r : Bool} (h : n_is_prefix alphabet word other = some r) : d_is_prefix [(Er (Rc Es (Rc Es (R1 (Et Es))))).enc alphabet, Es.enc word, Es.enc other] = some (Eb.enc r, [some ((Er (Rc Es (Rc Es (R1 (Et Es))))).enc alphabet), some (Es.enc word), some (Es.enc other)]) :=
  def_ok (Ar := fun (r : Bool) => [.is ((Er (Rc Es (Rc Es (R1 (Et Es))))).enc alphabet), .is (Es.enc word), .is (Es.enc other)]) (show RB _ m_is_prefix (n_is_prefix alphabet word other) (T_is_prefix alphabet word other) from
  (k_last (k_bnd fun a1' h2' => (k_ret (r_call (r_acons (r_user (r_acons (r_var (d := (Er (Rc Es (Rc Es (R1 (Et Es))))).enc alphabet) rfl ((Er (Rc Es (Rc Es (R1 (Et Es))))).imm _)) (r_acons (r_var (d := Es.enc word) rfl (Es.imm _)) (r_acons (r_var (d := Es.enc other) rfl (Es.imm _)) r_anil rfl) rfl) rfl) rfl (drfs_cons drf_own (drfs_cons drf_own (drfs_cons drf_own drfs_nil))) (ref_left_behind h2') (.own (.own (.own .nil)))) (r_acons r_c r_anil rfl) rfl) (drfs_cons drf_own (drfs_cons drf_own drfs_nil)) (f_isNN Es rfl a1')) (rt_le (by exact (.eq (.eq (.eq .nil))))))))) h rfl rfl
def T_rest (alphabet : (Str × Str × (List Str))) (word : Str) (other : Str) : (Option Str) → Out → Prop := Rt (Eo Es rfl).enc (fun (r : (Option Str)) => [.is ((Er (Rc Es (Rc Es (R1 (Et Es))))).enc alphabet), .is (Es.enc word), .is (Es.enc other), .any])
theorem ref_rest {alphabet : (Str × Str × (List Str))} {word : Str} {other : Str} {r : (Option Str)} (h : n_rest alphabet word other = some r) : d_rest [(Er (Rc Es (Rc Es (R1 (Et Es))))).enc alphabet, Es.enc word, Es.enc other] = some ((Eo Es rfl).enc r, [some ((Er (Rc Es (Rc Es (R1 (Et Es))))).enc alphabet), some (Es.enc word), some (Es.enc other)]) :=
  def_ok (Ar := fun (r : (Option Str)) => [.is ((Er (Rc Es (Rc Es (R1 (Et Es))))).enc alphabet), .is (Es.enc word), .is (Es.enc other), .any]) (show RB _ m_rest (n_rest alphabet word other) (T_rest alphabet word other) from
  (k_bnd fun a1' h2' => (k_asgF (Eo Es rfl).enc (r_user (r_acons (r_var (d := (Er (Rc Es (Rc Es (R1 (Et Es))))).enc alphabet) rfl ((Er (Rc Es (Rc Es (R1 (Et Es))))).imm _)) (r_acons (r_var (d := Es.enc word) rfl (Es.imm _)) (r_acons (r_var (d := Es.enc other) rfl (Es.imm _)) r_anil rfl) rfl) rfl) rfl (drfs_cons drf_own (drfs_cons drf_own (drfs_cons drf_own drfs_nil))) (ref_left_behind h2') (.own (.own (.own .nil)))) (by exact Nat.le_of_ble_eq_true rfl) fun left => (k_last (k_bnd fun a11' h12' => (k_ret (o_ife (ex := (Eo Es rfl).enc) (r_tb (r_call (r_acons (r_var (d := (Eo Es rfl).enc left) rfl ((Eo Es rfl).imm _)) (r_acons r_c r_anil rfl) rfl) (drfs_cons drf_own (drfs_cons drf_own drfs_nil)) (f_isN Es rfl left))) (fun _ => (o_some (ex := (Eo Es rfl).enc) (v := (none : (Option Str))) r_c)) (fun _ => (o_bnd fun a8' h7' => o_bnd fun a9' h10' => o_some (ex := (Eo Es rfl).enc) (v := (some a9')) (r_user (r_acons (r_var (d := (Er (Rc Es (Rc Es (R1 (Et Es))))).enc alphabet) rfl ((Er (Rc Es (Rc Es (R1 (Et Es))))).imm _)) (r_acons (co_opt h7' (r_var (d := (Eo Es rfl).enc left) rfl ((Eo Es rfl).imm _))) r_anil rfl) rfl) rfl (drfs_cons drf_own (drfs_cons drf_own drfs_nil)) (ref_least h10') (.own (.own .nil))))) h12') (rt_le (by exact (.eq (.eq (.eq (.any .nil)))))))))))) h rfl rfl
def T_law_rest (alphabet : (Str × Str × (List Str))) (word : Str) (other : Str) : (Option Str) → Out → Prop := Rt (Eo Es rfl).enc (fun (r : (Option Str)) => [.is ((Er (Rc Es (Rc Es (R1 (Et Es))))).enc alphabet), .is (Es.enc word), .any, .any])
theorem ref_law_rest {alphabet : (Str × Str × (List Str))} {word : Str} {other : Str} {r : (Option Str)} (h : n_law_rest alphabet word other = some r) : d_law_rest [(Er (Rc Es (Rc Es (R1 (Et Es))))).enc alphabet, Es.enc word, Es.enc other] = some ((Eo Es rfl).enc r, [some ((Er (Rc Es (Rc Es (R1 (Et Es))))).enc alphabet), some (Es.enc word), none]) :=
  def_ok (Ar := fun (r : (Option Str)) => [.is ((Er (Rc Es (Rc Es (R1 (Et Es))))).enc alphabet), .is (Es.enc word), .any, .any]) (show RB _ m_law_rest (n_law_rest alphabet word other) (T_law_rest alphabet word other) from
  (k_forR (j := some) (T_law_rest alphabet word other) (fun other' => [.is ((Er (Rc Es (Rc Es (R1 (Et Es))))).enc alphabet), .is (Es.enc word), .is (Es.enc other'), .any]) (i_S (r_var (d := Es.enc word) rfl (Es.imm _))) (by exact (.eq (.eq (.eq (.any .nil))))) rfl (fun _ => gd_nil) (fun t1' other' => (b_name (by exact Nat.le_of_ble_eq_true rfl))) (fun t1' other' => (k_bnd fun a2' h3' => (k_if (r_tb (r_call (r_acons (r_var (d := Es.enc t1') rfl (Es.imm _)) (r_acons (r_user (r_acons (r_var (d := (Er (Rc Es (Rc Es (R1 (Et Es))))).enc alphabet) rfl ((Er (Rc Es (Rc Es (R1 (Et Es))))).imm _)) (r_acons (r_var (d := Es.enc other') rfl (Es.imm _)) r_anil rfl) rfl) rfl (drfs_cons drf_own (drfs_cons drf_own drfs_nil)) (ref_law_leaders h3') (.own (.own .nil))) r_anil rfl) rfl) (drfs_cons drf_own (drfs_cons drf_own drfs_nil)) (f_ninLB Es t1' a2' rfl))) (fun _ => (k_ret r_c (rs_rt (rt_le (by exact (.eq (.eq (.any (.any .nil))))))))) (fun _ => (k_nil (k_last (k_bnd fun a4' h5' => (k_asgF Es.enc (r_user (r_acons (r_var (d := Es.enc other') rfl (Es.imm _)) (r_acons (r_var (d := Es.enc t1') rfl (Es.imm _)) r_anil rfl) rfl) rfl (drfs_cons drf_own (drfs_cons drf_own drfs_nil)) (ref_law_without h5') (.own (.own .nil))) (by exact Nat.le_of_ble_eq_true rfl) fun other => (k_nx (rs_nx (by exact (.eq (.eq (.eq (.any .nil))))))))))))))) j_some fun other' => (k_last (k_bnd fun a6' h7' => (k_ret (r_user (r_acons (r_var (d := (Er (Rc Es (Rc Es (R1 (Et Es))))).enc alphabet) rfl ((Er (Rc Es (Rc Es (R1 (Et Es))))).imm _)) (r_acons (r_var (d := Es.enc other') rfl (Es.imm _)) r_anil rfl) rfl) rfl (drfs_cons drf_own (drfs_cons drf_own drfs_nil)) (ref_law_least h7') (.own (.own .nil))) (rt_le (by exact (.eq (.eq (.any (.any .nil))))))))))) h rfl rfl
end P30


set_option Elab.async false
set_option linter.all false
set_option maxRecDepth 100000
set_option maxHeartbeats 20000000
set_option synthInstance.maxHeartbeats 400000
set_option synthInstance.maxSize 4000
namespace P30
open PySem PySem.Spec PyProof.Rows L2 Z Y
def T_law (p0' : Unit) : Bool → Out → Prop := Rt D.bl (fun _ => [.any, .any, .any, .any, .any, .any, .any, .any, .any, .any, .any])
theorem ref_law (box : Box) : RB [.any, .is (boxE box), .any, .any, .any, .any, .any, .any, .any, .any, .any] r_law (n_law box) (T_law ()) :=
  (k_bnd fun a1' h2' => (k_asgF (Er (Rc Es (Rc Es (R1 (Et Es))))).enc (r_user (r_acons (r_varM (d := boxE box) rfl rfl) (r_acons r_c r_anil rfl) rfl) (by simp [rootsOk, roots]) (drfs_cons (drf_at rfl) (drfs_cons drf_own drfs_nil)) (ref_law_alphabet h2') (.pth (l := []) rfl (.own .nil) rfl)) (by exact Nat.le_of_ble_eq_true rfl) fun alphabet => (k_bnd fun a3' h4' => (k_asgF Es.enc (r_user (r_acons (r_varM (d := boxE a1'.2) rfl rfl) (r_acons (r_var (d := (Er (Rc Es (Rc Es (R1 (Et Es))))).enc alphabet) rfl ((Er (Rc Es (Rc Es (R1 (Et Es))))).imm _)) (r_acons r_c r_anil rfl) rfl) rfl) (by simp [rootsOk, roots]) (drfs_cons (drf_at rfl) (drfs_cons drf_own (drfs_cons drf_own drfs_nil))) (ref_law_word h4') (.pth (l := []) rfl (.own (.own .nil)) rfl)) (by exact Nat.le_of_ble_eq_true rfl) fun word => (k_asgF (Dx Es Es) (r_dnew Es Es) (by exact Nat.le_of_ble_eq_true rfl) fun beginnings => (k_bnd fun a5' h6' => (k_forN (fun beginnings' => [.any, .is (boxE a3'.2), .is ((Er (Rc Es (Rc Es (R1 (Et Es))))).enc alphabet), .is (Es.enc word), .is ((Dx Es Es) beginnings'), .any, .any, .any, .any, .any, .any]) (i_L Es (r_user (r_acons (r_var (d := (Er (Rc Es (Rc Es (R1 (Et Es))))).enc alphabet) rfl ((Er (Rc Es (Rc Es (R1 (Et Es))))).imm _)) (r_acons (r_var (d := Es.enc word) rfl (Es.imm _)) r_anil rfl) rfl) rfl (drfs_cons drf_own (drfs_cons drf_own drfs_nil)) (ref_law_class h6') (.own (.own .nil)))) (by exact (.any (.eq (.eq (.eq (.eq (.any (.any (.any (.any (.any (.any .nil)))))))))))) rfl (fun _ => gd_nil) (fun t7' beginnings' => (b_name (by exact Nat.le_of_ble_eq_true rfl))) (fun t7' beginnings' => (k_last (k_bnd fun r8' h9' => (k_forN (fun beginnings' => [.any, .is (boxE a3'.2), .is ((Er (Rc Es (Rc Es (R1 (Et Es))))).enc alphabet), .is (Es.enc word), .is ((Dx Es Es) beginnings'), .is (Es.enc t7'), .any, .any, .any, .any, .any]) (i_rng1 (r_acons (r_call (r_acons (r_call (r_acons (r_var (d := Es.enc t7') rfl (Es.imm _)) r_anil rfl) (drfs_cons drf_own drfs_nil) (f_lenS _)) (r_acons r_c r_anil rfl) rfl) (drfs_cons drf_own (drfs_cons drf_own drfs_nil)) (f_add _ _)) r_anil rfl) h9') (by exact (.any (.eq (.eq (.eq (.eq (.eq (.any (.any (.any (.any (.any .nil)))))))))))) rfl (fun _ => gd_nil) (fun t10' beginnings' => (b_name (by exact Nat.le_of_ble_eq_true rfl))) (fun t10' beginnings' => (k_last (k_bnd fun a11' h12' => k_bnd fun a13' h14' => (k_dset (E := Es) (F := Es) famS (r_user (r_acons (r_var (d := (Er (Rc Es (Rc Es (R1 (Et Es))))).enc alphabet) rfl ((Er (Rc Es (Rc Es (R1 (Et Es))))).imm _)) (r_acons (r_slice (r_var (d := Es.enc t7') rfl (Es.imm _)) (r_part (r_var (d := Ei.enc t10') rfl (Ei.imm _))) r_nop rfl drf_own (c_S _ _ _)) r_anil rfl) rfl) rfl (drfs_cons drf_own (drfs_cons drf_own drfs_nil)) (ref_law_least h12') (.own (.own .nil))) (r_varM (d := (Dx Es Es) beginnings') rfl rfl) (r_user (r_acons (r_var (d := (Er (Rc Es (Rc Es (R1 (Et Es))))).enc alphabet) rfl ((Er (Rc Es (Rc Es (R1 (Et Es))))).imm _)) (r_acons (r_slice (r_var (d := Es.enc t7') rfl (Es.imm _)) r_nop (r_part (r_var (d := Ei.enc t10') rfl (Ei.imm _))) rfl drf_own (c_S _ _ _)) r_anil rfl) rfl) rfl (drfs_cons drf_own (drfs_cons drf_own drfs_nil)) (ref_law_least h14') (.own (.own .nil))) rfl fun beginnings15' h16' => (k_nx (nx_le (by exact (.any (.eq (.eq (.eq (.eq (.eq (.any (.any (.any (.any (.any .nil)))))))))))))))))) fun beginnings' => (k_nx (nx_le (by exact (.any (.eq (.eq (.eq (.eq (.any (.any (.any (.any (.any (.any .nil)))))))))))))))))) fun beginnings' => (k_bnd fun a17' h18' => (k_asgF (Lx Es) (r_sortK (E := Es) (G := (Er (Rc Ei (R1 Es)) rfl)) (ok := okLS) (kf := (fun z => ((Str.length z : Int), z))) (r_call (r_acons (r_varM (d := (Dx Es Es) beginnings') rfl rfl) r_anil rfl) (drfs_cons (drf_at rfl) drfs_nil) (f_dlist Es Es beginnings')) drf_own (fun _ _ => kl_S) h18' rfl rfl er_tupP) (by exact Nat.le_of_ble_eq_true rfl) fun due => (k_bnd fun a19' h20' => k_bnd fun a21' h22' => (k_if (r_not (r_tv (r_user (r_acons (r_user (r_acons (r_var (d := (Er (Rc Es (Rc Es (R1 (Et Es))))).enc alphabet) rfl ((Er (Rc Es (Rc Es (R1 (Et Es))))).imm _)) (r_acons (r_var (d := Es.enc word) rfl (Es.imm _)) r_anil rfl) rfl) rfl (drfs_cons drf_own (drfs_cons drf_own drfs_nil)) (ref_prefixes h20') (.own (.own .nil))) (r_acons (r_call (r_acons (r_varM (d := (Lx Es) due) rfl rfl) r_anil rfl) (drfs_cons (drf_at rfl) drfs_nil) (f_tuple Es due)) r_anil rfl) rfl) rfl (drfs_cons drf_own (drfs_cons drf_own drfs_nil)) (f_same (Et Es) h22' rfl) (.own (.own .nil))) drf_own (t_B _))) (fun _ => (k_ret r_c (rt_le (by exact (.any (.any (.any (.any (.any (.any (.any (.any (.any (.any (.any .nil))))))))))))))) (fun _ => (k_nil (k_bnd fun r23' h24' => k_bnd fun a29' h30' => (k_asgF (Lx Es) (r_lcS (g := Es.enc) (B1 := (fun t25' s26' => [.any, .is (boxE s26'), .is ((Er (Rc Es (Rc Es (R1 (Et Es))))).enc alphabet), .is (Es.enc word), .is ((Dx Es Es) beginnings'), .any, .is (Ei.enc t25'), .is ((Lx Es) due), .any, .any, .any])) (fun s26' => [.any, .is (boxE s26'), .is ((Er (Rc Es (Rc Es (R1 (Et Es))))).enc alphabet), .is (Es.enc word), .is ((Dx Es Es) beginnings'), .any, .any, .is ((Lx Es) due), .any, .any, .any]) (i_rng1 (r_acons r_c r_anil rfl) h24') rfl h30' (fun _ => gd_nil) (fun t25' s26' => (b_name (by exact Nat.le_of_ble_eq_true rfl))) (fun t25' s26' y1 y2 hh => by cases hh; exact r_yes) (fun t25' s26' y1 y2 hh => by obtain ⟨a27', h28', hh⟩ := bnd_eq hh; cases hh; exact (r_user (r_acons (r_varM (d := boxE s26') rfl rfl) (r_acons (r_var (d := (Er (Rc Es (Rc Es (R1 (Et Es))))).enc alphabet) rfl ((Er (Rc Es (Rc Es (R1 (Et Es))))).imm _)) (r_acons r_c r_anil rfl) rfl) rfl) (by simp [rootsOk, roots]) (drfs_cons (drf_at rfl) (drfs_cons drf_own (drfs_cons drf_own drfs_nil))) (ref_law_word h28') (.pth (l := []) rfl (.own (.own .nil)) rfl))) (fun _ _ => Le.refl _)) (by exact Nat.le_of_ble_eq_true rfl) fun tried => (k_bnd fun r31' h32' => (k_forN (fun s33' => [.any, .is (boxE s33'.1), .is ((Er (Rc Es (Rc Es (R1 (Et Es))))).enc alphabet), .is (Es.enc word), .is ((Dx Es Es) beginnings'), .any, .any, .is ((Lx Es) due), .is ((Lx Es) s33'.2), .any, .any]) (i_rng1 (r_acons r_c r_anil rfl) h32') (by exact (.any (.eq (.eq (.eq (.eq (.any (.any (.eq (.eq (.any (.any .nil)))))))))))) rfl (fun _ => gd_nil) (fun t34' s33' => (b_name (by exact Nat.le_of_ble_eq_true rfl))) (fun t34' s33' => (k_last (k_bnd fun v41' h42' => k_bnd fun a43' h44' => k_bnd fun a45' h46' => k_bnd fun a47' h48' => k_bnd fun tried49' h50' => (k_expr (r_push (E := Es) h50' (r_varM (d := (Lx Es) s33'.2) rfl rfl) rfl (r_user (r_acons (r_varM (d := boxE s33'.1) rfl rfl) (r_acons (r_var (d := (Er (Rc Es (Rc Es (R1 (Et Es))))).enc alphabet) rfl ((Er (Rc Es (Rc Es (R1 (Et Es))))).imm _)) (r_acons (r_sub (r_varM (d := (Lx Es) due) rfl rfl) (r_call (r_acons (r_call (r_acons (r_draw rfl r_c h42') r_anil rfl) (drfs_cons drf_own drfs_nil) (f_int _)) (r_acons (r_call (r_acons (r_varM (d := (Lx Es) due) rfl rfl) r_anil rfl) (drfs_cons (drf_at rfl) drfs_nil) (f_lenL Es due)) r_anil rfl) rfl) (drfs_cons drf_own (drfs_cons drf_own drfs_nil)) (f_mod h44')) rfl (drf_at rfl) drf_own (s_L Es h46')) r_anil rfl) rfl) rfl) (by simp [rootsOk, roots]) (drfs_cons (drf_at rfl) (drfs_cons drf_own (drfs_cons drf_own drfs_nil))) (ref_law_mixed h48') (.pth (l := []) rfl (.own (.own .nil)) rfl)) rfl) (k_nx (nx_le (by exact (.any (.eq (.eq (.eq (.eq (.any (.any (.eq (.eq (.any (.any .nil)))))))))))))))))) fun s33' => (k_forR (j := some) (T_law ()) (fun s51' => [.any, .is (boxE s33'.1), .is ((Er (Rc Es (Rc Es (R1 (Et Es))))).enc alphabet), .is (Es.enc word), .is ((Dx Es Es) beginnings'), .any, .any, .is ((Lx Es) due), .is ((Lx Es) s33'.2), .any, .any]) (i_V Es (r_varM (d := (Lx Es) s33'.2) rfl rfl) rfl) (by exact (.any (.eq (.eq (.eq (.eq (.any (.any (.eq (.eq (.any (.any .nil)))))))))))) rfl (fun _ => (gd_cons rfl gd_nil)) (fun t52' s51' => (b_name (by exact Nat.le_of_ble_eq_true rfl))) (fun t52' s51' => (k_bnd fun a53' h54' => (k_asgF Es.enc (r_user (r_acons (r_var (d := (Er (Rc Es (Rc Es (R1 (Et Es))))).enc alphabet) rfl ((Er (Rc Es (Rc Es (R1 (Et Es))))).imm _)) (r_acons (r_var (d := Es.enc t52') rfl (Es.imm _)) r_anil rfl) rfl) rfl (drfs_cons drf_own (drfs_cons drf_own drfs_nil)) (ref_law_least h54') (.own (.own .nil))) (by exact Nat.le_of_ble_eq_true rfl) fun found => (k_bnd fun a55' h56' => k_bnd fun a57' h58' => (k_if (r_not (r_tv (r_user (r_acons (r_user (r_acons (r_var (d := (Er (Rc Es (Rc Es (R1 (Et Es))))).enc alphabet) rfl ((Er (Rc Es (Rc Es (R1 (Et Es))))).imm _)) (r_acons (r_var (d := Es.enc t52') rfl (Es.imm _)) (r_acons (r_var (d := Es.enc word) rfl (Es.imm _)) r_anil rfl) rfl) rfl) rfl (drfs_cons drf_own (drfs_cons drf_own (drfs_cons drf_own drfs_nil))) (ref_is_prefix h56') (.own (.own (.own .nil)))) (r_acons (r_call (r_acons (r_var (d := Es.enc found) rfl (Es.imm _)) (r_acons (r_varM (d := (Dx Es Es) beginnings') rfl rfl) r_anil rfl) rfl) (drfs_cons drf_own (drfs_cons (drf_at rfl) drfs_nil)) (f_din (E := Es) Es famS beginnings' found)) r_anil rfl) rfl) rfl (drfs_cons drf_own (drfs_cons drf_own drfs_nil)) (f_same Eb h58' rfl) (.own (.own .nil))) drf_own (t_B _))) (fun _ => (k_ret r_c (rs_rt (rt_le (by exact (.any (.any (.any (.any (.any (.any (.any (.any (.any (.any (.any .nil)))))))))))))))) (fun _ => (k_nil (k_last (k_bnd fun a59' h60' => k_bnd fun a61' h62' => (k_if (r_not (r_tv (r_user (r_acons (r_user (r_acons (r_var (d := (Er (Rc Es (Rc Es (R1 (Et Es))))).enc alphabet) rfl ((Er (Rc Es (Rc Es (R1 (Et Es))))).imm _)) (r_acons (r_var (d := Es.enc t52') rfl (Es.imm _)) (r_acons (r_var (d := Es.enc word) rfl (Es.imm _)) r_anil rfl) rfl) rfl) rfl (drfs_cons drf_own (drfs_cons drf_own (drfs_cons drf_own drfs_nil))) (ref_rest h60') (.own (.own (.own .nil)))) (r_acons (r_dgetm (E := Es) (F := Es) famS (hn := rfl) rfl (r_var (d := Es.enc found) rfl (Es.imm _)) rfl) r_anil rfl) rfl) rfl (drfs_cons drf_own (drfs_cons drf_own drfs_nil)) (f_same (Eo Es rfl) h62' rfl) (.own (.own .nil))) drf_own (t_B _))) (fun _ => (k_ret r_c (rs_rt (rt_le (by exact (.any (.any (.any (.any (.any (.any (.any (.any (.any (.any (.any .nil)))))))))))))))) (fun _ => (k_nil (k_nx (rs_nx (by exact (.any (.eq (.eq (.eq (.eq (.any (.any (.eq (.eq (.any (.any .nil)))))))))))))))))))))))))) j_some fun s51' => (k_bnd fun a63' h64' => (k_asgF (Er (Rc Es (Rc Es (R1 (Et Es))))).enc (r_user (r_acons (r_varM (d := boxE s33'.1) rfl rfl) (r_acons r_c r_anil rfl) rfl) (by simp [rootsOk, roots]) (drfs_cons (drf_at rfl) (drfs_cons drf_own drfs_nil)) (ref_law_alphabet h64') (.pth (l := []) rfl (.own .nil) rfl)) (by exact Nat.le_of_ble_eq_true rfl) fun alphabet => (k_bnd fun a65' h66' => (k_asgF Es.enc (r_user (r_acons (r_varM (d := boxE a63'.2) rfl rfl) (r_acons (r_var (d := (Er (Rc Es (Rc Es (R1 (Et Es))))).enc alphabet) rfl ((Er (Rc Es (Rc Es (R1 (Et Es))))).imm _)) (r_acons r_c r_anil rfl) rfl) rfl) (by simp [rootsOk, roots]) (drfs_cons (drf_at rfl) (drfs_cons drf_own (drfs_cons drf_own drfs_nil))) (ref_law_word h66') (.pth (l := []) rfl (.own (.own .nil)) rfl)) (by exact Nat.le_of_ble_eq_true rfl) fun word => (k_bnd fun a67' h68' => k_bnd fun v69' h70' => k_bnd fun a71' h72' => (k_forR (j := some) (T_law ()) (fun box_' => [.any, .is (boxE box_'), .is ((Er (Rc Es (Rc Es (R1 (Et Es))))).enc alphabet), .is (Es.enc word), .is ((Dx Es Es) beginnings'), .any, .any, .any, .is ((Lx Es) s33'.2), .any, .any]) (i_L Es (r_lst (r_acons (r_slice (r_user (r_acons (r_varM (d := boxE a65'.2) rfl rfl) (r_acons (r_var (d := (Er (Rc Es (Rc Es (R1 (Et Es))))).enc alphabet) rfl ((Er (Rc Es (Rc Es (R1 (Et Es))))).imm _)) (r_acons (r_var (d := Es.enc word) rfl (Es.imm _)) r_anil rfl) rfl) rfl) (by simp [rootsOk, roots]) (drfs_cons (drf_at rfl) (drfs_cons drf_own (drfs_cons drf_own drfs_nil))) (ref_law_mixed h68') (.pth (l := []) rfl (.own (.own .nil)) rfl)) r_nop (r_part (r_draw rfl r_c h70')) rfl drf_own (c_S _ _ _)) (r_acons (r_user (r_acons (r_varM (d := boxE v69'.2) rfl rfl) (r_acons (r_var (d := (Er (Rc Es (Rc Es (R1 (Et Es))))).enc alphabet) rfl ((Er (Rc Es (Rc Es (R1 (Et Es))))).imm _)) (r_acons r_c r_anil rfl) rfl) rfl) (by simp [rootsOk, roots]) (drfs_cons (drf_at rfl) (drfs_cons drf_own (drfs_cons drf_own drfs_nil))) (ref_law_word h72') (.pth (l := []) rfl (.own (.own .nil)) rfl)) r_anil rfl) rfl) rfl (Nat.le_of_ble_eq_true rfl))) (by exact (.any (.eq (.eq (.eq (.eq (.any (.any (.any (.eq (.any (.any .nil)))))))))))) rfl (fun _ => gd_nil) (fun t73' box_' => (b_name (by exact Nat.le_of_ble_eq_true rfl))) (fun t73' box_' => (k_bnd fun a74' h75' => (k_asgF (Eo Es rfl).enc (r_user (r_acons (r_var (d := (Er (Rc Es (Rc Es (R1 (Et Es))))).enc alphabet) rfl ((Er (Rc Es (Rc Es (R1 (Et Es))))).imm _)) (r_acons (r_var (d := Es.enc t73') rfl (Es.imm _)) (r_acons (r_var (d := Es.enc word) rfl (Es.imm _)) r_anil rfl) rfl) rfl) rfl (drfs_cons drf_own (drfs_cons drf_own (drfs_cons drf_own drfs_nil))) (ref_law_rest h75') (.own (.own (.own .nil)))) (by exact Nat.le_of_ble_eq_true rfl) fun due => (k_bnd fun a76' h77' => k_bnd fun a78' h79' => (k_if (r_not (r_tv (r_user (r_acons (r_user (r_acons (r_var (d := (Er (Rc Es (Rc Es (R1 (Et Es))))).enc alphabet) rfl ((Er (Rc Es (Rc Es (R1 (Et Es))))).imm _)) (r_acons (r_var (d := Es.enc t73') rfl (Es.imm _)) (r_acons (r_var (d := Es.enc word) rfl (Es.imm _)) r_anil rfl) rfl) rfl) rfl (drfs_cons drf_own (drfs_cons drf_own (drfs_cons drf_own drfs_nil))) (ref_is_prefix h77') (.own (.own (.own .nil)))) (r_acons (r_call (r_acons (r_var (d := (Eo Es rfl).enc due) rfl ((Eo Es rfl).imm _)) (r_acons r_c r_anil rfl) rfl) (drfs_cons drf_own (drfs_cons drf_own drfs_nil)) (f_isNN Es rfl due)) r_anil rfl) rfl) rfl (drfs_cons drf_own (drfs_cons drf_own drfs_nil)) (f_same Eb h79' rfl) (.own (.own .nil))) drf_own (t_B _))) (fun _ => (k_ret r_c (rs_rt (rt_le (by exact (.any (.any (.any (.any (.any (.any (.any (.any (.any (.any (.any .nil)))))))))))))))) (fun _ => (k_nil (k_last (k_bnd fun a80' h81' => k_bnd fun a82' h83' => (k_if (r_not (r_tv (r_user (r_acons (r_user (r_acons (r_var (d := (Er (Rc Es (Rc Es (R1 (Et Es))))).enc alphabet) rfl ((Er (Rc Es (Rc Es (R1 (Et Es))))).imm _)) (r_acons (r_var (d := Es.enc t73') rfl (Es.imm _)) (r_acons (r_var (d := Es.enc word) rfl (Es.imm _)) r_anil rfl) rfl) rfl) rfl (drfs_cons drf_own (drfs_cons drf_own (drfs_cons drf_own drfs_nil))) (ref_rest h81') (.own (.own (.own .nil)))) (r_acons (r_var (d := (Eo Es rfl).enc due) rfl ((Eo Es rfl).imm _)) r_anil rfl) rfl) rfl (drfs_cons drf_own (drfs_cons drf_own drfs_nil)) (f_same (Eo Es rfl) h83' rfl) (.own (.own .nil))) drf_own (t_B _))) (fun _ => (k_ret r_c (rs_rt (rt_le (by exact (.any (.any (.any (.any (.any (.any (.any (.any (.any (.any (.any .nil)))))))))))))))) (fun _ => (k_nil (k_nx (rs_nx (by exact (.any (.eq (.eq (.eq (.eq (.any (.any (.any (.eq (.any (.any .nil)))))))))))))))))))))))))) j_some fun box_' => (k_last (k_ret r_c (rt_le (by exact (.any (.any (.any (.any (.any (.any (.any (.any (.any (.any (.any .nil)))))))))))))))))))))))))))))))))))))))
theorem law_true (hb : ∀ box : Box, n_law box = some true) (ns : List Int) (c : List D → D) (hc : c = .lst ∨ c = .frz) : ∃ fs, d_law [c (ns.map .int)] = some (.bl true, fs) := by
  obtain ⟨b, e⟩ := box_step hc ns
  obtain ⟨out, e2, δ, rfl, a⟩ := ref_law b true (hb b) (some (c (ns.map .int)) :: some (boxE b) :: List.replicate 9 none) ⟨rfl, fun i d h => by
    match i, h with
    | 0, h => cases h
    | 1, h => cases h; rfl
    | i + 2, h =>
      have : ([.any, .any, .any, .any, .any, .any, .any, .any, .any] : List Sl)[i]? = some (.is d) := h
      have h2 := List.mem_of_getElem? this
      simp at h2⟩
  have e3 := (e r_law (List.replicate 9 none)).trans e2
  exact ⟨_, by simp only [d_law, dFn]; exact (show _ = _ from by rw [show m_law (env0 11 1 [c (ns.map .int)]) = some (Out.rt (.bl true) δ) from e3]; rfl)⟩
end P30


set_option Elab.async false
set_option linter.all false
set_option maxRecDepth 100000
set_option maxHeartbeats 20000000
set_option synthInstance.maxHeartbeats 400000
set_option synthInstance.maxSize 4000
namespace P30
open PySem PySem.Spec PyProof.Rows L2 Z Y
/-! the head -/
def tf : List He.Defn := [("independent", none), ("free", none), ("firsts", none), ("without_first", none), ("least", none), ("left_behind", none), ("is_prefix", none), ("rest", none), ("prefixes", none), ("_law_cell", none), ("_law_digits", none), ("_law_draw", none), ("_law_same", none), ("_law_box", none), ("_law_alphabet", none), ("_law_word", none), ("_law_free", none), ("_law_leaders", none), ("_law_without", none), ("_law_least", none), ("_law_rest", none), ("_law_class", none), ("_law_mixed", none), ("law", none)]
def fn : List He.DefD := [dOf "independent" (top 1), dOf "free" (top 2), dOf "firsts" (top 4), dOf "without_first" (top 6), dOf "least" (top 7), dOf "left_behind" (top 9), dOf "is_prefix" (top 10), dOf "rest" (top 11), dOf "prefixes" (top 12), dOf "_law_cell" (top 14), dOf "_law_digits" (top 15), dOf "_law_draw" (top 16), dOf "_law_same" (top 17), dOf "_law_box" (top 18), dOf "_law_alphabet" (top 19), dOf "_law_word" (top 20), dOf "_law_free" (top 21), dOf "_law_leaders" (top 22), dOf "_law_without" (top 23), dOf "_law_least" (top 24), dOf "_law_rest" (top 25), dOf "_law_class" (top 26), dOf "_law_mixed" (top 27), dOf "law" (top 28)]
def fa : List He.Fa := [.glo "independent", .glo "free", .glo "firsts", .glo "without_first", .glo "least", .glo "left_behind", .glo "is_prefix", .glo "rest", .glo "prefixes", .glo "_law_cell", .glo "_law_digits", .glo "_law_draw", .glo "_law_same", .glo "_law_box", .glo "_law_alphabet", .glo "_law_word", .glo "_law_free", .glo "_law_leaders", .glo "_law_without", .glo "_law_least", .glo "_law_rest", .glo "_law_class", .glo "_law_mixed", .glo "law", .free "range", .free "len", .free "int", .free "tuple", .free "sorted", .free "set", .free "list", .free "enumerate", .free "all", .free "min", .free "max", .free "isinstance", .free "bool", .free "str"]
abbrev RR : PySem.W.OpenRow := PySem.W.OpenLaw.row PySem.Challenge.rw_tracehouse_k30_prefixes_and_rests
abbrev hk : PySem.W.Hook := He.hookX 5 fa fn [] tf (exTabs tf)
def ob (s : PySem.W.SharedT) : He.AlX := He.obsX 5 fa fn [] tf (exTabs tf) (HandSHeadRun.getT s)
theorem ob_eq (s : PySem.W.SharedT) : ob s = hk.obs s.abs := He.obsX_eq (HandSHeadRun.getT_eq s)
def names : List Str := ["independent", "free", "firsts", "without_first", "least", "left_behind", "is_prefix", "rest", "prefixes", "_law_cell", "_law_digits", "_law_draw", "_law_same", "_law_box", "_law_alphabet", "_law_word", "_law_free", "_law_leaders", "_law_without", "_law_least", "_law_rest", "_law_class", "_law_mixed"]
set_option maxHeartbeats 0 in
theorem run (w : World) : HandSHeadRun.RunEq RR (PySem.W.view RR.prog [28]) hk ob 2400 names w := by
  intro os
  kernel_rfl
theorem facts {w : World} {K : PySem.W.Frag} {h : Heap} {mg : Str → Option Value} {f : Addr} (X : K.In h) (G : h.Ns mainGlobals mg) (hfa : mg ("law" : Str) = some (.ref f)) (c : He.SaysX fa fn [] tf (exTabs tf) w h K)
    (hm : ∀ (ns : List Int) (c : List D → D), c = .lst ∨ c = .frz → ns.length ≤ 63 → (∀ z ∈ ns, Builtin.Int.intBits z ≤ 1048576) → ∃ fs, d_law [c (ns.map .int)] = some (.bl true, fs)) :
    LamX.LawAtS PySem.Challenge.rw_tracehouse_k30_prefixes_and_rests w K CX0 9 63 "script" mg f h := by
  obtain ⟨g_independent, D_independent, b_independent⟩ := Def.of X G c (x := "independent") (st := top 1) (ps := ["alphabet", "x", "y"]) (List.mem_of_getElem? (i := 0) rfl) (List.mem_of_getElem? (i := 0) rfl) (List.mem_of_getElem? (i := 0) rfl) (fun _ _ _ _ _ _ us hl => match us, hl with | [_, _, _], _ => rfl)
  obtain ⟨g_free, D_free, b_free⟩ := Def.of X G c (x := "free") (st := top 2) (ps := ["alphabet", "word", "other"]) (List.mem_of_getElem? (i := 1) rfl) (List.mem_of_getElem? (i := 1) rfl) (List.mem_of_getElem? (i := 1) rfl) (fun _ _ _ _ _ _ us hl => match us, hl with | [_, _, _], _ => rfl)
  obtain ⟨g_firsts, D_firsts, b_firsts⟩ := Def.of X G c (x := "firsts") (st := top 4) (ps := ["alphabet", "word"]) (List.mem_of_getElem? (i := 2) rfl) (List.mem_of_getElem? (i := 2) rfl) (List.mem_of_getElem? (i := 2) rfl) (fun _ _ _ _ _ _ us hl => match us, hl with | [_, _], _ => rfl)
  obtain ⟨g_without_first, D_without_first, b_without_first⟩ := Def.of X G c (x := "without_first") (st := top 6) (ps := ["word", "letter"]) (List.mem_of_getElem? (i := 3) rfl) (List.mem_of_getElem? (i := 3) rfl) (List.mem_of_getElem? (i := 3) rfl) (fun _ _ _ _ _ _ us hl => match us, hl with | [_, _], _ => rfl)
  obtain ⟨g_least, D_least, b_least⟩ := Def.of X G c (x := "least") (st := top 7) (ps := ["alphabet", "word"]) (List.mem_of_getElem? (i := 4) rfl) (List.mem_of_getElem? (i := 4) rfl) (List.mem_of_getElem? (i := 4) rfl) (fun _ _ _ _ _ _ us hl => match us, hl with | [_, _], _ => rfl)
  obtain ⟨g_left_behind, D_left_behind, b_left_behind⟩ := Def.of X G c (x := "left_behind") (st := top 9) (ps := ["alphabet", "word", "other"]) (List.mem_of_getElem? (i := 5) rfl) (List.mem_of_getElem? (i := 5) rfl) (List.mem_of_getElem? (i := 5) rfl) (fun _ _ _ _ _ _ us hl => match us, hl with | [_, _, _], _ => rfl)
  obtain ⟨g_is_prefix, D_is_prefix, b_is_prefix⟩ := Def.of X G c (x := "is_prefix") (st := top 10) (ps := ["alphabet", "word", "other"]) (List.mem_of_getElem? (i := 6) rfl) (List.mem_of_getElem? (i := 6) rfl) (List.mem_of_getElem? (i := 6) rfl) (fun _ _ _ _ _ _ us hl => match us, hl with | [_, _, _], _ => rfl)
  obtain ⟨g_rest, D_rest, b_rest⟩ := Def.of X G c (x := "rest") (st := top 11) (ps := ["alphabet", "word", "other"]) (List.mem_of_getElem? (i := 7) rfl) (List.mem_of_getElem? (i := 7) rfl) (List.mem_of_getElem? (i := 7) rfl) (fun _ _ _ _ _ _ us hl => match us, hl with | [_, _, _], _ => rfl)
  obtain ⟨g_prefixes, D_prefixes, b_prefixes⟩ := Def.of X G c (x := "prefixes") (st := top 12) (ps := ["alphabet", "word"]) (List.mem_of_getElem? (i := 8) rfl) (List.mem_of_getElem? (i := 8) rfl) (List.mem_of_getElem? (i := 8) rfl) (fun _ _ _ _ _ _ us hl => match us, hl with | [_, _], _ => rfl)
  obtain ⟨g_law_cell, D_law_cell, b_law_cell⟩ := Def.of X G c (x := "_law_cell") (st := top 14) (ps := ["script", "k"]) (List.mem_of_getElem? (i := 9) rfl) (List.mem_of_getElem? (i := 9) rfl) (List.mem_of_getElem? (i := 9) rfl) (fun _ _ _ _ _ _ us hl => match us, hl with | [_, _], _ => rfl)
  obtain ⟨g_law_digits, D_law_digits, b_law_digits⟩ := Def.of X G c (x := "_law_digits") (st := top 15) (ps := ["script", "first", "last"]) (List.mem_of_getElem? (i := 10) rfl) (List.mem_of_getElem? (i := 10) rfl) (List.mem_of_getElem? (i := 10) rfl) (fun _ _ _ _ _ _ us hl => match us, hl with | [_, _, _], _ => rfl)
  obtain ⟨g_law_draw, D_law_draw, b_law_draw⟩ := Def.of X G c (x := "_law_draw") (st := top 16) (ps := ["box", "many"]) (List.mem_of_getElem? (i := 11) rfl) (List.mem_of_getElem? (i := 11) rfl) (List.mem_of_getElem? (i := 11) rfl) (fun _ _ _ _ _ _ us hl => match us, hl with | [_, _], _ => rfl)
  obtain ⟨g_law_same, D_law_same, b_law_same⟩ := Def.of X G c (x := "_law_same") (st := top 17) (ps := ["actual", "expected"]) (List.mem_of_getElem? (i := 12) rfl) (List.mem_of_getElem? (i := 12) rfl) (List.mem_of_getElem? (i := 12) rfl) (fun _ _ _ _ _ _ us hl => match us, hl with | [_, _], _ => rfl)
  obtain ⟨g_law_box, D_law_box, b_law_box⟩ := Def.of X G c (x := "_law_box") (st := top 18) (ps := ["script", "first", "last"]) (List.mem_of_getElem? (i := 13) rfl) (List.mem_of_getElem? (i := 13) rfl) (List.mem_of_getElem? (i := 13) rfl) (fun _ _ _ _ _ _ us hl => match us, hl with | [_, _, _], _ => rfl)
  obtain ⟨g_law_alphabet, D_law_alphabet, b_law_alphabet⟩ := Def.of X G c (x := "_law_alphabet") (st := top 19) (ps := ["box", "most"]) (List.mem_of_getElem? (i := 14) rfl) (List.mem_of_getElem? (i := 14) rfl) (List.mem_of_getElem? (i := 14) rfl) (fun _ _ _ _ _ _ us hl => match us, hl with | [_, _], _ => rfl)
  obtain ⟨g_law_word, D_law_word, b_law_word⟩ := Def.of X G c (x := "_law_word") (st := top 20) (ps := ["box", "alphabet", "most"]) (List.mem_of_getElem? (i := 15) rfl) (List.mem_of_getElem? (i := 15) rfl) (List.mem_of_getElem? (i := 15) rfl) (fun _ _ _ _ _ _ us hl => match us, hl with | [_, _, _], _ => rfl)
  obtain ⟨g_law_free, D_law_free, b_law_free⟩ := Def.of X G c (x := "_law_free") (st := top 21) (ps := ["alphabet", "x", "y"]) (List.mem_of_getElem? (i := 16) rfl) (List.mem_of_getElem? (i := 16) rfl) (List.mem_of_getElem? (i := 16) rfl) (fun _ _ _ _ _ _ us hl => match us, hl with | [_, _, _], _ => rfl)
  obtain ⟨g_law_leaders, D_law_leaders, b_law_leaders⟩ := Def.of X G c (x := "_law_leaders") (st := top 22) (ps := ["alphabet", "word"]) (List.mem_of_getElem? (i := 17) rfl) (List.mem_of_getElem? (i := 17) rfl) (List.mem_of_getElem? (i := 17) rfl) (fun _ _ _ _ _ _ us hl => match us, hl with | [_, _], _ => rfl)
  obtain ⟨g_law_without, D_law_without, b_law_without⟩ := Def.of X G c (x := "_law_without") (st := top 23) (ps := ["word", "x"]) (List.mem_of_getElem? (i := 18) rfl) (List.mem_of_getElem? (i := 18) rfl) (List.mem_of_getElem? (i := 18) rfl) (fun _ _ _ _ _ _ us hl => match us, hl with | [_, _], _ => rfl)
  obtain ⟨g_law_least, D_law_least, b_law_least⟩ := Def.of X G c (x := "_law_least") (st := top 24) (ps := ["alphabet", "word"]) (List.mem_of_getElem? (i := 19) rfl) (List.mem_of_getElem? (i := 19) rfl) (List.mem_of_getElem? (i := 19) rfl) (fun _ _ _ _ _ _ us hl => match us, hl with | [_, _], _ => rfl)
  obtain ⟨g_law_rest, D_law_rest, b_law_rest⟩ := Def.of X G c (x := "_law_rest") (st := top 25) (ps := ["alphabet", "word", "other"]) (List.mem_of_getElem? (i := 20) rfl) (List.mem_of_getElem? (i := 20) rfl) (List.mem_of_getElem? (i := 20) rfl) (fun _ _ _ _ _ _ us hl => match us, hl with | [_, _, _], _ => rfl)
  obtain ⟨g_law_class, D_law_class, b_law_class⟩ := Def.of X G c (x := "_law_class") (st := top 26) (ps := ["alphabet", "word"]) (List.mem_of_getElem? (i := 21) rfl) (List.mem_of_getElem? (i := 21) rfl) (List.mem_of_getElem? (i := 21) rfl) (fun _ _ _ _ _ _ us hl => match us, hl with | [_, _], _ => rfl)
  obtain ⟨g_law_mixed, D_law_mixed, b_law_mixed⟩ := Def.of X G c (x := "_law_mixed") (st := top 27) (ps := ["box", "alphabet", "word"]) (List.mem_of_getElem? (i := 22) rfl) (List.mem_of_getElem? (i := 22) rfl) (List.mem_of_getElem? (i := 22) rfl) (fun _ _ _ _ _ _ us hl => match us, hl with | [_, _, _], _ => rfl)
  obtain ⟨g_law, D_law, b_law⟩ := Def.of X G c (x := "law") (st := top 28) (ps := ["script"]) (List.mem_of_getElem? (i := 23) rfl) (List.mem_of_getElem? (i := 23) rfl) (List.mem_of_getElem? (i := 23) rfl) (fun _ _ _ _ _ _ us hl => match us, hl with | [_], _ => rfl)
  have e := hfa.symm.trans D_law.g
  injection e with e
  injection e with e
  subst e
  exact lawAt X c (by simp [tf]) (fun s u => b_law s [u] rfl) (fun base _ _ hb => ok_law ⟨_, _, D_independent, _, _, D_free, _, _, D_firsts, _, _, D_without_first, _, _, D_least, _, _, D_left_behind, _, _, D_is_prefix, _, _, D_rest, _, _, D_prefixes, _, _, D_law_cell, _, _, D_law_digits, _, _, D_law_draw, _, _, D_law_same, _, _, D_law_box, _, _, D_law_alphabet, _, _, D_law_word, _, _, D_law_free, _, _, D_law_leaders, _, _, D_law_without, _, _, D_law_least, _, _, D_law_rest, _, _, D_law_class, _, _, D_law_mixed, _, _, D_law, He.free_ok X G (He.SaysD.facts c.t.d (List.mem_of_getElem? (i := 24) rfl)), He.free_ok X G (He.SaysD.facts c.t.d (List.mem_of_getElem? (i := 25) rfl)), He.free_ok X G (He.SaysD.facts c.t.d (List.mem_of_getElem? (i := 26) rfl)), He.free_ok X G (He.SaysD.facts c.t.d (List.mem_of_getElem? (i := 27) rfl)), He.free_ok X G (He.SaysD.facts c.t.d (List.mem_of_getElem? (i := 28) rfl)), He.free_ok X G (He.SaysD.facts c.t.d (List.mem_of_getElem? (i := 29) rfl)), He.free_ok X G (He.SaysD.facts c.t.d (List.mem_of_getElem? (i := 30) rfl)), He.free_ok X G (He.SaysD.facts c.t.d (List.mem_of_getElem? (i := 31) rfl)), He.free_ok X G (He.SaysD.facts c.t.d (List.mem_of_getElem? (i := 32) rfl)), He.free_ok X G (He.SaysD.facts c.t.d (List.mem_of_getElem? (i := 33) rfl)), He.free_ok X G (He.SaysD.facts c.t.d (List.mem_of_getElem? (i := 34) rfl)), He.free_ok X G (He.SaysD.facts c.t.d (List.mem_of_getElem? (i := 35) rfl)), He.free_ok X G (He.SaysD.facts c.t.d (List.mem_of_getElem? (i := 36) rfl)), He.free_ok X G (He.SaysD.facts c.t.d (List.mem_of_getElem? (i := 37) rfl)), hb⟩) hm
end P30


set_option Elab.async false
set_option linter.all false
set_option maxRecDepth 100000
/-! plain facts: sorting, membership, loops -/
namespace Y
open PySem PySem.Spec PyProof.Rows L2 Z
section
variable {α β γ : Type}
theorem gD {xs : List α} {k : Nat} (d : α) (h : k < xs.length) : xs.getD k d = xs[k] := by simp [List.getD_eq_getElem?_getD, List.getElem?_eq_getElem h]
theorem mem_nub [DecidableEq α] {x : α} : ∀ {l : List α}, x ∈ nub l ↔ x ∈ l
  | [] => by simp [nub]
  | y :: l => by
    simp only [nub]
    split
    · rename_i hy
      rw [mem_nub, List.mem_cons]
      exact ⟨.inr, fun h => h.elim (fun e => by rw [e]; exact hy) id⟩
    · rw [List.mem_cons, List.mem_cons, mem_nub]
theorem mem_sort {E : Enc α} {x : α} {l : List α} : x ∈ E.sort l ↔ x ∈ l := by
  unfold Enc.sort; exact List.mem_mergeSort
theorem nub_len [DecidableEq α] : ∀ {l : List α}, (nub l).length ≤ l.length
  | [] => by simp [nub]
  | y :: l => by
    have := nub_len (l := l)
    simp only [nub]
    split <;> simp <;> omega
theorem sort_perm {E : Enc α} [ClE E] (ha : E.al = true) {l1 l2 : List α} (p : l1.Perm l2) : E.sort l1 = E.sort l2 := by
  have h := sortD_permT (xs := l1.map E.enc) (ys := l2.map E.enc) (fun x hx => by obtain ⟨a, _, rfl⟩ := List.mem_map.mp hx; exact ClE.cl a) (fun x hx y hy => by
    obtain ⟨a, _, rfl⟩ := List.mem_map.mp hx
    obtain ⟨b, _, rfl⟩ := List.mem_map.mp hy
    exact E.hal ha a b) (p.map _)
  rw [sort_map, sort_map] at h
  exact (List.map_inj_right fun a b e => enc_inj E a b e).mp h
theorem sort_of_mem {E : Enc α} [ClE E] (ha : E.al = true) {l1 l2 : List α} (d1 : l1.Nodup) (d2 : l2.Nodup) (h : ∀ a, a ∈ l1 ↔ a ∈ l2) : E.sort l1 = E.sort l2 := sort_perm ha ((List.perm_ext_iff_of_nodup d1 d2).mpr h)
def Enc.le (E : Enc α) (a b : α) : Bool := PySem.W.dataLe false toPy (E.enc a) (E.enc b)
theorem sort_of_pair {E : Enc α} {l : List α} (h : l.Pairwise fun a b => E.le a b = true) : E.sort l = l := by
  unfold Enc.sort; exact List.mergeSort_of_pairwise h
theorem le_not (E : Enc α) (a b : α) : E.le a b = !E.lt b a := rfl
theorem lcS_inv {σ : Type} {t : α → σ → Option (Bool × σ)} {e : α → σ → Option (β × σ)} (P : β → Prop) : ∀ (xs : List α) (s : σ), (∀ x ∈ xs, ∀ s, ∃ s', t x s = some (true, s') ∧ ∃ y s'', e x s' = some (y, s'') ∧ P y) →
    ∃ ys s', lcS t e xs s = some (ys, s') ∧ ys.length = xs.length ∧ ∀ y ∈ ys, P y
  | [], s, _ => ⟨[], s, rfl, rfl, fun y h => nomatch h⟩
  | x :: xs, s, h => by
    obtain ⟨s1, e1, y, s2, e2, py⟩ := h x List.mem_cons_self s
    obtain ⟨ys, s3, e3, l3, p3⟩ := lcS_inv P xs s2 fun x' hx => h x' (List.mem_cons_of_mem _ hx)
    exact ⟨y :: ys, s3, by simp only [lcS, e1, e2, e3], by simp [l3], fun z hz => by
      rcases List.mem_cons.mp hz with rfl | hz
      · exact py
      · exact p3 z hz⟩
theorem at_some {xs : List α} {k : Nat} {x : α} (h : xs[k]? = some x) : L2.atI xs (k : Int) = some x := by rw [Y.atI_nat, h]
end
end Y


set_option Elab.async false
set_option linter.all false
set_option maxRecDepth 100000
/-! plain facts: lots of numbers, graphs, what is reached -/
namespace Y
open PySem PySem.Spec PyProof.Rows L2 Z
section
variable {α β γ : Type}
theorem nub_nd [DecidableEq α] : ∀ l : List α, (nub l).Nodup
  | [] => .nil
  | x :: l => by
    simp only [nub]
    split
    · exact nub_nd l
    · rename_i h
      exact List.nodup_cons.mpr ⟨fun hm => h (mem_nub.mp hm), nub_nd l⟩
theorem nub_inj [DecidableEq α] [DecidableEq β] {f : α → β} : ∀ (l : List α), (∀ a ∈ l, ∀ b ∈ l, f a = f b → a = b) → nub (l.map f) = (nub l).map f
  | [], _ => rfl
  | x :: l, h => by
    have ih := nub_inj l fun a ha b hb => h a (List.mem_cons_of_mem _ ha) b (List.mem_cons_of_mem _ hb)
    have e : f x ∈ l.map f ↔ x ∈ l := by
      constructor
      · intro hm
        obtain ⟨y, hy, e⟩ := List.mem_map.mp hm
        rw [← h y (List.mem_cons_of_mem _ hy) x List.mem_cons_self e]; exact hy
      · exact fun hm => List.mem_map_of_mem hm
    simp only [List.map_cons, nub, e, ih]
    split <;> simp
theorem len_sub : ∀ {l1 l2 : List α}, l1.Nodup → (∀ a, a ∈ l1 → a ∈ l2) → l1.length ≤ l2.length
  | [], _, _, _ => Nat.zero_le _
  | x :: l1, l2, d1, h => by
    obtain ⟨a, b, rfl⟩ := List.append_of_mem (h x List.mem_cons_self)
    have d := List.nodup_cons.mp d1
    have := len_sub (l1 := l1) (l2 := a ++ b) d.2 fun y hy => by
      have := h y (List.mem_cons_of_mem _ hy)
      rw [List.mem_append, List.mem_cons] at this
      rw [List.mem_append]
      rcases this with z | z | z
      · exact .inl z
      · exact absurd (z ▸ hy) d.1
      · exact .inr z
    simp only [List.length_append, List.length_cons] at *
    omega
end
/-! lots -/
end Y


set_option Elab.async false
set_option linter.all false
/-! words of letters of which some may change places, by what is left of them for each two that may not -/
namespace Tr
section
variable {α : Type} [DecidableEq α]
def pj (x y : α) (w : List α) : List α := w.filter fun z => decide (z = x) || decide (z = y)
def Al (D : α → α → Bool) (u v : List α) : Prop := ∀ x y, D x y = true → pj x y u = pj x y v
structure Dep (D : α → α → Bool) : Prop where
  rf : ∀ x, D x x = true
  sm : ∀ x y, D x y = D y x
def isF (D : α → α → Bool) (x : α) (w : List α) : Prop := ∃ a b, w = a ++ x :: b ∧ ∀ y ∈ a, D x y = false
variable {D : α → α → Bool}
theorem pj_app (x y : α) (u v : List α) : pj x y (u ++ v) = pj x y u ++ pj x y v := List.filter_append ..
theorem pj_cons (x y z : α) (v : List α) : pj x y (z :: v) = if z = x ∨ z = y then z :: pj x y v else pj x y v := by
  unfold pj; rw [List.filter_cons]; simp only [Bool.or_eq_true, decide_eq_true_eq]
theorem Al.refl (u : List α) : Al D u u := fun _ _ _ => rfl
theorem Al.symm {u v : List α} (h : Al D u v) : Al D v u := fun x y d => (h x y d).symm
theorem Al.trans {u v w : List α} (h : Al D u v) (g : Al D v w) : Al D u w := fun x y d => (h x y d).trans (g x y d)
theorem Al.app {u u' v v' : List α} (h : Al D u u') (g : Al D v v') : Al D (u ++ v) (u' ++ v') := fun x y d => by rw [pj_app, pj_app, h x y d, g x y d]
theorem Al.cancel {u v w : List α} (h : Al D (u ++ v) (u ++ w)) : Al D v w := fun x y d => by
  have := h x y d
  rw [pj_app, pj_app] at this
  exact List.append_cancel_left this
theorem Al.cons {x : α} {u v : List α} (h : Al D u v) : Al D (x :: u) (x :: v) := Al.app (Al.refl [x]) h
theorem Al.ccons {x : α} {u v : List α} (h : Al D (x :: u) (x :: v)) : Al D u v := Al.cancel (u := [x]) h
theorem Al.cnt (hd : Dep D) {u v : List α} (h : Al D u v) (x : α) : u.count x = v.count x := by
  have := h x x (hd.rf x)
  have e : ∀ w : List α, (pj x x w).length = w.count x := fun w => by
    unfold pj
    rw [← List.countP_eq_length_filter, List.count]
    exact List.countP_congr fun z _ => by simp
  rw [← e, ← e, this]
theorem Al.perm (hd : Dep D) {u v : List α} (h : Al D u v) : u.Perm v := List.perm_iff_count.mpr fun x => h.cnt hd x
theorem Al.len (hd : Dep D) {u v : List α} (h : Al D u v) : u.length = v.length := (h.perm hd).length_eq
theorem Al.mem (hd : Dep D) {u v : List α} (h : Al D u v) {x : α} : x ∈ u ↔ x ∈ v := (h.perm hd).mem_iff
theorem Al.nil (hd : Dep D) {v : List α} (h : Al D [] v) : v = [] := List.eq_nil_of_length_eq_zero (h.len hd).symm
theorem swap (x y : α) (h : D x y = false) (hd : Dep D) : Al D [x, y] [y, x] := fun p q d => by
  by_cases hx : x = p ∨ x = q
  · by_cases hy : y = p ∨ y = q
    · by_cases e : x = y
      · rw [e]
      · rcases hx with rfl | rfl <;> rcases hy with rfl | rfl
        · rfl
        · rw [h] at d; cases d
        · rw [hd.sm, h] at d; cases d
        · rfl
    · simp [pj_cons, hx, hy]
  · simp [pj_cons, hx]
/-- a letter that is free of all of a word goes through it -/
theorem thru (hd : Dep D) (x : α) : ∀ (a : List α), (∀ y ∈ a, D x y = false) → Al D (a ++ [x]) (x :: a)
  | [], _ => Al.refl _
  | y :: a, h => by
    have h1 := thru hd x a fun z hz => h z (List.mem_cons_of_mem _ hz)
    refine (Al.cons (x := y) h1).trans ?_
    exact Al.app (u := [y, x]) (u' := [x, y]) (Al.symm (swap x y (h y List.mem_cons_self) hd)) (Al.refl a)
theorem not_mem_ahead (hd : Dep D) {x : α} {a : List α} (h : ∀ y ∈ a, D x y = false) : x ∉ a := fun hx => by
  have := h x hx; rw [hd.rf] at this; cases this
theorem erase_at {x : α} {a b : List α} (h : x ∉ a) : (a ++ x :: b).erase x = a ++ b := by
  rw [List.erase_append_right _ h, List.erase_cons_head]
theorem isF_mem {x : α} {w : List α} (h : isF D x w) : x ∈ w := by obtain ⟨a, b, rfl, _⟩ := h; simp
theorem isF_al (hd : Dep D) {x : α} {w : List α} (h : isF D x w) : Al D (x :: w.erase x) w := by
  obtain ⟨a, b, rfl, h⟩ := h
  rw [erase_at (not_mem_ahead hd h)]
  have := Al.app (thru hd x a h).symm (Al.refl (D := D) b)
  rw [List.append_assoc] at this
  exact this
theorem split_first : ∀ {x : α} {w : List α}, x ∈ w → ∃ a b, w = a ++ x :: b ∧ x ∉ a
  | x, y :: w, h => by
    by_cases e : x = y
    · exact ⟨[], w, by rw [e]; rfl, by simp⟩
    · obtain ⟨a, b, rfl, g⟩ := split_first (w := w) ((List.mem_cons.mp h).resolve_left e)
      exact ⟨y :: a, b, rfl, fun hm => (List.mem_cons.mp hm).elim e g⟩
/-- the first of two letters that may not change places -/
theorem pj_head {x y : α} : ∀ {a b : List α}, x ∉ a → y ∈ a → ∃ r, pj x y (a ++ b) = y :: r
  | z :: a, b, hx, hy => by
    by_cases e : z = y
    · exact ⟨pj x y (a ++ b), by rw [List.cons_append, pj_cons, if_pos (.inr e), e]⟩
    · have hz : z ≠ x := fun h => hx (h ▸ List.mem_cons_self)
      obtain ⟨r, hr⟩ := pj_head (a := a) (b := b) (fun h => hx (List.mem_cons_of_mem _ h)) ((List.mem_cons.mp hy).resolve_left fun h => e h.symm)
      exact ⟨r, by rw [List.cons_append, pj_cons, if_neg (by rintro (h | h); exact hz h; exact e h), hr]⟩
theorem al_isF (hd : Dep D) {x : α} {u v : List α} (h : Al D (x :: u) v) : isF D x v := by
  obtain ⟨a, b, rfl, hx⟩ := split_first ((h.mem hd).mp List.mem_cons_self)
  refine ⟨a, b, rfl, fun y hy => ?_⟩
  cases d : D x y with
  | false => rfl
  | true =>
    exfalso
    have e := h x y d
    obtain ⟨r, hr⟩ := pj_head (b := x :: b) hx hy
    rw [hr, pj_cons, if_pos (.inl rfl)] at e
    exact hx ((List.cons.inj e).1 ▸ hy)
theorem al_cons (hd : Dep D) {x : α} {u v : List α} : Al D (x :: u) v ↔ isF D x v ∧ Al D u (v.erase x) :=
  ⟨fun h => have f := al_isF hd h; ⟨f, Al.ccons (h.trans (isF_al hd f).symm)⟩, fun h => (Al.cons h.2).trans (isF_al hd h.1)⟩
theorem isF_head (hd : Dep D) (x : α) (u : List α) : isF D x (x :: u) := ⟨[], u, rfl, fun y h => nomatch h⟩
theorem isF_len {x : α} {w : List α} (h : isF D x w) : (w.erase x).length + 1 = w.length := by
  have := isF_mem h
  have := List.length_erase_of_mem this
  have : 0 < w.length := List.length_pos_of_mem (isF_mem h)
  omega
end
end Tr
namespace Tr
/-! first letters in their order; all words alike one -/
section
variable {D : Nat → Nat → Bool}
def frs (D : Nat → Nat → Bool) : List Nat → List Nat → List Nat
  | _, [] => []
  | a, x :: w => if a.all (fun y => !D x y) = true then x :: frs D (a ++ [x]) w else frs D (a ++ [x]) w
theorem mem_frs {x : Nat} : ∀ {a w : List Nat}, x ∈ frs D a w ↔ ∃ b c, w = b ++ x :: c ∧ ∀ y ∈ a ++ b, D x y = false
  | a, [] => by simp [frs]
  | a, z :: w => by
    have ih := mem_frs (x := x) (a := a ++ [z]) (w := w)
    have e : (∃ b c, z :: w = b ++ x :: c ∧ ∀ y ∈ a ++ b, D x y = false) ↔ (x = z ∧ ∀ y ∈ a, D x y = false) ∨ ∃ b c, w = b ++ x :: c ∧ ∀ y ∈ (a ++ [z]) ++ b, D x y = false := by
      constructor
      · rintro ⟨b, c, h, g⟩
        cases b with
        | nil => left; simp at h; exact ⟨h.1.symm, fun y hy => g y (by simp [hy])⟩
        | cons z' b => right; rw [List.cons_append] at h; obtain ⟨e1, e2⟩ := List.cons.inj h; exact ⟨b, c, e2, fun y hy => g y (by rw [← e1]; simpa using hy)⟩
      · rintro (⟨rfl, h⟩ | ⟨b, c, rfl, h⟩)
        · exact ⟨[], w, rfl, fun y hy => h y (by simpa using hy)⟩
        · exact ⟨z :: b, c, rfl, fun y hy => h y (by simpa using hy)⟩
    rw [e, frs]
    split
    · rename_i h
      rw [List.mem_cons, ih]
      rw [List.all_eq_true] at h
      constructor
      · rintro (rfl | h')
        · exact .inl ⟨rfl, fun y hy => by simpa using h y hy⟩
        · exact .inr h'
      · rintro (⟨rfl, _⟩ | h')
        · exact .inl rfl
        · exact .inr h'
    · rename_i h
      rw [ih]
      constructor
      · exact .inr
      · rintro (⟨rfl, h'⟩ | h')
        · exact absurd (List.all_eq_true.mpr fun y hy => by simp [h' y hy]) h
        · exact h'
theorem frs_nd (rf : ∀ x, D x x = true) : ∀ (a w : List Nat), (frs D a w).Nodup
  | a, [] => .nil
  | a, z :: w => by
    rw [frs]
    split
    · refine List.nodup_cons.mpr ⟨fun h => ?_, frs_nd rf _ w⟩
      obtain ⟨b, c, _, g⟩ := mem_frs.mp h
      have := g z (by simp)
      rw [rf] at this; cases this
    · exact frs_nd rf _ w
theorem frs_len : ∀ (a w : List Nat), (frs D a w).length ≤ w.length
  | a, [] => Nat.le_refl _
  | a, z :: w => by
    have := frs_len (a ++ [z]) w
    rw [frs]; split <;> simp <;> omega
def fsL (D : Nat → Nat → Bool) (w : List Nat) : List Nat := (frs D [] w).mergeSort fun a b => decide (a ≤ b)
theorem mem_fsL {x : Nat} {w : List Nat} : x ∈ fsL D w ↔ isF D x w := by
  unfold fsL isF
  rw [List.mem_mergeSort, mem_frs]; rfl
theorem fsL_nd (rf : ∀ x, D x x = true) (w : List Nat) : (fsL D w).Nodup := (List.mergeSort_perm _ _).nodup_iff.mpr (frs_nd rf _ w)
theorem fsL_lt (rf : ∀ x, D x x = true) (w : List Nat) : (fsL D w).Pairwise (· < ·) := by
  have h1 : (fsL D w).Pairwise fun a b => decide (a ≤ b) = true := List.pairwise_mergeSort (fun a b c h1 h2 => by simp at *; omega) (fun a b => by simp; omega) _
  have h2 : (fsL D w).Pairwise (· ≠ ·) := fsL_nd rf w
  exact (h1.and h2).imp fun {a b} h => by have := of_decide_eq_true h.1; omega
theorem fsL_len (w : List Nat) : (fsL D w).length ≤ w.length := by unfold fsL; rw [List.length_mergeSort]; exact frs_len _ _
theorem fsL_mem {x : Nat} {w : List Nat} (h : x ∈ fsL D w) : x ∈ w := isF_mem (mem_fsL.mp h)
/-- two rising lists of the same members are one -/
theorem rise_eq {α : Type} (R : α → α → Prop) (ir : ∀ a, ¬ R a a) (tr : ∀ a b c, R a b → R b c → R a c) : ∀ {l1 l2 : List α}, l1.Pairwise R → l2.Pairwise R → (∀ x, x ∈ l1 ↔ x ∈ l2) → l1 = l2
  | [], [], _, _, _ => rfl
  | [], y :: l2, _, _, h => absurd ((h y).mpr List.mem_cons_self) (by simp)
  | x :: l1, [], _, _, h => absurd ((h x).mp List.mem_cons_self) (by simp)
  | x :: l1, y :: l2, h1, h2, h => by
    obtain ⟨a1, b1⟩ := List.pairwise_cons.mp h1
    obtain ⟨a2, b2⟩ := List.pairwise_cons.mp h2
    have exy : x = y := by
      rcases List.mem_cons.mp ((h x).mp List.mem_cons_self) with e | hx
      · exact e
      · rcases List.mem_cons.mp ((h y).mpr List.mem_cons_self) with e | hy
        · exact e.symm
        · exact absurd (tr _ _ _ (a1 y hy) (a2 x hx)) (ir x)
    subst exy
    rw [rise_eq R ir tr b1 b2 fun z => ?_]
    constructor
    · intro hz
      rcases List.mem_cons.mp ((h z).mp (List.mem_cons_of_mem _ hz)) with e | hz'
      · exact absurd (e ▸ a1 z hz) (ir x)
      · exact hz'
    · intro hz
      rcases List.mem_cons.mp ((h z).mpr (List.mem_cons_of_mem _ hz)) with e | hz'
      · exact absurd (e ▸ a2 z hz) (ir x)
      · exact hz'
theorem fsL_ne (hd : Dep D) {w : List Nat} (h : w ≠ []) : fsL D w ≠ [] := by
  cases w with
  | nil => exact absurd rfl h
  | cons x w => exact List.ne_nil_of_mem (mem_fsL.mpr (isF_head hd x w))
/-- all words alike one, least first -/
def wds (D : Nat → Nat → Bool) : Nat → List Nat → List (List Nat)
  | 0, _ => [[]]
  | n + 1, w => (fsL D w).flatMap fun x => (wds D n (w.erase x)).map (x :: ·)
def wdsL (D : Nat → Nat → Bool) (w : List Nat) : List (List Nat) := wds D w.length w
theorem mem_wds (hd : Dep D) : ∀ {n : Nat} {u w : List Nat}, w.length = n → (u ∈ wds D n w ↔ Al D u w)
  | 0, u, w, h => by
    rw [List.eq_nil_of_length_eq_zero h, wds, List.mem_singleton]
    exact ⟨fun e => e ▸ Al.refl _, fun a => Al.nil hd a.symm⟩
  | n + 1, u, w, h => by
    rw [wds, List.mem_flatMap]
    constructor
    · rintro ⟨x, hx, hu⟩
      obtain ⟨v, hv, rfl⟩ := List.mem_map.mp hu
      have f := mem_fsL.mp hx
      exact (al_cons hd).mpr ⟨f, (mem_wds hd (by have := isF_len f; omega)).mp hv⟩
    · intro a
      cases u with
      | nil => rw [Al.nil hd a] at h; cases h
      | cons x u =>
        obtain ⟨f, g⟩ := (al_cons hd).mp a
        exact ⟨x, mem_fsL.mpr f, List.mem_map.mpr ⟨u, (mem_wds hd (by have := isF_len f; omega)).mpr g, rfl⟩⟩
theorem mem_wdsL (hd : Dep D) {u w : List Nat} : u ∈ wdsL D w ↔ Al D u w := mem_wds hd rfl
theorem wds_lt (rf : ∀ x, D x x = true) : ∀ (n : Nat) (w : List Nat), (wds D n w).Pairwise (· < ·)
  | 0, w => List.pairwise_singleton ..
  | n + 1, w => by
    rw [wds, List.pairwise_flatMap]
    refine ⟨fun x _ => List.pairwise_map.mpr ((wds_lt rf n _).imp fun h => List.cons_lt_cons_iff.mpr (.inr ⟨rfl, h⟩)), (fsL_lt rf w).imp fun {x y} hxy u hu v hv => ?_⟩
    obtain ⟨u', _, rfl⟩ := List.mem_map.mp hu
    obtain ⟨v', _, rfl⟩ := List.mem_map.mp hv
    exact List.cons_lt_cons_iff.mpr (.inl hxy)
theorem wdsL_lt (rf : ∀ x, D x x = true) (w : List Nat) : (wdsL D w).Pairwise (· < ·) := wds_lt rf _ w
theorem wdsL_al (hd : Dep D) {u v : List Nat} (h : Al D u v) : wdsL D u = wdsL D v :=
  rise_eq (· < ·) (fun a => List.lt_irrefl a) (fun a b c => List.lt_trans) (wdsL_lt hd.rf u) (wdsL_lt hd.rf v) fun x => by
    rw [mem_wdsL hd, mem_wdsL hd]; exact ⟨fun g => g.trans h, fun g => g.trans h.symm⟩
/-- how many words there are at most -/
def fac : Nat → Nat
  | 0 => 1
  | n + 1 => (n + 1) * fac n
theorem wds_fac : ∀ {n : Nat} {w : List Nat}, w.length = n → (wds D n w).length ≤ fac n
  | 0, w, _ => Nat.le_refl _
  | n + 1, w, h => by
    rw [wds]
    have : ∀ l : List Nat, (∀ x ∈ l, (w.erase x).length = n) → (l.flatMap fun x => (wds D n (w.erase x)).map (x :: ·)).length ≤ l.length * fac n := by
      intro l
      induction l with
      | nil => intro _; simp
      | cons x l ih =>
        intro hl
        have h1 := ih fun y hy => hl y (List.mem_cons_of_mem _ hy)
        have h2 := wds_fac (hl x List.mem_cons_self)
        simp only [List.flatMap_cons, List.length_append, List.length_map, List.length_cons, Nat.add_mul, Nat.one_mul]
        omega
    refine Nat.le_trans (this _ fun x hx => by have := isF_len (mem_fsL.mp hx); omega) ?_
    exact Nat.mul_le_mul_right _ (by have := fsL_len (D := D) w; omega)
/-- the least word -/
def lst (D : Nat → Nat → Bool) : Nat → List Nat → List Nat
  | 0, _ => []
  | n + 1, w => match fsL D w with
    | [] => []
    | x :: _ => x :: lst D n (w.erase x)
def lstL (D : Nat → Nat → Bool) (w : List Nat) : List Nat := lst D w.length w
theorem lst_wds (hd : Dep D) : ∀ {n : Nat} {w : List Nat}, w.length = n → (wds D n w).head? = some (lst D n w)
  | 0, w, _ => rfl
  | n + 1, w, h => by
    have hn : fsL D w ≠ [] := fsL_ne hd (by intro e; rw [e] at h; cases h)
    rw [wds, lst]
    cases e : fsL D w with
    | nil => exact absurd e hn
    | cons x l =>
      have f : isF D x w := mem_fsL.mp (by rw [e]; exact List.mem_cons_self)
      have ih := lst_wds hd (n := n) (w := w.erase x) (by have := isF_len f; omega)
      rw [List.flatMap_cons]
      cases e2 : wds D n (w.erase x) with
      | nil => rw [e2] at ih; cases ih
      | cons u us =>
        rw [e2] at ih
        simp only [List.head?_cons, Option.some.injEq] at ih
        rw [List.map_cons, List.cons_append, List.head?_cons, ih]
theorem lstL_al (hd : Dep D) (w : List Nat) : Al D (lstL D w) w := by
  have := lst_wds hd (n := w.length) (w := w) rfl
  exact (mem_wds hd rfl).mp (List.mem_of_mem_head? this)
theorem lstL_eq (hd : Dep D) {u v : List Nat} (h : Al D u v) : lstL D u = lstL D v := by
  have e1 := lst_wds hd (n := u.length) (w := u) rfl
  have e2 := lst_wds hd (n := v.length) (w := v) rfl
  have e := wdsL_al hd h
  unfold wdsL at e
  rw [e, e2] at e1
  exact (Option.some.inj e1).symm
theorem lstL_iff (hd : Dep D) {u v : List Nat} : lstL D u = lstL D v ↔ Al D u v :=
  ⟨fun e => ((lstL_al hd u).symm.trans (e ▸ Al.refl _)).trans (lstL_al hd v), lstL_eq hd⟩
theorem lstL_len (hd : Dep D) (w : List Nat) : (lstL D w).length = w.length := (lstL_al hd w).len hd
theorem lstL_lst (hd : Dep D) (w : List Nat) : lstL D (lstL D w) = lstL D w := lstL_eq hd (lstL_al hd w)
end
end Tr


set_option Elab.async false
set_option linter.all false
set_option maxRecDepth 100000
/-! orders: rows of numbers, least ones, sorted sets -/
namespace Y
open PySem PySem.Spec PyProof.Rows L2 Z
section
variable {α : Type}
end
end Y


set_option Elab.async false
set_option linter.all false
set_option maxRecDepth 100000
/-! texts as lists of numbers; first letters, all words alike one -/
namespace Y
open PySem PySem.Spec PyProof.Rows L2 Z Tr
def tx (l : List Nat) : Str := ⟨l.toArray⟩
theorem tx_cps (l : List Nat) : (tx l).cps.toList = l := by simp [tx]
theorem tx_of (s : Str) : tx s.cps.toList = s := by cases s; simp [tx]
theorem tx_inj {a b : List Nat} : tx a = tx b ↔ a = b := ⟨fun h => by
  have := congrArg (fun s : Str => s.cps.toList) h
  simpa [tx] using this, fun h => by rw [h]⟩
theorem tx_len (l : List Nat) : (tx l).length = l.length := by simp [tx, Str.length]
theorem tx_app (a b : List Nat) : tx a ++ tx b = tx (a ++ b) := by
  show Str.append _ _ = _
  simp [Str.append, tx]
theorem tx_ne (l : List Nat) : ((Str.length (tx l) : Int) != 0) = !l.isEmpty := by
  rw [tx_len]; cases l <;> simp [bne]; omega
theorem e_tx : (("" : String) : Str) = tx [] := by decide +kernel
theorem abc_tx : (("abcdef" : String) : Str) = tx [97, 98, 99, 100, 101, 102] := by decide +kernel
theorem tx1 {a b : Nat} : tx [a] = tx [b] ↔ a = b := by rw [tx_inj]; simp
theorem chrs_tx (l : List Nat) : chrs (tx l) = l.map fun c => tx [c] := by unfold chrs; rw [tx_cps]; rfl
theorem catS_tx {a b : List Nat} (h : a.length + b.length ≤ 1000000) : catS (tx a) (tx b) = some (tx (a ++ b)) := by
  unfold catS; rw [tx_len, tx_len, if_pos h, tx_app]
theorem cutS_eq (l : List Nat) (lo hi : Option Int) : cutS (tx l) lo hi = tx (cutG l lo hi) := by
  unfold cutS cutG; rw [tx_cps, tx_len]; rfl
theorem cutS_take {l : List Nat} {k : Nat} (h : k ≤ l.length) : cutS (tx l) none (some (k : Int)) = tx (l.take k) := by rw [cutS_eq, cutG_take l k h]
theorem cutS_drop {l : List Nat} {k : Nat} (h : k ≤ l.length) : cutS (tx l) (some (k : Int)) none = tx (l.drop k) := by rw [cutS_eq, cutG_drop l k h]
theorem atS_tx {l : List Nat} {k : Nat} {c : Nat} (h : l[k]? = some c) : atS (tx l) (k : Int) = some (tx [c]) := by
  unfold atS; rw [tx_cps, at_some h]; rfl
theorem inS_tx (c : Nat) (l : List Nat) : inS (tx [c]) (tx l) = decide (c ∈ l) := by
  have := PySem.StrLaws.found_one (tx l) c
  rw [tx_cps] at this
  exact this
theorem lt_tx (a b : List Nat) : Es.lt (tx a) (tx b) = decide (a < b) := by rw [lt_str, tx_cps, tx_cps]
theorem lt_tx1 (a b : Nat) : Es.lt (tx [a]) (tx [b]) = decide (a < b) := by
  rw [lt_tx]
  by_cases h : a < b
  · rw [decide_eq_true h, decide_eq_true (List.cons_lt_cons_iff.mpr (.inl h))]
  · rw [decide_eq_false h, decide_eq_false fun e => by
      rcases List.cons_lt_cons_iff.mp e with h' | ⟨_, h'⟩
      · exact h h'
      · exact absurd h' (List.not_lt_nil _)]
theorem idx_ne {y c : Nat} (h : y ≠ c) (r : List Nat) : (y :: r).idxOf c = r.idxOf c + 1 := by
  rw [List.idxOf_cons, beq_false_of_ne h]; rfl
open PySem.StrLaws in
theorem occ1_some (x : Str) (c : Nat) : ∀ (n a : Nat) (free : Nat), free ≤ a → c ∈ (x.cps.toList.drop a).take n →
    (forIn (m := Id) (List.range' a n) ((#[] : Array Nat), free) (occBody x ⟨#[c]⟩ x.length 1)).run.fst = #[a + ((x.cps.toList.drop a).take n).idxOf c]
  | 0, a, free, _, hm => by simp at hm
  | n + 1, a, free, hf, hm => by
    rw [List.range'_succ, List.forIn_cons]
    unfold occBody
    have one := (subAt_one x c a)
    have grow : ∀ (l : List Nat) (st : Array Nat × Nat), 1 ≤ st.fst.size → (forIn (m := Id) l st (occBody x ⟨#[c]⟩ x.length 1)).run.fst = st.fst := by
      intro l
      induction l with
      | nil => intro st _; rfl
      | cons i l ih =>
        intro st hs
        rw [List.forIn_cons]
        unfold occBody
        rw [if_neg (by intro h; have := h.1.1.1; omega)]
        exact ih (st.fst, st.snd) hs
    cases hd : x.cps.toList.drop a with
    | nil => rw [hd] at hm; simp at hm
    | cons y r =>
      have hy : x.cps.toList[a]? = some y := by
        have := List.getElem?_drop (xs := x.cps.toList) (i := a) (j := 0)
        rw [hd] at this; simpa using this.symm
      have hr : x.cps.toList.drop (a + 1) = r := by rw [← List.tail_drop, hd]; rfl
      by_cases hc : y = c
      · have ht := (subAt_one x c a).mpr (by rw [hy, hc])
        have c1 : ((((#[] : Array Nat), free).fst.size < 1 ∧ ((#[] : Array Nat), free).snd ≤ a) ∧ a + (⟨#[c]⟩ : Str).length ≤ x.length) ∧ Builtin.Str.subAt x ⟨#[c]⟩ a = true := ⟨⟨⟨by simp, hf⟩, ht.1⟩, ht.2⟩
        rw [if_pos c1]
        refine (grow _ _ (by simp)).trans ?_
        simp [hc]
      · have c2 : ¬ (((((#[] : Array Nat), free).fst.size < 1 ∧ ((#[] : Array Nat), free).snd ≤ a) ∧ a + (⟨#[c]⟩ : Str).length ≤ x.length) ∧ Builtin.Str.subAt x ⟨#[c]⟩ a = true) := fun h => by
          have := (subAt_one x c a).mp ⟨h.1.2, h.2⟩
          rw [hy] at this; exact hc (Option.some.inj this)
        rw [if_neg c2]
        rw [hd] at hm
        rw [List.take_succ_cons] at hm ⊢
        have hm' : c ∈ r.take n := (List.mem_cons.mp hm).resolve_left fun e => hc e.symm
        rw [idx_ne hc]
        have := occ1_some x c n (a + 1) free (by omega) (by rw [hr]; exact hm')
        rw [hr] at this
        refine Eq.trans this ?_
        rw [show a + 1 + (r.take n).idxOf c = a + ((r.take n).idxOf c + 1) by omega]
theorem sidx_tx {c : Nat} {l : List Nat} (h : c ∈ l) : sidxO (tx l) (tx [c]) = some ((l.idxOf c : Nat) : Int) := by
  have e : Builtin.Str.occurrences (tx l) (tx [c]) 0 (tx l).length 1 = [l.idxOf c] := by
    rw [PySem.StrLaws.occ_eq, Nat.sub_zero]
    have ht : l.take (l.length + 1) = l := List.take_of_length_le (by omega)
    have e1 := occ1_some (tx l) c ((tx l).length + 1) 0 0 (Nat.le_refl _) (by rw [tx_cps, tx_len, List.drop_zero, ht]; exact h)
    rw [tx_cps, List.drop_zero, Nat.zero_add, tx_len, ht] at e1
    show (forIn (m := Id) (List.range' 0 ((tx l).length + 1)) ((#[] : Array Nat), 0) (PySem.StrLaws.occBody (tx l) ⟨#[c]⟩ (tx l).length 1)).run.fst.toList = _
    rw [tx_len]
    rw [e1]
  unfold sidxO
  rw [e]
theorem join_nil : ∀ ys : List Str, (Str.join (tx []) ys).cps.toList = ys.flatMap fun y => y.cps.toList
  | [] => rfl
  | [y] => by simp [Str.join]
  | y :: z :: ys => by
    have h := join_nil (z :: ys)
    rw [Str.join, List.flatMap_cons, ← h]
    · show (Str.append (Str.append y (tx [])) (Str.join (tx []) (z :: ys))).cps.toList = _
      simp [Str.append, tx]
    · intro h; cases h
theorem join_txs {ls : List (List Nat)} (h : ls.flatten.length ≤ 1000000) : joinO (("" : String) : Str) (ls.map tx) = some (tx ls.flatten) := by
  unfold joinO
  have e1 : ((ls.map tx).map (·.length)).sum = ls.flatten.length := by
    rw [List.map_map, List.length_flatten, show (fun x : Str => x.length) ∘ tx = List.length from funext tx_len]
  rw [e1, e_tx, tx_len, List.length_nil, Nat.mul_zero, Nat.add_zero, if_pos h]
  congr 1
  rw [← tx_of (joinZ (tx []) (ls.map tx))]
  congr 1
  show (Str.join (tx []) (ls.map tx)).cps.toList = _
  rw [join_nil, List.flatMap_map]
  rw [List.flatten_eq_flatMap]
  have : (fun a => (tx a).cps.toList) = id := by funext l; exact tx_cps l
  rw [this]
theorem join_tx {l : List Nat} (h : l.length ≤ 1000000) : joinO (("" : String) : Str) (l.map fun c => tx [c]) = some (tx l) := by
  have e : l.map (fun c => tx [c]) = (l.map fun c => [c]).map tx := by rw [List.map_map]; rfl
  have e2 : (l.map fun c => [c]).flatten = l := by rw [← List.flatMap_def]; simp
  rw [e, join_txs (by rw [e2]; exact h), e2]
theorem sort_tx {l l' : List Nat} (h : l'.Pairwise (· < ·)) (hn : l.Nodup) (hm : ∀ x, x ∈ l ↔ x ∈ l') : Es.sort (l.map fun c => tx [c]) = l'.map fun c => tx [c] := by
  have inj : ∀ {l : List Nat}, l.Nodup → (l.map fun c => tx [c]).Nodup := fun h => List.pairwise_map.mpr (h.imp fun hn e => hn (tx1.mp e))
  have hn' : l'.Nodup := h.imp fun h e => by omega
  rw [sort_of_mem (l2 := l'.map fun c => tx [c]) rfl (inj hn) (inj hn') fun s => by
    rw [List.mem_map, List.mem_map]
    exact ⟨fun ⟨c, hc, e⟩ => ⟨c, (hm c).mp hc, e⟩, fun ⟨c, hc, e⟩ => ⟨c, (hm c).mpr hc, e⟩⟩]
  refine sort_of_pair (List.pairwise_map.mpr (h.imp fun {a b} hab => ?_))
  rw [le_not, lt_tx1, decide_eq_false (by omega)]; rfl
/-! what the program computes of words -/
abbrev Alf := Str × Str × List Str
def f_independent (alphabet : (Str × Str × (List Str))) (x : Str) (y : Str) : Option Bool :=
  bnd (catS (if Es.lt y x then y else x) (if Es.lt x y then y else x)) fun a1' =>
  some (inB a1' alphabet.2.2)
def f_free (alphabet : (Str × Str × (List Str))) (word : Str) (other : Str) : Option Bool :=
  bnd (allO (fun t1' => some true) (fun t1' => bnd (some ((chrs other))) fun t5' => allO (fun t2' => some true) ((fun t2' => (bnd (f_independent alphabet t1' t2') fun a3' => some (a3')))) t5') (chrs word)) fun a6' =>
  some a6'
def f_firsts (alphabet : (Str × Str × (List Str))) (word : Str) : Option Str :=
  bnd (lcO (fun t1' => (bnd (f_free alphabet t1'.2 (cutS word none (some t1'.1))) fun a2' => some (a2'))) (fun t1' => (some (t1'.2))) (numN 0 (chrs word))) fun a4' =>
  lv a4' fun (found : (List Str)) =>
  bnd (joinO "" (Es.sort found)) fun a6' =>
  some a6'
def f_without_first (word : Str) (letter : Str) : Option Str :=
  bnd (sidxO word letter) fun a1' =>
  lv a1' fun (place : Int) =>
  bnd (catS (cutS word none (some place)) (cutS word (some (place + (1 : Int))) none)) fun a3' =>
  some a3'
/-- letters that may not change places -/
def dpA (ps : List Str) (x y : Nat) : Bool := !decide (tx [min x y, max x y] ∈ ps)
theorem dpA_dep {ps : List Str} (h : ∀ c, tx [c, c] ∉ ps) : Dep (dpA ps) where
  rf x := by unfold dpA; rw [Nat.min_self, Nat.max_self, decide_eq_false (h x)]; rfl
  sm x y := by unfold dpA; rw [Nat.min_comm, Nat.max_comm]
theorem indep_ok (al : Alf) (x y : Nat) : f_independent al (tx [x]) (tx [y]) = some (!dpA al.2.2 x y) := by
  unfold f_independent dpA
  rw [lt_tx1, lt_tx1]
  have e1 : (if decide (y < x) = true then tx [y] else tx [x]) = tx [min x y] := by
    by_cases h : y < x
    · rw [if_pos (decide_eq_true h), Nat.min_eq_right (by omega)]
    · rw [if_neg (by simpa using h), Nat.min_eq_left (by omega)]
  have e2 : (if decide (x < y) = true then tx [y] else tx [x]) = tx [max x y] := by
    by_cases h : x < y
    · rw [if_pos (decide_eq_true h), Nat.max_eq_right (by omega)]
    · rw [if_neg (by simpa using h), Nat.max_eq_left (by omega)]
  rw [e1, e2, catS_tx (by simp), bnd_some, Bool.not_not]
  rfl
theorem free_ok (al : Alf) (u v : List Nat) : f_free al (tx u) (tx v) = some (u.all fun x => v.all fun y => !dpA al.2.2 x y) := by
  unfold f_free
  rw [chrs_tx, chrs_tx]
  have hall : ∀ (l : List Nat) (e : Str → Option Bool) (eb : Nat → Bool), (∀ x ∈ l, e (tx [x]) = some (eb x)) → allO (fun _ => some true) e (l.map fun c => tx [c]) = some (l.all eb) := by
    intro l e eb
    induction l with
    | nil => intro _; rfl
    | cons x l ih =>
      intro h
      have h1 := h x List.mem_cons_self
      have h2 := ih fun y hy => h y (List.mem_cons_of_mem _ hy)
      simp only [List.map_cons, allO, h1, List.all_cons]
      cases eb x with
      | false => rfl
      | true => simpa using h2
  rw [hall u _ (fun x => v.all fun y => !dpA al.2.2 x y) fun x _ => ?_, bnd_some]
  rw [bnd_some]
  exact hall v _ _ fun y _ => by rw [indep_ok, bnd_some]
theorem firsts_ok (al : Alf) (h : ∀ c, tx [c, c] ∉ al.2.2) {w : List Nat} (hl : w.length ≤ 1000000) : f_firsts al (tx w) = some (tx (fsL (dpA al.2.2) w)) := by
  have H : ∀ (b a : List Nat), w = a ++ b → lcO (fun t1' : Int × Str => (bnd (f_free al t1'.2 (cutS (tx w) none (some t1'.1))) fun a2' => some (a2'))) (fun t1' => (some (t1'.2))) (numN a.length (b.map fun c => tx [c])) = some ((Tr.frs (dpA al.2.2) a b).map fun c => tx [c]) := by
    intro b
    induction b with
    | nil => intro a _; rfl
    | cons x b ih =>
      intro a ha
      have ih := ih (a ++ [x]) (by rw [ha]; simp)
      rw [List.length_append, List.length_singleton] at ih
      rw [List.map_cons, numN, lcO, Tr.frs]
      have e : cutS (tx w) none (some (a.length : Int)) = tx a := by rw [cutS_take (by rw [ha]; simp), ha, List.take_left]
      simp only [e, free_ok, bnd_some, ih]
      have e3 : ([x].all fun x => a.all fun y => !dpA al.2.2 x y) = a.all fun y => !dpA al.2.2 x y := by simp
      rw [e3]
      cases a.all fun y => !dpA al.2.2 x y <;> rfl
  unfold f_firsts
  rw [chrs_tx]
  have H0 := H w [] rfl
  rw [List.length_nil] at H0
  rw [H0, bnd_some]
  show bnd (joinO _ (Es.sort _)) _ = _
  have hd := dpA_dep h
  rw [sort_tx (l' := fsL (dpA al.2.2) w) (fsL_lt hd.rf w) (frs_nd hd.rf _ _) (fun x => by unfold fsL; rw [List.mem_mergeSort]), join_tx (by have := fsL_len (D := dpA al.2.2) w; omega), bnd_some]
theorem erase_cut : ∀ {w : List Nat} {c : Nat}, c ∈ w → w.take (w.idxOf c) ++ w.drop (w.idxOf c + 1) = w.erase c
  | x :: w, c, h => by
    by_cases e : x = c
    · rw [e, List.idxOf_cons_self, List.erase_cons_head]; rfl
    · rw [idx_ne e, List.erase_cons_tail (by simpa using e), List.take_succ_cons, List.drop_succ_cons, List.cons_append, erase_cut ((List.mem_cons.mp h).resolve_left fun h => e h.symm)]
theorem without_ok {w : List Nat} {c : Nat} (h : c ∈ w) (hl : w.length ≤ 1000000) : f_without_first (tx w) (tx [c]) = some (tx (w.erase c)) := by
  unfold f_without_first
  have hi := List.idxOf_lt_length_of_mem h
  rw [sidx_tx h, bnd_some, lv, show ((w.idxOf c : Nat) : Int) + (1 : Int) = ((w.idxOf c + 1 : Nat) : Int) by omega, cutS_take (by omega), cutS_drop (by omega), catS_tx (by simp; omega), bnd_some, erase_cut h]
theorem fac_mono : ∀ {a b : Nat}, a ≤ b → fac a ≤ fac b := by
  intro a b h
  induction h with
  | refl => exact Nat.le_refl _
  | step _ ih => rw [fac]; exact Nat.le_trans ih (Nat.le_mul_of_pos_left _ (by omega))
end Y


set_option Elab.async false
set_option linter.all false
/-! beginnings of words of which some letters may change places: rests, meets, joins -/
namespace Tr
section
variable {D : Nat → Nat → Bool}
def Pf (D : Nat → Nat → Bool) (p w : List Nat) : Prop := ∃ q, Al D (p ++ q) w
theorem Pf.refl (w : List Nat) : Pf D w w := ⟨[], by rw [List.append_nil]; exact Al.refl _⟩
theorem Pf.nil (w : List Nat) : Pf D [] w := ⟨w, Al.refl _⟩
theorem Pf.trans {p q w : List Nat} (h : Pf D p q) (g : Pf D q w) : Pf D p w := by
  obtain ⟨a, ha⟩ := h
  obtain ⟨b, hb⟩ := g
  exact ⟨a ++ b, by rw [← List.append_assoc]; exact (Al.app ha (Al.refl b)).trans hb⟩
theorem Pf.al {p p' w w' : List Nat} (h : Pf D p w) (g : Al D p p') (k : Al D w w') : Pf D p' w' := by
  obtain ⟨q, hq⟩ := h
  exact ⟨q, ((Al.app g.symm (Al.refl q)).trans hq).trans k⟩
theorem Pf.len (hd : Dep D) {p w : List Nat} (h : Pf D p w) : p.length ≤ w.length := by
  obtain ⟨q, hq⟩ := h
  have := hq.len hd
  rw [List.length_append] at this; omega
theorem Pf.mem (hd : Dep D) {p w : List Nat} (h : Pf D p w) {x : Nat} (hx : x ∈ p) : x ∈ w := by
  obtain ⟨q, hq⟩ := h
  exact (hq.mem hd).mp (List.mem_append_left _ hx)
theorem Pf.cnt (hd : Dep D) {p w : List Nat} (h : Pf D p w) (x : Nat) : p.count x ≤ w.count x := by
  obtain ⟨q, hq⟩ := h
  have := hq.cnt hd x
  rw [List.count_append] at this; omega
/-- a beginning is told by how often each letter stands in it -/
theorem pf_count (hd : Dep D) {p q w : List Nat} (hp : Pf D p w) (hq : Pf D q w) (h : ∀ x, p.count x = q.count x) : Al D p q := by
  intro x y d
  obtain ⟨a, ha⟩ := hp
  obtain ⟨b, hb⟩ := hq
  have e := (ha.trans hb.symm) x y d
  rw [pj_app, pj_app] at e
  refine (List.append_inj e ?_).1
  have l : ∀ w : List Nat, (pj x y w).length = if x = y then w.count x else w.count x + w.count y := by
    intro w
    unfold pj
    rw [← List.countP_eq_length_filter]
    induction w with
    | nil => simp
    | cons z w ih =>
      rw [List.countP_cons, List.count_cons, List.count_cons, ih]
      by_cases hxy : x = y
      · subst hxy
        by_cases hz : z = x <;> simp [hz]
      · by_cases h1 : z = x
        · subst h1
          have : ¬ (z == y) = true := by simpa using hxy
          simp [hxy]; omega
        · by_cases h2 : z = y
          · subst h2
            simp [hxy, h1]; omega
          · simp [hxy, h1, h2]
  rw [l, l, h x, h y]
theorem pf_cons (hd : Dep D) {x : Nat} {p w : List Nat} : Pf D (x :: p) w ↔ isF D x w ∧ Pf D p (w.erase x) := by
  constructor
  · rintro ⟨q, hq⟩
    obtain ⟨h1, h2⟩ := (al_cons hd).mp hq
    exact ⟨h1, q, h2⟩
  · rintro ⟨h1, q, h2⟩
    exact ⟨q, (al_cons hd).mpr ⟨h1, h2⟩⟩
/-- what is left behind -/
def lb (D : Nat → Nat → Bool) : List Nat → List Nat → Option (List Nat)
  | [], w => some w
  | x :: p, w => if x ∈ fsL D w then lb D p (w.erase x) else none
theorem lb_some (hd : Dep D) : ∀ {p w q : List Nat}, lb D p w = some q → Al D (p ++ q) w
  | [], w, q, h => by cases h; exact Al.refl _
  | x :: p, w, q, h => by
    rw [lb] at h
    split at h
    · rename_i hx
      exact (al_cons hd).mpr ⟨mem_fsL.mp hx, lb_some hd h⟩
    · cases h
theorem lb_of (hd : Dep D) : ∀ {p w q : List Nat}, Al D (p ++ q) w → ∃ q', lb D p w = some q' ∧ Al D q q'
  | [], w, q, h => ⟨w, rfl, h⟩
  | x :: p, w, q, h => by
    obtain ⟨h1, h2⟩ := (al_cons hd).mp h
    obtain ⟨q', e, g⟩ := lb_of hd h2
    exact ⟨q', by rw [lb, if_pos (mem_fsL.mpr h1), e], g⟩
theorem lb_iff (hd : Dep D) {p w : List Nat} : (∃ q, lb D p w = some q) ↔ Pf D p w :=
  ⟨fun ⟨q, h⟩ => ⟨q, lb_some hd h⟩, fun ⟨_, h⟩ => by obtain ⟨q', e, _⟩ := lb_of hd h; exact ⟨q', e⟩⟩
theorem lb_none (hd : Dep D) {p w : List Nat} : lb D p w = none ↔ ¬ Pf D p w := by
  rw [← lb_iff hd]
  cases lb D p w <;> simp
theorem lb_len : ∀ {p w q : List Nat}, lb D p w = some q → q.length + p.length = w.length
  | [], w, q, h => by cases h; rfl
  | x :: p, w, q, h => by
    rw [lb] at h
    split at h
    · rename_i hx
      have := lb_len h
      have := isF_len (mem_fsL.mp hx)
      rw [List.length_cons]; omega
    · cases h
def both (D : Nat → Nat → Bool) (x y : List Nat) : List Nat := (fsL D x).filter fun a => decide (a ∈ fsL D y)
def mt (D : Nat → Nat → Bool) : Nat → List Nat → List Nat → List Nat
  | 0, _, _ => []
  | n + 1, x, y => match both D x y with
    | [] => []
    | a :: _ => a :: mt D n (x.erase a) (y.erase a)
structure IsMeet (D : Nat → Nat → Bool) (m x y : List Nat) : Prop where
  ex : ∃ u v, Al D (m ++ u) x ∧ Al D (m ++ v) y ∧ ∀ a, ¬ (isF D a u ∧ isF D a v)
  gr : ∀ p, Pf D p x → Pf D p y → Pf D p m
theorem pf_mid {m u z' z : List Nat} (h : Al D (m ++ z') z) (g : Pf D u z') : Pf D (m ++ u) z := by
  obtain ⟨q, hq⟩ := g
  exact ⟨q, by rw [List.append_assoc]; exact (Al.app (Al.refl m) hq).trans h⟩
theorem pf_cancel {m u z : List Nat} (h : Pf D (m ++ u) (m ++ z)) : Pf D u z := by
  obtain ⟨q, hq⟩ := h
  rw [List.append_assoc] at hq
  exact ⟨q, hq.cancel⟩
end
end Tr


set_option Elab.async false
set_option linter.all false
set_option maxRecDepth 100000
set_option maxHeartbeats 1000000
/-! words that laws draw; what the program and the laws compute of them -/
namespace Y
open PySem PySem.Spec PyProof.Rows L2 Z Tr
def f_law_alphabet_b1 (letters : Str) (pairs : (List Str)) (t6' : Int) : Int → (Box × (List Str)) → Option (Box × (List Str)) :=
  fun (t10' : Int) (s9' : Box × (List Str)) =>
  bnd (drawO s9'.1 (5 : Int)) fun v11' =>
  bnd (if (decide (v11'.1 < (2 : Int))) = true then (bnd (atS letters t6') fun a13' =>
  bnd (atS letters t10') fun a15' =>
  bnd (catS a13' a15') fun a17' =>
  bnd (pushO s9'.2 a17') fun pairs19' =>
  some pairs19') else (some s9'.2)) fun (pairs : (List Str)) =>
  some (v11'.2, pairs)
def f_law_alphabet_b2 (letters : Str) (pairs : (List Str)) : Int → (Box × (List Str)) → Option (Box × (List Str)) :=
  fun (t6' : Int) (s5' : Box × (List Str)) =>
  bnd (rngO (t6' + (1 : Int)) (Str.length letters : Int)) fun r7' =>
  bnd (forN (f_law_alphabet_b1 letters pairs t6') r7' (s5'.1, s5'.2)) fun (s9' : Box × (List Str)) =>
  some (s9'.1, s9'.2)
def f_law_alphabet (box_ : Box) (most : Int) : Option ((Str × Str × (List Str)) × Box) :=
  bnd (drawO box_ most) fun v1' =>
  lv (cutS (("abcdef" : String) : Str) none (some ((1 : Int) + v1'.1))) fun (letters : Str) =>
  lv [] fun (pairs : (List Str)) =>
  bnd (rngO (0 : Int) (Str.length letters : Int)) fun r3' =>
  bnd (forN (f_law_alphabet_b2 letters pairs) r3' (v1'.2, pairs)) fun (s5' : Box × (List Str)) =>
  some (((("alphabet" : String) : Str), letters, (Es.sort s5'.2)), s5'.1)
def f_law_word_b1 (alphabet : (Str × Str × (List Str))) (word : Str) : Int → (Box × Str) → Option (Box × Str) :=
  fun (t6' : Int) (s5' : Box × Str) =>
  bnd (drawO s5'.1 (Str.length alphabet.2.1 : Int)) fun v7' =>
  bnd (atS alphabet.2.1 v7'.1) fun a9' =>
  bnd (catS s5'.2 a9') fun a11' =>
  lv a11' fun (word : Str) =>
  some (v7'.2, word)
def f_law_word (box_ : Box) (alphabet : (Str × Str × (List Str))) (most : Int) : Option (Str × Box) :=
  lv (("" : String) : Str) fun (word : Str) =>
  bnd (drawO box_ (most + (1 : Int))) fun v1' =>
  bnd (rngO (0 : Int) v1'.1) fun r3' =>
  bnd (forN (f_law_word_b1 alphabet word) r3' (v1'.2, word)) fun (s5' : Box × Str) =>
  some (s5'.2, s5'.1)
def f_law_free (alphabet : (Str × Str × (List Str))) (x : Str) (y : Str) : Option Bool :=
  bnd (catS x y) fun a3' =>
  bnd (orO (inB a3' alphabet.2.2) (bnd (catS y x) fun a5' => some ((inB a5' alphabet.2.2)))) fun a7' =>
  some a7'
def f_law_mixed_b1 (alphabet : (Str × Str × (List Str))) (word : Str) : Int → (Box × Str) → Option (Box × Str) :=
  fun (t6' : Int) (s5' : Box × Str) =>
  bnd (drawO s5'.1 (Str.length s5'.2 : Int)) fun v7' =>
  lv v7'.1 fun (k : Int) =>
  bnd (andO (decide ((k + (1 : Int)) < (Str.length s5'.2 : Int))) (bnd (atS s5'.2 k) fun a13' => bnd (atS s5'.2 (k + (1 : Int))) fun a15' => bnd (f_law_free alphabet a13' a15') fun a17' => some (a17'))) fun a19' =>
  bnd (if a19' = true then (bnd (atS s5'.2 (k + (1 : Int))) fun a21' =>
  bnd (catS (cutS s5'.2 none (some k)) a21') fun a23' =>
  bnd (atS s5'.2 k) fun a25' =>
  bnd (catS a23' a25') fun a27' =>
  bnd (catS a27' (cutS s5'.2 (some (k + (2 : Int))) none)) fun a29' =>
  lv a29' fun (word : Str) =>
  some word) else (some s5'.2)) fun (word : Str) =>
  some (v7'.2, word)
def f_law_mixed (box_ : Box) (alphabet : (Str × Str × (List Str))) (word : Str) : Option (Str × Box) :=
  bnd (mulO (2 : Int) (Str.length word : Int)) fun a1' =>
  bnd (rngO (0 : Int) a1') fun r3' =>
  bnd (forN (f_law_mixed_b1 alphabet word) r3' (box_, word)) fun (s5' : Box × Str) =>
  some (s5'.2, s5'.1)
def f_least_b1 (alphabet : (Str × Str × (List Str))) (word : Str) : (Str × Str) → Option (Str × Str) :=
  fun (s1' : Str × Str) =>
  bnd (f_firsts alphabet s1'.1) fun a2' =>
  bnd (atS a2' (0 : Int)) fun a4' =>
  lv a4' fun (letter : Str) =>
  bnd (catS s1'.2 letter) fun (found6' : Str) =>
  bnd (f_without_first s1'.1 letter) fun a7' =>
  lv a7' fun (word : Str) =>
  some (word, found6')
def f_least (alphabet : (Str × Str × (List Str))) (word : Str) : Option Str :=
  lv (("" : String) : Str) fun (found : Str) =>
  bnd (whileN (fun (s1' : Str × Str) => (some (((Str.length s1'.1 : Int) != 0)))) (f_least_b1 alphabet word) 1000 (word, found)) fun (s1' : Str × Str) =>
  some s1'.2
def f_law_leaders_b1 (alphabet : (Str × Str × (List Str))) (word : (Option Str)) (found : (List Str)) : Str → ((List Str)) → Option ((List Str)) :=
  fun (t5' : Str) (found' : (List Str)) =>
  bnd (word) fun a7' =>
  bnd (word) fun a9' =>
  bnd (sidxO a9' t5') fun a10' =>
  lv (cutS a7' none (some a10')) fun (ahead : Str) =>
  bnd (lcO (fun t12' => (bnd (f_law_free alphabet t5' t12') fun a13' => some ((!a13')))) (fun t12' => (some (t12'))) (chrs ahead)) fun a15' =>
  bnd (if (decide ((List.length a15' : Int) = (0 : Int))) = true then (bnd (pushO found' t5') fun found17' =>
  some found17') else (some found')) fun (found : (List Str)) =>
  some found
def f_law_leaders (alphabet : (Str × Str × (List Str))) (word : (Option Str)) : Option (List Str) :=
  lv [] fun (found : (List Str)) =>
  bnd (word) fun a2' =>
  bnd (setO' Es (chrs a2')) fun a3' =>
  bnd (forN (f_law_leaders_b1 alphabet word found) a3' found) fun (found' : (List Str)) =>
  some found'
def f_law_without (word : (Option Str)) (x : Str) : Option Str :=
  bnd (word) fun a2' =>
  bnd (sidxO a2' x) fun a3' =>
  lv a3' fun (place : Int) =>
  bnd (word) fun a6' =>
  bnd (word) fun a8' =>
  bnd (catS (cutS a6' none (some place)) (cutS a8' (some (place + (1 : Int))) none)) fun a9' =>
  some a9'
def f_law_least_b1 (alphabet : (Str × Str × (List Str))) (word : (Option Str)) (built : Str) : ((Option Str) × Str) → Option ((Option Str) × Str) :=
  fun (s1' : (Option Str) × Str) =>
  bnd (f_law_leaders alphabet s1'.1) fun a4' =>
  bnd (L2.atI a4' (0 : Int)) fun a6' =>
  lv a6' fun (x : Str) =>
  bnd (catS s1'.2 x) fun a8' =>
  lv a8' fun (built : Str) =>
  bnd (f_law_without s1'.1 x) fun a10' =>
  lv a10' fun (word : Str) =>
  some ((some word), built)
def f_law_least (alphabet : (Str × Str × (List Str))) (word : (Option Str)) : Option Str :=
  lv (("" : String) : Str) fun (built : Str) =>
  bnd (whileN (fun (s1' : (Option Str) × Str) => (bnd (s1'.1) fun a3' => some ((decide ((0 : Int) < (Str.length a3' : Int)))))) (f_law_least_b1 alphabet word built) 1000 (word, built)) fun (s1' : (Option Str) × Str) =>
  some s1'.2
def f_law_rest_b1 (alphabet : (Str × Str × (List Str))) (other : Str) : Str → (Str) → Option (Res (Str) (Option Str)) :=
  fun (t3' : Str) (other' : Str) =>
  bnd (f_law_leaders alphabet (some other')) fun a4' =>
  if (!inB t3' a4') = true then (some (.rt (none : (Option Str)))) else
  bnd (f_law_without (some other') t3') fun a6' =>
  lv a6' fun (other : Str) =>
  some (.nx other)
def f_law_rest (alphabet : (Str × Str × (List Str))) (word : (Option Str)) (other : Str) : Option (Option Str) :=
  bnd (word) fun a2' =>
  bnd (forR (ρ := (Option Str)) (f_law_rest_b1 alphabet other) (chrs a2') other) (onR some fun (other' : Str) =>
  bnd (f_law_least alphabet (some other')) fun a8' =>
  some (some a8'))
def f_left_behind_b1 (alphabet : (Str × Str × (List Str))) (other : Str) : Str → (Str) → Option (Res (Str) (Option Str)) :=
  fun (t3' : Str) (other' : Str) =>
  bnd (f_firsts alphabet other') fun a4' =>
  if (!inS t3' a4') = true then (some (.rt (none : (Option Str)))) else
  bnd (f_without_first other' t3') fun a6' =>
  lv a6' fun (other : Str) =>
  some (.nx other)
def f_left_behind (alphabet : (Str × Str × (List Str))) (word : (Option Str)) (other : Str) : Option (Option Str) :=
  bnd (word) fun a2' =>
  bnd (forR (ρ := (Option Str)) (f_left_behind_b1 alphabet other) (chrs a2') other) (onR some fun (other' : Str) =>
  some (some other'))
def Lt (n : Nat) : List Nat := (List.range n).map (97 + ·)
theorem Lt_len (n : Nat) : (Lt n).length = n := by simp [Lt]
theorem Lt_mem {n c : Nat} : c ∈ Lt n ↔ ∃ x, x < n ∧ c = 97 + x := by
  unfold Lt
  rw [List.mem_map]
  exact ⟨fun ⟨x, h, e⟩ => ⟨x, List.mem_range.mp h, e.symm⟩, fun ⟨x, h, e⟩ => ⟨x, List.mem_range.mpr h, e.symm⟩⟩
theorem Lt_eq {n : Nat} (h : n ≤ 6) : cutS (("abcdef" : String) : Str) none (some (n : Int)) = tx (Lt n) := by
  rw [abc_tx, cutS_take (by simp; omega)]
  have : n = 0 ∨ n = 1 ∨ n = 2 ∨ n = 3 ∨ n = 4 ∨ n = 5 ∨ n = 6 := by omega
  rcases this with rfl | rfl | rfl | rfl | rfl | rfl | rfl <;> rfl
theorem Lt_at {n x : Nat} (h : x < n) : atS (tx (Lt n)) (x : Int) = some (tx [97 + x]) := atS_tx (by simp [Lt, h])
structure AlOk (n : Nat) (al : Alf) : Prop where
  n1 : 1 ≤ n
  le : al.2.1 = tx (Lt n)
  ps : ∀ s ∈ al.2.2, ∃ x y, x < y ∧ y < n ∧ s = tx [97 + x, 97 + y]
theorem AlOk.irr {n : Nat} {al : Alf} (h : AlOk n al) (c : Nat) : tx [c, c] ∉ al.2.2 := fun hm => by
  obtain ⟨x, y, h1, _, e⟩ := h.ps _ hm
  have := tx_inj.mp e
  simp only [List.cons.injEq, and_true] at this
  omega
abbrev DA (al : Alf) : Nat → Nat → Bool := dpA al.2.2
theorem AlOk.dep {n : Nat} {al : Alf} (h : AlOk n al) : Dep (DA al) := dpA_dep h.irr
theorem rng_ok {a b : Nat} (h : b ≤ 1000) (ha : a ≤ 1000) : rngO (a : Int) (b : Int) = some ((List.range' a (b - a)).map fun k : Nat => (k : Int)) := by
  unfold rngO rngN
  rw [if_pos (by omega), List.range'_eq_map_range, List.map_map]
  congr 1
  rw [show ((b : Int) - (a : Int)).toNat = b - a by omega]
  exact List.map_congr_left fun k _ => by simp
theorem rng0 {b : Nat} (h : b ≤ 1000) : rngO (0 : Int) (b : Int) = some ((List.range b).map fun k : Nat => (k : Int)) := by
  have := rng_ok (a := 0) (b := b) h (by omega)
  rw [Nat.sub_zero, ← List.range_eq_range'] at this
  exact this
theorem alpha_ok (b : Box) (M : Nat) (h1 : 1 ≤ M) (h6 : M ≤ 6) : ∃ al b' n, f_law_alphabet b (M : Int) = some (al, b') ∧ n ≤ M ∧ AlOk n al := by
  obtain ⟨v, v0, v1, ev⟩ := draw_some b (show (0 : Int) < (M : Int) by omega)
  obtain ⟨n, hn⟩ : ∃ n : Nat, (1 : Int) + v = (n : Int) := ⟨(1 + v).toNat, by omega⟩
  have step : ∀ (x y : Nat) (ps0 : List Str) (bx : Box) (ps : List Str), x < y → y < n → (∀ s ∈ ps, ∃ x y, x < y ∧ y < n ∧ s = tx [97 + x, 97 + y]) → ps.length < 1000 → ∃ b' ps', f_law_alphabet_b1 (tx (Lt n)) ps0 (x : Int) (y : Int) (bx, ps) = some (b', ps') ∧ (∀ s ∈ ps', ∃ x y, x < y ∧ y < n ∧ s = tx [97 + x, 97 + y]) ∧ ps'.length ≤ ps.length + 1 := by
    intro x y ps0 bx ps hxy hy hp hl
    obtain ⟨u, u0, u1, eu⟩ := draw_some bx (show (0 : Int) < 5 by omega)
    unfold f_law_alphabet_b1
    rw [eu, bnd_some]
    by_cases hc : u < 2
    · simp only [decide_eq_true hc, if_true]
      rw [Lt_at (by omega), bnd_some, Lt_at hy, bnd_some, catS_tx (by simp), bnd_some, push_ok (by omega), bnd_some, bnd_some]
      refine ⟨_, _, rfl, fun s hs => ?_, by simp⟩
      rcases List.mem_append.mp hs with hs | hs
      · exact hp s hs
      · rw [List.mem_singleton.mp hs]; exact ⟨x, y, hxy, hy, rfl⟩
    · simp only [decide_eq_false hc, Bool.false_eq_true, if_false, bnd_some]
      exact ⟨_, _, rfl, hp, by omega⟩
  have inner : ∀ (x : Nat) (ps0 : List Str) (bx : Box) (ps : List Str), x < n → (∀ s ∈ ps, ∃ x y, x < y ∧ y < n ∧ s = tx [97 + x, 97 + y]) → ps.length + 6 < 1000 → ∃ b' ps', f_law_alphabet_b2 (tx (Lt n)) ps0 (x : Int) (bx, ps) = some (b', ps') ∧ (∀ s ∈ ps', ∃ x y, x < y ∧ y < n ∧ s = tx [97 + x, 97 + y]) ∧ ps'.length ≤ ps.length + 6 := by
    intro x ps0 bx ps hx hp hl
    unfold f_law_alphabet_b2
    rw [tx_len, Lt_len, show (x : Int) + (1 : Int) = ((x + 1 : Nat) : Int) by omega, rng_ok (by omega) (by omega), bnd_some]
    obtain ⟨⟨b', ps'⟩, e, h1, h2⟩ := forN_inv (f := f_law_alphabet_b1 (tx (Lt n)) ps0 (x : Int)) (fun p (s : Box × List Str) => (∀ t ∈ s.2, ∃ x y, x < y ∧ y < n ∧ t = tx [97 + x, 97 + y]) ∧ s.2.length ≤ ps.length + p.length) ((List.range' (x + 1) (n - (x + 1))).map fun k : Nat => (k : Int)) [] (bx, ps) ⟨hp, by simp⟩ (fun p z q s hq hI => by
      obtain ⟨bx', ps'⟩ := s
      have hm : z ∈ (List.range' (x + 1) (n - (x + 1))).map fun k : Nat => (k : Int) := by rw [List.nil_append] at hq; rw [hq]; simp
      have hpl : p.length < 6 := by
        have := congrArg List.length hq
        simp at this; omega
      obtain ⟨y, hy, rfl⟩ := List.mem_map.mp hm
      have := List.mem_range'_1.mp hy
      obtain ⟨b', ps'', e, h1, h2⟩ := step x y ps0 bx' ps' (by omega) (by omega) hI.1 (by have := hI.2; simp only at this; omega)
      exact ⟨(b', ps''), e, h1, by have := hI.2; simp only [List.length_append, List.length_singleton] at *; omega⟩)
    rw [e, bnd_some]
    have h2 : ps'.length ≤ ps.length + ([] ++ (List.range' (x + 1) (n - (x + 1))).map fun k : Nat => (k : Int)).length := h2
    exact ⟨b', ps', rfl, h1, by simp only [List.nil_append, List.length_map, List.length_range'] at h2; omega⟩
  obtain ⟨⟨b', ps⟩, e, h3, h4⟩ := forN_inv (f := f_law_alphabet_b2 (tx (Lt n)) []) (fun p (s : Box × List Str) => (∀ t ∈ s.2, ∃ x y, x < y ∧ y < n ∧ t = tx [97 + x, 97 + y]) ∧ s.2.length ≤ 6 * p.length) ((List.range n).map fun k : Nat => (k : Int)) [] ((b.1, b.2 + 1), []) ⟨(fun s h => nomatch h), by simp⟩ (fun p z q s hq hI => by
      obtain ⟨bx', ps'⟩ := s
      have hm : z ∈ (List.range n).map fun k : Nat => (k : Int) := by rw [List.nil_append] at hq; rw [hq]; simp
      have hpl : p.length < 6 := by
        have := congrArg List.length hq
        simp at this; omega
      obtain ⟨y, hy, rfl⟩ := List.mem_map.mp hm
      have := List.mem_range.mp hy
      obtain ⟨b', ps'', e, h1, h2⟩ := inner y [] bx' ps' (by omega) hI.1 (by have := hI.2; simp only at this; omega)
      exact ⟨(b', ps''), e, h1, by have := hI.2; simp only [List.length_append, List.length_singleton] at *; omega⟩)
  refine ⟨((("alphabet" : String) : Str), tx (Lt n), Es.sort ps), b', n, ?_, by omega, ⟨by omega, rfl, fun s hs => h3 s (mem_sort.mp hs)⟩⟩
  unfold f_law_alphabet
  rw [ev, bnd_some, hn, Lt_eq (by omega), lv, lv, tx_len, Lt_len, rng0 (by omega), bnd_some, e, bnd_some]
theorem word_ok (b : Box) {n : Nat} {al : Alf} (ha : AlOk n al) (h6 : n ≤ 6) (M : Nat) (hM : M ≤ 100) : ∃ w b', f_law_word b al (M : Int) = some (tx w, b') ∧ w.length ≤ M ∧ ∀ c ∈ w, c ∈ Lt n := by
  obtain ⟨v, v0, v1, ev⟩ := draw_some b (show (0 : Int) < (M : Int) + 1 by omega)
  obtain ⟨m, rfl⟩ : ∃ m : Nat, v = (m : Int) := ⟨v.toNat, by omega⟩
  have h1 := ha.n1
  obtain ⟨⟨b', s⟩, e, w, h3, h4, h5⟩ := forN_inv (f := f_law_word_b1 al (("" : String) : Str)) (fun p (s : Box × Str) => ∃ w : List Nat, s.2 = tx w ∧ w.length = p.length ∧ ∀ c ∈ w, c ∈ Lt n) ((List.range m).map fun k : Nat => (k : Int)) [] ((b.1, b.2 + 1), (("" : String) : Str)) ⟨[], e_tx, rfl, fun c h => nomatch h⟩ (fun p z q s hq hI => by
      obtain ⟨bx', s⟩ := s
      obtain ⟨w, hs, hw, hc⟩ := hI
      have hpl : p.length < m := by
        have := congrArg List.length hq
        simp at this; omega
      simp only at hs
      subst hs
      obtain ⟨u, u0, u1, eu⟩ := draw_some bx' (show (0 : Int) < (n : Int) by omega)
      obtain ⟨k, rfl⟩ : ∃ k : Nat, u = (k : Int) := ⟨u.toNat, by omega⟩
      refine ⟨((bx'.1, bx'.2 + 1), tx (w ++ [97 + k])), ?_, w ++ [97 + k], rfl, by simp [hw], fun c hc' => ?_⟩
      · unfold f_law_word_b1
        rw [ha.le, tx_len, Lt_len, eu, bnd_some, Lt_at (by omega), bnd_some, catS_tx (by simp; omega), bnd_some, lv]
      · rcases List.mem_append.mp hc' with h | h
        · exact hc c h
        · rw [List.mem_singleton.mp h]; exact Lt_mem.mpr ⟨k, by omega, rfl⟩)
  simp only at h3
  simp only [List.nil_append, List.length_map, List.length_range] at h4
  refine ⟨w, b', ?_, by omega, h5⟩
  unfold f_law_word
  rw [lv, ev, bnd_some, rng0 (by omega), bnd_some, e, bnd_some, h3]
theorem lfree_ok {n : Nat} {al : Alf} (ha : AlOk n al) (x y : Nat) : f_law_free al (tx [x]) (tx [y]) = some (!DA al x y) := by
  unfold f_law_free
  rw [catS_tx (by simp), bnd_some, catS_tx (by simp), bnd_some]
  have e : (inB (tx ([x] ++ [y])) al.2.2 || inB (tx ([y] ++ [x])) al.2.2) = !DA al x y := by
    show (inB (tx [x, y]) al.2.2 || inB (tx [y, x]) al.2.2) = !dpA al.2.2 x y
    unfold dpA
    rw [Bool.not_not]
    unfold inB
    rcases Nat.le_total x y with h | h
    · rw [Nat.min_eq_left h, Nat.max_eq_right h]
      by_cases hm : tx [y, x] ∈ al.2.2
      · obtain ⟨a, b, h1, _, e⟩ := ha.ps _ hm
        have := tx_inj.mp e
        simp only [List.cons.injEq, and_true] at this
        omega
      · simp [hm]
    · rw [Nat.min_eq_right h, Nat.max_eq_left h]
      by_cases hm : tx [x, y] ∈ al.2.2
      · obtain ⟨a, b, h1, _, e⟩ := ha.ps _ hm
        have := tx_inj.mp e
        simp only [List.cons.injEq, and_true] at this
        omega
      · simp [hm]
  unfold orO
  rw [← e]
  cases inB (tx ([x] ++ [y])) al.2.2 <;> rfl
/-- two neighbours that may change places -/
theorem al_swap {D : Nat → Nat → Bool} (hd : Dep D) {w : List Nat} {k : Nat} (h : k + 1 < w.length) (hf : D w[k] w[k + 1] = false) : Al D (w.take k ++ [w[k + 1]] ++ [w[k]] ++ w.drop (k + 2)) w := by
  have e : w = w.take k ++ ([w[k], w[k + 1]] ++ w.drop (k + 2)) := by
    have e1 : w.drop k = w[k] :: w.drop (k + 1) := List.drop_eq_getElem_cons (by omega)
    have e2 : w.drop (k + 1) = w[k + 1] :: w.drop (k + 2) := List.drop_eq_getElem_cons h
    have e0 := (List.take_append_drop k w).symm
    rw [e1, e2] at e0
    simpa using e0
  have h1 : Al D (w.take k ++ ([w[k + 1], w[k]] ++ w.drop (k + 2))) (w.take k ++ ([w[k], w[k + 1]] ++ w.drop (k + 2))) :=
    Al.app (Al.refl _) (Al.app (Al.symm (swap _ _ hf hd)) (Al.refl _))
  rw [← e] at h1
  simpa using h1
theorem mixed_ok (b : Box) {n : Nat} {al : Alf} (ha : AlOk n al) {w : List Nat} (hl : w.length ≤ 100) : ∃ w' b', f_law_mixed b al (tx w) = some (tx w', b') ∧ Al (DA al) w' w := by
  have hd := ha.dep
  obtain ⟨⟨b', s⟩, e, w', h3, h4⟩ := forN_inv (f := f_law_mixed_b1 al (tx w)) (fun _ (s : Box × Str) => ∃ w' : List Nat, s.2 = tx w' ∧ Al (DA al) w' w) ((List.range (2 * w.length)).map fun k : Nat => (k : Int)) [] (b, tx w) ⟨w, rfl, Al.refl _⟩ (fun p z q s hq hI => by
      obtain ⟨bx', s⟩ := s
      obtain ⟨w', hs, ha'⟩ := hI
      simp only at hs
      subst hs
      have hpos : 0 < w.length := by
        have := congrArg List.length hq
        simp at this; omega
      have hwl := ha'.len hd
      obtain ⟨u, u0, u1, eu⟩ := draw_some bx' (show (0 : Int) < (w'.length : Int) by omega)
      obtain ⟨k, rfl⟩ : ∃ k : Nat, u = (k : Int) := ⟨u.toNat, by omega⟩
      unfold f_law_mixed_b1
      rw [tx_len, eu, bnd_some, lv]
      by_cases hk : k + 1 < w'.length
      · have e1 : atS (tx w') (k : Int) = some (tx [w'[k]]) := atS_tx (List.getElem?_eq_getElem (by omega))
        have e2 : atS (tx w') ((k : Int) + (1 : Int)) = some (tx [w'[k + 1]]) := by
          rw [show (k : Int) + (1 : Int) = ((k + 1 : Nat) : Int) by omega]; exact atS_tx (List.getElem?_eq_getElem hk)
        have c1 : decide ((k : Int) + (1 : Int) < (w'.length : Int)) = true := decide_eq_true (by omega)
        simp only [c1]
        unfold andO
        rw [if_pos rfl, e1, bnd_some, e2, bnd_some, lfree_ok ha, bnd_some, bnd_some]
        cases hD : DA al w'[k] w'[k + 1] with
        | true => rw [if_neg (by simp), bnd_some]; exact ⟨_, rfl, w', rfl, ha'⟩
        | false =>
          rw [if_pos (by rfl), bnd_some, cutS_take (by omega), catS_tx (by simp; omega), bnd_some, bnd_some, catS_tx (by simp; omega), bnd_some, show (k : Int) + (2 : Int) = ((k + 2 : Nat) : Int) by omega, cutS_drop (by omega), catS_tx (by simp; omega), bnd_some, lv, bnd_some]
          exact ⟨_, rfl, _, rfl, (al_swap hd hk hD).trans ha'⟩
      · have c1 : decide ((k : Int) + (1 : Int) < (w'.length : Int)) = false := decide_eq_false (by omega)
        simp only [c1]
        unfold andO
        rw [if_neg (by simp), bnd_some, if_neg (by simp), bnd_some]
        exact ⟨_, rfl, w', rfl, ha'⟩)
  simp only at h3
  refine ⟨w', b', ?_, h4⟩
  have em : mulO (2 : Int) (w.length : Int) = some ((2 * w.length : Nat) : Int) := by
    unfold mulO
    rw [if_pos (by omega)]
    congr 1
  unfold f_law_mixed
  rw [tx_len, em, bnd_some, rng0 (by omega), bnd_some, e, bnd_some, h3]
/-! least words, of the program and of the law -/
section
variable {n : Nat} {al : Alf} (ha : AlOk n al)
include ha
theorem least_ok {w : List Nat} (hl : w.length ≤ 900) : f_least al (tx w) = some (tx (lstL (DA al) w)) := by
  have hd := ha.dep
  have loop : ∀ (m : Nat) (w found : List Nat) (fuel : Nat), w.length = m → m < fuel → found.length + m ≤ 1000 → m ≤ 900 → whileN (fun (s1' : Str × Str) => (some (((Str.length s1'.1 : Int) != 0)))) (f_least_b1 al (tx w)) fuel (tx w, tx found) = some (tx [], tx (found ++ lst (DA al) m w)) := by
    intro m
    induction m with
    | zero =>
      intro w found fuel hw hf _ _
      obtain ⟨k, rfl⟩ : ∃ k, fuel = k + 1 := ⟨fuel - 1, by omega⟩
      rw [List.eq_nil_of_length_eq_zero hw]
      simp [whileN, tx_ne, lst]
    | succ m ih =>
      intro w found fuel hw hf hfl hm9
      obtain ⟨k, rfl⟩ : ∃ k, fuel = k + 1 := ⟨fuel - 1, by omega⟩
      have hne : w.isEmpty = false := by cases w with
        | nil => cases hw
        | cons _ _ => rfl
      cases e : fsL (DA al) w with
      | nil => exact absurd e (fsL_ne hd (by intro e; rw [e] at hw; cases hw))
      | cons x l =>
        have hx : x ∈ fsL (DA al) w := by rw [e]; exact List.mem_cons_self
        have hxw := fsL_mem hx
        have hel : (w.erase x).length = m := by have := isF_len (mem_fsL.mp hx); omega
        have hb : ∀ w0, f_least_b1 al w0 (tx w, tx found) = some (tx (w.erase x), tx (found ++ [x])) := by
          intro w0
          unfold f_least_b1
          rw [firsts_ok al ha.irr (by omega), bnd_some, e, show atS (tx (x :: l)) (0 : Int) = some (tx [x]) from atS_tx (k := 0) rfl, bnd_some, lv, catS_tx (by simp; omega), bnd_some, without_ok hxw (by omega), bnd_some, lv]
        rw [whileN]
        simp only [tx_ne, hne, Bool.not_false, hb]
        have hcf : f_least_b1 al (tx w) = f_least_b1 al (tx (w.erase x)) := rfl
        rw [hcf, ih (w.erase x) (found ++ [x]) k hel (by omega) (by simp; omega) (by omega), lst, e]
        simp
  unfold f_least
  rw [lv, e_tx, loop w.length w [] 1000 rfl (by omega) (by simp; omega) hl, bnd_some, List.nil_append]
  rfl
/-- the letters of a word, rising -/
def srt (w : List Nat) : List Nat := (nub w).mergeSort fun a b => decide (a ≤ b)
omit ha in
theorem srt_mem {w : List Nat} {x : Nat} : x ∈ srt w ↔ x ∈ w := by unfold srt; rw [List.mem_mergeSort, Y.mem_nub]
omit ha in
theorem srt_lt (w : List Nat) : (srt w).Pairwise (· < ·) := by
  have h1 : (srt w).Pairwise fun a b => decide (a ≤ b) = true := List.pairwise_mergeSort (fun a b c h1 h2 => by simp at *; omega) (fun a b => by simp; omega) _
  have h2 : (srt w).Pairwise (· ≠ ·) := (List.mergeSort_perm _ _).nodup_iff.mpr (nub_nd w)
  exact (h1.and h2).imp fun {a b} h => by have := of_decide_eq_true h.1; omega
omit ha in
theorem srt_len (w : List Nat) : (srt w).length ≤ w.length := by unfold srt; rw [List.length_mergeSort]; exact nub_len
omit ha in
theorem set_tx {w : List Nat} (hl : w.length < 1000) : setO' Es (chrs (tx w)) = some ((srt w).map fun c => tx [c]) := by
  rw [chrs_tx, setO'_ok (by simpa using hl)]
  congr 1
  have e : nub (w.map fun c => tx [c]) = (nub w).map fun c => tx [c] := nub_inj w fun a _ b _ h => tx1.mp h
  rw [e]
  exact sort_tx (srt_lt w) (nub_nd w) fun x => by rw [srt_mem, Y.mem_nub]
omit ha in
theorem isF_take {D : Nat → Nat → Bool} (hd : Dep D) {x : Nat} {w : List Nat} : isF D x w ↔ x ∈ w ∧ ∀ y ∈ w.take (w.idxOf x), D x y = false := by
  constructor
  · rintro ⟨a, b, rfl, h⟩
    have hx := not_mem_ahead hd h
    refine ⟨by simp, ?_⟩
    rw [List.idxOf_append, if_neg hx, List.idxOf_cons_self, Nat.zero_add, List.take_left]
    exact h
  · rintro ⟨h1, h2⟩
    obtain ⟨a, b, rfl, h⟩ := split_first h1
    rw [List.idxOf_append, if_neg h, List.idxOf_cons_self, Nat.zero_add, List.take_left] at h2
    exact ⟨a, b, rfl, h2⟩
theorem leaders_ok {w : List Nat} (hl : w.length < 1000) : f_law_leaders al (some (tx w)) = some ((fsL (DA al) w).map fun c => tx [c]) := by
  have hd := ha.dep
  have step : ∀ (x : Nat) (f0 acc : List Str), x ∈ w → acc.length < 1000000 → f_law_leaders_b1 al (some (tx w)) f0 (tx [x]) acc = some (acc ++ if (w.take (w.idxOf x)).all (fun y => !DA al x y) = true then [tx [x]] else []) := by
    intro x f0 acc hx hacc
    have hi := List.idxOf_lt_length_of_mem hx
    unfold f_law_leaders_b1
    rw [bnd_some, bnd_some, sidx_tx hx, bnd_some, cutS_take (by omega), lv, chrs_tx]
    have e : lcO (fun t12' => (bnd (f_law_free al (tx [x]) t12') fun a13' => some ((!a13')))) (fun t12' => (some (t12'))) ((w.take (w.idxOf x)).map fun c => tx [c]) = some (((w.take (w.idxOf x)).filter fun y => DA al x y).map fun c => tx [c]) := by
      generalize w.take (w.idxOf x) = l
      induction l with
      | nil => rfl
      | cons y l ih =>
        simp only [List.map_cons, lcO, lfree_ok ha, bnd_some, ih, Bool.not_not, List.filter_cons]
        cases DA al x y <;> rfl
    rw [e, bnd_some, List.length_map]
    by_cases hc : (w.take (w.idxOf x)).all (fun y => !DA al x y) = true
    · have : (w.take (w.idxOf x)).filter (fun y => DA al x y) = [] := List.filter_eq_nil_iff.mpr fun y hy => by
        have := List.all_eq_true.mp hc y hy
        simpa using this
      rw [this, if_pos (by simp), if_pos hc, push_ok hacc, bnd_some, bnd_some]
    · have : (w.take (w.idxOf x)).filter (fun y => DA al x y) ≠ [] := fun e => hc (List.all_eq_true.mpr fun y hy => by
        have := List.filter_eq_nil_iff.mp e y hy
        simpa using this)
      have hlen : 0 < ((w.take (w.idxOf x)).filter fun y => DA al x y).length := List.length_pos_iff.mpr this
      rw [if_neg (by simp only [decide_eq_true_eq]; omega), if_neg hc, bnd_some, List.append_nil]
  have hsl := srt_len w
  unfold f_law_leaders
  rw [lv, bnd_some, set_tx hl, bnd_some]
  have loop : forN (f_law_leaders_b1 al (some (tx w)) []) ((srt w).map fun c => tx [c]) [] = some (((srt w).filter fun x => (w.take (w.idxOf x)).all fun y => !DA al x y).map fun c => tx [c]) := by
    have gen : ∀ (l : List Nat) (acc : List Str), (∀ x ∈ l, x ∈ w) → acc.length + l.length < 1000000 → forN (f_law_leaders_b1 al (some (tx w)) []) (l.map fun c => tx [c]) acc = some (acc ++ (l.filter fun x => (w.take (w.idxOf x)).all fun y => !DA al x y).map fun c => tx [c]) := by
      intro l
      induction l with
      | nil => intro acc _ _; simp [forN]
      | cons x l ih =>
        intro acc hm hacc
        rw [List.length_cons] at hacc
        simp only [List.map_cons, forN, step x [] acc (hm x List.mem_cons_self) (by omega), List.filter_cons]
        by_cases hc : (w.take (w.idxOf x)).all (fun y => !DA al x y) = true
        · rw [if_pos hc, if_pos hc, ih _ (fun y hy => hm y (List.mem_cons_of_mem _ hy)) (by simp; omega)]
          simp
        · rw [if_neg hc, if_neg hc, List.append_nil, ih _ (fun y hy => hm y (List.mem_cons_of_mem _ hy)) (by omega)]
    have := gen (srt w) [] (fun x hx => srt_mem.mp hx) (by simp; omega)
    rw [List.nil_append] at this
    exact this
  rw [loop, bnd_some]
  congr 2
  refine rise_eq (· < ·) (fun a => Nat.lt_irrefl a) (fun a b c => Nat.lt_trans) ((srt_lt w).filter _) (fsL_lt hd.rf w) fun x => ?_
  rw [List.mem_filter, srt_mem, mem_fsL, isF_take hd, List.all_eq_true]
  simp
omit ha in
theorem lwithout_ok {w : List Nat} {c : Nat} (h : c ∈ w) (hl : w.length ≤ 1000000) : f_law_without (some (tx w)) (tx [c]) = some (tx (w.erase c)) := by
  unfold f_law_without
  have hi := List.idxOf_lt_length_of_mem h
  rw [bnd_some, sidx_tx h, bnd_some, lv, bnd_some, bnd_some, show ((w.idxOf c : Nat) : Int) + (1 : Int) = ((w.idxOf c + 1 : Nat) : Int) by omega, cutS_take (by omega), cutS_drop (by omega), catS_tx (by simp; omega), bnd_some, erase_cut h]
theorem inB_fs (x : Nat) (l : List Nat) : inB (tx [x]) (l.map fun c => tx [c]) = decide (x ∈ l) := by
  unfold inB
  rw [Bool.eq_iff_iff, decide_eq_true_eq, decide_eq_true_eq, List.mem_map]
  exact ⟨fun ⟨c, h, e⟩ => by rw [← tx1.mp e]; exact h, fun h => ⟨x, h, rfl⟩⟩
end
end Y


set_option Elab.async false
set_option linter.all false
set_option maxRecDepth 100000
set_option maxHeartbeats 1000000
/-! meets, joins, all beginnings: what the program and the laws compute -/
namespace Y
open PySem PySem.Spec PyProof.Rows L2 Z Tr
section
variable {n : Nat} {al : Alf} (ha : AlOk n al)
include ha
theorem without_okF {w : List Nat} {c : Nat} (h : c ∈ w) (hl : w.length ≤ 1000000) : f_without_first (tx w) (tx [c]) = some (tx (w.erase c)) := without_ok h hl
theorem left_ok {p w : List Nat} (hl : w.length ≤ 900) : f_left_behind al (some (tx p)) (tx w) = some ((lb (DA al) p w).map tx) := by
  have loop : ∀ (p w : List Nat) (o0 : Str), w.length ≤ 900 → forR (ρ := (Option Str)) (f_left_behind_b1 al o0) (p.map fun c => tx [c]) (tx w) = some (match lb (DA al) p w with | some q => .nx (tx q) | none => .rt none) := by
    intro p
    induction p with
    | nil => intro w o0 _; rfl
    | cons x p ih =>
      intro w o0 hw
      have hb : f_left_behind_b1 al o0 (tx [x]) (tx w) = some (if x ∈ fsL (DA al) w then .nx (tx (w.erase x)) else .rt none) := by
        unfold f_left_behind_b1
        rw [firsts_ok al ha.irr (by omega), bnd_some, inS_tx]
        by_cases hx : x ∈ fsL (DA al) w
        · rw [decide_eq_true hx, if_neg (by simp), without_ok (fsL_mem hx) (by omega), bnd_some, lv, if_pos hx]
        · rw [decide_eq_false hx, if_pos (by rfl), if_neg hx]
      rw [List.map_cons, lb, forR, hb]
      by_cases hx : x ∈ fsL (DA al) w
      · rw [if_pos hx, if_pos hx]
        have := isF_len (mem_fsL.mp hx)
        exact ih (w.erase x) o0 (by omega)
      · rw [if_neg hx, if_neg hx]
  unfold f_left_behind
  rw [bnd_some, chrs_tx, loop p w _ hl, bnd_some]
  cases e : lb (DA al) p w with
  | none => rfl
  | some q => rfl
end
/-! all beginnings -/
section
variable {D : Nat → Nat → Bool}
/-- rows of numbers that are small -/
def vecs (m : Nat) : Nat → List (List Nat)
  | 0 => [[]]
  | n + 1 => (vecs m n).flatMap fun v => (List.range (m + 1)).map fun a => a :: v
theorem vecs_len (m : Nat) : ∀ n, (vecs m n).length = (m + 1) ^ n
  | 0 => rfl
  | n + 1 => by
    rw [vecs, Nat.pow_succ, ← vecs_len m n]
    generalize vecs m n = l
    induction l with
    | nil => simp
    | cons v l ih => rw [List.flatMap_cons, List.length_append, ih, List.length_map, List.length_range, List.length_cons, Nat.add_mul, Nat.one_mul, Nat.add_comm]
theorem mem_vecs {m : Nat} : ∀ {v : List Nat}, (∀ a ∈ v, a ≤ m) → v ∈ vecs m v.length
  | [], _ => by simp [vecs]
  | a :: v, h => by
    rw [List.length_cons, vecs, List.mem_flatMap]
    exact ⟨v, mem_vecs fun b hb => h b (List.mem_cons_of_mem _ hb), List.mem_map.mpr ⟨a, List.mem_range.mpr (by have := h a List.mem_cons_self; omega), rfl⟩⟩
/-- there are not many beginnings -/
theorem pf_many (hd : Dep D) {n m : Nat} {w : List Nat} (hm : w.length ≤ m) (hc : ∀ c ∈ w, c ∈ Lt n) {F : List (List Nat)} (nd : F.Nodup) (hF : ∀ u ∈ F, Pf D u w ∧ lstL D u = u) : F.length ≤ (m + 1) ^ n := by
  have e : F.length = (F.map fun u => (Lt n).map fun c => u.count c).length := by simp
  rw [e, ← vecs_len m n]
  refine len_sub ?_ fun v hv => ?_
  · show List.Pairwise _ _
    rw [List.pairwise_map]
    refine nd.imp_of_mem fun {a b} ha hb hab h => hab ?_
    obtain ⟨pa, la⟩ := hF a ha
    obtain ⟨pb, lb⟩ := hF b hb
    have : Al D a b := pf_count hd pa pb fun x => by
      by_cases hx : x ∈ Lt n
      · exact List.map_inj_left.mp h x hx
      · rw [List.count_eq_zero_of_not_mem fun h' => hx (hc x (pa.mem hd h')), List.count_eq_zero_of_not_mem fun h' => hx (hc x (pb.mem hd h'))]
    rw [← la, ← lb, lstL_eq hd this]
  · obtain ⟨u, hu, rfl⟩ := List.mem_map.mp hv
    have := mem_vecs (m := m) (v := (Lt n).map fun c => u.count c) fun a ha => by
      obtain ⟨c, _, rfl⟩ := List.mem_map.mp ha
      have h1 := (hF u hu).1.len hd
      have h2 := List.count_le_length (a := c) (l := u)
      omega
    rwa [List.length_map, Lt_len] at this
structure Bf (D : Nat → Nat → Bool) (w : List Nat) (F : List (List Nat)) (k : Nat) : Prop where
  nd : F.Nodup
  pf : ∀ u ∈ F, Pf D u w ∧ lstL D u = u
  nl : [] ∈ F
  cl : ∀ i, i < k → ∀ u, F[i]? = some u → ∀ x, Pf D (u ++ [x]) w → lstL D (u ++ [x]) ∈ F
theorem Bf.all (hd : Dep D) {w : List Nat} {F : List (List Nat)} (h : Bf D w F F.length) : ∀ (m : Nat) (u : List Nat), u.length = m → Pf D u w → lstL D u ∈ F
  | 0, u, hl, _ => by rw [List.eq_nil_of_length_eq_zero hl]; exact h.nl
  | m + 1, u, hl, hp => by
    rcases List.eq_nil_or_concat u with rfl | ⟨v, x, rfl⟩
    · cases hl
    · rw [List.concat_eq_append] at hl hp ⊢
      have hv : Pf D v w := Pf.trans ⟨[x], Al.refl _⟩ hp
      have hm := Bf.all hd h m v (by simpa using hl) hv
      obtain ⟨i, hi, e⟩ := List.mem_iff_getElem.mp hm
      have ha : Al D (lstL D v ++ [x]) (v ++ [x]) := Al.app (lstL_al hd v) (Al.refl _)
      have := h.cl i hi _ (by rw [List.getElem?_eq_getElem hi, e]) x (hp.al ha.symm (Al.refl _))
      rw [lstL_eq hd ha] at this
      exact this
end
section
variable {n : Nat} {al : Alf} (ha : AlOk n al)
include ha
/-- the key: length, then the text -/
abbrev GL : Enc (Int × Str) := Er (Rc Ei (R1 Es)) rfl
def byS (l : List Str) : List Str := l.mergeSort fun a b => PySem.W.dataLe false toPy (GL.enc ((Str.length a : Int), a)) (GL.enc ((Str.length b : Int), b))
omit ha in
theorem byS_mem {l : List Str} {a : Str} : a ∈ byS l ↔ a ∈ l := List.mem_mergeSort
omit ha in
theorem sortS_ok (l : List Str) (h : ∀ a ∈ l, Str.length a ≤ 1000000) : sortKO (Er (Rc Ei (R1 Es)) rfl) okLS (fun z => ((Str.length z : Int), z)) l = some (byS l) := by
  unfold sortKO
  rw [if_pos]
  · rfl
  · rw [List.all_eq_true]
    intro a ha
    simp only [okLS, decide_eq_true_eq]; exact h a ha
/-- what stands in all beginnings -/
structure PfL (D : Nat → Nat → Bool) (w : List Nat) (L : List Str) : Prop where
  mem : ∀ s, s ∈ L ↔ ∃ u, s = tx u ∧ Pf D u w ∧ lstL D u = u
  pw : L.Pairwise fun a b => Str.length a ≤ Str.length b
  len : L.length < 100000
end
end Y


set_option Elab.async false
set_option linter.all false
set_option maxRecDepth 100000
set_option synthInstance.maxHeartbeats 400000
set_option synthInstance.maxSize 4000
set_option maxHeartbeats 1000000
namespace P30
open PySem PySem.Spec PyProof.Rows L2 Z Y Tr
theorem bq {α β : Type} (a : α) (f : α → Option β) : bnd (some a) f = f a := id rfl
theorem lvq {α β : Type} (a : α) (f : α → β) : lv a f = f a := id rfl
theorem e_alpha : n_law_alphabet = f_law_alphabet := rfl
theorem e_word : n_law_word = f_law_word := rfl
theorem e_mixed : n_law_mixed = f_law_mixed := rfl
theorem e_free : n_law_free = f_law_free := rfl
theorem e_least : n_least = f_least := rfl
theorem e_firsts : n_firsts = f_firsts := rfl
theorem e_without : n_without_first = f_without_first := rfl
theorem e_lead (al : Alf) (w : Str) : n_law_leaders al w = f_law_leaders al (some w) := rfl
theorem e_lwith (w x : Str) : n_law_without w x = f_law_without (some w) x := rfl
theorem e_left (al : Alf) (w o : Str) : n_left_behind al w o = f_left_behind al (some w) o := rfl
section
variable {n : Nat} {al : Alf} (ha : AlOk n al)
include ha
theorem lead_ok {w : List Nat} (hl : w.length < 1000) : n_law_leaders al (tx w) = some ((fsL (DA al) w).map fun c => tx [c]) := by rw [e_lead]; exact leaders_ok ha hl
theorem sleast_ok {w : List Nat} (hl : w.length ≤ 900) : n_law_least al (tx w) = some (tx (lstL (DA al) w)) := by
  have hd := ha.dep
  have loop : ∀ (m : Nat) (w found : List Nat) (fuel : Nat) (w0 : Str) (b0 : Str), w.length = m → m < fuel → found.length + m ≤ 1000 → m ≤ 900 → whileN (fun (s1' : Str × Str) => (some ((decide ((0 : Int) < (Str.length s1'.1 : Int)))))) (n_law_least_b1 al w0 b0) fuel (tx w, tx found) = some (tx [], tx (found ++ lst (DA al) m w)) := by
    intro m
    induction m with
    | zero =>
      intro w found fuel w0 b0 hw hf _ _
      obtain ⟨k, rfl⟩ : ∃ k, fuel = k + 1 := ⟨fuel - 1, by omega⟩
      rw [List.eq_nil_of_length_eq_zero hw]
      simp [whileN, tx_len, lst]
    | succ m ih =>
      intro w found fuel w0 b0 hw hf hfl hm9
      obtain ⟨k, rfl⟩ : ∃ k, fuel = k + 1 := ⟨fuel - 1, by omega⟩
      cases e : fsL (DA al) w with
      | nil => exact absurd e (fsL_ne hd (by intro e; rw [e] at hw; cases hw))
      | cons x l =>
        have hx : x ∈ fsL (DA al) w := by rw [e]; exact List.mem_cons_self
        have hxw := fsL_mem hx
        have hel : (w.erase x).length = m := by have := isF_len (mem_fsL.mp hx); omega
        have hb : n_law_least_b1 al w0 b0 (tx w, tx found) = some (tx (w.erase x), tx (found ++ [x])) := by
          unfold n_law_least_b1
          rw [lead_ok ha (by omega), bq, e, List.map_cons, show L2.atI (tx [x] :: l.map fun c => tx [c]) (0 : Int) = some (tx [x]) from at_some (k := 0) rfl, bq, lvq, catS_tx (by simp; omega), bq, lvq, e_lwith, lwithout_ok hxw (by omega), bq, lvq]
        have hc : decide ((0 : Int) < (w.length : Int)) = true := decide_eq_true (by omega)
        rw [whileN]
        simp only [tx_len, hc, hb]
        rw [ih (w.erase x) (found ++ [x]) k w0 b0 hel (by omega) (by simp; omega) (by omega), lst, e]
        simp
  unfold n_law_least
  rw [lvq, e_tx, loop w.length w [] 1000 _ _ rfl (by omega) (by simp; omega) hl, bq, List.nil_append]
  rfl
theorem srest_ok {p w : List Nat} (hl : w.length ≤ 900) : n_law_rest al (tx p) (tx w) = some ((lb (DA al) p w).map fun q => tx (lstL (DA al) q)) := by
  have loop : ∀ (p w : List Nat) (o0 : Str), w.length ≤ 900 → forR (ρ := (Option Str)) (n_law_rest_b1 al o0) (p.map fun c => tx [c]) (tx w) = some (match lb (DA al) p w with | some q => .nx (tx q) | none => .rt none) := by
    intro p
    induction p with
    | nil => intro w o0 _; rfl
    | cons x p ih =>
      intro w o0 hw
      have hb : n_law_rest_b1 al o0 (tx [x]) (tx w) = some (if x ∈ fsL (DA al) w then .nx (tx (w.erase x)) else .rt none) := by
        unfold n_law_rest_b1
        rw [lead_ok ha (by omega), bq, inB_fs ha]
        by_cases hx : x ∈ fsL (DA al) w
        · rw [decide_eq_true hx, if_neg (by simp), e_lwith, lwithout_ok (fsL_mem hx) (by omega), bq, lvq, if_pos hx]
        · rw [decide_eq_false hx, if_pos (by rfl), if_neg hx]
      rw [List.map_cons, lb, forR, hb]
      by_cases hx : x ∈ fsL (DA al) w
      · rw [if_pos hx, if_pos hx]
        have := isF_len (mem_fsL.mp hx)
        exact ih (w.erase x) o0 (by omega)
      · rw [if_neg hx, if_neg hx]
  unfold n_law_rest
  rw [chrs_tx, loop p w _ hl, bq]
  cases e : lb (DA al) p w with
  | none => rfl
  | some q =>
    have := lb_len e
    show bnd (n_law_least al (tx q)) _ = _
    rw [sleast_ok ha (by omega), bq]
    rfl
theorem behind_ok {p w : List Nat} (hl : w.length ≤ 900) : n_left_behind al (tx p) (tx w) = some ((lb (DA al) p w).map tx) := by rw [e_left]; exact left_ok ha hl
theorem isp_ok {p w : List Nat} (hl : w.length ≤ 900) : n_is_prefix al (tx p) (tx w) = some (lb (DA al) p w).isSome := by
  unfold n_is_prefix
  rw [behind_ok ha hl, bq]
  cases lb (DA al) p w <;> rfl
theorem prest_ok {p w : List Nat} (hl : w.length ≤ 900) : n_rest al (tx p) (tx w) = some ((lb (DA al) p w).map fun q => tx (lstL (DA al) q)) := by
  unfold n_rest
  rw [behind_ok ha hl, bq, lvq]
  cases e : lb (DA al) p w with
  | none => rfl
  | some q =>
    have := lb_len e
    show bnd (bnd (some (tx q)) fun a8' => bnd (n_least al a8') fun a9' => some ((some a9'))) _ = _
    rw [bq, e_least, least_ok ha (by omega), bq, bq]
    rfl
end
/-! the second part of the law -/
theorem sz_o (o : Option Str) : szD ((Eo Es rfl).enc o) = true := by cases o <;> rfl
section
variable {n : Nat} {al : Alf} (ha : AlOk n al)
include ha
theorem lb2_ok {p w : List Nat} (hl : w.length ≤ 900) (d0 : List Str) (b : Box) : n_law_b2 al (tx w) d0 (tx p) b = some (.nx b) := by
  unfold n_law_b2
  rw [srest_ok ha hl, bq, lvq, isp_ok ha hl, bq]
  have e : (lb (DA al) p w).isSome = !Option.isNone ((lb (DA al) p w).map fun q => tx (lstL (DA al) q)) := by cases lb (DA al) p w <;> rfl
  rw [e, Y.same_self (by rfl), bq, if_neg (by decide), prest_ok ha hl, bq, Y.same_self (sz_o _), bq, if_neg (by decide)]
end
end P30


set_option Elab.async false
set_option linter.all false
set_option maxRecDepth 100000
set_option synthInstance.maxHeartbeats 400000
set_option synthInstance.maxSize 4000
set_option maxHeartbeats 1000000
/-! all words alike one, by exchanges -/
namespace P30
open PySem PySem.Spec PyProof.Rows L2 Z Y Tr
section
variable {D : Nat → Nat → Bool}
/-- two neighbours exchanged -/
def sw (w : List Nat) (k : Nat) : List Nat := w.take k ++ [w.getD (k + 1) 0] ++ [w.getD k 0] ++ w.drop (k + 2)
def fr (D : Nat → Nat → Bool) (w : List Nat) (k : Nat) : Bool := !D (w.getD k 0) (w.getD (k + 1) 0)
theorem move {F : List (List Nat)} (hd : Dep D) (h : ∀ p x y q, p ++ x :: y :: q ∈ F → D x y = false → p ++ y :: x :: q ∈ F) {x : Nat} {b : List Nat} : ∀ (a p : List Nat), (∀ y ∈ a, D x y = false) → p ++ (a ++ x :: b) ∈ F → p ++ x :: (a ++ b) ∈ F
  | [], p, _, hm => hm
  | y :: a, p, hf, hm => by
    have := move hd h a (p ++ [y]) (fun z hz => hf z (List.mem_cons_of_mem _ hz)) (by simpa using hm)
    have e : p ++ [y] ++ x :: (a ++ b) = p ++ y :: x :: (a ++ b) := by simp
    rw [e] at this
    exact h p y x (a ++ b) this (by rw [hd.sm]; exact hf y List.mem_cons_self)
theorem closed {F : List (List Nat)} (hd : Dep D) (h : ∀ p x y q, p ++ x :: y :: q ∈ F → D x y = false → p ++ y :: x :: q ∈ F) : ∀ (u v p : List Nat), Al D u v → p ++ v ∈ F → p ++ u ∈ F
  | [], v, p, ha, hm => by rw [ha.nil hd] at hm; exact hm
  | x :: u, v, p, ha, hm => by
    obtain ⟨hf, hu⟩ := (al_cons hd).mp ha
    obtain ⟨a, b, rfl, hfa⟩ := hf
    rw [erase_at (not_mem_ahead hd hfa)] at hu
    have h1 := move hd h a p hfa hm
    have := closed hd h u (a ++ b) (p ++ [x]) hu (by simpa using h1)
    simpa using this
theorem sw_at (p : List Nat) (x y : Nat) (q : List Nat) : sw (p ++ x :: y :: q) p.length = p ++ y :: x :: q := by
  unfold sw
  have e1 : (p ++ x :: y :: q).getD (p.length + 1) 0 = y := by simp [List.getD_eq_getElem?_getD]
  have e2 : (p ++ x :: y :: q).getD p.length 0 = x := by simp [List.getD_eq_getElem?_getD]
  have e3 : (p ++ x :: y :: q).drop (p.length + 2) = q := by
    rw [← List.drop_drop, List.drop_left]; rfl
  rw [e1, e2, e3, List.take_left]; simp
theorem sw_al (hd : Dep D) {w : List Nat} {k : Nat} (h : k + 1 < w.length) (hf : fr D w k = true) : Al D (sw w k) w := by
  unfold sw fr at *
  rw [gD 0 h, gD 0 (show k < w.length by omega)] at *
  exact al_swap hd h (by simpa using hf)
end
def kn (F : List (List Nat)) : List (Str × Bool) := F.map fun u => (tx u, true)
theorem kn_has (F : List (List Nat)) (v : List Nat) : dHas (kn F) (tx v) = decide (v ∈ F) := by
  unfold dHas kn
  rw [Bool.eq_iff_iff, List.any_eq_true, decide_eq_true_eq]
  constructor
  · rintro ⟨p, hp, e⟩
    obtain ⟨u, hu, rfl⟩ := List.mem_map.mp hp
    rw [← tx_inj.mp (of_decide_eq_true e)]; exact hu
  · intro h
    exact ⟨_, List.mem_map.mpr ⟨v, h, rfl⟩, decide_eq_true rfl⟩
theorem kn_put {F : List (List Nat)} {v : List Nat} (h : v ∉ F) (hl : F.length < 1000000) : dPutO (kn F) (tx v) true = some (kn (F ++ [v])) := by
  unfold dPutO dPut
  rw [if_pos (by unfold kn; simpa using hl), kn_has, decide_eq_false h, if_neg (by decide)]
  unfold kn
  rw [List.map_append]; rfl
section
variable {n : Nat} {al : Alf} (ha : AlOk n al)
include ha
theorem cb1_ok {w : List Nat} {k : Nat} (hk : k + 1 < w.length) (hl : w.length ≤ 100) {F : List (List Nat)} (hF : F.length < 100000) : n_law_class_b1 al (tx w) (k : Int) (F.map tx, kn F) = some (if fr (DA al) w k = true ∧ sw w k ∉ F then ((F ++ [sw w k]).map tx, kn (F ++ [sw w k])) else (F.map tx, kn F)) := by
  have e1 : atS (tx w) (k : Int) = some (tx [w.getD k 0]) := atS_tx (by rw [gD 0 (by omega)]; exact List.getElem?_eq_getElem (by omega))
  have e2 : atS (tx w) ((k : Int) + (1 : Int)) = some (tx [w.getD (k + 1) 0]) := by
    rw [show (k : Int) + (1 : Int) = ((k + 1 : Nat) : Int) by omega]
    exact atS_tx (by rw [gD 0 hk]; exact List.getElem?_eq_getElem hk)
  unfold n_law_class_b1
  rw [e1, bq, e2, bq, e_free, lfree_ok ha, bq]
  have hfr : (!DA al (w.getD k 0) (w.getD (k + 1) 0)) = fr (DA al) w k := rfl
  rw [hfr]
  by_cases h1 : fr (DA al) w k = true
  · rw [if_pos h1, cutS_take (by omega), bq, catS_tx (by simp; omega), bq, bq, catS_tx (by simp; omega), bq, show (k : Int) + (2 : Int) = ((k + 2 : Nat) : Int) by omega, cutS_drop (by omega), catS_tx (by simp; omega), bq, lvq]
    have es : List.take k w ++ [w.getD (k + 1) 0] ++ [w.getD k 0] ++ List.drop (k + 2) w = sw w k := rfl
    rw [es, kn_has]
    by_cases h2 : sw w k ∈ F
    · rw [decide_eq_true h2, if_neg (by decide), bq, bq, if_neg fun h => h.2 h2]
    · rw [decide_eq_false h2, if_pos (by decide), kn_put h2 (by omega), bq, push_ok (by simp; omega), bq, bq, bq, if_pos ⟨h1, h2⟩, List.map_append]; rfl
  · rw [if_neg h1, bq, if_neg fun h => h1 h.1]
theorem cstep {w : List Nat} (hl : w.length ≤ 100) {F : List (List Nat)} : ∀ (l : List Nat), (∀ k ∈ l, k + 1 < w.length) → F.length + l.length < 100000 → ∃ G : List (List Nat), forN (n_law_class_b1 al (tx w)) (l.map fun k : Nat => (k : Int)) (F.map tx, kn F) = some ((F ++ G).map tx, kn (F ++ G)) ∧ (F.Nodup → (F ++ G).Nodup) ∧ (∀ g ∈ G, ∃ k ∈ l, fr (DA al) w k = true ∧ g = sw w k) ∧ ∀ k ∈ l, fr (DA al) w k = true → sw w k ∈ F ++ G := by
  intro l
  induction l generalizing F with
  | nil => intro _ _; exact ⟨[], by simp [forN], by simp, (fun g h => nomatch h), (fun x h => nomatch h)⟩
  | cons k l ih =>
    intro hk hlen
    rw [List.length_cons] at hlen
    have hb := cb1_ok ha (hk k List.mem_cons_self) hl (F := F) (by omega)
    simp only [List.map_cons, forN, hb]
    by_cases hm : fr (DA al) w k = true ∧ sw w k ∉ F
    · rw [if_pos hm]
      obtain ⟨G, e, h1, h2, h3⟩ := ih (F := F ++ [sw w k]) (fun j hj => hk j (List.mem_cons_of_mem _ hj)) (by simp; omega)
      refine ⟨sw w k :: G, by simpa using e, fun nd => ?_, fun g hg => ?_, fun y hy hf => ?_⟩
      · have := h1 (List.nodup_append.mpr ⟨nd, by simp, fun a ha b hb e => hm.2 (by rw [List.mem_singleton.mp hb] at e; rw [← e]; exact ha)⟩)
        simpa using this
      · rcases List.mem_cons.mp hg with rfl | hg
        · exact ⟨k, List.mem_cons_self, hm.1, rfl⟩
        · obtain ⟨y, hy, h⟩ := h2 g hg; exact ⟨y, List.mem_cons_of_mem _ hy, h⟩
      · rcases List.mem_cons.mp hy with rfl | hy
        · simp
        · have := h3 y hy hf; simpa using this
    · rw [if_neg hm]
      obtain ⟨G, e, h1, h2, h3⟩ := ih (F := F) (fun j hj => hk j (List.mem_cons_of_mem _ hj)) (by omega)
      refine ⟨G, e, h1, fun g hg => ?_, fun y hy hf => ?_⟩
      · obtain ⟨y, hy, h⟩ := h2 g hg; exact ⟨y, List.mem_cons_of_mem _ hy, h⟩
      · rcases List.mem_cons.mp hy with rfl | hy
        · refine List.mem_append_left _ (Classical.byContradiction fun h => hm ⟨hf, h⟩)
        · exact h3 y hy hf
omit ha in
theorem rngm (m : Nat) (h : m ≤ 100) : rngO (0 : Int) ((m : Int) - (1 : Int)) = some ((List.range (m - 1)).map fun k : Nat => (k : Int)) := by
  cases m with
  | zero => decide
  | succ m =>
    rw [show ((m + 1 : Nat) : Int) - (1 : Int) = ((m : Nat) : Int) by omega]
    exact rng0 (by omega)
structure Cf (D : Nat → Nat → Bool) (w : List Nat) (F : List (List Nat)) (k : Nat) : Prop where
  nd : F.Nodup
  al : ∀ u ∈ F, Al D u w
  st : w ∈ F
  cl : ∀ i, i < k → ∀ u, F[i]? = some u → ∀ j, j + 1 < u.length → fr D u j = true → sw u j ∈ F
theorem class_ok {w : List Nat} (hl : w.length ≤ 6) : ∃ F : List (List Nat), n_law_class al (tx w) = some (F.map tx) ∧ F.Nodup ∧ F.length ≤ 720 ∧ ∀ u, u ∈ F ↔ Al (DA al) u w := by
  have hd := ha.dep
  have many : ∀ {F : List (List Nat)}, F.Nodup → (∀ u ∈ F, Al (DA al) u w) → F.length ≤ 720 := fun nd h => by
    refine Nat.le_trans (len_sub nd fun u hu => (mem_wdsL hd).mpr (h u hu)) (Nat.le_trans (wds_fac rfl) ?_)
    exact fac_mono hl
  have loop : ∀ (fuel : Nat) (F : List (List Nat)) (k : Nat) (t : Int), Cf (DA al) w F k → k ≤ F.length → 720 < fuel + k → ∃ F' : List (List Nat), whileN (fun (s1' : (List Str) × Int × (List (Str × Bool))) => (some ((decide (s1'.2.1 < (List.length s1'.1 : Int)))))) (n_law_class_b2 al t) fuel (F.map tx, (k : Int), kn F) = some (F'.map tx, (F'.length : Int), kn F') ∧ Cf (DA al) w F' F'.length := by
    intro fuel
    induction fuel with
    | zero =>
      intro F k t hB hk hf
      have := many hB.nd hB.al
      omega
    | succ fuel ih =>
      intro F k t hB hk hf
      have hFl := many hB.nd hB.al
      rw [whileN]
      by_cases hlt : k < F.length
      · have hc1 : decide ((k : Int) < ((F.map tx).length : Int)) = true := decide_eq_true (by simp; omega)
        have hu := hB.al F[k] (List.getElem_mem hlt)
        have hul := hu.len hd
        obtain ⟨G, e, h1, h2, h3⟩ := cstep ha (w := F[k]) (by omega) (F := F) (List.range (F[k].length - 1)) (fun j hj => by have := List.mem_range.mp hj; omega) (by simp; omega)
        have hb : n_law_class_b2 al t (F.map tx, (k : Int), kn F) = some ((F ++ G).map tx, ((k + 1 : Nat) : Int), kn (F ++ G)) := by
          unfold n_law_class_b2
          have e0 : L2.atI (F.map tx) (k : Int) = some (tx F[k]) := at_some (by rw [List.getElem?_map, List.getElem?_eq_getElem hlt]; rfl)
          rw [e0, bq, lvq, lvq, tx_len, rngm _ (by omega), bq, e, bq]
          rfl
        simp only [hc1, hb]
        refine ih (F ++ G) (k + 1) t ⟨h1 hB.nd, fun u hu => ?_, List.mem_append_left _ hB.st, fun i hi u hiu j hj hf => ?_⟩ (by simp; omega) (by omega)
        · rcases List.mem_append.mp hu with h | h
          · exact hB.al u h
          · obtain ⟨j, hj, hf, rfl⟩ := h2 u h
            exact (sw_al hd (by have := List.mem_range.mp hj; omega) hf).trans (hB.al F[k] (List.getElem_mem hlt))
        · have hil : i < F.length := by omega
          rw [List.getElem?_append_left hil] at hiu
          rcases Nat.lt_or_ge i k with h | h
          · exact List.mem_append_left _ (hB.cl i h u hiu j hj hf)
          · have : i = k := by omega
            subst this
            rw [List.getElem?_eq_getElem hlt] at hiu
            obtain rfl := Option.some.inj hiu
            exact h3 j (List.mem_range.mpr (by omega)) hf
      · have hc1 : decide ((k : Int) < ((F.map tx).length : Int)) = false := decide_eq_false (by simp; omega)
        simp only [hc1]
        have : k = F.length := by omega
        subst this
        exact ⟨F, rfl, hB⟩
  obtain ⟨F, e, hB⟩ := loop 10000 [w] 0 0 ⟨by simp, fun u hu => by rw [List.mem_singleton.mp hu]; exact Al.refl _, by simp, fun i hi => by omega⟩ (by simp) (by omega)
  refine ⟨F, ?_, hB.nd, many hB.nd hB.al, fun u => ⟨hB.al u, fun h => ?_⟩⟩
  · unfold n_law_class
    rw [lvq, lvq, lvq]
    have e : whileN (fun (s1' : (List Str) × Int × (List (Str × Bool))) => (some ((decide (s1'.2.1 < (List.length s1'.1 : Int)))))) (n_law_class_b2 al 0) 10000 ([tx w], 0, [(tx w, true)]) = some (F.map tx, (F.length : Int), kn F) := e
    rw [e, bq]
  · have := closed hd (F := F) (fun p x y q hm hxy => by
      obtain ⟨i, hi, e⟩ := List.mem_iff_getElem.mp hm
      have := hB.cl i hi _ (by rw [List.getElem?_eq_getElem hi, e]) p.length (by simp) (by
        unfold fr
        have e1 : (p ++ x :: y :: q).getD (p.length + 1) 0 = y := by simp [List.getD_eq_getElem?_getD]
        have e2 : (p ++ x :: y :: q).getD p.length 0 = x := by simp [List.getD_eq_getElem?_getD]
        rw [e1, e2, hxy]; rfl)
      rwa [sw_at] at this) u w [] h hB.st
    exact this
end
end P30


set_option Elab.async false
set_option linter.all false
set_option maxRecDepth 100000
set_option synthInstance.maxHeartbeats 400000
set_option synthInstance.maxSize 4000
set_option maxHeartbeats 1000000
/-! the beginnings, and what is left behind each -/
namespace P30
open PySem PySem.Spec PyProof.Rows L2 Z Y Tr
def ent (E : List (List Nat × List Nat)) : List (Str × Str) := E.map fun p => (tx p.1, tx p.2)
structure Bg (D : Nat → Nat → Bool) (w : List Nat) (E : List (List Nat × List Nat)) : Prop where
  nd : (E.map (·.1)).Nodup
  ok : ∀ p ∈ E, lstL D p.1 = p.1 ∧ lstL D p.2 = p.2 ∧ Al D (p.1 ++ p.2) w
section
variable {D : Nat → Nat → Bool} {w : List Nat} {E : List (List Nat × List Nat)}
theorem Bg.val (hd : Dep D) (h : Bg D w E) {p : List Nat × List Nat} (hp : p ∈ E) {a b : List Nat} (hab : Al D (a ++ b) w) (e : p.1 = lstL D a) : p.2 = lstL D b := by
  obtain ⟨_, h2, h3⟩ := h.ok p hp
  rw [e] at h3
  have h4 : Al D (lstL D a ++ p.2) (lstL D a ++ b) := h3.trans (hab.symm.trans (Al.app (lstL_al hd a).symm (Al.refl b)))
  rw [← h2, lstL_eq hd h4.cancel]
theorem Bg.pf (h : Bg D w E) : ∀ u ∈ E.map (·.1), Pf D u w ∧ lstL D u = u := fun u hu => by
  obtain ⟨p, hp, rfl⟩ := List.mem_map.mp hu
  obtain ⟨h1, _, h3⟩ := h.ok p hp
  exact ⟨⟨_, h3⟩, h1⟩
theorem ent_has (E : List (List Nat × List Nat)) (a : List Nat) : dHas (ent E) (tx a) = decide (a ∈ E.map (·.1)) := by
  unfold dHas ent
  rw [Bool.eq_iff_iff, List.any_eq_true, decide_eq_true_eq]
  constructor
  · rintro ⟨p, hp, e⟩
    obtain ⟨u, hu, rfl⟩ := List.mem_map.mp hp
    rw [← tx_inj.mp (of_decide_eq_true e)]; exact List.mem_map.mpr ⟨u, hu, rfl⟩
  · intro h
    obtain ⟨p, hp, rfl⟩ := List.mem_map.mp h
    exact ⟨_, List.mem_map.mpr ⟨p, hp, rfl⟩, decide_eq_true rfl⟩
theorem ent_get (a : List Nat) : ∀ (E : List (List Nat × List Nat)), dGet (ent E) (tx a) = (E.find? fun p => decide (p.1 = a)).map fun p => tx p.2
  | [] => rfl
  | p :: E => by
    show (if tx p.1 = tx a then some (tx p.2) else dGet (ent E) (tx a)) = _
    rw [ent_get a E, List.find?_cons]
    by_cases h : p.1 = a
    · rw [if_pos (by rw [h]), decide_eq_true h]; rfl
    · rw [if_neg (fun z => h (tx_inj.mp z)), decide_eq_false h]
theorem put_ok (hd : Dep D) (h : Bg D w E) (hl : E.length < 1000000) {a b : List Nat} (hab : Al D (a ++ b) w) : ∃ E', dPutO (ent E) (tx (lstL D a)) (tx (lstL D b)) = some (ent E') ∧ Bg D w E' ∧ (∀ u ∈ E.map (·.1), u ∈ E'.map (·.1)) ∧ lstL D a ∈ E'.map (·.1) := by
  by_cases hm : lstL D a ∈ E.map (·.1)
  · refine ⟨E, ?_, h, fun u hu => hu, hm⟩
    unfold dPutO dPut
    rw [if_pos (by unfold ent; simpa using hl), ent_has, decide_eq_true hm, if_pos rfl]
    congr 1
    unfold ent
    rw [List.map_map]
    apply List.map_congr_left
    intro p hp
    simp only [Function.comp]
    split
    · rename_i e
      rw [h.val hd hp hab (tx_inj.mp e)]
    · rfl
  · refine ⟨E ++ [(lstL D a, lstL D b)], ?_, ⟨?_, fun p hp => ?_⟩, fun u hu => ?_, by simp⟩
    · unfold dPutO dPut
      rw [if_pos (by unfold ent; simpa using hl), ent_has, decide_eq_false hm, if_neg (by decide)]
      unfold ent
      rw [List.map_append]; rfl
    · rw [List.map_append]
      exact List.nodup_append.mpr ⟨h.nd, by simp, fun x hx y hy e => hm (by have h9 : y = lstL D a := List.mem_singleton.mp hy; rw [← h9, ← e]; exact hx)⟩
    · rcases List.mem_append.mp hp with hp | hp
      · exact h.ok p hp
      · rw [List.mem_singleton.mp hp]
        exact ⟨lstL_lst hd _, lstL_lst hd _, (Al.app (lstL_al hd a) (lstL_al hd b)).trans hab⟩
    · rw [List.map_append]; exact List.mem_append_left _ hu
end
section
variable {n : Nat} {al : Alf} (ha : AlOk n al)
include ha
theorem bg_len (hn : n ≤ 4) {w : List Nat} (hl : w.length ≤ 6) (hc : ∀ c ∈ w, c ∈ Lt n) {E : List (List Nat × List Nat)} (h : Bg (DA al) w E) : E.length ≤ 2401 := by
  have := pf_many ha.dep hl hc h.nd h.pf
  rw [List.length_map] at this
  exact Nat.le_trans this (Nat.le_trans (Nat.pow_le_pow_right (by omega) hn) (by decide))
theorem bs1_ok (hn : n ≤ 4) {w : List Nat} (hl : w.length ≤ 6) (hc : ∀ c ∈ w, c ∈ Lt n) {u : List Nat} (hu : Al (DA al) u w) {E : List (List Nat × List Nat)} (h : Bg (DA al) w E) : ∃ E', n_law_b5 al (tx u) (ent E) = some (ent E') ∧ Bg (DA al) w E' ∧ (∀ v ∈ E.map (·.1), v ∈ E'.map (·.1)) ∧ ∀ k, k ≤ u.length → lstL (DA al) (u.take k) ∈ E'.map (·.1) := by
  have hd := ha.dep
  have hul := hu.len hd
  have loop : ∀ (l : List Nat) (E : List (List Nat × List Nat)), Bg (DA al) w E → (∀ k ∈ l, k ≤ u.length) → ∃ E', forN (n_law_b1 al (tx u)) (l.map fun k : Nat => (k : Int)) (ent E) = some (ent E') ∧ Bg (DA al) w E' ∧ (∀ v ∈ E.map (·.1), v ∈ E'.map (·.1)) ∧ ∀ k ∈ l, lstL (DA al) (u.take k) ∈ E'.map (·.1) := by
    intro l
    induction l with
    | nil => intro E h _; exact ⟨E, rfl, h, fun v hv => hv, fun k hk => nomatch hk⟩
    | cons k l ih =>
      intro E h hk
      have hku := hk k List.mem_cons_self
      have hE := bg_len ha hn hl hc h
      obtain ⟨E1, e1, b1, s1, m1⟩ := put_ok hd h (by omega) (a := u.take k) (b := u.drop k) (by rw [List.take_append_drop]; exact hu)
      obtain ⟨E2, e2, b2, s2, m2⟩ := ih E1 b1 fun j hj => hk j (List.mem_cons_of_mem _ hj)
      refine ⟨E2, ?_, b2, fun v hv => s2 v (s1 v hv), fun j hj => ?_⟩
      · have hb : n_law_b1 al (tx u) (k : Int) (ent E) = some (ent E1) := by
          unfold n_law_b1
          rw [cutS_drop hku, sleast_ok ha (by simp; omega), bq, cutS_take hku, sleast_ok ha (by simp; omega), bq, e1, bq]
        simp only [List.map_cons, forN, hb]
        exact e2
      · rcases List.mem_cons.mp hj with rfl | hj
        · exact s2 _ m1
        · exact m2 j hj
  obtain ⟨E', e, b, s, m⟩ := loop (List.range (u.length + 1)) E h fun k hk => by have := List.mem_range.mp hk; omega
  refine ⟨E', ?_, b, s, fun k hk => m k (List.mem_range.mpr (by omega))⟩
  unfold n_law_b5
  rw [tx_len, show (u.length : Int) + (1 : Int) = ((u.length + 1 : Nat) : Int) by omega, rng0 (by omega), bq, e, bq]
theorem bs_ok (hn : n ≤ 4) {w : List Nat} (hl : w.length ≤ 6) (hc : ∀ c ∈ w, c ∈ Lt n) : ∃ F E, n_law_class al (tx w) = some F ∧ forN (n_law_b5 al) F [] = some (ent E) ∧ Bg (DA al) w E ∧ ∀ p, Pf (DA al) p w → lstL (DA al) p ∈ E.map (·.1) := by
  have hd := ha.dep
  obtain ⟨F, eF, _, _, hF⟩ := class_ok ha hl
  have loop : ∀ (l : List (List Nat)) (E : List (List Nat × List Nat)), Bg (DA al) w E → (∀ u ∈ l, Al (DA al) u w) → ∃ E', forN (n_law_b5 al) (l.map tx) (ent E) = some (ent E') ∧ Bg (DA al) w E' ∧ (∀ v ∈ E.map (·.1), v ∈ E'.map (·.1)) ∧ ∀ u ∈ l, ∀ k, k ≤ u.length → lstL (DA al) (u.take k) ∈ E'.map (·.1) := by
    intro l
    induction l with
    | nil => intro E h _; exact ⟨E, rfl, h, fun v hv => hv, fun k hk => nomatch hk⟩
    | cons u l ih =>
      intro E h hk
      obtain ⟨E1, e1, b1, s1, m1⟩ := bs1_ok ha hn hl hc (hk u List.mem_cons_self) h
      obtain ⟨E2, e2, b2, s2, m2⟩ := ih E1 b1 fun j hj => hk j (List.mem_cons_of_mem _ hj)
      refine ⟨E2, ?_, b2, fun v hv => s2 v (s1 v hv), fun v hv k hkv => ?_⟩
      · simp only [List.map_cons, forN, e1]
        exact e2
      · rcases List.mem_cons.mp hv with rfl | hv
        · exact s2 _ (m1 k hkv)
        · exact m2 v hv k hkv
  obtain ⟨E, e, b, _, m⟩ := loop F [] ⟨by simp, fun p hp => nomatch hp⟩ fun u hu => (hF u).mp hu
  refine ⟨F.map tx, E, eF, e, b, fun p ⟨q, hq⟩ => ?_⟩
  have := m (p ++ q) ((hF _).mpr hq) p.length (by simp)
  rwa [List.take_left] at this
/-- what is looked up -/
theorem look_has {w : List Nat} {E : List (List Nat × List Nat)} (h : Bg (DA al) w E) (hall : ∀ p, Pf (DA al) p w → lstL (DA al) p ∈ E.map (·.1)) (t : List Nat) : dHas (ent E) (tx (lstL (DA al) t)) = (lb (DA al) t w).isSome := by
  have hd := ha.dep
  rw [ent_has, Bool.eq_iff_iff, decide_eq_true_eq]
  constructor
  · intro hm
    have hp : Pf (DA al) t w := (h.pf _ hm).1.al (lstL_al hd t) (Al.refl _)
    obtain ⟨q, e⟩ := (lb_iff hd).mpr hp
    rw [e]; rfl
  · intro hs
    cases e : lb (DA al) t w with
    | none => rw [e] at hs; cases hs
    | some q => exact hall t ((lb_iff hd).mp ⟨q, e⟩)
theorem look_get {w : List Nat} {E : List (List Nat × List Nat)} (h : Bg (DA al) w E) (hall : ∀ p, Pf (DA al) p w → lstL (DA al) p ∈ E.map (·.1)) (t : List Nat) : dGet (ent E) (tx (lstL (DA al) t)) = (lb (DA al) t w).map fun q => tx (lstL (DA al) q) := by
  have hd := ha.dep
  rw [ent_get]
  cases e : lb (DA al) t w with
  | none =>
    have : E.find? (fun p => decide (p.1 = lstL (DA al) t)) = none := List.find?_eq_none.mpr fun p hp hh => by
      have := (h.pf _ (List.mem_map.mpr ⟨p, hp, rfl⟩)).1
      rw [of_decide_eq_true hh] at this
      exact (lb_none hd).mp e (this.al (lstL_al hd t) (Al.refl _))
    rw [this]; rfl
  | some q =>
    have hm := hall t ((lb_iff hd).mp ⟨q, e⟩)
    cases ef : E.find? (fun p => decide (p.1 = lstL (DA al) t)) with
    | none =>
      obtain ⟨p, hp, hh⟩ := List.mem_map.mp hm
      exact absurd (decide_eq_true hh) (List.find?_eq_none.mp ef p hp)
    | some p =>
      have hp := List.mem_of_find?_eq_some ef
      have he : p.1 = lstL (DA al) t := of_decide_eq_true (List.find?_some (p := fun p : List Nat × List Nat => decide (p.1 = lstL (DA al) t)) ef)
      rw [Option.map_some, Option.map_some, h.val hd hp (lb_some hd e) he]
theorem lb3_ok {w : List Nat} (hl : w.length ≤ 900) {E : List (List Nat × List Nat)} (h : Bg (DA al) w E) (hall : ∀ p, Pf (DA al) p w → lstL (DA al) p ∈ E.map (·.1)) {t : List Nat} (ht : t.length ≤ 900) : n_law_b3 al (tx w) (ent E) (tx t) () = some (.nx ()) := by
  unfold n_law_b3
  rw [sleast_ok ha ht, bq, lvq, isp_ok ha hl, bq, look_has ha h hall, Y.same_self (by rfl), bq, if_neg (by decide), prest_ok ha hl, bq, look_get ha h hall, Y.same_self (sz_o _), bq, if_neg (by decide)]
end
end P30


set_option Elab.async false
set_option linter.all false
set_option maxRecDepth 100000
set_option synthInstance.maxHeartbeats 400000
set_option synthInstance.maxSize 4000
set_option maxHeartbeats 1000000
/-! all beginnings, by what is left: what the program computes -/
namespace P30
open PySem PySem.Spec PyProof.Rows L2 Z Y Tr
/-- what is left of a word without letters of another -/
def er (w p : List Nat) : List Nat := p.foldl List.erase w
theorem er_app (w p : List Nat) (x : Nat) : er w (p ++ [x]) = (er w p).erase x := by unfold er; rw [List.foldl_append]; rfl
theorem er_perm {p q : List Nat} (h : p.Perm q) : ∀ w, er w p = er w q := by
  induction h with
  | nil => intro w; rfl
  | cons x _ ih => intro w; exact ih (w.erase x)
  | swap x y l => intro w; show er ((w.erase y).erase x) l = er ((w.erase x).erase y) l; rw [List.erase_comm]
  | trans _ _ h1 h2 => intro w; rw [h1 w, h2 w]
section
variable {D : Nat → Nat → Bool}
theorem lb_er : ∀ {p w q : List Nat}, lb D p w = some q → q = er w p
  | [], w, q, h => by cases h; rfl
  | x :: p, w, q, h => by
    rw [lb] at h
    split at h
    · exact lb_er (p := p) (w := w.erase x) h
    · cases h
theorem pf_er (hd : Dep D) {p w : List Nat} (h : Pf D p w) : Al D (p ++ er w p) w := by
  obtain ⟨q, e⟩ := (lb_iff hd).mpr h
  rw [← lb_er e]; exact lb_some hd e
theorem er_cnt (hd : Dep D) {p w : List Nat} (h : Pf D p w) (x : Nat) : p.count x + (er w p).count x = w.count x := by
  have := (pf_er hd h).cnt hd x
  rwa [List.count_append] at this
theorem er_inj (hd : Dep D) {p q w : List Nat} (hp : Pf D p w) (hq : Pf D q w) (e : er w p = er w q) : Al D p q := pf_count hd hp hq fun x => by
  have h1 := er_cnt hd hp x
  have h2 := er_cnt hd hq x
  rw [e] at h1; omega
theorem pf_more (hd : Dep D) {p w : List Nat} (h : Pf D p w) {x : Nat} (hx : isF D x (er w p)) : Pf D (p ++ [x]) w := by
  have h1 : Pf D [x] (er w p) := (pf_cons hd).mpr ⟨hx, Pf.nil _⟩
  exact pf_mid (pf_er hd h) h1
theorem pf_less (hd : Dep D) {p w : List Nat} {x : Nat} (h : Pf D (p ++ [x]) w) : Pf D p w ∧ isF D x (er w p) := by
  have h1 : Pf D p w := Pf.trans ⟨[x], Al.refl _⟩ h
  have h2 : Pf D [x] (er w p) := pf_cancel (h.al (Al.refl _) (pf_er hd h1).symm)
  exact ⟨h1, ((pf_cons hd).mp h2).1⟩
structure Bq (D : Nat → Nat → Bool) (w : List Nat) (F : List (List Nat)) (k : Nat) : Prop where
  nd : (F.map (er w)).Nodup
  pf : ∀ u ∈ F, Pf D u w
  nl : [] ∈ F
  cl : ∀ i, i < k → ∀ u, F[i]? = some u → ∀ x, isF D x (er w u) → (er w u).erase x ∈ F.map (er w)
theorem Bq.all (hd : Dep D) {w : List Nat} {F : List (List Nat)} (h : Bq D w F F.length) : ∀ (m : Nat) (u : List Nat), u.length = m → Pf D u w → ∃ p ∈ F, Al D p u
  | 0, u, hl, _ => by rw [List.eq_nil_of_length_eq_zero hl]; exact ⟨[], h.nl, Al.refl _⟩
  | m + 1, u, hl, hp => by
    rcases List.eq_nil_or_concat u with rfl | ⟨v, x, rfl⟩
    · cases hl
    · rw [List.concat_eq_append] at hl hp ⊢
      have hv : Pf D v w := (pf_less hd hp).1
      obtain ⟨p, hm, hpv⟩ := Bq.all hd h m v (by simpa using hl) hv
      have hpx : Pf D (p ++ [x]) w := hp.al (Al.app hpv.symm (Al.refl _)) (Al.refl _)
      obtain ⟨i, hi, e⟩ := List.mem_iff_getElem.mp hm
      have := h.cl i hi p (by rw [List.getElem?_eq_getElem hi, e]) x (pf_less hd hpx).2
      obtain ⟨p', hp', e'⟩ := List.mem_map.mp this
      rw [← er_app] at e'
      exact ⟨p', hp', (er_inj hd (h.pf p' hp') hpx e').trans (Al.app hpv (Al.refl _))⟩
theorem Bq.nd2 (hd : Dep D) {w : List Nat} {F : List (List Nat)} {k : Nat} (h : Bq D w F k) : (F.map (lstL D)).Nodup := by
  have h1 := h.nd
  unfold List.Nodup at h1 ⊢
  rw [List.pairwise_map] at h1 ⊢
  exact h1.imp fun {a b} hab e => hab (er_perm (((lstL_iff hd).mp e).perm hd) w)
end
def fd (w : List Nat) (F : List (List Nat)) : List (Str × Str) := F.map fun p => (tx p, tx (er w p))
section
variable {n : Nat} {al : Alf} (ha : AlOk n al)
include ha
theorem pb_len {m : Nat} (hn : n ≤ 4) {w : List Nat} (hl : w.length ≤ 6) (hc : ∀ c ∈ w, c ∈ Lt n) {F : List (List Nat)} {k : Nat} (h : Bq (DA al) w F k) : F.length ≤ 2401 := by
  have hd := ha.dep
  have := pf_many hd hl hc (h.nd2 hd) fun u hu => by
    obtain ⟨v, hv, rfl⟩ := List.mem_map.mp hu
    exact ⟨(h.pf v hv).al (lstL_al hd v).symm (Al.refl _), lstL_lst hd v⟩
  rw [List.length_map] at this
  exact Nat.le_trans this (Nat.le_trans (Nat.pow_le_pow_right (by omega) hn) (by decide))
theorem pb1_ok {w p : List Nat} (hl : w.length ≤ 6) (hp : Pf (DA al) p w) {x : Nat} (hx : isF (DA al) x (er w p)) {F : List (List Nat)} (hF : F.length < 100000) : n_prefixes_b1 (tx p, tx (er w p)) (tx [x]) (fd w F, kn (F.map (er w))) = some (if er w (p ++ [x]) ∈ F.map (er w) then (fd w F, kn (F.map (er w))) else (fd w (F ++ [p ++ [x]]), kn ((F ++ [p ++ [x]]).map (er w)))) := by
  have hd := ha.dep
  have h1 := hp.len hd
  have h2 := (pf_er hd hp).len hd
  rw [List.length_append] at h2
  unfold n_prefixes_b1
  rw [e_without]
  show bnd (f_without_first (tx (er w p)) (tx [x])) _ = _
  rw [without_okF ha (isF_mem hx) (by omega), bq, lvq, ← er_app]
  simp only []
  rw [kn_has]
  by_cases hm : er w (p ++ [x]) ∈ F.map (er w)
  · rw [decide_eq_true hm, if_neg (by decide), bq, if_pos hm]
  · rw [decide_eq_false hm, if_pos (by decide), kn_put hm (by simpa using (by omega : F.length < 1000000)), bq, catS_tx (by simp; omega), bq, push_ok (by unfold fd; simpa using (by omega : F.length < 1000000)), bq, bq, if_neg hm]
    unfold fd
    rw [List.map_append, List.map_append]
    rfl
theorem pstep {w p : List Nat} (hl : w.length ≤ 6) (hp : Pf (DA al) p w) {F : List (List Nat)} : ∀ (l : List Nat), (∀ x ∈ l, isF (DA al) x (er w p)) → F.length + l.length < 100000 → ∃ G : List (List Nat), forN (n_prefixes_b1 (tx p, tx (er w p))) (l.map fun c => tx [c]) (fd w F, kn (F.map (er w))) = some (fd w (F ++ G), kn ((F ++ G).map (er w))) ∧ ((F.map (er w)).Nodup → ((F ++ G).map (er w)).Nodup) ∧ (∀ g ∈ G, ∃ x ∈ l, g = p ++ [x]) ∧ ∀ x ∈ l, (er w p).erase x ∈ (F ++ G).map (er w) := by
  intro l
  induction l generalizing F with
  | nil => intro _ _; exact ⟨[], by simp [forN], by simp, (fun g h => nomatch h), (fun x h => nomatch h)⟩
  | cons x l ih =>
    intro hk hlen
    rw [List.length_cons] at hlen
    have hb := pb1_ok ha hl hp (hk x List.mem_cons_self) (F := F) (by omega)
    simp only [List.map_cons, forN, hb]
    by_cases hm : er w (p ++ [x]) ∈ F.map (er w)
    · rw [if_pos hm]
      obtain ⟨G, e, h1, h2, h3⟩ := ih (F := F) (fun j hj => hk j (List.mem_cons_of_mem _ hj)) (by omega)
      refine ⟨G, e, h1, fun g hg => ?_, fun y hy => ?_⟩
      · obtain ⟨y, hy, h⟩ := h2 g hg; exact ⟨y, List.mem_cons_of_mem _ hy, h⟩
      · rcases List.mem_cons.mp hy with rfl | hy
        · rw [List.map_append, ← er_app]; exact List.mem_append_left _ hm
        · exact h3 y hy
    · rw [if_neg hm]
      obtain ⟨G, e, h1, h2, h3⟩ := ih (F := F ++ [p ++ [x]]) (fun j hj => hk j (List.mem_cons_of_mem _ hj)) (by simp; omega)
      rw [List.append_assoc] at e h1 h3
      refine ⟨[p ++ [x]] ++ G, e, fun nd => ?_, fun g hg => ?_, fun y hy => ?_⟩
      · refine h1 ?_
        rw [List.map_append]
        exact List.nodup_append.mpr ⟨nd, by simp, fun a ha b hb e => hm (by have h9 : b = er w (p ++ [x]) := List.mem_singleton.mp hb; rw [← h9, ← e]; exact ha)⟩
      · rcases List.mem_append.mp hg with hg | hg
        · exact ⟨x, List.mem_cons_self, List.mem_singleton.mp hg⟩
        · obtain ⟨y, hy, h⟩ := h2 g hg; exact ⟨y, List.mem_cons_of_mem _ hy, h⟩
      · rcases List.mem_cons.mp hy with rfl | hy
        · rw [← er_app]; exact List.mem_map.mpr ⟨_, by simp, rfl⟩
        · exact h3 y hy
theorem pre_loop (hn : n ≤ 4) {w : List Nat} (hl : w.length ≤ 6) (hc : ∀ c ∈ w, c ∈ Lt n) : ∃ F k, whileN (fun (s1' : (List (Str × Str)) × (List (Str × Bool)) × Int) => (some ((decide (s1'.2.2 < (List.length s1'.1 : Int)))))) (n_prefixes_b2 al 0) 10000 ([((("" : String) : Str), tx w)], [(tx w, true)], (0 : Int)) = some (fd w F, k) ∧ Bq (DA al) w F F.length := by
  have hd := ha.dep
  have loop : ∀ (fuel : Nat) (F : List (List Nat)) (k : Nat), Bq (DA al) w F k → k ≤ F.length → 2401 < fuel + k → ∃ F' k', whileN (fun (s1' : (List (Str × Str)) × (List (Str × Bool)) × Int) => (some ((decide (s1'.2.2 < (List.length s1'.1 : Int)))))) (n_prefixes_b2 al 0) fuel (fd w F, kn (F.map (er w)), (k : Int)) = some (fd w F', k') ∧ Bq (DA al) w F' F'.length := by
    intro fuel
    induction fuel with
    | zero =>
      intro F k hB hk hf
      have := pb_len ha (m := 0) hn hl hc hB
      omega
    | succ fuel ih =>
      intro F k hB hk hf
      have hFl := pb_len ha (m := 0) hn hl hc hB
      have hlf : (fd w F).length = F.length := by unfold fd; rw [List.length_map]
      rw [whileN]
      by_cases hlt : k < F.length
      · have hc1 : decide ((k : Int) < ((fd w F).length : Int)) = true := decide_eq_true (by omega)
        have hu := hB.pf F[k] (List.getElem_mem hlt)
        have hul := (pf_er hd hu).len hd
        rw [List.length_append] at hul
        obtain ⟨G, e, h1, h2, h3⟩ := pstep ha hl hu (F := F) (fsL (DA al) (er w F[k])) (fun x hx => mem_fsL.mp hx) (by have := fsL_len (D := DA al) (er w F[k]); omega)
        have hb : n_prefixes_b2 al 0 (fd w F, kn (F.map (er w)), (k : Int)) = some (fd w (F ++ G), kn ((F ++ G).map (er w)), ((k + 1 : Nat) : Int)) := by
          unfold n_prefixes_b2
          have e0 : L2.atI (fd w F) (k : Int) = some (tx F[k], tx (er w F[k])) := at_some (by unfold fd; rw [List.getElem?_map, List.getElem?_eq_getElem hlt]; rfl)
          rw [e0, bq, lvq, e_firsts]
          show bnd (f_firsts al (tx (er w F[k]))) _ = _
          rw [firsts_ok al ha.irr (by omega), bq, chrs_tx, e, bq, lvq]
          rfl
        simp only [hc1, hb]
        refine ih (F ++ G) (k + 1) ⟨h1 hB.nd, fun u hu' => ?_, List.mem_append_left _ hB.nl, fun i hi u hiu x hx => ?_⟩ (by simp; omega) (by omega)
        · rcases List.mem_append.mp hu' with h | h
          · exact hB.pf u h
          · obtain ⟨x, hx, rfl⟩ := h2 u h
            exact pf_more hd hu (mem_fsL.mp hx)
        · have hil : i < F.length := by omega
          rw [List.getElem?_append_left hil] at hiu
          rcases Nat.lt_or_ge i k with h | h
          · rw [List.map_append]; exact List.mem_append_left _ (hB.cl i h u hiu x hx)
          · have : i = k := by omega
            subst this
            rw [List.getElem?_eq_getElem hlt] at hiu
            obtain rfl := Option.some.inj hiu
            exact h3 x (mem_fsL.mpr hx)
      · have hc1 : decide ((k : Int) < ((fd w F).length : Int)) = false := decide_eq_false (by omega)
        simp only [hc1]
        have : k = F.length := by omega
        subst this
        exact ⟨F, _, rfl, hB⟩
  obtain ⟨F', k', e, hB⟩ := loop 10000 [[]] 0 ⟨by simp, fun u hu => by rw [List.mem_singleton.mp hu]; exact Pf.nil _, by simp, fun i hi => by omega⟩ (by simp) (by omega)
  refine ⟨F', k', ?_, hB⟩
  rw [e_tx]
  exact e
/-- the program's beginnings -/
theorem pre_ok (hn : n ≤ 4) {w : List Nat} (hl : w.length ≤ 6) (hc : ∀ c ∈ w, c ∈ Lt n) : ∃ L : List (List Nat), n_prefixes al (tx w) = some (byS (L.map tx)) ∧ L.Nodup ∧ ∀ u, u ∈ L ↔ Pf (DA al) u w ∧ lstL (DA al) u = u := by
  have hd := ha.dep
  obtain ⟨F, k, e, hB⟩ := pre_loop ha hn hl hc
  refine ⟨F.map (lstL (DA al)), ?_, hB.nd2 hd, fun u => ⟨fun hu => ?_, fun ⟨h1, h2⟩ => ?_⟩⟩
  · unfold n_prefixes
    rw [lvq, lvq, lvq, e, bq]
    have el : lcO (fun t18' => some true) (fun t18' => (bnd (n_least al t18'.1) fun a19' => some (a19'))) (fd w F) = some ((F.map (lstL (DA al))).map tx) := by
      have hm : (fd w F).map (fun t => t.1) = F.map tx := by unfold fd; rw [List.map_map]; rfl
      have gen : ∀ l : List (List Nat), (∀ p ∈ l, p.length ≤ 900) → lcO (fun t18' => some true) (fun t18' => (bnd (n_least al t18'.1) fun a19' => some (a19'))) (fd w l) = some ((l.map (lstL (DA al))).map tx) := by
        intro l
        induction l with
        | nil => intro _; rfl
        | cons p l ih =>
          intro h
          have e1 : n_least al (tx p) = some (tx (lstL (DA al) p)) := by rw [e_least]; exact least_ok ha (h p List.mem_cons_self)
          have e2 := ih fun q hq => h q (List.mem_cons_of_mem _ hq)
          unfold fd at e2 ⊢
          simp only [List.map_cons, lcO, e1, bq, e2]
      exact gen F fun p hp => by have := (hB.pf p hp).len hd; omega
    show bnd (lcO (fun t18' => some true) (fun t18' => (bnd (n_least al t18'.1) fun a19' => some (a19'))) (fd w F)) _ = _
    rw [el, bq, sortS_ok _ fun s hs => ?_, bq]
    obtain ⟨v, hv, rfl⟩ := List.mem_map.mp hs
    obtain ⟨p, hp, rfl⟩ := List.mem_map.mp hv
    have := (hB.pf p hp).len hd
    rw [tx_len, lstL_len hd]; omega
  · obtain ⟨p, hp, rfl⟩ := List.mem_map.mp hu
    exact ⟨(hB.pf p hp).al (lstL_al hd p).symm (Al.refl _), lstL_lst hd p⟩
  · obtain ⟨p, hp, hpu⟩ := hB.all hd u.length u rfl h1
    exact List.mem_map.mpr ⟨p, hp, by rw [lstL_eq hd hpu, h2]⟩
omit ha in
theorem byS_eq (l : List Str) : (GL.sort (l.map fun a => ((Str.length a : Int), a))).map (·.2) = byS l := by
  unfold Enc.sort byS
  rw [← List.map_mergeSort (f := fun a : Str => ((Str.length a : Int), a)) (r := fun a b => PySem.W.dataLe false toPy (GL.enc ((Str.length a : Int), a)) (GL.enc ((Str.length b : Int), b))) (fun a _ b _ => rfl), List.map_map]
  exact List.map_id _
omit ha in
theorem byS_perm {l1 l2 : List Str} (h : l1.Perm l2) : byS l1 = byS l2 := by
  have hc : ClE GL := ⟨fun a => ClR.cl (E := Rc Ei (R1 Es)) a⟩
  rw [← byS_eq, ← byS_eq, sort_perm rfl (h.map _)]
end
end P30


set_option Elab.async false
set_option linter.all false
set_option maxRecDepth 100000
set_option synthInstance.maxHeartbeats 400000
set_option synthInstance.maxSize 4000
set_option maxHeartbeats 1000000
namespace P30
open PySem PySem.Spec PyProof.Rows L2 Z Y Tr
theorem cut_tx {w : List Nat} {v : Int} (h0 : 0 ≤ v) : ∃ k, cutS (tx w) none (some v) = tx (w.take k) := by
  obtain ⟨m, rfl⟩ : ∃ m : Nat, v = (m : Int) := ⟨v.toNat, by omega⟩
  refine ⟨m, ?_⟩
  rw [cutS_eq]
  congr 1
  unfold cutG
  have : HT.sIx w.length 0 none = 0 := rfl
  rw [this]
  have h : HT.sIx w.length w.length (some (m : Int)) = min m w.length := by
    unfold HT.sIx; simp only []; split <;> omega
  rw [h, List.drop_zero, Nat.sub_zero]
  rcases Nat.le_total m w.length with hm | hm
  · rw [Nat.min_eq_left hm]
  · rw [Nat.min_eq_right hm, List.take_of_length_le (Nat.le_refl _), List.take_of_length_le hm]
theorem sz_txs (l : List Str) (h : l.length ≤ 1000000) : szD ((Et Es).enc l) = true := by
  have : szDs (l.map Es.enc) = true := by
    clear h
    induction l with
    | nil => rfl
    | cons a l ih => exact ih
  show (decide ((l.map Es.enc).length ≤ 1000000) && szDs (l.map Es.enc)) = true
  rw [this, List.length_map, decide_eq_true h]; rfl
section
variable {n : Nat} {al : Alf} (ha : AlOk n al)
include ha
theorem b4_ok {L : List (List Nat)} (h0 : 0 < L.length) (hL : L.length ≤ 2401) (h6 : ∀ u ∈ L, u.length ≤ 6) (i : Int) (b : Box) {ts : List Str} (hts : ts.length ≤ 100) : ∃ b' t, n_law_b4 al (byS (L.map tx)) i (b, ts) = some (b', ts ++ [tx t]) ∧ t.length ≤ 6 := by
  have hd := ha.dep
  obtain ⟨v, v0, v1, ev⟩ := draw_some b (show (0 : Int) < 1000 by omega)
  have hlen : (byS (L.map tx)).length = L.length := by unfold byS; rw [List.length_mergeSort, List.length_map]
  have m0 : 0 ≤ v.fmod (L.length : Int) := Int.fmod_nonneg_of_pos _ (by omega)
  have m1 : v.fmod (L.length : Int) < L.length := Int.fmod_lt_of_pos _ (by omega)
  obtain ⟨j, hj⟩ : ∃ j : Nat, v.fmod (L.length : Int) = (j : Int) := ⟨(v.fmod (L.length : Int)).toNat, by omega⟩
  have hjl : j < (byS (L.map tx)).length := by omega
  have hm : (byS (L.map tx))[j] ∈ byS (L.map tx) := List.getElem_mem hjl
  obtain ⟨u, hu, eu⟩ := List.mem_map.mp (byS_mem.mp hm)
  have hul := h6 u hu
  obtain ⟨t, b', e, ht⟩ := mixed_ok (b.1, b.2 + 1) ha (w := u) (by omega)
  have htl := ht.len hd
  refine ⟨b', t, ?_, by omega⟩
  unfold n_law_b4
  have e : f_law_mixed (b.1, b.2 + 1) al (tx u) = some (tx t, b') := e
  show bnd (drawO b (1000 : Int)) _ = _
  rw [ev, bq, hlen, mod_ok (by omega), bq, hj, at_some (k := j) (x := tx u) (by rw [List.getElem?_eq_getElem hjl, eu]), bq, e_mixed]
  show bnd (f_law_mixed (b.1, b.2 + 1) al (tx u)) _ = _
  rw [e, bq]
  show bnd (pushO ts (tx t)) _ = _
  rw [push_ok (by omega), bq]
end
theorem law_holds : ∀ box, n_law box = some true := by
  intro box
  obtain ⟨al, b1, n, e1, hn, ha⟩ := alpha_ok box 4 (by omega) (by omega)
  obtain ⟨w, b2, e2, hl6, hlc⟩ := word_ok b1 ha (by omega) 6 (by omega)
  have hd := ha.dep
  have e1 : f_law_alphabet box (4 : Int) = some (al, b1) := e1
  have e2 : f_law_word b1 al (6 : Int) = some (tx w, b2) := e2
  obtain ⟨F, E, eF, eE, hE, hall⟩ := bs_ok ha hn hl6 hlc
  obtain ⟨L, eL, ndL, hL⟩ := pre_ok ha hn hl6 hlc
  have hperm : (E.map (·.1)).Perm L := (List.perm_ext_iff_of_nodup hE.nd ndL).mpr fun u => by
    rw [hL]
    exact ⟨hE.pf u, fun ⟨h1, h2⟩ => by have := hall u h1; rwa [h2] at this⟩
  have hk : (ent E).map (fun p => p.1) = (E.map (·.1)).map tx := by unfold ent; rw [List.map_map, List.map_map]; rfl
  have hLE : L.length ≤ 2401 := by rw [← hperm.length_eq, List.length_map]; exact bg_len ha hn hl6 hlc hE
  have hby : byS ((E.map (·.1)).map tx) = byS (L.map tx) := byS_perm (hperm.map tx)
  have h6 : ∀ u ∈ L, u.length ≤ 6 := fun u hu => Nat.le_trans (((hL u).mp hu).1.len hd) hl6
  have hlen : (byS (L.map tx)).length = L.length := by unfold byS; rw [List.length_mergeSort, List.length_map]
  unfold n_law
  rw [e_alpha, e1, bq, lvq, e_word, e2, bq, lvq, lvq, eF, bq, eE, bq, hk, sortS_ok _ (fun s hs => by
    obtain ⟨u, hu, rfl⟩ := List.mem_map.mp hs
    have := h6 u (hperm.mem_iff.mp hu)
    rw [tx_len]; omega), bq, hby, lvq, eL, bq, Y.same_self (sz_txs _ (by omega)), bq, if_neg (by decide)]
  have er : rngO (0 : Int) (3 : Int) = some ((List.range 3).map fun k : Nat => (k : Int)) := rng0 (b := 3) (by omega)
  rw [er, bq]
  obtain ⟨ts, b3, et, htl, ht⟩ := lcS_inv (t := fun (t25' : Int) (s26' : Box) => some (true, s26')) (e := fun (t25' : Int) (s26' : Box) => bnd (f_law_word s26' al (4 : Int)) fun a27' => some (a27'.1, a27'.2)) (fun s : Str => ∃ t, s = tx t ∧ t.length ≤ 6) ((List.range 3).map fun k : Nat => (k : Int)) b2 fun i _ s => by
    obtain ⟨t, b', e, h, _⟩ := word_ok s ha (by omega) 4 (by omega)
    have e : f_law_word s al (4 : Int) = some (tx t, b') := e
    exact ⟨s, rfl, tx t, b', by simp only [e, bq], t, rfl, by omega⟩
  rw [et, bq, lvq]
  have htl : ts.length = 3 := by simpa using htl
  have h0 : 0 < L.length := List.length_pos_of_mem ((hL []).mpr ⟨Pf.nil _, rfl⟩)
  obtain ⟨⟨b4, us⟩, eu, hus, hul⟩ := forN_inv (f := n_law_b4 al (byS (L.map tx))) (fun p (s : Box × List Str) => (∀ t ∈ s.2, ∃ u, t = tx u ∧ u.length ≤ 6) ∧ s.2.length ≤ 3 + p.length) ((List.range 3).map fun k : Nat => (k : Int)) [] (b3, ts) ⟨ht, by simp only [htl]; simp⟩ (fun p i q s hq hI => by
    obtain ⟨b, us⟩ := s
    have hp3 : p.length < 3 := by
      have := congrArg List.length hq
      simp at this; omega
    obtain ⟨hI1, hI2⟩ := hI
    obtain ⟨b', t, e, h⟩ := b4_ok ha h0 hLE h6 i b (ts := us) (by simp only at hI2; omega)
    refine ⟨(b', us ++ [tx t]), e, fun s hs => ?_, by simp only [List.length_append, List.length_singleton] at *; omega⟩
    rcases List.mem_append.mp hs with hs | hs
    · exact hI1 s hs
    · exact ⟨t, List.mem_singleton.mp hs, h⟩)
  rw [bq]
  show bnd (forN (n_law_b4 al (byS (L.map tx))) ((List.range 3).map fun k : Nat => (k : Int)) (b3, ts)) _ = _
  rw [eu, bq]
  show bnd (forR (ρ := Bool) (n_law_b3 al (tx w) (ent E)) us ()) _ = _
  have h3 : forR (ρ := Bool) (n_law_b3 al (tx w) (ent E)) us () = some (.nx ()) := by
    obtain ⟨b, e, _⟩ := forR_nx (f := n_law_b3 al (tx w) (ent E)) (fun _ => True) us () trivial fun t htm b _ => by
      obtain ⟨u, rfl, hu⟩ := hus t htm
      exact ⟨(), lb3_ok ha (by omega) hE hall (by omega), trivial⟩
    exact e
  rw [h3, bq]
  show bnd (f_law_alphabet b4 (6 : Int)) _ = _
  obtain ⟨al2, b5, m, e5, hm6, ha2⟩ := alpha_ok b4 6 (by omega) (by omega)
  have e5 : f_law_alphabet b4 (6 : Int) = some (al2, b5) := e5
  obtain ⟨z, b6, e6, hz, hzc⟩ := word_ok b5 ha2 hm6 14 (by omega)
  have e6 : f_law_word b5 al2 (14 : Int) = some (tx z, b6) := e6
  obtain ⟨y, b7, e7, hy⟩ := mixed_ok b6 ha2 (w := z) (by omega)
  obtain ⟨v, v0, v1, ev⟩ := draw_some b7 (show (0 : Int) < 15 by omega)
  obtain ⟨k, ek⟩ := cut_tx (w := y) v0
  obtain ⟨x, b8, e8, hx, hxc⟩ := word_ok (b7.1, b7.2 + 1) ha2 hm6 5 (by omega)
  have e8 : f_law_word (b7.1, b7.2 + 1) al2 (5 : Int) = some (tx x, b8) := e8
  rw [e5, bq, lvq, e6, bq, lvq, e_mixed, e7, bq, ev, bq, e8, bq, ek]
  have h2 : ∀ d0, forR (ρ := Bool) (n_law_b2 al2 (tx z) d0) [tx (y.take k), tx x] b8 = some (.nx b8) := fun d0 => by
    simp only [forR, lb2_ok ha2 (show z.length ≤ 900 by omega)]
  rw [h2, bq]
  rfl
end P30


set_option Elab.async false
set_option linter.all false
set_option maxRecDepth 100000
set_option maxHeartbeats 20000000
set_option synthInstance.maxHeartbeats 400000
set_option synthInstance.maxSize 4000
open PySem PySem.W PySem.Calls PyProof.Rows
theorem PySem.Challenge.cw_tracehouse_k30_prefixes_and_rests_holds : PySem.Challenge.rw_tracehouse_k30_prefixes_and_rests.Holds := by
  w_on; o_law
  refine HandSHeadRun.head_any (r := OpenLaw.row PySem.Challenge.rw_tracehouse_k30_prefixes_and_rests) (q := view (OpenLaw.row PySem.Challenge.rw_tracehouse_k30_prefixes_and_rests).prog [28]) (H := P30.hk) (ob := P30.ob) (M := 2400) (loose := P30.names) (d := HandSHeadRun.topDef (OpenLaw.row PySem.Challenge.rw_tracehouse_k30_prefixes_and_rests).prog 28) (kwd := []) P30.ob_eq
    (by kernel_rfl) (fun s => by kernel_rfl) P30.run (by kernel_rfl) (by kernel_rfl) (by kernel_rfl) (by rfl) (by first | assumption | decide +kernel) (by decide +kernel) ⟨rfl, rfl, rfl, rfl, rfl, by decide +kernel⟩ ?hw ?hc
  case hw => w_witness2
  case hc =>
    refine LamX.walk_ofTsE (l := PySem.Challenge.rw_tracehouse_k30_prefixes_and_rests) (n := 63) (k := 9) (x := "script") (CX := fun _ => L2.CX0) rfl (by decide) (by kernel_rfl) ⟨rfl, by decide, by decide⟩ ?F (fun _ _ _ _ _ z => z)
    intro w mg fa h Y G hmg0
    obtain ⟨K, KX, c⟩ := Y
    have hmg : mg ("law" : PySem.Str) = some (.ref fa) := by
      have e : (HandSHeadRun.topDef (OpenLaw.row PySem.Challenge.rw_tracehouse_k30_prefixes_and_rests).prog 28).name = ("law" : PySem.Str) := by kernel_rfl
      rw [← e]
      exact hmg0
    exact ⟨K, KX, P30.facts KX G hmg c (fun ns c hc _ _ => P30.law_true P30.law_holds ns c hc)⟩


