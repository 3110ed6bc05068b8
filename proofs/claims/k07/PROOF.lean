import PyProof.Rows.All
import KE.SortData
import KE.SortKeyHeap
import HandS.ForMost
import HandS.Flow
import HandS.Wide
import HandS.Conv
import HandS.TupAny
import HandS.TupMul
import HandS.IsInst
import HandS.Deep
import KE.KNestM
import KE.KeyNested
import KE.KDictKeyed
import HandS.HeadHook1
import HandS.TupLe
import KE.DataEq
import KE.DataCmp
import KE.DataMinMax
import KE.DataIsa
import HandS.GenList
import HandS.AnyAll
import PyProof.TupleOfGen
import PyProof.JoinWalk
import PyProof.SumAny
import HandS.SetKeys
import HandS.SetFor
import HandS.HeadHook2
import HandS.HeadHook3
import HandS.HeadHook4
import HandS.HeadWalk
import HandS.Head0
import HandS.Head1
import HandS.Head2
import HandS.HeadEnd
import KE.GoesNew
import KE.GoesMore
import HandS.TupSets
import KE.KLam
import HandS.SortKw
import PyProof.Rows.SumAny
import HandS.Nested
import KE.DataFind
import KE.KDictDisplayH
import HandS.TupLen
import KE.KDictSum
import KE.KDictWalk
import HandS.Iter
import HandS.Text
import PyProof.Rows.ReprOcc
import HandS.Replace
import PyProof.Rows.StrJoin2
import PyProof.ListStr
import PyProof.StrOps2
import KE.DataMinKey
import PySem.Challenge.RW_tracehouse_k07_ends_and_life_of_nets
set_option Elab.async false
set_option linter.all false
set_option maxRecDepth 100000
/-! sorting tuples some of which are empty -/
namespace PySem.SeqAt
open PySem PyProof.Rows
section
variable {A : Around} {s : Shared}
theorem call_tup_lt {prog : Program} {w : World} {E : Value → Shared → Prop} {Q : Value → Shared → Prop} {l b : Addr} {items items2 : Array Value} {e r : Nat → Bool} (hl : s.heap.IsTuple l items) (hb : s.heap.IsTuple b items2)
    (he : ∀ j (h1 : j < items.size) (h2 : j < items2.size), EqAt A.in1 s items[j] items2[j] (e j)) (hr : ∀ j (h1 : j < items.size) (h2 : j < items2.size), e j = false → RcLt A.in1 s items[j] items2[j] (r j))
    (h : Q (.bool (firstLt e r (decide (items.size < items2.size)) (List.range (min items.size items2.size)))) s) : wpAny (model prog w) A (call (.builtin "tuple.__lt__") [.ref l, .ref b]) Q E s := by
  obtain ⟨⟨c1, dd, x1, sl⟩, ho, hc, n, hd⟩ := id hl
  obtain ⟨⟨c2, dd2, x2, sl2⟩, ho2, hc2, n2, hd2⟩ := id hb
  simp only at hc hd hc2 hd2
  subst hc hd hc2 hd2
  exact call_meets F.slot_tuple_lt ⟨_, ho, rfl⟩ F.entry_tuple_lt (F.args_tuple_lt_2 _ _) (tuple_ltAt l b items items2 n n2 dd dd2 sl sl2 e r) ⟨ho, ho2, he, hr, h⟩
end
end PySem.SeqAt
namespace PySem.W
open PySem PySem.Calls PyProof.Rows PySem.SeqAt
section
variable {prog : Program} {w : World} {A : Around} {E : Value → Shared → Prop} {s : Shared}
theorem oneLt_tup {xs ys : List PyData} {a b : Value} {as bs : List Addr} {Q : Bool → Shared → Prop} (ra : Reads s.heap a (.tuple xs) as) (rb : Reads s.heap b (.tuple ys) bs) (h : alike (.tuple xs) (.tuple ys) = true)
    (hu : A.units + min (PyData.tuple xs).depth (PyData.tuple ys).depth < cLine) (hq : Q (dataLt (.tuple xs) (.tuple ys)) s) : wpAny (model prog w) A (oneLt' true a b) Q E s := by
  have hal : alikeAll xs ys = true := by simpa [alike] using h
  cases ra with
  | @tuple l o vs n _ _ h1 h2 h3 h4 =>
    cases rb with
    | @tuple l' o' vs' n' _ _ k1 k2 k3 k4 =>
      have n1 : vs.size = xs.length := by simpa using ReadsAll.length _ _ _ h4
      have n2 : vs'.size = ys.length := by simpa using ReadsAll.length _ _ _ k4
      rw [dataLt_tuple, ← firstLt_toks xs ys hal, ← n1, ← n2] at hq
      rw [oneLt'_eq]
      simp only [if_true]
      refine wpAny_bind (wpAny_cRoomFor (room_here hu) ?_)
      refine wpAny_bind (wpAny_callSpecialIfBound?_slot (T := "tuple") ⟨_, h1, h2⟩ F.slot_tuple_lt (call_tup_lt (e := pairEq xs ys) (r := fun j => dataLt (xs.getD j .none) (ys.getD j .none)) ⟨_, h1, h2, _, h3⟩ ⟨_, k1, k2, _, k3⟩ (fun j j1 j2 => ?_) (fun j j1 j2 hj => ?_) ?_))
      · have := eqAt_alikeAll xs ys A.in1 s vs.toList vs'.toList _ _ h4 k4 hal (room_in hu) j (by simpa using j1) (by simpa using j2)
        simpa using this
      · have := rcLt_alikeAll xs ys A.in1 s vs.toList vs'.toList _ _ h4 k4 hal (room_in hu) j (by simpa using j1) (by simpa using j2) hj
        simpa using this
      · exact wpAny_truthy_bool hq
def neT : PyData → Bool
  | .tuple [] => false
  | _ => true
theorem firsts_mixed : ∀ (vs : List Value) (ds : List PyData) {Q : List (Option Value) → Shared → Prop}, EachIs (fun v d => ∃ as, Reads s.heap v d as) vs ds → (∀ d ∈ ds, ∃ xs, d = .tuple xs) → (∀ fs : List (Option Value), fs.map Option.isSome = ds.map neT → Q fs s) →
    wpAny (model prog w) A (vs.mapM firstOfTuple') Q E s
  | _, _, Q, .nil, _, h => by rw [List.mapM_nil]; exact wpAny_pure (h [] rfl)
  | v :: vs, d :: ds, Q, .cons ⟨as, r⟩ t, ht, h => by
    obtain ⟨xs, rfl⟩ := ht d List.mem_cons_self
    cases r with
    | @tuple a o ys n _ _ h1 h2 h3 h4 =>
      rw [List.mapM_cons]
      refine wpAny_bind ?_
      rw [kas_first_eq]
      refine wpAny_bind (Looks.here (show Looks (model prog w) s.heap (typeOf (.ref a)) o.cls from (Looks.ld h1).andThen .now) ?_)
      rw [h2, if_neg (by first | decide | simp)]
      refine wpAny_bind (listItems_at h1 h3 (wpAny_pure ?_))
      refine wpAny_bind (firsts_mixed vs ds (Q := fun bs s' => wpAny (model prog w) A (pure (ys[0]? :: bs)) Q E s') t (fun d hd => ht d (List.mem_cons_of_mem _ hd)) fun fs hfs => wpAny_pure (h _ ?_))
      rw [List.map_cons, List.map_cons, hfs]
      congr 1
      have n1 : ys.size = xs.length := by simpa using ReadsAll.length _ _ _ h4
      cases xs with
      | nil =>
        have : ys[0]? = none := Array.getElem?_eq_none (by rw [n1]; simp)
        rw [this]; rfl
      | cons x xs =>
        have hz : 0 < ys.size := by rw [n1]; simp
        rw [Array.getElem?_eq_getElem hz]; rfl
/-- tuples, one of them empty, can be sorted -/
theorem SortsAt.mixed {vs : List Value} {ds : List PyData} (e : EachIs (fun v d => ∃ as, Reads s.heap v d as) vs ds) (hal : AllAlike ds) (ht : ∀ d ∈ ds, ∃ xs, d = .tuple xs) (he : PyData.tuple [] ∈ ds) (hu : ∀ d, d ∈ ds → A.units + d.depth < cLine) : SortsAt prog w A s (dataKind s.heap ds) vs := by
  have room : ∀ {d d' : PyData}, d ∈ ds → A.units + min d.depth d'.depth < cLine := fun {d d'} hd => Nat.lt_of_le_of_lt (Nat.add_le_add_left (Nat.min_le_left _ _) _) (hu d hd)
  refine ⟨fun v hv => ?_, ?_⟩
  · obtain ⟨d, hd, as, r⟩ := e.left v hv
    exact ⟨_, dataKind_some hal hd r⟩
  cases ds with
  | nil => cases he
  | cons d0 ds0 =>
    cases e with
    | @cons v0 _ vs0 _ e0 et =>
    have e : EachIs (fun v d => ∃ as, Reads s.heap v d as) (v0 :: vs0) (d0 :: ds0) := .cons e0 et
    have hno : ∀ (fs : List (Option Value)), fs.map Option.isSome = (d0 :: ds0).map neT → ¬ (fs.toArray.all fun x => x.isSome) = true := fun fs hfs h => by
      rw [List.all_toArray] at h
      have h2 : (fs.map Option.isSome).all id = true := by rw [List.all_map]; exact h
      rw [hfs, List.all_map, List.all_eq_true] at h2
      have := h2 _ he
      simp [neT] at this
    have h0 : ∀ (fs : List (Option Value)), fs.map Option.isSome = (d0 :: ds0).map neT → (fs.toArray[0]?.bind id).isSome = neT d0 := fun fs hfs => by
      cases fs with
      | nil => simp at hfs
      | cons f fs =>
        simp only [List.map_cons, List.cons.injEq] at hfs
        rw [← hfs.1]; simp
    cases hn : neT d0 with
    | true =>
      refine ⟨general', fun E x y a b Q ha hb hq => ?_, fun h2 E Q hq => ?_⟩
      · obtain ⟨d, as, hd, ra, rfl⟩ := dataKind_inv ha
        obtain ⟨d', as', hd', rb, rfl⟩ := dataKind_inv hb
        have hd3 : d ≠ .none := fun z => by obtain ⟨xs, ex⟩ := ht d hd; rw [ex] at z; cases z
        show wpAny (model prog w) A (oneLt' false x y) Q E s
        exact oneLt_alike (fun z => nomatch z) ra rb (hal d hd d' hd') hd3 (room hd) hq
      · rw [kat_kind_eq, List.mapM_toArray, map_eq_pure_bind]
        refine wpAny_bind (wpAny_bind (firsts_mixed _ _ e ht fun fs hfs => wpAny_pure ?_))
        rw [if_neg (hno fs hfs), if_pos (by rw [h0 fs hfs, hn])]
        exact wpAny_pure hq
    | false =>
      refine ⟨oneType', fun E x y a b Q ha hb hq => ?_, fun h2 E Q hq => ?_⟩
      · obtain ⟨d, as, hd, ra, rfl⟩ := dataKind_inv ha
        obtain ⟨d', as', hd', rb, rfl⟩ := dataKind_inv hb
        obtain ⟨xs, rfl⟩ := ht d hd
        obtain ⟨ys, rfl⟩ := ht d' hd'
        show wpAny (model prog w) A (oneLt' true x y) Q E s
        exact oneLt_tup ra rb (hal _ hd _ hd') (room hd) hq
      · rw [kat_kind_eq, List.mapM_toArray, map_eq_pure_bind]
        refine wpAny_bind (wpAny_bind (firsts_mixed _ _ e ht fun fs hfs => wpAny_pure ?_))
        rw [if_neg (hno fs hfs), if_neg (by rw [h0 fs hfs, hn]; decide)]
        rw [oneTypeOnly'_eq, List.mapM_toArray, map_eq_pure_bind]
        refine wpAny_bind (wpAny_bind (wpAny_bind (kas_mapM (r := Value.type "tuple") _ (fun v hv Q' hq' => ?_) (wpAny_pure ?_))))
        · obtain ⟨d, hd, as, r⟩ := e.left v hv
          obtain ⟨xs, rfl⟩ := ht d hd
          exact (looks_reads (M := model prog w) r).here hq'
        · have hall : ((List.map (fun _ => Value.type "tuple") (v0 :: vs0)).toArray.all fun x => x == Value.type "tuple") = true := by
            simp only [List.all_toArray, List.all_map, List.all_eq_true]
            intro _ _
            exact beq_self_eq_true _
          have h01 : (List.map (fun _ => Value.type "tuple") (v0 :: vs0)).toArray[0]? = some (Value.type "tuple") := by simp
          rw [h01]
          simp only [hall, if_true]
          exact wpAny_pure (wpAny_pure hq)
end
/-- tuples of any length, or none is a tuple or None -/
def SortableM (ds : List PyData) : Prop := Sortable ds ∨ ((∀ d ∈ ds, ∃ xs, d = .tuple xs) ∧ PyData.tuple [] ∈ ds)
theorem SortsAt.any {prog : Program} {w : World} {A : Around} {s : Shared} {vs : List Value} {ds : List PyData} (e : EachIs (fun v d => ∃ as, Reads s.heap v d as) vs ds) (hal : AllAlike ds) (hk : SortableM ds) (hu : ∀ d, d ∈ ds → A.units + d.depth < cLine) : SortsAt prog w A s (dataKind s.heap ds) vs := by
  rcases hk with hk | ⟨h1, h2⟩
  · exact SortsAt.data e hal hk hu
  · exact SortsAt.mixed e hal h1 h2 hu
section
variable {prog : Program} {w : World} {A : Around} {E : Value → Shared → Prop} {s : Shared} {β : Type} {vs : List Value} {bs : List β} {enc : β → PyData} {R : Value → β → Prop}
end
end PySem.W


set_option Elab.async false
set_option linter.all false
set_option maxRecDepth 100000
/-! the data of the walk: values without a heap, and what they stand for -/
namespace Z
open PySem PySem.Spec PyProof.Rows L2

inductive D where
  | non | bl (b : Bool) | int (i : Int) | str (x : Str)
  | tup (xs : List D) | lst (xs : List D) | frz (xs : List D)
  | dic (ks vs : List D) | obj (c : Str) (ns : List Str) (xs : List D)
  deriving Inhabited

mutual
def D.same : D → D → Bool
  | .non, .non => true
  | .bl a, .bl b => a == b
  | .int a, .int b => a == b
  | .str a, .str b => a == b
  | .tup a, .tup b => D.sames a b
  | .lst a, .lst b => D.sames a b
  | .frz a, .frz b => D.sames a b
  | .dic a b, .dic c d => D.sames a c && D.sames b d
  | .obj a b c, .obj a' b' c' => a == a' && b == b' && D.sames c c'
  | _, _ => false
def D.sames : List D → List D → Bool
  | [], [] => true
  | x :: xs, y :: ys => D.same x y && D.sames xs ys
  | _, _ => false
end
mutual
theorem D.same_eq : ∀ (a b : D), D.same a b = true → a = b
  | .non, b, h => by cases b <;> simp_all [D.same]
  | .bl _, b, h => by cases b <;> simp_all [D.same]
  | .int _, b, h => by cases b <;> simp_all [D.same]
  | .str _, b, h => by cases b <;> simp_all [D.same]
  | .tup x, b, h => by
    cases b <;> simp only [D.same, Bool.false_eq_true] at h
    rw [D.sames_eq _ _ h]
  | .lst x, b, h => by
    cases b <;> simp only [D.same, Bool.false_eq_true] at h
    rw [D.sames_eq _ _ h]
  | .frz x, b, h => by
    cases b <;> simp only [D.same, Bool.false_eq_true] at h
    rw [D.sames_eq _ _ h]
  | .dic x y, b, h => by
    cases b <;> simp only [D.same, Bool.false_eq_true, Bool.and_eq_true] at h
    rw [D.sames_eq _ _ h.1, D.sames_eq _ _ h.2]
  | .obj x y z, b, h => by
    cases b <;> simp only [D.same, Bool.false_eq_true, Bool.and_eq_true, beq_iff_eq] at h
    rw [D.sames_eq _ _ h.2, h.1.1, h.1.2]
theorem D.sames_eq : ∀ (a b : List D), D.sames a b = true → a = b
  | [], b, h => by cases b <;> simp_all [D.sames]
  | x :: xs, b, h => by
    cases b <;> simp only [D.sames, Bool.false_eq_true, Bool.and_eq_true] at h
    rw [D.same_eq _ _ h.1, D.sames_eq _ _ h.2]
end
mutual
theorem D.same_self : ∀ (a : D), D.same a a = true
  | .non => rfl
  | .bl _ => by simp [D.same]
  | .int _ => by simp [D.same]
  | .str _ => by simp [D.same]
  | .tup x => by simp only [D.same]; exact D.sames_self x
  | .lst x => by simp only [D.same]; exact D.sames_self x
  | .frz x => by simp only [D.same]; exact D.sames_self x
  | .dic x y => by simp only [D.same, Bool.and_eq_true]; exact ⟨D.sames_self x, D.sames_self y⟩
  | .obj x y z => by simp only [D.same, Bool.and_eq_true, beq_self_eq_true, true_and]; exact D.sames_self z
theorem D.sames_self : ∀ (a : List D), D.sames a a = true
  | [] => rfl
  | x :: xs => by simp only [D.sames, Bool.and_eq_true]; exact ⟨D.same_self x, D.sames_self xs⟩
end
instance : DecidableEq D := fun a b =>
  if h : D.same a b = true then isTrue (D.same_eq a b h) else isFalse fun e => h (by rw [e]; exact D.same_self b)

mutual
/-- nothing in it can be changed -/
def D.imm : D → Bool
  | .tup xs => D.imms xs
  | .lst _ => false
  | .dic _ _ => false
  | .obj _ _ _ => false
  | _ => true
def D.imms : List D → Bool
  | [] => true
  | x :: xs => D.imm x && D.imms xs
end
theorem D.imms_iff : ∀ (xs : List D), D.imms xs = true ↔ ∀ x ∈ xs, D.imm x = true
  | [] => by simp [D.imms]
  | x :: xs => by simp [D.imms, D.imms_iff xs]
/-- the fragment, the world -/
structure Fw where
  K : PySem.W.Frag
  w : World
instance : Coe Fw PySem.W.Frag := ⟨Fw.K⟩
abbrev _root_.L2.Cx.F (X : Cx) : Fw := ⟨X.K, X.w⟩
/-- a list that never changes any more -/
def FzAt (K : PySem.W.Frag) (H : Hp) (a : Addr) (xs : List V) : Prop :=
  (∃ o, H a = some (.frz o (.lst xs))) ∨
    ∃ (o : Obj) (its : Array Value) (n : Nat), K.lookup a = some o ∧ o.cls = .type "list" ∧ o.dict = none ∧ o.data = .seq its n ∧ its.size ≤ sizeLine ∧ Vals xs its.toList
theorem FzAt.sq {K : PySem.W.Frag} {H : Hp} {a : Addr} {xs : List V} (h : FzAt K H a xs) : SqL K H a xs := by
  rcases h with ⟨o, h⟩ | h
  · exact .inl (.inr ⟨o, h⟩)
  · exact .inr h

/-- the dict at a has these entries -/
def DicP (a : Addr) (es : Array DictEntry) : Heap → Prop := fun h => ∃ o ep, h.get? a = some o ∧ o.ExactDict ∧ o.data = .dict es ep
def IsDic (φ : Heap → Prop) : Prop := ∃ a es, φ = DicP a es ∧ ∃ h, φ h
theorem isDic_of {a : Addr} {es : Array DictEntry} {h : Heap} (x : DicP a es h) : IsDic (DicP a es) := ⟨a, es, rfl, h, x⟩
theorem notDic_hd {c P : Addr} : ¬ IsDic fun h => PySem.W.CodeHd h c P := by
  rintro ⟨a, es, e, h, x⟩
  have x' : DicP a es h := by rw [← e]; exact x
  obtain ⟨o, ep, ha, hx, hd⟩ := x'
  by_cases hac : @Eq Nat c a
  · have hac : c = a := hac
    subst hac
    obtain ⟨o2, vs, file, tf, flags, tg, inF, text, tt, e2, e3, _⟩ := x
    rw [ha] at e2
    cases e2
    rw [hx.1] at e3
    injection e3 with e3
    exact absurd e3 (by decide)
  · have g : ({ h with objs := h.objs.setIfInBounds a { cls := .none, data := .freed } } : Heap).get? a = none := by
      have hl := Heap.lt_size ha
      simp only [Heap.get?]
      rw [Array.getElem?_setIfInBounds_self_of_lt hl]
    have g2 : ({ h with objs := h.objs.setIfInBounds a { cls := .none, data := .freed } } : Heap).get? c = h.get? c := by
      simp only [Heap.get?]
      rw [Array.getElem?_setIfInBounds_ne (fun z => hac (by have z : @Eq Nat a c := z; exact z.symm))]
    obtain ⟨o2, vs, file, tf, flags, tg, inF, text, tt, e2, r⟩ := x
    have y : PySem.W.CodeHd ({ h with objs := h.objs.setIfInBounds a { cls := .none, data := .freed } } : Heap) c P := ⟨o2, vs, file, tf, flags, tg, inF, text, tt, g2.trans e2, r⟩
    have y' : DicP a es ({ h with objs := h.objs.setIfInBounds a { cls := .none, data := .freed } } : Heap) := by rw [← e]; exact y
    obtain ⟨_, _, e4, _⟩ := y'
    rw [g] at e4; cases e4
mutual
/-- a datum as a key -/
def dNK : D → NestedKey
  | .int i => .num i
  | .str x => .text x
  | .bl b => .num (if b = true then 1 else 0)
  | .tup xs => .tup (dNKs xs)
  | _ => .none
def dNKs : List D → List NestedKey
  | [] => []
  | x :: xs => dNK x :: dNKs xs
end
/-- the entries of a dict -/
def Ents (w : World) : List D → List V → List V → List DictEntry → Prop
  | [], [], [], [] => True
  | k :: ks, kv :: kvs, vv :: vvs, e :: es => e.hash = (dNK k).hash w ∧ RelV kv e.key ∧ RelV vv e.val ∧ Ents w ks kvs vvs es
  | _, _, _, _ => False
/-- a text as the model's data have it -/
def StrOk (x : Str) : Prop := x.length ≤ sizeLine ∧ PyData.strOk x = true
mutual
/-- v stands for the datum; the addresses that are its alone -/
def Rep (K : Fw) (H : Hp) : D → V → List Addr → Prop
  | .non, v, o => v = .non ∧ o = []
  | .bl b, v, o => v = .bl b ∧ o = []
  | .int i, v, o => v = .int i ∧ o = []
  | .str x, v, o => v = .str x ∧ StrOk x ∧ o = []
  | .tup xs, v, o => ∃ a vs, v = .ref a ∧ SqT K H a vs ∧ Reps K H xs vs o
  | .lst xs, v, o => ∃ a vs o', v = .ref a ∧ H a = some (.lst vs) ∧ Reps K H xs vs o' ∧ o = a :: o'
  | .frz xs, v, o => ∃ a vs, v = .ref a ∧ FzAt K H a vs ∧ Reps K H xs vs [] ∧ o = []
  | .dic ks vs, v, o => ∃ a kvs vvs es, v = .ref a ∧ H a = some (.ext (DicP a es)) ∧ IsDic (DicP a es) ∧ (a == sysModules) = false ∧ (ks.Nodup ∧ ks.length ≤ sizeLine) ∧ Reps K H ks kvs [] ∧ Reps K H vs vvs [] ∧ Ents K.w ks kvs vvs es.toList ∧ o = [a]
  | .obj c ns xs, v, o => ∃ a dx vs o', v = .ref a ∧ H a = some (.ins (He.ga K.K c) dx (ns.zip vs)) ∧ ns.length = xs.length ∧ Reps K H xs vs o' ∧ o = a :: o'
def Reps (K : Fw) (H : Hp) : List D → List V → List Addr → Prop
  | [], vs, o => vs = [] ∧ o = []
  | x :: xs, vs, o => ∃ v vr o1 o2, vs = v :: vr ∧ Rep K H x v o1 ∧ Reps K H xs vr o2 ∧ o = o1 ++ o2
end

/-- a code object's table: its codes are tracked, and so are their tables -/
inductive GoodT (H : Hp) : Addr → Prop
  | mk (P : Addr) (ps : Array Value) (cf pf : Pos → Addr) (e : H P = some (.tbl ps)) (t : TriplesOk ps.toList)
      (k : ∀ pos cv, codeAmong pos ps.toList = some cv → cv = .ref (cf pos) ∧ H (cf pos) = some (.ext fun h => PySem.W.CodeHd h (cf pos) (pf pos)))
      (g : ∀ pos cv, codeAmong pos ps.toList = some cv → GoodT H (pf pos)) : GoodT H P
theorem GoodT.mono {H H' : Hp} (k : ∀ a u, H a = some u → ((∃ ps, u = .tbl ps) ∨ ∃ φ, u = .ext φ ∧ ¬ IsDic φ) → H' a = some u) {P : Addr} (g : GoodT H P) : GoodT H' P := by
  induction g with
  | mk P ps cf pf e t kk _ ih => exact .mk P ps cf pf (k _ _ e (.inl ⟨_, rfl⟩)) t (fun pos cv h => ⟨(kk pos cv h).1, k _ _ (kk pos cv h).2 (.inr ⟨_, rfl, notDic_hd⟩)⟩) ih
/-- the fragment; the code object that runs -/
structure Kx where
  K : Fw
  cv : Value
abbrev kx (X : Cx) : Kx := ⟨X.F, X.env.code⟩
/-- the code object cv is one whose table is good -/
def CodeNow (K : PySem.W.Frag) (cv : Value) (H : Hp) : Prop := ∀ c, cv = .ref c → ∃ P, (PySem.W.codeHdIn K c P = true ∨ H c = some (.ext fun h => PySem.W.CodeHd h c P)) ∧ GoodT H P
/-- the tables of all code objects of the fragment, and of the one that runs -/
def Tabs (κ : Kx) (H : Hp) : Prop := (∀ c P, PySem.W.codeHdIn κ.K c P = true → GoodT H P) ∧ CodeNow κ.K κ.cv H
def Nt (u : HO) : Prop := ∀ ps, u ≠ .tbl ps
/-- what is shared never changes -/
def Sh : HO → Prop
  | .tup _ => True
  | .frz _ _ => True
  | .ext φ => ¬ IsDic φ
  | _ => False
/-- what one may own -/
def Ow (u : HO) : Prop := ¬ Sh u ∧ Nt u
theorem ow_lst {vs : List V} : Ow (.lst vs) := ⟨fun z => z, fun _ z => nomatch z⟩
theorem ow_ins {C dx : Addr} {fs : List (Str × V)} : Ow (.ins C dx fs) := ⟨fun z => z, fun _ z => nomatch z⟩
theorem ow_dic {φ : Heap → Prop} (h : IsDic φ) : Ow (.ext φ) := ⟨fun z => z h, fun _ z => nomatch z⟩
/-- from H to H' what stands at o and what is shared is kept -/
structure Fr (H H' : Hp) (o : List Addr) : Prop where
  left : ∀ a ∈ o, H' a = H a
  right : ∀ a u, H a = some u → Sh u → H' a = some u
  tab : ∀ P, GoodT H P → GoodT H' P
theorem Fr.sub {H H' : Hp} {o o' : List Addr} (h : Fr H H' o) (s : ∀ a ∈ o', a ∈ o) : Fr H H' o' := ⟨fun a ha => h.left a (s a ha), h.right, h.tab⟩
theorem Fr.rfl {H : Hp} {o : List Addr} : Fr H H o := ⟨fun _ _ => Eq.refl _, fun _ _ e _ => e, fun _ g => g⟩
/-- as much of it as a value needs -/
structure Fr0 (H H' : Hp) (o : List Addr) : Prop where
  left : ∀ a ∈ o, H' a = H a
  right : ∀ a u, H a = some u → Sh u → H' a = some u
theorem Fr0.sub {H H' : Hp} {o o' : List Addr} (h : Fr0 H H' o) (s : ∀ a ∈ o', a ∈ o) : Fr0 H H' o' := ⟨fun a ha => h.left a (s a ha), h.right⟩
theorem Fr.f0 {H H' : Hp} {o : List Addr} (h : Fr H H' o) : Fr0 H H' o := ⟨h.left, h.right⟩
instance {H H' : Hp} {o : List Addr} : Coe (Fr H H' o) (Fr0 H H' o) := ⟨Fr.f0⟩
theorem Sh.nt {u : HO} (h : Sh u) : Nt u := fun ps e => by rw [e] at h; exact h
section
variable {K : Fw} {κ : Kx} {H H' : Hp}
theorem Fr0.sqt {o : List Addr} {a : Addr} {vs : List V} (h : Fr0 H H' o) (q : SqT K H a vs) : SqT K H' a vs := by
  rcases q with (q | ⟨ob, q⟩) | q
  · exact .inl (.inl (h.right _ _ q trivial))
  · exact .inl (.inr ⟨ob, h.right _ _ q trivial⟩)
  · exact .inr q
theorem Fr0.fz {o : List Addr} {a : Addr} {vs : List V} (h : Fr0 H H' o) (q : FzAt K H a vs) : FzAt K H' a vs := by
  rcases q with ⟨ob, q⟩ | q
  · exact .inl ⟨ob, h.right _ _ q trivial⟩
  · exact .inr q
mutual
theorem Rep.fr : ∀ {d : D} {v : V} {o : List Addr}, Rep K H d v o → Fr0 H H' o → Rep K H' d v o
  | .non, _, _, h, f => h
  | .bl _, _, _, h, f => h
  | .int _, _, _, h, f => h
  | .str _, _, _, h, f => h
  | .tup xs, v, o, h, f => by
    obtain ⟨a, vs, e, q, r⟩ := h
    exact ⟨a, vs, e, f.sqt q, Reps.fr r f⟩
  | .lst xs, v, o, h, f => by
    obtain ⟨a, vs, o', e, q, r, rfl⟩ := h
    exact ⟨a, vs, o', e, (f.left a List.mem_cons_self).trans q, Reps.fr r (f.sub fun b hb => List.mem_cons_of_mem _ hb), rfl⟩
  | .frz xs, v, o, h, f => by
    obtain ⟨a, vs, e, q, r, rfl⟩ := h
    exact ⟨a, vs, e, f.fz q, Reps.fr r f, rfl⟩
  | .dic ks vs, v, o, h, f => by
    obtain ⟨a, kvs, vvs, es, e, q, hd, hs, hn, rk, rv, en, rfl⟩ := h
    exact ⟨a, kvs, vvs, es, e, (f.left a List.mem_cons_self).trans q, hd, hs, hn, Reps.fr rk (f.sub fun b hb => nomatch hb), Reps.fr rv (f.sub fun b hb => nomatch hb), en, rfl⟩
  | .obj c ns xs, v, o, h, f => by
    obtain ⟨a, dx, vs, o', e, q, hl, r, rfl⟩ := h
    exact ⟨a, dx, vs, o', e, (f.left a List.mem_cons_self).trans q, hl, Reps.fr r (f.sub fun b hb => List.mem_cons_of_mem _ hb), rfl⟩
theorem Reps.fr : ∀ {xs : List D} {vs : List V} {o : List Addr}, Reps K H xs vs o → Fr0 H H' o → Reps K H' xs vs o
  | [], _, _, h, f => h
  | x :: xs, _, _, h, f => by
    obtain ⟨v, vr, o1, o2, e, h1, h2, rfl⟩ := h
    exact ⟨v, vr, o1, o2, e, Rep.fr h1 (f.sub fun b hb => List.mem_append_left _ hb), Reps.fr h2 (f.sub fun b hb => List.mem_append_right _ hb), rfl⟩
end
mutual
theorem Rep.own : ∀ {d : D} {v : V} {o : List Addr}, Rep K H d v o → ∀ a ∈ o, ∃ u, H a = some u ∧ Ow u
  | .non, _, _, h, a, ha => by rw [h.2] at ha; cases ha
  | .bl _, _, _, h, a, ha => by rw [h.2] at ha; cases ha
  | .int _, _, _, h, a, ha => by rw [h.2] at ha; cases ha
  | .str _, _, _, h, a, ha => by rw [h.2.2] at ha; cases ha
  | .tup xs, v, o, h, b, hb => by
    obtain ⟨a, vs, e, q, r⟩ := h
    exact Reps.own r b hb
  | .lst xs, v, o, h, b, hb => by
    obtain ⟨a, vs, o', e, q, r, rfl⟩ := h
    rcases List.mem_cons.mp hb with rfl | hb
    · exact ⟨_, q, ow_lst⟩
    · exact Reps.own r b hb
  | .frz xs, v, o, h, b, hb => by
    obtain ⟨a, vs, e, q, r, rfl⟩ := h
    cases hb
  | .dic ks vs, v, o, h, b, hb => by
    obtain ⟨a, kvs, vvs, es, e, q, hd, hs, hn, rk, rv, en, rfl⟩ := h
    cases List.mem_singleton.mp hb
    exact ⟨_, q, ow_dic hd⟩
  | .obj c ns xs, v, o, h, b, hb => by
    obtain ⟨a, dx, vs, o', rfl, q, hl, r, rfl⟩ := h
    rcases List.mem_cons.mp hb with rfl | hb
    · exact ⟨_, q, ow_ins⟩
    · exact Reps.own r b hb
theorem Reps.own : ∀ {xs : List D} {vs : List V} {o : List Addr}, Reps K H xs vs o → ∀ a ∈ o, ∃ u, H a = some u ∧ Ow u
  | [], _, _, h, a, ha => by rw [h.2] at ha; cases ha
  | x :: xs, _, _, h, a, ha => by
    obtain ⟨v, vr, o1, o2, e, h1, h2, rfl⟩ := h
    rcases List.mem_append.mp ha with ha | ha
    · exact Rep.own h1 a ha
    · exact Reps.own h2 a ha
end
mutual
theorem Rep.imm : ∀ {d : D} {v : V} {o : List Addr}, Rep K H d v o → d.imm = true → o = []
  | .non, _, _, h, _ => h.2
  | .bl _, _, _, h, _ => h.2
  | .int _, _, _, h, _ => h.2
  | .str _, _, _, h, _ => h.2.2
  | .tup xs, v, o, h, i => by
    obtain ⟨a, vs, e, q, r⟩ := h
    exact Reps.imm r i
  | .lst xs, v, o, h, i => by simp [D.imm] at i
  | .frz xs, v, o, h, i => by
    obtain ⟨a, vs, e, q, r, rfl⟩ := h
    rfl
  | .dic _ _, _, _, h, i => by simp [D.imm] at i
  | .obj _ _ _, _, _, h, i => by simp [D.imm] at i
theorem Reps.imm : ∀ {xs : List D} {vs : List V} {o : List Addr}, Reps K H xs vs o → D.imms xs = true → o = []
  | [], _, _, h, _ => h.2
  | x :: xs, _, _, h, i => by
    obtain ⟨v, vr, o1, o2, e, h1, h2, rfl⟩ := h
    simp only [D.imms, Bool.and_eq_true] at i
    rw [Rep.imm h1 i.1, Reps.imm h2 i.2]
    rfl
end
theorem Reps.length : ∀ {xs : List D} {vs : List V} {o : List Addr}, Reps K H xs vs o → vs.length = xs.length
  | [], _, _, h => by rw [h.1]; rfl
  | x :: xs, _, _, h => by
    obtain ⟨v, vr, o1, o2, rfl, h1, h2, rfl⟩ := h
    simp [Reps.length h2]
theorem Reps.append : ∀ {xs ys : List D} {vs ws : List V} {o o' : List Addr}, Reps K H xs vs o → Reps K H ys ws o' → Reps K H (xs ++ ys) (vs ++ ws) (o ++ o')
  | [], _, _, _, _, _, h, h' => by rw [h.1, h.2]; exact h'
  | x :: xs, _, _, _, _, _, h, h' => by
    obtain ⟨v, vr, o1, o2, rfl, h1, h2, rfl⟩ := h
    exact ⟨v, vr ++ _, o1, o2 ++ _, rfl, h1, Reps.append h2 h', by rw [List.append_assoc]⟩
theorem Reps.one {d : D} {v : V} {o : List Addr} (h : Rep K H d v o) : Reps K H [d] [v] o := ⟨v, [], o, [], rfl, h, ⟨rfl, rfl⟩, by simp⟩
/-- the item at a place, and another in its stead -/
theorem Reps.at : ∀ {xs : List D} {vs : List V} {o : List Addr} {i : Nat} {d : D}, Reps K H xs vs o → xs[i]? = some d →
    ∃ v oa o1 ob, vs[i]? = some v ∧ Rep K H d v o1 ∧ o = oa ++ o1 ++ ob ∧
      ∀ H' d' v' o1', Rep K H' d' v' o1' → Fr0 H H' (oa ++ ob) → Reps K H' (xs.set i d') (vs.set i v') (oa ++ o1' ++ ob)
  | [], _, _, _, _, h, e => by simp at e
  | x :: xs, _, _, 0, d, h, e => by
    obtain ⟨v, vr, o1, o2, rfl, h1, h2, rfl⟩ := h
    cases (Option.some.inj e : x = d)
    refine ⟨v, [], o1, o2, rfl, h1, by simp, fun H' d' v' o1' h' f => ?_⟩
    exact ⟨v', vr, o1', o2, rfl, h', h2.fr (f.sub (by simp)), by simp⟩
  | x :: xs, _, _, i + 1, d, h, e => by
    obtain ⟨v, vr, o1, o2, rfl, h1, h2, rfl⟩ := h
    obtain ⟨w, oa, oi, ob, e1, r, rfl, k⟩ := Reps.at (i := i) h2 (by simpa using e)
    refine ⟨w, o1 ++ oa, oi, ob, by simpa using e1, r, by simp, fun H' d' v' o1' h' f => ?_⟩
    refine ⟨v, vr.set i v', o1, oa ++ o1' ++ ob, rfl, h1.fr (f.sub (by simp +contextual)), k H' d' v' o1' h' (f.sub ?_), by simp⟩
    intro a ha
    rcases List.mem_append.mp ha with ha | ha <;> simp [ha]
theorem Reps.get {xs : List D} {vs : List V} {o : List Addr} {i : Nat} {d : D} (h : Reps K H xs vs o) (e : xs[i]? = some d) : ∃ v o1, vs[i]? = some v ∧ Rep K H d v o1 ∧ ∀ a ∈ o1, a ∈ o := by
  obtain ⟨v, oa, o1, ob, e1, r, rfl, _⟩ := h.at e
  exact ⟨v, o1, e1, r, fun a ha => by simp [ha]⟩
theorem Reps.take : ∀ {xs : List D} {vs : List V} (n : Nat), Reps K H xs vs [] → Reps K H (xs.take n) (vs.take n) []
  | xs, _, 0, h => ⟨rfl, rfl⟩
  | [], _, n + 1, h => by rw [h.1]; exact ⟨rfl, rfl⟩
  | x :: xs, _, n + 1, h => by
    obtain ⟨v, vr, o1, o2, rfl, h1, h2, e⟩ := h
    obtain ⟨rfl, rfl⟩ := List.append_eq_nil_iff.mp e.symm
    exact ⟨v, _, [], [], rfl, h1, Reps.take n h2, rfl⟩
theorem Reps.drop : ∀ {xs : List D} {vs : List V} (n : Nat), Reps K H xs vs [] → Reps K H (xs.drop n) (vs.drop n) []
  | xs, _, 0, h => h
  | [], _, n + 1, h => by rw [h.1]; exact ⟨rfl, rfl⟩
  | x :: xs, _, n + 1, h => by
    obtain ⟨v, vr, o1, o2, rfl, h1, h2, e⟩ := h
    obtain ⟨rfl, rfl⟩ := List.append_eq_nil_iff.mp e.symm
    exact Reps.drop n h2
end

/-! ### steps of the heap -/
/-- from H to H': what is not at W is kept; what is tracked stays tracked -/
structure Step (H H' : Hp) (W : List Addr) : Prop where
  keep : ∀ a u, H a = some u → a ∉ W → Nt u → H' a = some u
  dom : ∀ a, H' a = none → H a = none
  tab : ∀ P, GoodT H P → GoodT H' P
theorem Step.refl (H : Hp) (W : List Addr) : Step H H W := ⟨fun _ _ h _ _ => h, fun _ h => h, fun _ g => g⟩
/-- what is newly owned: from o or fresh -/
def Own (H : Hp) (o o' : List Addr) : Prop := ∀ a, o'.count a ≤ o.count a ∨ (H a = none ∧ o'.count a ≤ 1)
def Nd (o : List Addr) : Prop := ∀ a, o.count a ≤ 1
theorem Own.refl (H : Hp) (o : List Addr) : Own H o o := fun _ => .inl (Nat.le_refl _)
theorem Step.trans {H H1 H2 : Hp} {o o1 : List Addr} (s : Step H H1 o) (w : Own H o o1) (t : Step H1 H2 o1) : Step H H2 o where
  tab P g := t.tab P (s.tab P g)
  keep a u e h hn := by
    refine t.keep a u (s.keep a u e h hn) (fun hm => ?_) hn
    rcases w a with w | ⟨w, _⟩
    · have h1 : 0 < o1.count a := List.count_pos_iff.mpr hm
      have h2 : o.count a = 0 := List.count_eq_zero.mpr h
      omega
    · rw [e] at w; cases w
  dom a h := s.dom a (t.dom a h)
theorem Own.trans {H H1 : Hp} {o o1 o2 : List Addr} {W : List Addr} (w1 : Own H o o1) (s : Step H H1 W) (w2 : Own H1 o1 o2) : Own H o o2 := fun a => by
  rcases w2 a with w | ⟨w, q⟩
  · rcases w1 a with z | ⟨z, q⟩
    · exact .inl (Nat.le_trans w z)
    · exact .inr ⟨z, Nat.le_trans w q⟩
  · exact .inr ⟨s.dom a w, q⟩
theorem Own.sub {H : Hp} {o o1 o2 : List Addr} (w : Own H o o1) (h : ∀ a, o2.count a ≤ o1.count a) : Own H o o2 := fun a => by
  rcases w a with z | ⟨z, q⟩
  · exact .inl (Nat.le_trans (h a) z)
  · exact .inr ⟨z, Nat.le_trans (h a) q⟩
theorem Own.nd {H : Hp} {o o' : List Addr} (w : Own H o o') (n : Nd o) : Nd o' := fun a => by
  rcases w a with z | ⟨_, q⟩
  · exact Nat.le_trans z (n a)
  · exact q
/-- all that was tracked is as it was -/
theorem Step.of_same {H H' : Hp} (W : List Addr) (h : ∀ a u, H a = some u → H' a = some u) : Step H H' W :=
  ⟨fun a u e _ _ => h a u e, fun a e => by
    cases q : H a with
    | none => rfl
    | some u => (rw [h a u q] at e; cases e), fun P g => GoodT.mono (fun a u e _ => h a u e) g⟩
theorem Step.new {H : Hp} {p : Addr} {u : HO} {W : List Addr} (h : H p = none) : Step H (upd H p u) W := Step.of_same W fun a v e => by
  rw [upd_ne (ne_of_none e h)]; exact e
theorem Step.writeO {H : Hp} {p : Addr} {u u0 : HO} {W : List Addr} (h : H p = some u0) (ow : Ow u0) (hp : p ∈ W) : Step H (upd H p u) W where
  tab P g := g.mono fun a w e hw => by
    have : a ≠ p := fun z => by
      rw [z, h] at e; cases e
      rcases hw with ⟨ps, hw⟩ | ⟨φ, hw, hn⟩
      · exact ow.2 ps hw
      · rw [hw] at ow; exact ow.1 hn
    rw [upd_ne this]; exact e
  keep a w e hn _ := by rw [upd_ne (show a ≠ p from fun z => hn (z ▸ hp))]; exact e
  dom a e := by
    by_cases z : a = p
    · subst z; rw [upd_same] at e; cases e
    · rw [upd_ne z] at e; exact e
theorem Step.write {H : Hp} {p : Addr} {u : HO} {vs : List V} {W : List Addr} (h : H p = some (.lst vs)) (hp : p ∈ W) : Step H (upd H p u) W := Step.writeO h ow_lst hp
/-- what is not at W is framed -/
theorem Step.fr {H H' : Hp} {W o : List Addr} (s : Step H H' W) (hW : ∀ a ∈ W, ∃ u, H a = some u ∧ ¬ Sh u) (ho : ∀ a ∈ o, ∃ u, H a = some u ∧ Ow u) (hd : ∀ a ∈ o, a ∉ W) : Fr H H' o where
  tab := s.tab
  left a ha := by
    obtain ⟨u, e, hu⟩ := ho a ha
    rw [e]
    exact s.keep a _ e (hd a ha) hu.2
  right a u e hs := s.keep a u e (fun hm => by
    obtain ⟨v, e2, hn⟩ := hW a hm
    rw [e] at e2; cases e2
    exact hn hs) hs.nt
theorem nd_split {o o' : List Addr} (n : Nd (o ++ o')) : ∀ a ∈ o, a ∉ o' := fun a h1 h2 => by
  have h := n a
  rw [List.count_append] at h
  have h3 : 0 < o.count a := List.count_pos_iff.mpr h1
  have h4 : 0 < o'.count a := List.count_pos_iff.mpr h2
  omega
/-- owned by the frame that steps, or by something beside it -/
theorem Rep.step {K : Fw} {H H' : Hp} {d : D} {v : V} {ov o : List Addr} (r : Rep K H d v ov) (s : Step H H' o) (ho : ∀ a ∈ o, ∃ u, H a = some u ∧ ¬ Sh u) (n : ∀ a ∈ ov, a ∉ o) : Rep K H' d v ov :=
  r.fr (s.fr ho r.own n)
theorem Reps.step {K : Fw} {H H' : Hp} {d : List D} {v : List V} {ov o : List Addr} (r : Reps K H d v ov) (s : Step H H' o) (ho : ∀ a ∈ o, ∃ u, H a = some u ∧ ¬ Sh u) (n : ∀ a ∈ ov, a ∉ o) : Reps K H' d v ov :=
  r.fr (s.fr ho r.own n)

theorem Tabs.fr {κ : Kx} {H H' : Hp} {o : List Addr} (h : Tabs κ H) (f : Fr H H' o) : Tabs κ H' := ⟨fun c P e => f.tab P (h.1 c P e), fun c e => by
  obtain ⟨P, z, g⟩ := h.2 c e
  exact ⟨P, z.imp id fun e => f.right _ _ e notDic_hd, f.tab P g⟩⟩
theorem Tabs.step {κ : Kx} {H H' : Hp} {W : List Addr} (h : Tabs κ H) (s : Step H H' W) (hW : ∀ a ∈ W, ∃ u, H a = some u ∧ ¬ Sh u) : Tabs κ H' := ⟨fun c P e => s.tab P (h.1 c P e), fun c e => by
  obtain ⟨P, z, g⟩ := h.2 c e
  refine ⟨P, z.imp id fun e => s.keep _ _ e (fun hm => ?_) (fun _ z => nomatch z), s.tab P g⟩
  obtain ⟨u, e2, n⟩ := hW _ hm
  rw [e] at e2; cases e2; exact n notDic_hd⟩
theorem Tabs.bare {κ : Kx} {H : Hp} (h : Tabs κ H) : Tabs ⟨κ.K, .none⟩ H := ⟨h.1, fun c e => nomatch e⟩
/-! ### the names of a def -/
abbrev DE := List (Option D)
def Envs (κ : Kx) (H : Hp) : List (Option V) → DE → List Addr → Prop
  | [], [], o => o = [] ∧ Tabs κ H
  | _ :: σ, none :: δ, o => Envs κ H σ δ o
  | some v :: σ, some d :: δ, o => ∃ o1 o2, Rep κ.K H d v o1 ∧ Envs κ H σ δ o2 ∧ o = o1 ++ o2
  | _, _, _ => False
section
variable {K : Fw} {κ : Kx} {H H' : Hp}
theorem Envs.length : ∀ {σ : List (Option V)} {δ : DE} {o : List Addr}, Envs κ H σ δ o → σ.length = δ.length
  | [], [], _, _ => rfl
  | none :: σ, none :: δ, _, h => congrArg (· + 1) (Envs.length (σ := σ) (δ := δ) h)
  | some _ :: σ, none :: δ, _, h => congrArg (· + 1) (Envs.length (σ := σ) (δ := δ) h)
  | some v :: σ, some d :: δ, _, h => by
    obtain ⟨o1, o2, _, h2, _⟩ := h
    exact congrArg (· + 1) (Envs.length h2)
  | none :: σ, some d :: δ, _, h => h.elim
  | [], _ :: _, _, h => by simp [Envs] at h
  | _ :: _, [], _, h => by simp [Envs] at h
theorem Envs.own : ∀ {σ : List (Option V)} {δ : DE} {o : List Addr}, Envs κ H σ δ o → ∀ a ∈ o, ∃ u, H a = some u ∧ Ow u
  | [], [], o, h, a, ha => by rw [h.1] at ha; cases ha
  | none :: σ, none :: δ, _, h, a, ha => Envs.own (σ := σ) (δ := δ) h a ha
  | some _ :: σ, none :: δ, _, h, a, ha => Envs.own (σ := σ) (δ := δ) h a ha
  | some v :: σ, some d :: δ, _, h, a, ha => by
    obtain ⟨o1, o2, h1, h2, rfl⟩ := h
    rcases List.mem_append.mp ha with ha | ha
    · exact h1.own a ha
    · exact Envs.own h2 a ha
  | none :: σ, some d :: δ, _, h, _, _ => h.elim
  | [], _ :: _, _, h, _, _ => by simp [Envs] at h
  | _ :: _, [], _, h, _, _ => by simp [Envs] at h
theorem Envs.ok {σ : List (Option V)} {δ : DE} {o : List Addr} (h : Envs κ H σ δ o) : ∀ a ∈ o, ∃ u, H a = some u ∧ ¬ Sh u := fun a ha => by
  obtain ⟨u, e, hu⟩ := h.own a ha
  exact ⟨_, e, hu.1⟩
theorem Envs.fr : ∀ {σ : List (Option V)} {δ : DE} {o : List Addr}, Envs κ H σ δ o → Fr H H' o → Envs κ H' σ δ o
  | [], [], _, h, f => ⟨h.1, h.2.fr f⟩
  | none :: σ, none :: δ, _, h, f => Envs.fr (σ := σ) (δ := δ) h f
  | some _ :: σ, none :: δ, _, h, f => Envs.fr (σ := σ) (δ := δ) h f
  | some v :: σ, some d :: δ, _, h, f => by
    obtain ⟨o1, o2, h1, h2, rfl⟩ := h
    exact ⟨o1, o2, h1.fr (f.f0.sub fun a ha => List.mem_append_left _ ha), Envs.fr h2 (f.sub fun a ha => List.mem_append_right _ ha), rfl⟩
  | none :: σ, some d :: δ, _, h, _ => h.elim
  | [], _ :: _, _, h, _ => by simp [Envs] at h
  | _ :: _, [], _, h, _ => by simp [Envs] at h
theorem Envs.tabs : ∀ {σ : List (Option V)} {δ : DE} {o : List Addr}, Envs κ H σ δ o → Tabs κ H
  | [], [], _, h => h.2
  | none :: σ, none :: δ, _, h => Envs.tabs (σ := σ) (δ := δ) h
  | some _ :: σ, none :: δ, _, h => Envs.tabs (σ := σ) (δ := δ) h
  | some v :: σ, some d :: δ, _, h => by
    obtain ⟨o1, o2, _, h2, _⟩ := h
    exact Envs.tabs h2
  | none :: σ, some d :: δ, _, h => h.elim
  | [], _ :: _, _, h => by simp [Envs] at h
  | _ :: _, [], _, h => by simp [Envs] at h
theorem Envs.bare : ∀ {σ : List (Option V)} {δ : DE} {o : List Addr}, Envs κ H σ δ o → Envs ⟨κ.K, .none⟩ H σ δ o
  | [], [], _, h => ⟨h.1, h.2.bare⟩
  | none :: σ, none :: δ, _, h => Envs.bare (σ := σ) (δ := δ) h
  | some _ :: σ, none :: δ, _, h => Envs.bare (σ := σ) (δ := δ) h
  | some v :: σ, some d :: δ, _, h => by
    obtain ⟨o1, o2, h1, h2, e⟩ := h
    exact ⟨o1, o2, h1, Envs.bare h2, e⟩
  | none :: σ, some d :: δ, _, h => h.elim
  | [], _ :: _, _, h => by simp [Envs] at h
  | _ :: _, [], _, h => by simp [Envs] at h
/-- all that was tracked is kept -/
theorem Envs.same {σ : List (Option V)} {δ : DE} {o : List Addr} (h : Envs κ H σ δ o) (k : ∀ a u, H a = some u → H' a = some u) : Envs κ H' σ δ o :=
  h.fr ⟨fun a ha => by obtain ⟨u, e, _⟩ := h.own a ha; rw [e]; exact k _ _ e, fun a u e _ => k a u e, fun P g => g.mono fun a u e _ => k a u e⟩
/-- the datum at a slot; another in its stead (the value there stays) -/
theorem Envs.at : ∀ {σ : List (Option V)} {δ : DE} {o : List Addr} {i : Nat} {d : D}, Envs κ H σ δ o → δ[i]? = some (some d) →
    ∃ v oa o1 ob, σ[i]? = some (some v) ∧ Rep κ.K H d v o1 ∧ o = oa ++ o1 ++ ob ∧
      (∀ H' d' o1', Rep κ.K H' d' v o1' → Fr H H' (oa ++ ob) → Envs κ H' σ (δ.set i (some d')) (oa ++ o1' ++ ob)) ∧
      (∀ H', Fr H H' (oa ++ ob) → Envs κ H' σ (δ.set i none) (oa ++ ob))
  | [], [], _, _, _, h, e => by simp at e
  | none :: σ, none :: δ, _, 0, _, h, e => by simp at e
  | some _ :: σ, none :: δ, _, 0, _, h, e => by simp at e
  | none :: σ, none :: δ, o, i + 1, d, h, e => by
    obtain ⟨v, oa, o1, ob, e1, r, rfl, k, k'⟩ := Envs.at (σ := σ) (δ := δ) (i := i) (d := d) h (by simpa using e)
    exact ⟨v, oa, o1, ob, by simpa using e1, r, rfl, k, k'⟩
  | some _ :: σ, none :: δ, o, i + 1, d, h, e => by
    obtain ⟨v, oa, o1, ob, e1, r, rfl, k, k'⟩ := Envs.at (σ := σ) (δ := δ) (i := i) (d := d) h (by simpa using e)
    exact ⟨v, oa, o1, ob, by simpa using e1, r, rfl, k, k'⟩
  | some v :: σ, some d0 :: δ, o, 0, d, h, e => by
    obtain ⟨o1, o2, h1, h2, rfl⟩ := h
    cases (Option.some.inj (Option.some.inj e) : d0 = d)
    refine ⟨v, [], o1, o2, rfl, h1, by simp, fun H' d' o1' h' f => ⟨o1', o2, h', h2.fr (f.sub (by simp)), by simp⟩, fun H' f => ?_⟩
    show Envs κ H' σ δ _
    simpa using h2.fr (f.sub (by simp))
  | some v0 :: σ, some d0 :: δ, o, i + 1, d, h, e => by
    obtain ⟨p1, p2, h1, h2, rfl⟩ := h
    obtain ⟨v, oa, o1, ob, e1, r, rfl, k, k'⟩ := Envs.at (σ := σ) (δ := δ) (i := i) (d := d) h2 (by simpa using e)
    refine ⟨v, p1 ++ oa, o1, ob, by simpa using e1, r, by simp, fun H' d' o1' h' f => ?_, fun H' f => ?_⟩
    · exact ⟨p1, oa ++ o1' ++ ob, h1.fr (f.f0.sub (by simp +contextual)), k H' d' o1' h' (f.sub fun a ha => by rcases List.mem_append.mp ha with ha | ha <;> simp [ha]), by simp⟩
    · exact ⟨p1, oa ++ ob, h1.fr (f.f0.sub (by simp +contextual)), k' H' (f.sub fun a ha => by rcases List.mem_append.mp ha with ha | ha <;> simp [ha]), by simp⟩
  | none :: σ, some d :: δ, _, _, _, h, _ => h.elim
  | [], _ :: _, _, _, _, h, _ => by simp [Envs] at h
  | _ :: _, [], _, _, _, h, _ => by simp [Envs] at h
/-- a name is stored: what it had is let go -/
theorem Envs.set : ∀ {σ : List (Option V)} {δ : DE} {o : List Addr} (i : Nat) {d : D} {v : V} {o' : List Addr}, Envs κ H σ δ o → Rep κ.K H d v o' → i < δ.length →
    ∃ o2, Envs κ H (σ.set i (some v)) (δ.set i (some d)) o2 ∧ ∀ a, o2.count a ≤ o.count a + o'.count a
  | [], [], _, _, _, _, _, h, _, hi => by simp at hi
  | s :: σ, none :: δ, o, 0, d, v, o', h, r, hi => by
    have h : Envs κ H σ δ o := by cases s <;> exact h
    exact ⟨o' ++ o, ⟨o', o, r, h, rfl⟩, fun a => by rw [List.count_append]; omega⟩
  | some w :: σ, some d0 :: δ, o, 0, d, v, o', h, r, hi => by
    obtain ⟨p1, p2, h1, h2, rfl⟩ := h
    exact ⟨o' ++ p2, ⟨o', p2, r, h2, rfl⟩, fun a => by rw [List.count_append, List.count_append]; omega⟩
  | s :: σ, none :: δ, o, i + 1, d, v, o', h, r, hi => by
    have h : Envs κ H σ δ o := by cases s <;> exact h
    obtain ⟨o2, q, c⟩ := Envs.set i h r (by simpa using hi)
    refine ⟨o2, ?_, c⟩
    cases s <;> exact q
  | some w :: σ, some d0 :: δ, o, i + 1, d, v, o', h, r, hi => by
    obtain ⟨p1, p2, h1, h2, rfl⟩ := h
    obtain ⟨o2, q, c⟩ := Envs.set i h2 r (by simpa using hi)
    exact ⟨p1 ++ o2, ⟨p1, o2, h1, q, rfl⟩, fun a => by have := c a; rw [List.count_append, List.count_append]; omega⟩
  | none :: σ, some d :: δ, _, _, _, _, _, h, _, _ => h.elim
  | [], _ :: _, _, _, _, _, _, h, _, _ => by simp [Envs] at h
  | _ :: _, [], _, _, _, _, _, h, _, _ => by simp [Envs] at h
end
end Z


set_option Elab.async false
set_option linter.all false
set_option maxRecDepth 100000
/-! what an expression does to the data -/
namespace Z
open PySem PySem.Spec PyProof.Rows L2

/-- a result: a datum of its own, or what stands at a name, some items down -/
inductive R where
  | own (d : D) | at (i : Nat) (p : List Nat)
  deriving Inhabited
def R.short : R → Bool
  | .at _ (_ :: _) => false
  | _ => true
def getP : List Nat → D → Option D
  | [], d => some d
  | j :: p, .lst xs => match xs[j]? with
    | some x => getP p x
    | none => none
  | j :: p, .obj _ _ xs => match xs[j]? with
    | some x => getP p x
    | none => none
  | _ :: _, _ => none
def setP : List Nat → D → D → Option D
  | [], _, e => some e
  | j :: p, .lst xs, e => match xs[j]? with
    | some x => match setP p x e with
      | some x' => some (.lst (xs.set j x'))
      | none => none
    | none => none
  | j :: p, .obj c ns xs, e => match xs[j]? with
    | some x => match setP p x e with
      | some x' => some (.obj c ns (xs.set j x'))
      | none => none
    | none => none
  | _ :: _, _, _ => none
def deref (δ : DE) : R → Option D
  | .own d => some d
  | .at i p => match δ[i]? with
    | some (some d) => getP p d
    | _ => none
/-- u stands at place j of what is at a -/
def Chd (H : Hp) (a : Addr) (j : Nat) (u : V) : Prop := (∃ vs, H a = some (.lst vs) ∧ vs[j]? = some u) ∨ ∃ C dx fs, H a = some (.ins C dx fs) ∧ (fs.map (·.2))[j]? = some u
def PathV (H : Hp) : List Nat → V → V → Prop
  | [], u, v => v = u
  | j :: p, u, v => ∃ a u', u = .ref a ∧ Chd H a j u' ∧ PathV H p u' v
def Held (K : Fw) (H : Hp) (σ : List (Option V)) : R → V → List Addr → Prop
  | .own d, v, ov => Rep K H d v ov
  | .at i p, v, ov => ov = [] ∧ ∃ u, σ[i]? = some (some u) ∧ PathV H p u v
section
variable {K : Fw} {κ : Kx} {H H' : Hp} {σ : List (Option V)}
theorem PathV.snocC : ∀ {p : List Nat} {u : V} {a : Addr} {j : Nat} {w : V}, PathV H p u (.ref a) → Chd H a j w → PathV H (p ++ [j]) u w
  | [], _, a, j, w, h, h1 => ⟨a, w, (show V.ref a = _ from h).symm, h1, rfl⟩
  | i :: p, _, a, j, w, h, h1 => by
    obtain ⟨b, u', e1, e2, q⟩ := h
    exact ⟨b, u', e1, e2, PathV.snocC q h1⟩
theorem PathV.snoc {p : List Nat} {u : V} {a : Addr} {vs : List V} {j : Nat} {w : V} (h : PathV H p u (.ref a)) (h1 : H a = some (.lst vs)) (h2 : vs[j]? = some w) : PathV H (p ++ [j]) u w := h.snocC (.inl ⟨vs, h1, h2⟩)
theorem PathV.keep : ∀ {p : List Nat} {u v : V}, PathV H p u v → (∀ a w, H a = some w → Nt w → H' a = some w) → PathV H' p u v
  | [], _, _, h, _ => h
  | j :: p, _, _, h, k => by
    obtain ⟨a, u', e1, e2, q⟩ := h
    refine ⟨a, u', e1, ?_, PathV.keep q k⟩
    rcases e2 with ⟨vs, e2, e3⟩ | ⟨C, dx, fs, e2, e3⟩
    · exact .inl ⟨vs, k _ _ e2 (fun _ z => nomatch z), e3⟩
    · exact .inr ⟨C, dx, fs, k _ _ e2 (fun _ z => nomatch z), e3⟩
/-- what stands at a path, and another in its stead -/
theorem Rep.path : ∀ {p : List Nat} {d : D} {v : V} {o : List Addr} {e : D} {w : V}, Rep K H d v o → getP p d = some e → PathV H p v w →
    ∃ oe or_, Rep K H e w oe ∧ (∀ a, oe.count a + or_.count a = o.count a) ∧
      ∀ H' e' oe' d', Rep K H' e' w oe' → Fr0 H H' or_ → setP p d e' = some d' → ∃ o', Rep K H' d' v o' ∧ ∀ a, o'.count a = oe'.count a + or_.count a
  | [], d, v, o, e, w, r, g, q => by
    cases (Option.some.inj g : d = e)
    cases (show w = v from q)
    refine ⟨o, [], r, by simp, fun H' e' oe' d' r' f s => ?_⟩
    cases (Option.some.inj s : e' = d')
    exact ⟨oe', r', by simp⟩
  | j :: p, d, v, o, e, w, r, g, q => by
    cases d <;> simp only [getP, reduceCtorEq] at g
    · rename_i xs
      obtain ⟨a, vs, o', rfl, ha, rs, rfl⟩ := r
      obtain ⟨a', u', e1, hch, q⟩ := q
      cases e1
      have hj : vs[j]? = some u' := by
        rcases hch with ⟨vs', ha', hj⟩ | ⟨_, _, _, ha', _⟩
        · rw [ha] at ha'; cases ha'; exact hj
        · rw [ha] at ha'; cases ha'
      cases hx : xs[j]? with
      | none => rw [hx] at g; simp at g
      | some x =>
        rw [hx] at g
        obtain ⟨vj, oa, o1, ob, ev, rx, rfl, k⟩ := rs.at hx
        rw [hj] at ev; cases ev
        obtain ⟨oe, or1, re, hc, k2⟩ := Rep.path rx g q
        refine ⟨oe, a :: (oa ++ or1 ++ ob), re, fun b => ?_, fun H' e' oe' d' r' f s => ?_⟩
        · have := hc b
          simp only [List.count_cons, List.count_append] at this ⊢
          omega
        · simp only [setP, hx] at s
          cases hs : setP p x e' with
          | none => rw [hs] at s; simp at s
          | some x' =>
            rw [hs] at s
            cases (Option.some.inj s : _ = d')
            obtain ⟨o1', rx', hc'⟩ := k2 H' e' oe' x' r' (f.sub (by simp +contextual)) hs
            have hset : vs.set j u' = vs := by
              obtain ⟨hl, e2⟩ := List.getElem?_eq_some_iff.mp hj
              rw [← e2]; exact List.set_getElem_self hl
            have k3 := k H' x' u' o1' rx' (f.sub (by intro b hb; rcases List.mem_append.mp hb with hb | hb <;> simp [hb]))
            rw [hset] at k3
            refine ⟨a :: (oa ++ o1' ++ ob), ⟨a, vs, _, rfl, (f.1 a List.mem_cons_self).trans ha, k3, rfl⟩, fun b => ?_⟩
            have := hc' b
            simp only [List.count_cons, List.count_append] at this ⊢
            omega
    · rename_i c ns xs
      obtain ⟨a, dx, vs, o', rfl, ha, hl, rs, rfl⟩ := r
      obtain ⟨a', u', e1, hch, q⟩ := q
      cases e1
      have hj : vs[j]? = some u' := by
        rcases hch with ⟨vs', ha', hj⟩ | ⟨_, _, fs, ha', hj⟩
        · rw [ha] at ha'; cases ha'
        · rw [ha] at ha'; cases ha'
          rwa [List.map_snd_zip (by rw [hl, rs.length]; exact Nat.le_refl _)] at hj
      cases hx : xs[j]? with
      | none => rw [hx] at g; simp at g
      | some x =>
        rw [hx] at g
        obtain ⟨vj, oa, o1, ob, ev, rx, rfl, k⟩ := rs.at hx
        rw [hj] at ev; cases ev
        obtain ⟨oe, or1, re, hc, k2⟩ := Rep.path rx g q
        refine ⟨oe, a :: (oa ++ or1 ++ ob), re, fun b => ?_, fun H' e' oe' d' r' f s => ?_⟩
        · have := hc b
          simp only [List.count_cons, List.count_append] at this ⊢
          omega
        · simp only [setP, hx] at s
          cases hs : setP p x e' with
          | none => rw [hs] at s; simp at s
          | some x' =>
            rw [hs] at s
            cases (Option.some.inj s : _ = d')
            obtain ⟨o1', rx', hc'⟩ := k2 H' e' oe' x' r' (f.sub (by simp +contextual)) hs
            have hset : vs.set j u' = vs := by
              obtain ⟨hl, e2⟩ := List.getElem?_eq_some_iff.mp hj
              rw [← e2]; exact List.set_getElem_self hl
            have k3 := k H' x' u' o1' rx' (f.sub (by intro b hb; rcases List.mem_append.mp hb with hb | hb <;> simp [hb]))
            rw [hset] at k3
            refine ⟨a :: (oa ++ o1' ++ ob), ⟨a, dx, vs, _, rfl, (f.1 a List.mem_cons_self).trans ha, by rw [List.length_set]; exact hl, k3, rfl⟩, fun b => ?_⟩
            have := hc' b
            simp only [List.count_cons, List.count_append] at this ⊢
            omega
theorem Held.deref {δ : DE} {o ov : List Addr} {r : R} {v : V} {d : D} (E : Envs κ H σ δ o) (h : Held κ.K H σ r v ov) (e : deref δ r = some d) : ∃ o', Rep κ.K H d v o' ∧ ∀ a, o'.count a ≤ ov.count a + o.count a := by
  cases r with
  | own d' =>
    cases (Option.some.inj e : d' = d)
    exact ⟨ov, h, fun a => by omega⟩
  | «at» i p =>
    obtain ⟨rfl, u, hu, q⟩ := h
    simp only [Z.deref] at e
    cases hi : δ[i]? with
    | none => rw [hi] at e; simp at e
    | some x =>
      cases x with
      | none => rw [hi] at e; simp at e
      | some d0 =>
        rw [hi] at e
        obtain ⟨v0, oa, o1, ob, e1, r1, rfl, _⟩ := E.at hi
        rw [hu] at e1; cases e1
        obtain ⟨oe, or_, re, hc, _⟩ := r1.path e q
        exact ⟨oe, re, fun a => by have := hc a; simp only [List.count_append, List.count_nil]; omega⟩
theorem Held.step {W ov : List Addr} {r : R} {v : V} (h : Held K H σ r v ov) (s : Step H H' W) (hW : ∀ a ∈ W, ∃ u, H a = some u ∧ ¬ Sh u) (n : ∀ a ∈ ov, a ∉ W) (hq : r.short = true ∨ W = []) : Held K H' σ r v ov := by
  cases r with
  | own d => exact Rep.step h s hW n
  | «at» i p =>
    obtain ⟨e, u, hu, q⟩ := h
    refine ⟨e, u, hu, ?_⟩
    cases p with
    | nil => exact q
    | cons j p =>
      rcases hq with hq | rfl
      · simp [R.short] at hq
      · exact q.keep fun a w e hn => s.keep a _ e (by simp) hn
end

/-! ### readings -/
abbrev Den := DE → Option (R × DE)
def Wq (q : Bool) (o : List Addr) : List Addr := if q then [] else o
theorem Wq_ok {κ : Kx} {H : Hp} {σ : List (Option V)} {δ : DE} {o : List Addr} {q : Bool} (E : Envs κ H σ δ o) : ∀ a ∈ Wq q o, ∃ u, H a = some u ∧ ¬ Sh u := fun a ha => by
  cases q
  · exact E.ok a ha
  · cases ha
theorem Wq_sub {q : Bool} {o : List Addr} : ∀ a ∈ Wq q o, a ∈ o := fun a ha => by
  cases q
  · exact ha
  · cases ha
theorem Step.mono {H H' : Hp} {W W' : List Addr} (s : Step H H' W) (h : ∀ a ∈ W, a ∈ W') : Step H H' W' := ⟨fun a u e n => s.keep a u e fun z => n (h a z), s.dom, s.tab⟩
theorem Step.seq {H H1 H2 : Hp} {qa qb : Bool} {o o1 : List Addr} (s : Step H H1 (Wq qa o)) (w : Own H o o1) (t : Step H1 H2 (Wq qb o1)) : Step H H2 (Wq (qa && qb) o) := by
  cases qa with
  | true =>
    cases qb with
    | true => exact Step.trans (o := []) (o1 := []) s (Own.refl _ _) t
    | false => exact Step.trans (s.mono fun a h => nomatch h) w t
  | false =>
    cases qb with
    | true => exact Step.trans s w (t.mono fun a h => nomatch h)
    | false => exact Step.trans s w t
structure Post (κ : Kx) (H : Hp) (σ : List (Option V)) (q : Bool) (o : List Addr) (r : R) (δ' : DE) (v : V) (H' : Hp) (o' ov : List Addr) : Prop where
  step : Step H H' (Wq q o)
  env : Envs κ H' σ δ' o'
  held : Held κ.K H' σ r v ov
  own : Own H o (ov ++ o')
def T (κ : Kx) (q : Bool) (m : Den) : TE := fun σ H Q => ∃ δ o r δ', Envs κ H σ δ o ∧ Nd o ∧ m δ = some (r, δ') ∧
  ∀ v H' o' ov, Post κ H σ q o r δ' v H' o' ov → Q v H'
structure PostA (κ : Kx) (H : Hp) (σ : List (Option V)) (q : Bool) (o : List Addr) (δ' : DE) (H' : Hp) (o' : List Addr) : Prop where
  step : Step H H' (Wq q o)
  env : Envs κ H' σ δ' o'
  own : Own H o o'
/-- a test -/
def TT (κ : Kx) (q : Bool) (m : DE → Option (Bool × DE)) : L2.TT := fun σ H Q => ∃ δ o b δ', Envs κ H σ δ o ∧ Nd o ∧ m δ = some (b, δ') ∧
  ∀ H' o', PostA κ H σ q o δ' H' o' → Q b H'
def HeldL (K : Fw) (H : Hp) (σ : List (Option V)) : List R → List V → List Addr → Prop
  | [], vs, ov => vs = [] ∧ ov = []
  | r :: rs, vs, ov => ∃ v vr o1 o2, vs = v :: vr ∧ Held K H σ r v o1 ∧ HeldL K H σ rs vr o2 ∧ ov = o1 ++ o2
/-- arguments -/
def TAr (κ : Kx) (q : Bool) (m : DE → Option (List R × DE)) : TA := fun σ H Q => ∃ δ o rs δ', Envs κ H σ δ o ∧ Nd o ∧ m δ = some (rs, δ') ∧
  ∀ vs H' o' ov, Step H H' (Wq q o) → Envs κ H' σ δ' o' → HeldL κ.K H' σ rs vs ov → Own H o (ov ++ o') → Q vs H'

theorem PE.imp {X : Cx} {e : Expr} {t t' : TE} (h : PE X e t) (i : ∀ σ H Q, t' σ H Q → t σ H Q) : PE X e t' := ⟨fun pins s σ H Q I hw => h.run pins s σ H Q I (i _ _ _ hw)⟩
theorem PT.imp {X : Cx} {e : Expr} {t t' : L2.TT} (h : PT X e t) (i : ∀ σ H Q, t' σ H Q → t σ H Q) : PT X e t' := ⟨fun pins s σ H Q I hw => h.run pins s σ H Q I (i _ _ _ hw)⟩
theorem PW.imp {X : Cx} {e : Expr} {t t' : L2.TT} (h : PW X e t) (i : ∀ σ H Q, t' σ H Q → t σ H Q) : PW X e t' := ⟨fun w pins s σ H Q I hw => h.run w pins s σ H Q I (i _ _ _ hw)⟩
theorem PA.imp {X : Cx} {e : List Expr} {t t' : TA} (h : PA X e t) (i : ∀ σ H Q, t' σ H Q → t σ H Q) : PA X e t' := ⟨fun p pins s σ H Q I hw => h.run p pins s σ H Q I (i _ _ _ hw)⟩
theorem PS.imp {X : Cx} {e : Stmt} {t t' : TS} (h : PS X e t) (i : ∀ D σ H, t' D σ H → t D σ H) : PS X e t' := ⟨fun pins s σ H D I hw => h.run pins s σ H D I (i _ _ _ hw)⟩
theorem PSs.imp {X : Cx} {e : List Stmt} {t t' : TS} (h : PSs X e t) (i : ∀ D σ H, t' D σ H → t D σ H) : PSs X e t' := ⟨fun pins s σ H D I hw => h.run pins s σ H D I (i _ _ _ hw)⟩

/-! ### names, constants -/
def dVar (i : Nat) : Den := fun δ => match δ[i]? with
  | some (some d) => if d.imm then some (.own d, δ) else some (.at i [], δ)
  | _ => none
def dC (d : D) : Den := fun δ => some (.own d, δ)
section
variable {X : Cx}
theorem own_nil {H : Hp} {o : List Addr} : Own H o ([] ++ o) := Own.refl H o
theorem z_var (i : Nat) {x : Str} {pos : Pos} (hN : X.N[i]? = some x := by rfl) (hv : Vis X.env.scope x := by first | exact Or.inl rfl | exact Or.inr (Or.inl rfl) | exact Or.inr (Or.inr rfl)) (hd : (x == ("__debug__" : Str)) = false := by decide)
    (hcd : (x == ("__classdict__" : Str)) = false := by decide) : PE X (.Name x pos) (T (kx X) true (dVar i)) := by
  refine PE.imp (pe_var hN hv hd hcd) fun σ H Q h => ?_
  obtain ⟨δ, o, r, δ', E, n, hm, q⟩ := h
  simp only [dVar] at hm
  cases hi : δ[i]? with
  | none => rw [hi] at hm; simp at hm
  | some x =>
    cases x with
    | none => rw [hi] at hm; simp at hm
    | some d =>
      rw [hi] at hm
      obtain ⟨v, oa, o1, ob, e1, r1, _, _⟩ := E.at hi
      refine ⟨v, e1, ?_⟩
      by_cases hd : d.imm = true
      · simp only [hd, if_true, Option.some.injEq, Prod.mk.injEq] at hm
        obtain ⟨rfl, rfl⟩ := hm
        have := r1.imm hd
        subst this
        exact q v H o [] ⟨Step.refl _ _, E, r1, own_nil⟩
      · simp only [hd, if_false, Option.some.injEq, Prod.mk.injEq, Bool.false_eq_true] at hm
        obtain ⟨rfl, rfl⟩ := hm
        exact q v H o [] ⟨Step.refl _ _, E, ⟨rfl, v, e1, rfl⟩, own_nil⟩
theorem z_c {e : Expr} {v : V} {d : D} (h : PE X e (tC v)) (r : ∀ K H, Rep K H d v []) : PE X e (T (kx X) true (dC d)) :=
  PE.imp h fun σ H Q h => by
    obtain ⟨δ, o, r', δ', E, n, hm, q⟩ := h
    simp only [dC, Option.some.injEq, Prod.mk.injEq] at hm
    obtain ⟨rfl, rfl⟩ := hm
    exact q v H o [] ⟨Step.refl _ _, E, r _ _, own_nil⟩
theorem z_int {i j pos} : PE X (.Constant (.int i) j pos) (T (kx X) true (dC (.int i))) := z_c pe_int fun _ _ => ⟨rfl, rfl⟩
theorem z_bl {b j pos} : PE X (.Constant (.bool b) j pos) (T (kx X) true (dC (.bl b))) := z_c pe_bl fun _ _ => ⟨rfl, rfl⟩
theorem z_non {j pos} : PE X (.Constant .none j pos) (T (kx X) true (dC .non)) := z_c pe_non fun _ _ => ⟨rfl, rfl⟩
theorem z_str {x : Str} {j pos} (hx : (decide (x.cps.size ≤ 10000) && x.cps.all (· < 0x110000)) = true := by decide +kernel) : PE X (.Constant (.str x) j pos) (T (kx X) true (dC (.str x))) :=
  z_c pe_str fun _ _ => ⟨rfl, ⟨Nat.le_trans (of_decide_eq_true (Bool.and_eq_true_iff.mp hx).1) (by decide), (Bool.and_eq_true_iff.mp hx).2⟩, rfl⟩
end

/-! ### arguments -/
def dANil : DE → Option (List R × DE) := fun δ => some ([], δ)
def dACons (q : Bool) (a : Den) (r : DE → Option (List R × DE)) : DE → Option (List R × DE) := fun δ => match a δ with
  | some (x, δ1) => match r δ1 with
    | some (xs, δ2) => if x.short || q then some (x :: xs, δ2) else none
    | none => none
  | none => none
section
variable {X : Cx} {e : Expr} {es : List Expr} {qa qb : Bool} {ma : Den} {mr : DE → Option (List R × DE)}
theorem own_app {H H1 : Hp} {W o o1 o2 ova ovb : List Addr} (w1 : Own H o (ova ++ o1)) (s : Step H H1 W) (hd : ∀ a ∈ ova, H1 a ≠ none) (w2 : Own H1 o1 (ovb ++ o2)) : Own H o ((ova ++ ovb) ++ o2) := fun a => by
  have h1 := w1 a
  have h2 := w2 a
  simp only [List.count_append] at h1 h2 ⊢
  rcases h2 with h2 | ⟨z, h2⟩
  · rcases h1 with h1 | ⟨z1, h1⟩
    · left; omega
    · right; exact ⟨z1, by omega⟩
  · have hz : ova.count a = 0 := List.count_eq_zero.mpr fun hm => hd a hm z
    exact .inr ⟨s.dom a z, by omega⟩
theorem Held.dom {K : Fw} {H : Hp} {σ : List (Option V)} {r : R} {v : V} {ov : List Addr} (h : Held K H σ r v ov) : ∀ a ∈ ov, H a ≠ none := fun a ha => by
  cases r with
  | own d => obtain ⟨u, e, _⟩ := Rep.own h a ha; rw [e]; simp
  | «at» i p => obtain ⟨rfl, _⟩ := h; cases ha
theorem HeldL.dom {K : Fw} {H : Hp} {σ : List (Option V)} : ∀ {rs : List R} {vs : List V} {ov : List Addr}, HeldL K H σ rs vs ov → ∀ a ∈ ov, H a ≠ none
  | [], _, _, h, a, ha => by rw [h.2] at ha; cases ha
  | r :: rs, _, _, h, a, ha => by
    obtain ⟨v, vr, o1, o2, rfl, h1, h2, rfl⟩ := h
    rcases List.mem_append.mp ha with ha | ha
    · exact h1.dom a ha
    · exact HeldL.dom h2 a ha
theorem HeldL.own {K : Fw} {H : Hp} {σ : List (Option V)} : ∀ {rs : List R} {vs : List V} {ov : List Addr}, HeldL K H σ rs vs ov → ∀ a ∈ ov, ∃ u, H a = some u ∧ Ow u
  | [], _, _, h, a, ha => by rw [h.2] at ha; cases ha
  | .own d :: rs, _, _, h, a, ha => by
    obtain ⟨v, vr, o1, o2, rfl, h1, h2, rfl⟩ := h
    rcases List.mem_append.mp ha with ha | ha
    · exact Rep.own h1 a ha
    · exact HeldL.own h2 a ha
  | .at i p :: rs, _, _, h, a, ha => by
    obtain ⟨v, vr, o1, o2, rfl, ⟨rfl, _⟩, h2, rfl⟩ := h
    exact HeldL.own h2 a ha
theorem own_right {H : Hp} {o ov o' : List Addr} (w : Own H o (ov ++ o')) : Own H o o' := w.sub fun a => by rw [List.count_append]; omega
theorem nd_of {H : Hp} {o ov o' : List Addr} (w : Own H o (ov ++ o')) (n : Nd o) : Nd o' := (own_right w).nd n
theorem apart_of {H : Hp} {o ov o' : List Addr} (w : Own H o (ov ++ o')) (n : Nd o) : ∀ a ∈ ov, a ∉ o' := nd_split (w.nd n)
theorem z_anil : PA X [] (TAr (kx X) true dANil) := PA.imp pa_nil fun σ H Q h => by
  obtain ⟨δ, o, rs, δ', E, n, hm, q⟩ := h
  simp only [dANil, Option.some.injEq, Prod.mk.injEq] at hm
  obtain ⟨rfl, rfl⟩ := hm
  exact q [] H o [] (Step.refl _ _) E ⟨rfl, rfl⟩ own_nil
theorem z_acons (ha : PE X e (T (kx X) qa ma)) (hr : PA X es (TAr (kx X) qb mr)) (hs : starEach (e :: es) X.env = (false, eval e X.env) :: starEach es X.env := by rfl) : PA X (e :: es) (TAr (kx X) (qa && qb) (dACons qb ma mr)) := by
  refine PA.imp (pa_cons ha hr hs) fun σ H Q h => ?_
  obtain ⟨δ, o, rs, δ', E, n, hm, q⟩ := h
  simp only [dACons] at hm
  cases h1 : ma δ with
  | none => rw [h1] at hm; simp at hm
  | some p1 =>
    obtain ⟨x, δ1⟩ := p1
    rw [h1] at hm; dsimp only at hm
    cases h2 : mr δ1 with
    | none => rw [h2] at hm; simp at hm
    | some p2 =>
      obtain ⟨xs, δ2⟩ := p2
      rw [h2] at hm; dsimp only at hm
      by_cases hc : (x.short || qb) = true
      · rw [if_pos hc] at hm
        simp only [Option.some.injEq, Prod.mk.injEq] at hm
        obtain ⟨rfl, rfl⟩ := hm
        refine ⟨δ, o, x, δ1, E, n, h1, fun v H1 o1 ov1 P1 => ?_⟩
        refine ⟨δ1, o1, xs, δ2, P1.env, nd_of P1.own n, h2, fun vs H2 o2 ov2 s2 E2 hl w2 => ?_⟩
        have ap := apart_of P1.own n
        refine q (v :: vs) H2 o2 (ov1 ++ ov2) (P1.step.seq (own_right P1.own) s2) E2 ⟨v, vs, ov1, ov2, rfl, ?_, hl, rfl⟩ (own_app P1.own P1.step P1.held.dom w2)
        refine P1.held.step s2 (Wq_ok P1.env) (fun a ha hw => ap a ha (Wq_sub a hw)) ?_
        simp only [Bool.or_eq_true] at hc
        rcases hc with hc | hc
        · exact .inl hc
        · right; subst hc; rfl
      · rw [if_neg hc] at hm; simp at hm
end
def derefs (δ : DE) : List R → Option (List D)
  | [] => some []
  | r :: rs => match deref δ r, derefs δ rs with
    | some d, some ds => some (d :: ds)
    | _, _ => none
theorem HeldL.derefs {κ : Kx} {H : Hp} {σ : List (Option V)} {δ : DE} {o : List Addr} (E : Envs κ H σ δ o) : ∀ {rs : List R} {vs : List V} {ov : List Addr} {ds : List D}, HeldL κ.K H σ rs vs ov → derefs δ rs = some ds → ∃ o', Reps κ.K H ds vs o'
  | [], _, _, _, h, e => by
    cases (Option.some.inj e)
    exact ⟨[], h.1, rfl⟩
  | r :: rs, _, _, _, h, e => by
    obtain ⟨v, vr, o1, o2, rfl, h1, h2, rfl⟩ := h
    simp only [Z.derefs] at e
    cases e1 : deref δ r with
    | none => rw [e1] at e; simp at e
    | some d =>
      cases e2 : Z.derefs δ rs with
      | none => rw [e1, e2] at e; simp at e
      | some ds =>
        rw [e1, e2] at e
        cases (Option.some.inj e)
        obtain ⟨oa, ra, _⟩ := h1.deref E e1
        obtain ⟨ob, rb⟩ := HeldL.derefs E h2 e2
        exact ⟨oa ++ ob, v, vr, oa, ob, rfl, ra, rb, rfl⟩

/-! ### operators on values that make a datum and change nothing -/
def Fresh (H : Hp) (ov : List Addr) : Prop := ∀ a, ov.count a ≤ 1 ∧ (a ∈ ov → H a = none)
theorem fresh_nil {H : Hp} : Fresh H [] := fun a => ⟨by simp, fun h => nomatch h⟩
theorem fresh_one {H : Hp} {p : Addr} (h : H p = none) : Fresh H [p] := fun a => ⟨by rw [List.count_singleton]; split <;> omega, fun z => by rw [List.mem_singleton.mp z]; exact h⟩
/-- what an operation gives, told by the data -/
def Pr (K : Fw) (f : List D → Option D) (vs : List V) (H : Hp) (Q : VK) : Prop :=
  ∃ ds o d, Reps K H ds vs o ∧ f ds = some d ∧ ∀ v H' ov, (∀ a u, H a = some u → H' a = some u) → Rep K H' d v ov → Fresh H ov → Q v H'
theorem own_fresh {H H' : Hp} {o o' ov : List Addr} {W : List Addr} (w : Own H o o') (s : Step H H' W) (f : Fresh H' ov) (hd : ∀ a ∈ o', H' a ≠ none) : Own H o (ov ++ o') := fun a => by
  rw [List.count_append]
  by_cases h : a ∈ ov
  · have h1 := (f a).2 h
    have h2 : o'.count a = 0 := List.count_eq_zero.mpr fun z => hd a z h1
    have h3 := (f a).1
    exact .inr ⟨s.dom a h1, by omega⟩
  · have h2 : ov.count a = 0 := List.count_eq_zero.mpr h
    rcases w a with w | ⟨z, w⟩
    · left; omega
    · right; exact ⟨z, by omega⟩
theorem Envs.dom {κ : Kx} {H : Hp} {σ : List (Option V)} {δ : DE} {o : List Addr} (E : Envs κ H σ δ o) : ∀ a ∈ o, H a ≠ none := fun a ha => by
  obtain ⟨vs, e, how⟩ := E.own a ha
  rw [e]; simp
theorem Step.same {H H1 H2 : Hp} {W : List Addr} (s : Step H H1 W) (k : ∀ a u, H1 a = some u → H2 a = some u) : Step H H2 W :=
  ⟨fun a u e n z => k a u (s.keep a u e n z), fun a e => s.dom a ((Step.of_same [] k).dom a e), fun P g => (Step.of_same [] k).tab P (s.tab P g)⟩
/-- behind pure work on values: the end of T -/
theorem post_pure {κ : Kx} {H H1 H2 : Hp} {σ : List (Option V)} {q : Bool} {o o1 ov1 ov : List Addr} {d : D} {δ1 : DE} {v : V} (s : Step H H1 (Wq q o)) (E : Envs κ H1 σ δ1 o1) (w : Own H o (ov1 ++ o1))
    (k : ∀ a u, H1 a = some u → H2 a = some u) (r : Rep κ.K H2 d v ov) (f : Fresh H1 ov) : Post κ H σ q o (.own d) δ1 v H2 o1 ov :=
  ⟨s.same k, E.same k, r, own_fresh (own_right w) s f E.dom⟩

def dCall (f : List D → Option D) (a : DE → Option (List R × DE)) : Den := fun δ => match a δ with
  | some (rs, δ') => match derefs δ' rs with
    | some ds => match f ds with
      | some d => some (.own d, δ')
      | none => none
    | none => none
  | none => none
theorem dCall_inv {f : List D → Option D} {m : DE → Option (List R × DE)} {δ δ' : DE} {r : R} (h : dCall f m δ = some (r, δ')) : ∃ rs ds d, m δ = some (rs, δ') ∧ derefs δ' rs = some ds ∧ f ds = some d ∧ r = .own d := by
  simp only [dCall] at h
  cases h1 : m δ with
  | none => rw [h1] at h; simp at h
  | some p =>
    obtain ⟨rs, δ1⟩ := p
    rw [h1] at h; dsimp only at h
    cases h2 : derefs δ1 rs with
    | none => rw [h2] at h; simp at h
    | some ds =>
      rw [h2] at h; dsimp only at h
      cases h3 : f ds with
      | none => rw [h3] at h; simp at h
      | some d =>
        rw [h3] at h
        simp only [Option.some.injEq, Prod.mk.injEq] at h
        obtain ⟨rfl, rfl⟩ := h
        exact ⟨rs, ds, d, rfl, h2, h3, rfl⟩
section
variable {X : Cx} {e a b : Expr} {es : List Expr} {qa qb q : Bool} {ma mb : Den} {mr : DE → Option (List R × DE)} {f : List D → Option D}
/-- a call told by the data: the arguments' reading, then f -/
theorem t_call {κ : Kx} {σ : L2.St} {H : Hp} {Q : VK} (h : T κ q (dCall f mr) σ H Q) : TAr κ q mr σ H fun vs H1 => Pr κ.K f vs H1 Q := by
  obtain ⟨δ, o, r, δ', E, n, hm, k⟩ := h
  obtain ⟨rs, ds, d, h1, h2, h3, rfl⟩ := dCall_inv hm
  refine ⟨δ, o, rs, δ', E, n, h1, fun vs H1 o1 ov1 s1 E1 hl w1 => ?_⟩
  obtain ⟨o', rp⟩ := HeldL.derefs E1 hl h2
  exact ⟨ds, o', d, rp, h3, fun v H2 ov hs r fr => k v H2 o1 ov (post_pure s1 E1 w1 hs r fr)⟩
/-- two operands as two arguments -/
theorem t_two {κ : Kx} {σ : L2.St} {H : Hp} {Q : V → V → Hp → Prop} (h : TAr κ (qa && (qb && true)) (dACons (qb && true) ma (dACons true mb dANil)) σ H fun vs H1 => ∀ x y, vs = [x, y] → Q x y H1) :
    T κ qa ma σ H fun x H1 => T κ qb mb σ H1 fun y H2 => Q x y H2 := by
  obtain ⟨δ, o, rs, δ', E, n, hm, k⟩ := h
  simp only [dACons, dANil] at hm
  cases h1 : ma δ with
  | none => rw [h1] at hm; simp at hm
  | some p1 =>
    obtain ⟨x, δ1⟩ := p1
    rw [h1] at hm; dsimp only at hm
    cases h2 : mb δ1 with
    | none => rw [h2] at hm; simp at hm
    | some p2 =>
      obtain ⟨y, δ2⟩ := p2
      rw [h2] at hm; dsimp only at hm
      simp only [Bool.or_true, if_true] at hm
      by_cases hc : (x.short || (qb && true)) = true
      · rw [if_pos hc] at hm
        simp only [Option.some.injEq, Prod.mk.injEq] at hm
        obtain ⟨rfl, rfl⟩ := hm
        refine ⟨δ, o, x, δ1, E, n, h1, fun v H1 o1 ov1 P1 => ?_⟩
        refine ⟨δ1, o1, y, δ2, P1.env, nd_of P1.own n, h2, fun w H2 o2 ov2 P2 => ?_⟩
        have ap := apart_of P1.own n
        have s := P1.step.seq (own_right P1.own) P2.step
        rw [Bool.and_true] at k hc
        refine k [v, w] H2 o2 (ov1 ++ (ov2 ++ [])) s P2.env ⟨v, [w], ov1, ov2 ++ [], rfl, ?_, ⟨w, [], ov2, [], rfl, P2.held, ⟨rfl, rfl⟩, rfl⟩, rfl⟩ (by rw [List.append_nil]; exact own_app P1.own P1.step P1.held.dom P2.own) v w rfl
        refine P1.held.step P2.step (Wq_ok P1.env) (fun a ha hw => ap a ha (Wq_sub a hw)) ?_
        simp only [Bool.or_eq_true] at hc
        rcases hc with hc | hc
        · exact .inl hc
        · right; subst hc; rfl
      · rw [if_neg hc] at hm; simp at hm
theorem TAr.imp {κ : Kx} {σ : L2.St} {H : Hp} {Q Q' : List V → Hp → Prop} (h : TAr κ q mr σ H Q) (i : ∀ vs H, Q vs H → Q' vs H) : TAr κ q mr σ H Q' := by
  obtain ⟨δ, o, rs, δ', E, n, hm, k⟩ := h
  exact ⟨δ, o, rs, δ', E, n, hm, fun vs H' o' ov a b c d => i _ _ (k vs H' o' ov a b c d)⟩
abbrev d2 (qb : Bool) (ma mb : Den) : DE → Option (List R × DE) := dACons (qb && true) ma (dACons true mb dANil)
theorem z_bin {op : Operator} {pos : Pos} (ho : OpR X (binaryOp op) fun x y => Pr X.F f [x, y]) (ha : PE X a (T (kx X) qa ma)) (hb : PE X b (T (kx X) qb mb)) : PE X (.BinOp a op b pos) (T (kx X) (qa && (qb && true)) (dCall f (d2 qb ma mb))) :=
  PE.imp (pe_op ho ha hb) fun σ H Q h => t_two (Q := fun x y H2 => Pr X.F f [x, y] H2 Q) ((t_call h).imp fun vs H1 p x y e => by rw [← e]; exact p)
theorem z_cmp {op : CmpOp} {pos : Pos} (ho : OpR X (compareOp op) fun x y => Pr X.F f [x, y]) (ha : PE X a (T (kx X) qa ma)) (hb : PE X b (T (kx X) qb mb)) (hm : behindInMarks op b = false := by first | exact nomark _ | rfl) : PE X (.Compare a [op] [b] pos) (T (kx X) (qa && (qb && true)) (dCall f (d2 qb ma mb))) :=
  PE.imp (pe_cmpR ho ha hb hm) fun σ H Q h => t_two (Q := fun x y H2 => Pr X.F f [x, y] H2 Q) ((t_call h).imp fun vs H1 p x y e => by rw [← e]; exact p)
theorem z_callB {id : String} {x : Str} {p pos : Pos} (hc : CallR X (.builtin id) (Pr X.F f)) (hg : Gl X x) (hm : X.mg x = none) (hv : bootBuiltins x = some (.builtin id)) (ha : PA X (e :: es) (TAr (kx X) q mr))
    (hn : x ≠ "__name__" := by decide) (hdb : (x == ("__debug__" : Str)) = false := by decide) (he : starEach (e :: es) X.env = (false, eval e X.env) :: starEach es X.env := by rfl) (hpl : (backTo pos (starEach es X.env)).any (·.1) = false := by rfl) :
    PE X (.Call (.Name x p) (e :: es) [] pos) (T (kx X) q (dCall f mr)) :=
  PE.imp (pe_callB hc hg hm hv ha hn hdb he hpl) fun σ H Q h => t_call h
theorem z_callTy {id : String} {x : Str} {p pos : Pos} (hc : CallR X (.type id) (Pr X.F f)) (hg : Gl X x) (hm : X.mg x = none) (hv : bootBuiltins x = some (.type id)) (ha : PA X (e :: es) (TAr (kx X) q mr))
    (hn : x ≠ "__name__" := by decide) (hdb : (x == ("__debug__" : Str)) = false := by decide) (he : starEach (e :: es) X.env = (false, eval e X.env) :: starEach es X.env := by rfl) (hpl : (backTo pos (starEach es X.env)).any (·.1) = false := by rfl) :
    PE X (.Call (.Name x p) (e :: es) [] pos) (T (kx X) q (dCall f mr)) :=
  PE.imp (pe_callTy hc hg hm hv ha hn hdb he hpl) fun σ H Q h => t_call h
end
end Z


set_option Elab.async false
set_option linter.all false
set_option maxRecDepth 100000
/-! displays, subscripts, tests, calls of the program's own defs -/
namespace Z
open PySem PySem.Spec PyProof.Rows L2

/-! ### operands that are held -/
def allShort : List R → Bool
  | [] => true
  | r :: rs => r.short && allShort rs
def Stk (κ : Kx) (H0 : Hp) (σ : List (Option V)) (q : Bool) (o0 : List Addr) (rs : List R) (vs : List V) (δ : DE) (H : Hp) : Prop :=
  ∃ o ov, Step H0 H (Wq q o0) ∧ Envs κ H σ δ o ∧ HeldL κ.K H σ rs vs ov ∧ Own H0 o0 (ov ++ o)
section
variable {K : Fw} {κ : Kx} {H0 H : Hp} {σ : List (Option V)} {q qa : Bool} {o0 : List Addr} {rs : List R} {vs : List V} {δ δ1 : DE} {ma : Den} {r : R}
theorem HeldL.step : ∀ {rs : List R} {vs : List V} {W ov : List Addr} {H H' : Hp}, HeldL K H σ rs vs ov → Step H H' W → (∀ a ∈ W, ∃ u, H a = some u ∧ ¬ Sh u) → (∀ a ∈ ov, a ∉ W) → (allShort rs = true ∨ W = []) → HeldL K H' σ rs vs ov
  | [], _, _, _, _, _, h, _, _, _, _ => h
  | r :: rs, _, W, _, H, H', h, s, hW, n, hq => by
    obtain ⟨v, vr, o1, o2, rfl, h1, h2, rfl⟩ := h
    refine ⟨v, vr, o1, o2, rfl, h1.step s hW (fun a ha => n a (List.mem_append_left _ ha)) ?_, HeldL.step h2 s hW (fun a ha => n a (List.mem_append_right _ ha)) ?_, rfl⟩
    · rcases hq with hq | hq
      · simp only [allShort, Bool.and_eq_true] at hq; exact .inl hq.1
      · exact .inr hq
    · rcases hq with hq | hq
      · simp only [allShort, Bool.and_eq_true] at hq; exact .inl hq.2
      · exact .inr hq
theorem Stk.start {o : List Addr} (E : Envs κ H σ δ o) : Stk κ H σ true o [] [] δ H := ⟨o, [], Step.refl _ _, E, ⟨rfl, rfl⟩, own_nil⟩
theorem Stk.push {G : VK} (n0 : Nd o0) (S : Stk κ H0 σ q o0 rs vs δ H) (hm : ma δ = some (r, δ1)) (hs : (allShort rs || qa) = true) (k : ∀ v H1, Stk κ H0 σ (q && qa) o0 (r :: rs) (v :: vs) δ1 H1 → G v H1) : T κ qa ma σ H G := by
  obtain ⟨o, ov, s, E, hl, w⟩ := S
  refine ⟨δ, o, r, δ1, E, nd_of w n0, hm, fun v H1 o1 ov1 P => k v H1 ⟨o1, ov1 ++ ov, s.seq (own_right w) P.step, P.env, ⟨v, vs, ov1, ov, rfl, P.held, ?_, rfl⟩, ?_⟩⟩
  · have ap := apart_of w n0
    refine hl.step P.step (Wq_ok E) (fun a ha hw => ap a ha (Wq_sub a hw)) ?_
    simp only [Bool.or_eq_true] at hs
    rcases hs with hs | hs
    · exact .inl hs
    · right; subst hs; rfl
  · refine (own_app w s hl.dom P.own).sub fun a => ?_
    simp only [List.count_append]; omega
theorem Stk.reps {ds : List D} (S : Stk κ H0 σ q o0 rs vs δ H) (e : derefs δ rs = some ds) : ∃ o', Reps κ.K H ds vs o' := by
  obtain ⟨o, ov, s, E, hl, w⟩ := S
  exact hl.derefs E e
/-- the end: a new datum -/
theorem Stk.pure {d : D} {G : VK} (S : Stk κ H0 σ q o0 rs vs δ H) (h : ∀ v H' o' ov, Post κ H0 σ q o0 (.own d) δ v H' o' ov → G v H') {v : V} {H2 : Hp} {ov : List Addr} (k : ∀ a u, H a = some u → H2 a = some u) (r : Rep κ.K H2 d v ov) (f : Fresh H ov) : G v H2 := by
  obtain ⟨o, ov1, s, E, hl, w⟩ := S
  exact h v H2 o ov (post_pure s E w k r f)
end

/-! ### displays -/
def owns : List R → Option (List D)
  | [] => some []
  | .own d :: rs => match owns rs with
    | some ds => some (d :: ds)
    | none => none
  | .at _ _ :: _ => none
theorem HeldL.owns {K : Fw} {H : Hp} {σ : List (Option V)} : ∀ {rs : List R} {vs : List V} {ov : List Addr} {ds : List D}, HeldL K H σ rs vs ov → owns rs = some ds → Reps K H ds vs ov
  | [], _, _, _, h, e => by cases (Option.some.inj e); exact h
  | .own d :: rs, _, _, _, h, e => by
    obtain ⟨v, vr, o1, o2, rfl, h1, h2, rfl⟩ := h
    simp only [Z.owns] at e
    cases e2 : Z.owns rs with
    | none => rw [e2] at e; simp at e
    | some ds =>
      rw [e2] at e
      cases (Option.some.inj e)
      exact ⟨v, vr, o1, o2, rfl, h1, HeldL.owns h2 e2, rfl⟩
  | .at _ _ :: rs, _, _, _, h, e => by simp [Z.owns] at e
def dTup (m : DE → Option (List R × DE)) : Den := fun δ => match m δ with
  | some (rs, δ') => match owns rs with
    | some ds => if ds.length ≤ 1000 then some (.own (.tup ds), δ') else none
    | none => none
  | none => none
def dLst (m : DE → Option (List R × DE)) : Den := fun δ => match m δ with
  | some (rs, δ') => match owns rs with
    | some ds => if ds.length ≤ 1000 then some (.own (.lst ds), δ') else none
    | none => none
  | none => none
section
variable {X : Cx} {es : List Expr} {q : Bool} {m : DE → Option (List R × DE)}
theorem small_sz {n : Nat} (h : n ≤ 1000) : n ≤ sizeLine := Nat.le_trans h (by decide)
theorem new_same {H : Hp} {p : Addr} {u : HO} (h : H p = none) : ∀ a w, H a = some w → upd H p u a = some w := fun a w e => by
  rw [upd_ne (ne_of_none e h)]; exact e
theorem Reps.same {K : Fw} {H H' : Hp} {xs : List D} {vs : List V} {o : List Addr} (h : Reps K H xs vs o) (k : ∀ a u, H a = some u → H' a = some u) : Reps K H' xs vs o :=
  h.fr ⟨fun a ha => by obtain ⟨u, e, _⟩ := h.own a ha; rw [e]; exact k _ _ e, fun a u e _ => k a u e⟩
theorem Rep.same {K : Fw} {H H' : Hp} {d : D} {v : V} {o : List Addr} (h : Rep K H d v o) (k : ∀ a u, H a = some u → H' a = some u) : Rep K H' d v o :=
  h.fr ⟨fun a ha => by obtain ⟨u, e, _⟩ := h.own a ha; rw [e]; exact k _ _ e, fun a u e _ => k a u e⟩
theorem z_tup {k : Nat} {pos : Pos} (h : PA X es (TAr (kx X) q m)) : PE X (.Tuple es k pos) (T (kx X) q (dTup m)) :=
  PE.imp (pe_tup h) fun σ H Q h => by
    obtain ⟨δ, o, r, δ', E, n, hm, k⟩ := h
    simp only [dTup] at hm
    cases h1 : m δ with
    | none => rw [h1] at hm; simp at hm
    | some p =>
      obtain ⟨rs, δ1⟩ := p
      rw [h1] at hm; dsimp only at hm
      cases h2 : owns rs with
      | none => rw [h2] at hm; simp at hm
      | some ds =>
        rw [h2] at hm; dsimp only at hm
        by_cases hc : ds.length ≤ 1000
        · rw [if_pos hc] at hm
          simp only [Option.some.injEq, Prod.mk.injEq] at hm
          obtain ⟨rfl, rfl⟩ := hm
          refine ⟨δ, o, rs, δ1, E, n, h1, fun vs H1 o1 ov1 s1 E1 hl w1 => ?_⟩
          have rp := hl.owns h2
          refine ⟨by rw [rp.length]; exact small_sz hc, fun p hp => ?_⟩
          exact k _ _ o1 ov1 ⟨s1.same (new_same hp), E1.same (new_same hp), ⟨p, vs, rfl, .of upd_same, rp.same (new_same hp)⟩, w1⟩
        · rw [if_neg hc] at hm; simp at hm
theorem z_lst {pos : Pos} (h : PA X es (TAr (kx X) q m)) : PE X (.List es pos) (T (kx X) q (dLst m)) :=
  PE.imp (pe_lst h) fun σ H Q h => by
    obtain ⟨δ, o, r, δ', E, n, hm, k⟩ := h
    simp only [dLst] at hm
    cases h1 : m δ with
    | none => rw [h1] at hm; simp at hm
    | some p =>
      obtain ⟨rs, δ1⟩ := p
      rw [h1] at hm; dsimp only at hm
      cases h2 : owns rs with
      | none => rw [h2] at hm; simp at hm
      | some ds =>
        rw [h2] at hm; dsimp only at hm
        by_cases hc : ds.length ≤ 1000
        · rw [if_pos hc] at hm
          simp only [Option.some.injEq, Prod.mk.injEq] at hm
          obtain ⟨rfl, rfl⟩ := hm
          refine ⟨δ, o, rs, δ1, E, n, h1, fun vs H1 o1 ov1 s1 E1 hl w1 => ?_⟩
          have rp := hl.owns h2
          refine ⟨by rw [rp.length]; exact small_sz hc, fun p hp => ?_⟩
          refine k _ _ o1 (p :: ov1) ⟨s1.same (new_same hp), E1.same (new_same hp), ⟨p, vs, ov1, rfl, upd_same, rp.same (new_same hp), rfl⟩, fun a => ?_⟩
          have hw := w1 a
          have d1 : ∀ a ∈ ov1 ++ o1, H1 a ≠ none := fun a ha => (List.mem_append.mp ha).elim (hl.dom a) (E1.dom a)
          by_cases ha : a = p
          · subst ha
            have z : (ov1 ++ o1).count a = 0 := List.count_eq_zero.mpr fun hm => d1 a hm hp
            rw [List.cons_append, List.count_cons_self, z]
            exact .inr ⟨s1.dom a hp, Nat.le_refl _⟩
          · rw [List.cons_append, List.count_cons_of_ne (fun z => ha z.symm)]
            exact hw
        · rw [if_neg hc] at hm; simp at hm
end

/-! ### subscripts -/
def subD : D → Int → Option D
  | .tup xs, i => atI xs i
  | .lst xs, i => atI xs i
  | .frz xs, i => atI xs i
  | .str x, i => match atI x.cps.toList i with
    | some c => some (.str ⟨#[c]⟩)
    | none => none
  | _, _ => none
def subR (r : R) (d : D) (i : Int) : Option R := match subD d i with
  | some e => if e.imm then some (.own e) else match r, d with
    | .at s p, .lst xs => match ixN xs.length i with
      | some j => some (.at s (p ++ [j]))
      | none => none
    | _, _ => none
  | none => none
def dSub (qb : Bool) (ma mb : Den) : Den := fun δ => match ma δ with
  | some (ra, δ1) => match mb δ1 with
    | some (rb, δ2) => if ra.short || qb then match deref δ2 ra, deref δ2 rb with
      | some d, some (.int i) => match subR ra d i with
        | some r => some (r, δ2)
        | none => none
      | _, _ => none
      else none
    | none => none
  | none => none
theorem strOk_mem {x : Str} (h : PyData.strOk x = true) {c : Nat} (hc : c ∈ x.cps.toList) : c < 0x110000 := by
  have h' : x.cps.all (· < 0x110000) = true := h
  rw [← Array.all_toList, List.all_eq_true] at h'
  exact of_decide_eq_true (h' c hc)
theorem strOk_of {l : List Nat} (h : ∀ c ∈ l, c < 0x110000) : PyData.strOk ⟨l.toArray⟩ = true := by
  show Array.all _ _ = true
  rw [← Array.all_toList, List.all_eq_true]
  exact fun c hc => decide_eq_true (h c hc)
theorem strOk_at {x : Str} (h : PyData.strOk x = true) {i : Int} {c : Nat} (hc : L2.atI x.cps.toList i = some c) : StrOk ⟨#[c]⟩ := by
  refine ⟨by show 1 ≤ sizeLine; decide, strOk_of (l := [c]) fun d hd => ?_⟩
  rw [List.mem_singleton.mp hd]
  unfold L2.atI at hc
  cases hj : ixN x.cps.toList.length i with
  | none => rw [hj] at hc; cases hc
  | some j =>
    rw [hj] at hc
    exact strOk_mem h (List.mem_of_getElem? (show x.cps.toList[j]? = some c from hc))
section
variable {K : Fw} {κ : Kx} {H : Hp}
theorem Reps.atI {xs : List D} {vs : List V} {o : List Addr} {i : Int} {e : D} (h : Reps K H xs vs o) (he : atI xs i = some e) : ∃ v o1, atI vs i = some v ∧ Rep K H e v o1 ∧ ∃ j, ixN xs.length i = some j ∧ vs[j]? = some v ∧ xs[j]? = some e := by
  unfold L2.atI at he ⊢
  cases hj : ixN xs.length i with
  | none => rw [hj] at he; simp at he
  | some j =>
    rw [hj] at he
    obtain ⟨v, o1, e1, r, _⟩ := h.get (i := j) (d := e) (by simpa using he)
    refine ⟨v, o1, ?_, r, j, rfl, e1, by simpa using he⟩
    rw [h.length, hj]
    exact e1
end
section
variable {X : Cx} {a b : Expr} {qa qb : Bool} {ma mb : Den}
theorem z_sub {pos : Pos} (ha : PE X a (T (kx X) qa ma)) (hb : PE X b (T (kx X) qb mb)) (hs : PlainIx b := by exact fun _ _ => rfl) : PE X (.Subscript a b pos) (T (kx X) (qa && qb) (dSub qb ma mb)) := by
  refine PE.imp (pe_ix ix_seq ha hb hs) fun σ H Q h => ?_
  obtain ⟨δ, o, r, δ', E, n, hm, k⟩ := h
  simp only [dSub] at hm
  cases h1 : ma δ with
  | none => rw [h1] at hm; simp at hm
  | some p1 =>
    obtain ⟨ra, δ1⟩ := p1
    rw [h1] at hm; dsimp only at hm
    cases h2 : mb δ1 with
    | none => rw [h2] at hm; simp at hm
    | some p2 =>
      obtain ⟨rb, δ2⟩ := p2
      rw [h2] at hm; dsimp only at hm
      by_cases hc : (ra.short || qb) = true
      · rw [if_pos hc] at hm
        cases h3 : deref δ2 ra with
        | none => rw [h3] at hm; simp at hm
        | some d =>
          cases h4 : deref δ2 rb with
          | none => rw [h3, h4] at hm; simp at hm
          | some db =>
            rw [h3, h4] at hm
            cases db <;> simp only [reduceCtorEq] at hm
            rename_i i
            cases h5 : subR ra d i with
            | none => rw [h5] at hm; simp at hm
            | some rr =>
              rw [h5] at hm
              simp only [Option.some.injEq, Prod.mk.injEq] at hm
              obtain ⟨rfl, rfl⟩ := hm
              refine (Stk.start E).push n h1 (by simp [allShort]) fun x H1 S1 => ?_
              refine S1.push n h2 (by simpa [allShort] using hc) fun y H2 S2 => ?_
              rw [Bool.true_and] at S2
              obtain ⟨o2, ov, s2, E2, ⟨y', vr, oy, oxx, e1, hy, ⟨x', vr2, ox, onil, e2, hx, ⟨e3, e4⟩, e5⟩, e6⟩, w2⟩ := S2
              subst e4 e5 e6 e3
              cases e2; cases e1
              obtain ⟨_, ry, _⟩ := hy.deref E2 h4
              obtain ⟨rfl, rfl⟩ := ry
              obtain ⟨od, rx, _⟩ := hx.deref E2 h3
              have wr : Own H o o2 := own_right w2
              have fin : ∀ (e : D) (v : V), e.imm = true → Rep X.F H2 e v [] → rr = .own e → Q v H2 := fun e v hi re er => by
                subst er
                exact k v H2 o2 [] ⟨s2, E2, re, wr.sub fun a => by simp⟩
              have seqs : ∀ (xs : List D) (vs : List V) (oo : List Addr), Reps X.F H2 xs vs oo → subD d i = atI xs i → (d = .lst xs ∨ ∀ ys, d ≠ .lst ys) → (∀ s p, ra = .at s p → d = .lst xs → ∀ v, atI vs i = some v → ∀ j, ixN xs.length i = some j → vs[j]? = some v → Held X.F H2 σ (.at s (p ++ [j])) v []) →
                  ∃ v, atI vs i = some v ∧ Q v H2 := fun xs vs oo rs hd hdl hp => by
                unfold subR at h5
                rw [hd] at h5
                cases he : atI xs i with
                | none => rw [he] at h5; simp at h5
                | some e =>
                  rw [he] at h5; dsimp only at h5
                  obtain ⟨v, o1, hv, re, j, hj, hvj, _⟩ := rs.atI he
                  refine ⟨v, hv, ?_⟩
                  by_cases hi : e.imm = true
                  · rw [if_pos hi] at h5
                    have := re.imm hi
                    subst this
                    exact fin e v hi re (Option.some.inj h5).symm
                  · rw [if_neg hi] at h5
                    cases hra : ra with
                    | own _ => rw [hra] at h5; simp at h5
                    | «at» s p =>
                      rw [hra] at h5
                      rcases hdl with hdl | hdl
                      · subst hdl
                        simp only [hj, Option.some.injEq] at h5
                        subst h5
                        exact k v H2 o2 [] ⟨s2, E2, hp s p hra rfl v hv j hj hvj, wr.sub fun a => by simp⟩
                      · cases d <;> simp only [reduceCtorEq] at h5
                        exact (hdl _ rfl).elim
              cases d with
              | tup xs =>
                obtain ⟨a1, vs, rfl, hq, rs⟩ := rx
                obtain ⟨v, hv, q⟩ := seqs xs vs _ rs rfl (.inr fun _ z => nomatch z) (fun _ _ _ z => nomatch z)
                exact .inr (.inl ⟨a1, vs, i, v, rfl, rfl, hq, hv, q⟩)
              | lst xs =>
                obtain ⟨a1, vs, o', rfl, hq, rs, _⟩ := rx
                obtain ⟨v, hv, q⟩ := seqs xs vs _ rs rfl (.inl rfl) (fun s p era _ v hv j hj hvj => by
                  subst era
                  obtain ⟨_, u, hu, hp⟩ := hx
                  exact ⟨rfl, u, hu, hp.snoc hq hvj⟩)
                exact .inl ⟨a1, vs, i, v, rfl, rfl, .of hq, hv, q⟩
              | frz xs =>
                obtain ⟨a1, vs, rfl, hq, rs, _⟩ := rx
                obtain ⟨v, hv, q⟩ := seqs xs vs _ rs rfl (.inr fun _ z => nomatch z) (fun _ _ _ z => nomatch z)
                exact .inl ⟨a1, vs, i, v, rfl, rfl, hq.sq, hv, q⟩
              | str z =>
                obtain ⟨rfl, ⟨hz, hz2⟩, _⟩ := rx
                simp only [subR, subD] at h5
                cases hc2 : atI z.cps.toList i with
                | none => rw [hc2] at h5; simp at h5
                | some c =>
                  rw [hc2] at h5
                  simp only [D.imm, if_true, Option.some.injEq] at h5
                  exact .inr (.inr ⟨z, i, c, rfl, rfl, hz, hc2, fin (.str ⟨#[c]⟩) _ rfl ⟨rfl, strOk_at hz2 hc2, rfl⟩ h5.symm⟩)
              | _ => simp [subR, subD] at h5
      · rw [if_neg hc] at hm; simp at hm
end
end Z


set_option Elab.async false
set_option linter.all false
set_option maxRecDepth 100000
/-! tests, choices, slices, calls of the program's own defs -/
namespace Z
open PySem PySem.Spec PyProof.Rows L2

theorem Step.weak {H H' : Hp} {q q' : Bool} {o : List Addr} (s : Step H H' (Wq q o)) (h : q' = true → q = true) : Step H H' (Wq q' o) := by
  cases q' with
  | true => rw [h rfl] at s; exact s
  | false => exact s.mono Wq_sub

/-! ### tests -/
abbrev DenT := DE → Option (Bool × DE)
def truthD : D → Option Bool
  | .non => some false
  | .bl b => some b
  | .int i => some (i != 0)
  | .str x => some ((x.length : Int) != 0)
  | .tup xs => some (!xs.isEmpty)
  | .lst xs => some (!xs.isEmpty)
  | .frz xs => some (!xs.isEmpty)
  | _ => none
def dTv (m : Den) : DenT := fun δ => match m δ with
  | some (r, δ1) => match deref δ1 r with
    | some d => match truthD d with
      | some b => some (b, δ1)
      | none => none
    | none => none
  | none => none
def dAnd (ma mb : DenT) : DenT := fun δ => match ma δ with
  | some (true, δ1) => mb δ1
  | x => x
def dOr (ma mb : DenT) : DenT := fun δ => match ma δ with
  | some (false, δ1) => mb δ1
  | x => x
def dNot (ma : DenT) : DenT := fun δ => match ma δ with
  | some (b, δ1) => some (!b, δ1)
  | none => none
section
variable {K : Fw} {κ : Kx} {σ : L2.St} {H : Hp} {q qa qb : Bool} {ma mb : DenT} {o : List Addr} {δ δ1 : DE} {b : Bool}
theorem empty_reps {xs : List D} {vs : List V} {o : List Addr} (h : Reps K H xs vs o) : (!vs.isEmpty) = !xs.isEmpty := by
  cases xs with
  | nil => rw [h.1]; rfl
  | cons x xs => obtain ⟨v, vr, _, _, rfl, _⟩ := h; rfl
theorem truth_ok {d : D} {v : V} {o : List Addr} {b : Bool} (r : Rep K H d v o) (h : truthD d = some b) : TruV K v H b := by
  cases d with
  | non => obtain ⟨rfl, _⟩ := r; exact (Option.some.inj h).symm
  | bl b => obtain ⟨rfl, _⟩ := r; exact (Option.some.inj h).symm
  | int i => obtain ⟨rfl, _⟩ := r; exact (Option.some.inj h).symm
  | str x => obtain ⟨rfl, hx, _⟩ := r; exact ⟨hx.1, (Option.some.inj h).symm⟩
  | tup xs =>
    obtain ⟨a, vs, rfl, hq, rs⟩ := r
    exact .inr (.inl ⟨vs, hq, by rw [empty_reps rs]; exact (Option.some.inj h).symm⟩)
  | lst xs =>
    obtain ⟨a, vs, o', rfl, hq, rs, _⟩ := r
    exact .inl ⟨vs, .of hq, by rw [empty_reps rs]; exact (Option.some.inj h).symm⟩
  | frz xs =>
    obtain ⟨a, vs, rfl, hq, rs, _⟩ := r
    exact .inl ⟨vs, hq.sq, by rw [empty_reps rs]; exact (Option.some.inj h).symm⟩
  | dic _ _ => cases h
  | obj _ _ _ => cases h
theorem PostA.seq {H1 H2 : Hp} {o1 o2 : List Addr} {δ2 : DE} (P : PostA κ H σ qa o δ1 H1 o1) (P2 : PostA κ H1 σ qb o1 δ2 H2 o2) : PostA κ H σ (qa && qb) o δ2 H2 o2 :=
  ⟨P.step.seq P.own P2.step, P2.env, P.own.trans P.step P2.own⟩
theorem PostA.weak {q' : Bool} {H1 : Hp} {o1 : List Addr} (P : PostA κ H σ q o δ1 H1 o1) (h : q' = true → q = true) : PostA κ H σ q' o δ1 H1 o1 := ⟨P.step.weak h, P.env, P.own⟩
theorem PostA.post {H1 H2 : Hp} {o1 o2 ov : List Addr} {δ2 : DE} {r : R} {v : V} (P : PostA κ H σ qa o δ1 H1 o1) (P2 : Post κ H1 σ qb o1 r δ2 v H2 o2 ov) : Post κ H σ (qa && qb) o r δ2 v H2 o2 ov :=
  ⟨P.step.seq P.own P2.step, P2.env, P2.held, P.own.trans P.step P2.own⟩
theorem Post.weak {q' : Bool} {r : R} {v : V} {H1 : Hp} {o1 ov : List Addr} (P : Post κ H σ q o r δ1 v H1 o1 ov) (h : q' = true → q = true) : Post κ H σ q' o r δ1 v H1 o1 ov := ⟨P.step.weak h, P.env, P.held, P.own⟩
/-- another test behind a test -/
theorem TT.then_ {H0 : Hp} {o0 : List Addr} {Q : Bool → Hp → Prop} (n0 : Nd o0) (P : PostA κ H0 σ qa o0 δ H o) (hm : mb δ = some (b, δ1)) (k : ∀ H' o', PostA κ H0 σ (qa && qb) o0 δ1 H' o' → Q b H') : TT κ qb mb σ H Q :=
  ⟨δ, o, b, δ1, P.env, P.own.nd n0, hm, fun H' o' P2 => k H' o' (P.seq P2)⟩
theorem T.then_ {H0 : Hp} {o0 : List Addr} {Q : VK} {m : Den} {r : R} (n0 : Nd o0) (P : PostA κ H0 σ qa o0 δ H o) (hm : m δ = some (r, δ1)) (k : ∀ v H' o' ov, Post κ H0 σ (qa && qb) o0 r δ1 v H' o' ov → Q v H') : T κ qb m σ H Q :=
  ⟨δ, o, r, δ1, P.env, P.own.nd n0, hm, fun v H' o' ov P2 => k v H' o' ov (P.post P2)⟩
end
section
variable {X : Cx} {a b c : Expr} {rest : List Expr} {q qa qb qc : Bool} {m ma' mb' : Den} {ma mb mc : DenT} {pos : Pos}
theorem z_tv (ha : PE X a (T (kx X) q m)) (he : ∀ whole, isTrue a X.env whole = (do let v ← whole; standAt a.pos; holding [v] (truthy v)) := by intro _; rfl) : PT X a (TT (kx X) q (dTv m)) :=
  PT.imp (pt_truth ha he) fun σ H Q h => by
    obtain ⟨δ, o, b, δ', E, n, hm, k⟩ := h
    simp only [dTv] at hm
    cases h1 : m δ with
    | none => rw [h1] at hm; simp at hm
    | some p =>
      obtain ⟨r, δ1⟩ := p
      rw [h1] at hm; dsimp only at hm
      cases h2 : deref δ1 r with
      | none => rw [h2] at hm; simp at hm
      | some d =>
        rw [h2] at hm; dsimp only at hm
        cases h3 : truthD d with
        | none => rw [h3] at hm; simp at hm
        | some b' =>
          rw [h3] at hm
          simp only [Option.some.injEq, Prod.mk.injEq] at hm
          obtain ⟨rfl, rfl⟩ := hm
          refine ⟨δ, o, r, δ1, E, n, h1, fun v H1 o1 ov P => ?_⟩
          obtain ⟨o', rp, _⟩ := P.held.deref P.env h2
          exact ⟨_, truth_ok rp h3, k H1 o1 ⟨P.step, P.env, own_right P.own⟩⟩
def dTb (m : Den) : DenT := fun δ => match m δ with
  | some (.own (.bl b), δ1) => some (b, δ1)
  | _ => none
theorem isbl {α : Type} {m : Den} {δ : DE} {z : α} {f : Bool → DE → Option α} {g : Option (R × DE) → Option α} (hg : ∀ b δ1, g (some (.own (.bl b), δ1)) = f b δ1) (hn : ∀ x, (∀ b δ1, x ≠ some (.own (.bl b), δ1)) → g x = none) (h : g (m δ) = some z) :
    ∃ b δ1, m δ = some (.own (.bl b), δ1) ∧ f b δ1 = some z := by
  by_cases hx : ∃ b δ1, m δ = some (.own (.bl b), δ1)
  · obtain ⟨b, δ1, e⟩ := hx
    exact ⟨b, δ1, e, by rw [← hg, ← e]; exact h⟩
  · rw [hn _ fun b δ1 e => hx ⟨b, δ1, e⟩] at h
    cases h
/-- a comparison as a test -/
theorem z_tcmp {op : CmpOp} {f : List D → Option D} (ho : OpR X (compareOp op) fun x y => Pr X.F f [x, y]) (ha : PE X a (T (kx X) qa ma')) (hb : PE X b (T (kx X) qb mb')) (hm : behindInMarks op b = false := by first | exact nomark _ | rfl) : PT X (.Compare a [op] [b] pos) (TT (kx X) (qa && (qb && true)) (dTb (dCall f (d2 qb ma' mb')))) :=
  PT.imp (pt_cmpR ho ha hb hm) fun σ H Q h => by
    obtain ⟨δ, o, b', δ', E, n, hm, k⟩ := h
    obtain ⟨c, δ1, h1, h2⟩ := isbl (m := dCall f (d2 qb ma' mb')) (δ := δ) (g := fun x => match x with | some (.own (.bl b), δ1) => some (b, δ1) | _ => none) (f := fun b δ1 => some (b, δ1))
      (fun b δ1 => rfl) (fun x hx => by split <;> first | rfl | exact (hx _ _ rfl).elim) hm
    simp only [Option.some.injEq, Prod.mk.injEq] at h2
    obtain ⟨rfl, rfl⟩ := h2
    refine t_two (Q := fun x y H2 => Pr X.F f [x, y] H2 fun x H' => ∃ k, x = .bl k ∧ Q k H') ((TAr.imp (t_call (f := f) (Q := fun x H' => ∃ k, x = .bl k ∧ Q k H') ⟨δ, o, .own (.bl c), δ1, E, n, h1, fun v H1 o1 ov P => ?_⟩)) fun vs H1 p x y e => by rw [← e]; exact p)
    obtain ⟨rfl, _⟩ := P.held
    exact ⟨c, rfl, k H1 o1 ⟨P.step, P.env, own_right P.own⟩⟩
theorem z_not (ha : PT X a (TT (kx X) qa ma)) : PT X (.UnaryOp .Not a pos) (TT (kx X) qa (dNot ma)) :=
  PT.imp (pt_not ha) fun σ H Q h => by
    obtain ⟨δ, o, b, δ', E, n, hm, k⟩ := h
    simp only [dNot] at hm
    cases h1 : ma δ with
    | none => rw [h1] at hm; simp at hm
    | some p =>
      obtain ⟨c, δ1⟩ := p
      rw [h1] at hm
      simp only [Option.some.injEq, Prod.mk.injEq] at hm
      obtain ⟨rfl, rfl⟩ := hm
      exact ⟨δ, o, c, δ1, E, n, h1, k⟩
theorem z_wand1 (ha : PT X a (TT (kx X) qa ma)) : PW X (.BoolOp .And [a] pos) (TT (kx X) qa ma) := pw_and1 ha
theorem z_wor1 (ha : PT X a (TT (kx X) qa ma)) : PW X (.BoolOp .Or [a] pos) (TT (kx X) qa ma) := pw_or1 ha
theorem z_wand (ha : PT X a (TT (kx X) qa ma)) (hb : PW X (.BoolOp .And (b :: rest) pos) (TT (kx X) qb mb)) : PW X (.BoolOp .And (a :: b :: rest) pos) (TT (kx X) (qa && qb) (dAnd ma mb)) :=
  PW.imp (pw_and ha hb) fun σ H Q h => by
    obtain ⟨δ, o, bb, δ', E, n, hm, k⟩ := h
    simp only [dAnd] at hm
    cases h1 : ma δ with
    | none => rw [h1] at hm; simp at hm
    | some p =>
      obtain ⟨c, δ1⟩ := p
      rw [h1] at hm
      refine ⟨δ, o, c, δ1, E, n, h1, fun H1 o1 P => ?_⟩
      cases c with
      | true =>
        rw [if_pos rfl]
        exact TT.then_ n P hm k
      | false =>
        rw [if_neg Bool.false_ne_true]
        simp only [Option.some.injEq, Prod.mk.injEq] at hm
        obtain ⟨rfl, rfl⟩ := hm
        exact k H1 o1 (P.weak (by simp +contextual))
theorem z_wor (ha : PT X a (TT (kx X) qa ma)) (hb : PW X (.BoolOp .Or (b :: rest) pos) (TT (kx X) qb mb)) : PW X (.BoolOp .Or (a :: b :: rest) pos) (TT (kx X) (qa && qb) (dOr ma mb)) :=
  PW.imp (pw_or ha hb) fun σ H Q h => by
    obtain ⟨δ, o, bb, δ', E, n, hm, k⟩ := h
    simp only [dOr] at hm
    cases h1 : ma δ with
    | none => rw [h1] at hm; simp at hm
    | some p =>
      obtain ⟨c, δ1⟩ := p
      rw [h1] at hm
      refine ⟨δ, o, c, δ1, E, n, h1, fun H1 o1 P => ?_⟩
      cases c with
      | false =>
        rw [if_neg Bool.false_ne_true]
        exact TT.then_ n P hm k
      | true =>
        rw [if_pos rfl]
        simp only [Option.some.injEq, Prod.mk.injEq] at hm
        obtain ⟨rfl, rfl⟩ := hm
        exact k H1 o1 (P.weak (by simp +contextual))
/-- a if c else b -/
def dIfE (mc : DenT) (ma mb : Den) : Den := fun δ => match mc δ with
  | some (true, δ1) => ma δ1
  | some (false, δ1) => mb δ1
  | none => none
theorem z_ife (hc : PT X c (TT (kx X) qc mc)) (ha : PE X a (T (kx X) qa ma')) (hb : PE X b (T (kx X) qb mb')) : PE X (.IfExp c a b pos) (T (kx X) (qc && (qa && qb)) (dIfE mc ma' mb')) :=
  PE.imp (pe_ifExp hc ha hb) fun σ H Q h => by
    obtain ⟨δ, o, r, δ', E, n, hm, k⟩ := h
    simp only [dIfE] at hm
    cases h1 : mc δ with
    | none => rw [h1] at hm; simp at hm
    | some p =>
      obtain ⟨c, δ1⟩ := p
      rw [h1] at hm
      refine ⟨δ, o, c, δ1, E, n, h1, fun H1 o1 P => ?_⟩
      cases c with
      | true =>
        rw [if_pos rfl]
        exact T.then_ (qb := qa) n P hm fun v H' o' ov P2 => k v H' o' ov (P2.weak (by simp +contextual))
      | false =>
        rw [if_neg Bool.false_ne_true]
        exact T.then_ (qb := qb) n P hm fun v H' o' ov P2 => k v H' o' ov (P2.weak (by simp +contextual))
/-- and, or, not as values: of True and False -/
def dAndV (ma mb : Den) : Den := fun δ => match ma δ with
  | some (.own (.bl true), δ1) => mb δ1
  | some (.own (.bl false), δ1) => some (.own (.bl false), δ1)
  | _ => none
def dOrV (ma mb : Den) : Den := fun δ => match ma δ with
  | some (.own (.bl false), δ1) => mb δ1
  | some (.own (.bl true), δ1) => some (.own (.bl true), δ1)
  | _ => none
def dNotV (ma : Den) : Den := fun δ => match ma δ with
  | some (.own (.bl b), δ1) => some (.own (.bl (!b)), δ1)
  | _ => none
theorem Post.toA {κ : Kx} {H : Hp} {σ : L2.St} {o : List Addr} {r : R} {δ1 : DE} {v : V} {H1 : Hp} {o1 ov : List Addr} (P : Post κ H σ q o r δ1 v H1 o1 ov) : PostA κ H σ q o δ1 H1 o1 := ⟨P.step, P.env, own_right P.own⟩
theorem z_one {op : BoolOp} (ha : PE X a (T (kx X) qa ma')) : PE X (.BoolOp op [a] pos) (T (kx X) qa ma') := pe_one ha
theorem z_and (ha : PE X a (T (kx X) qa ma')) (hb : PE X (.BoolOp .And (b :: rest) pos) (T (kx X) qb mb')) : PE X (.BoolOp .And (a :: b :: rest) pos) (T (kx X) (qa && qb) (dAndV ma' mb')) :=
  PE.imp (pe_and ha hb) fun σ H Q h => by
    obtain ⟨δ, o, r, δ', E, n, hm, k⟩ := h
    obtain ⟨c, δ1, h1, h2⟩ := isbl (m := ma') (δ := δ) (g := fun x => match x with | some (.own (.bl true), δ1) => mb' δ1 | some (.own (.bl false), δ1) => some (.own (.bl false), δ1) | _ => none) (f := fun b δ1 => if b then mb' δ1 else some (.own (.bl false), δ1))
      (fun b δ1 => by cases b <;> rfl) (fun x hx => by split <;> first | rfl | exact (hx _ _ rfl).elim) hm
    refine ⟨δ, o, _, δ1, E, n, h1, fun v H1 o1 ov P => ?_⟩
    obtain ⟨rfl, rfl⟩ := P.held
    refine ⟨c, rfl, ?_⟩
    cases c with
    | true =>
      rw [if_pos rfl] at h2 ⊢
      exact T.then_ n P.toA h2 k
    | false =>
      rw [if_neg Bool.false_ne_true] at h2 ⊢
      simp only [Option.some.injEq, Prod.mk.injEq] at h2
      obtain ⟨rfl, rfl⟩ := h2
      exact k _ H1 o1 [] (P.weak (by simp +contextual))
theorem z_notV (ha : PE X a (T (kx X) qa ma')) : PE X (.UnaryOp .Not a pos) (T (kx X) qa (dNotV ma')) :=
  PE.imp (pe_not ha) fun σ H Q h => by
    obtain ⟨δ, o, r, δ', E, n, hm, k⟩ := h
    obtain ⟨c, δ1, h1, h2⟩ := isbl (m := ma') (δ := δ) (g := fun x => match x with | some (.own (.bl b), δ1) => some (R.own (.bl (!b)), δ1) | _ => none) (f := fun b δ1 => some (.own (.bl (!b)), δ1))
      (fun b δ1 => rfl) (fun x hx => by split <;> first | rfl | exact (hx _ _ rfl).elim) hm
    refine ⟨δ, o, _, δ1, E, n, h1, fun v H1 o1 ov P => ?_⟩
    obtain ⟨rfl, rfl⟩ := P.held
    simp only [Option.some.injEq, Prod.mk.injEq] at h2
    obtain ⟨rfl, rfl⟩ := h2
    exact ⟨c, rfl, k _ H1 o1 [] ⟨P.step, P.env, ⟨rfl, rfl⟩, P.own⟩⟩
end
end Z


set_option Elab.async false
set_option linter.all false
set_option maxRecDepth 100000
/-! slices; calls of the program's own defs -/
namespace Z
open PySem PySem.Spec PyProof.Rows L2

/-! ### slices -/
abbrev DenO := DE → Option (Option Int × DE)
section
variable {X : Cx} {e : Expr} {lo hi : Option Expr} {q ql qh : Bool} {m : Den} {ml mh : DenO}
end

/-! ### calls of own defs -/
def roots : List R → List Nat
  | [] => []
  | .own _ :: rs => roots rs
  | .at i _ :: rs => i :: roots rs
def rootsOk : List R → Bool
  | [] => true
  | .own _ :: rs => rootsOk rs
  | .at i _ :: rs => !(roots rs).contains i && rootsOk rs
/-- what the call left of its arguments, put back -/
def puts : DE → List R → List (Option D) → Option DE
  | δ, [], [] => some δ
  | δ, .own _ :: rs, _ :: fs => puts δ rs fs
  | δ, .at i p :: rs, f :: fs => match δ[i]? with
    | some (some d) => match puts (δ.set i none) rs fs with
      | some δ2 => match f with
        | some e => match setP p d e with
          | some d' => some (δ2.set i (some d'))
          | none => none
        | none => match p with
          | [] => some δ2
          | _ :: _ => none
      | none => none
    | _ => none
  | _, _, _ => none
theorem puts_length : ∀ {rs : List R} {δ δ2 : DE} {fs : List (Option D)}, puts δ rs fs = some δ2 → δ2.length = δ.length
  | [], δ, δ2, [], h => by cases (Option.some.inj h); rfl
  | [], _, _, _ :: _, h => by simp [puts] at h
  | .own _ :: rs, δ, δ2, [], h => by simp [puts] at h
  | .own _ :: rs, δ, δ2, f :: fs, h => puts_length (rs := rs) (fs := fs) h
  | .at i p :: rs, δ, δ2, [], h => by simp [puts] at h
  | .at i p :: rs, δ, δ2, f :: fs, h => by
    simp only [puts] at h
    split at h
    · split at h
      · rename_i d hd δ3 h3
        have ih := puts_length h3
        rw [List.length_set] at ih
        split at h
        · split at h
          · cases (Option.some.inj h); rw [List.length_set]; exact ih
          · cases h
        · split at h
          · cases (Option.some.inj h); exact ih
          · cases h
      · cases h
    · cases h
theorem deref_set {δ : DE} {i : Nat} {x : Option D} : ∀ {r : R}, (∀ p, r ≠ .at i p) → deref (δ.set i x) r = deref δ r
  | .own _, _ => rfl
  | .at j p, h => by
    have : i ≠ j := fun e => h p (by rw [e])
    simp only [deref]
    rw [List.getElem?_set_ne this]
theorem derefs_set {δ : DE} {i : Nat} {x : Option D} : ∀ {rs : List R}, i ∉ roots rs → derefs (δ.set i x) rs = derefs δ rs
  | [], _ => rfl
  | .own d :: rs, h => by
    simp only [derefs]
    rw [derefs_set (rs := rs) h]; rfl
  | .at j p :: rs, h => by
    simp only [roots, List.mem_cons, not_or] at h
    simp only [derefs]
    rw [derefs_set (rs := rs) h.2, deref_set fun q e => h.1 (by cases e; rfl)]
section
variable {K : Fw} {κ : Kx} {H : Hp} {σ : List (Option V)}
theorem take_args : ∀ {rs : List R} {vs : List V} {ov o : List Addr} {δ : DE} {ds : List D}, Envs κ H σ δ o → HeldL κ.K H σ rs vs ov → derefs δ rs = some ds → rootsOk rs = true →
    ∃ oA oR, Reps κ.K H ds vs oA ∧ (∀ a, oA.count a + oR.count a = ov.count a + o.count a) ∧
      ∀ H' fs of_, Envs ⟨κ.K, .none⟩ H' (vs.map some) fs of_ → Fr H H' oR → ∀ δ2, puts δ rs fs = some δ2 → ∃ o2, Envs κ H' σ δ2 o2 ∧ ∀ a, o2.count a ≤ of_.count a + oR.count a
  | [], vs, ov, o, δ, ds, E, hl, e, _ => by
    cases (Option.some.inj e)
    obtain ⟨rfl, rfl⟩ := hl
    refine ⟨[], o, ⟨rfl, rfl⟩, by simp, fun H' fs of_ E' f δ2 hp => ?_⟩
    cases fs with
    | nil =>
      cases (Option.some.inj hp)
      exact ⟨o, E.fr f, fun a => by omega⟩
    | cons x fs => simp [puts] at hp
  | .own d :: rs, _, _, o, δ, ds, E, hl, e, hr => by
    obtain ⟨v, vr, o1, o2, rfl, h1, h2, rfl⟩ := hl
    simp only [derefs, deref] at e
    cases e2 : derefs δ rs with
    | none => rw [e2] at e; simp at e
    | some ds' =>
      rw [e2] at e
      cases (Option.some.inj e)
      obtain ⟨oA, oR, ra, hc, k⟩ := take_args E h2 e2 hr
      refine ⟨o1 ++ oA, oR, ⟨v, vr, o1, oA, rfl, h1, ra, rfl⟩, fun a => ?_, fun H' fs of_ E' f δ2 hp => ?_⟩
      · have := hc a
        simp only [List.count_append] at this ⊢
        omega
      · cases fs with
        | nil => simp [puts] at hp
        | cons x fs =>
          cases x with
          | none => exact k H' fs of_ E' f δ2 hp
          | some x =>
            obtain ⟨p1, p2, r1, E2, rfl⟩ := E'
            obtain ⟨o3, E3, c3⟩ := k H' fs p2 E2 f δ2 hp
            exact ⟨o3, E3, fun a => by have := c3 a; rw [List.count_append]; omega⟩
  | .at i p :: rs, _, _, o, δ, ds, E, hl, e, hr => by
    obtain ⟨v, vr, o1, o2, rfl, h1, h2, rfl⟩ := hl
    simp only [derefs] at e
    cases e1 : deref δ (.at i p) with
    | none => rw [e1] at e; simp at e
    | some d1 =>
      cases e2 : derefs δ rs with
      | none => rw [e1, e2] at e; simp at e
      | some ds' =>
        rw [e1, e2] at e
        cases (Option.some.inj e)
        simp only [rootsOk, Bool.and_eq_true, Bool.not_eq_true', List.contains_eq_mem, decide_eq_false_iff_not] at hr
        obtain ⟨hi, hr⟩ := hr
        simp only [deref] at e1
        cases hd : δ[i]? with
        | none => rw [hd] at e1; simp at e1
        | some od =>
          cases od with
          | none => rw [hd] at e1; simp at e1
          | some d =>
            rw [hd] at e1
            obtain ⟨v0, oa, oi, ob, hv0, rd, rfl, _, kn⟩ := E.at hd
            obtain ⟨rfl, u, hu, hp⟩ := h1
            rw [hv0] at hu; cases hu
            obtain ⟨oe, or1, re, hc1, k2⟩ := rd.path e1 hp
            have E1 := kn H Fr.rfl
            obtain ⟨oA, oR, ra, hc, k⟩ := take_args (δ := δ.set i none) E1 h2 (by rw [derefs_set hi]; exact e2) hr
            refine ⟨oe ++ oA, or1 ++ oR, ⟨v, vr, oe, oA, rfl, re, ra, rfl⟩, fun a => ?_, fun H' fs of_ E' f δ2 hp2 => ?_⟩
            · have h3 := hc a
              have h4 := hc1 a
              simp only [List.count_append, List.nil_append] at h3 ⊢
              omega
            · cases fs with
              | nil => simp [puts] at hp2
              | cons x fs =>
                simp only [puts, hd] at hp2
                cases hp3 : puts (δ.set i none) rs fs with
                | none => rw [hp3] at hp2; simp at hp2
                | some δ3 =>
                  rw [hp3] at hp2
                  have f2 : Fr _ H' oR := f.sub fun a ha => List.mem_append_right _ ha
                  have f1 : Fr _ H' or1 := f.sub fun a ha => List.mem_append_left _ ha
                  cases x with
                  | none =>
                    cases p with
                    | nil =>
                      cases (Option.some.inj hp2)
                      obtain ⟨o3, E3, c3⟩ := k H' fs of_ E' f2 _ hp3
                      exact ⟨o3, E3, fun a => by have := c3 a; rw [List.count_append]; omega⟩
                    | cons _ _ => simp at hp2
                  | some x =>
                    dsimp only at hp2
                    cases hs : setP p d x with
                    | none => rw [hs] at hp2; simp at hp2
                    | some d' =>
                      rw [hs] at hp2
                      cases (Option.some.inj hp2)
                      obtain ⟨p1, p2, r1, E2, rfl⟩ := E'
                      obtain ⟨o3, E3, c3⟩ := k H' fs p2 E2 f2 δ3 hp3
                      obtain ⟨o'', r'', c''⟩ := k2 H' x p1 d' r1 f1 hs
                      have hlen := puts_length hp3
                      rw [List.length_set] at hlen
                      obtain ⟨hil, _⟩ := List.getElem?_eq_some_iff.mp hd
                      obtain ⟨o4, E4, c4⟩ := Envs.set i E3 r'' (by omega)
                      have hset : σ.set i (some v0) = σ := by
                        obtain ⟨hl2, e3⟩ := List.getElem?_eq_some_iff.mp hv0
                        rw [← e3]; exact List.set_getElem_self hl2
                      rw [hset] at E4
                      refine ⟨o4, E4, fun a => ?_⟩
                      have g1 := c3 a
                      have g2 := c'' a
                      have g3 := c4 a
                      simp only [List.count_append] at g1 g2 g3 ⊢
                      omega
end
/-- what a def does: its result, and what is left of its arguments (none: not told) -/
abbrev Fn := List D → Option (D × List (Option D))
def spD (K : Fw) (m : Fn) : Sp := fun vs H Q _ => ∃ ds oA r fs, Reps K H ds vs oA ∧ Nd oA ∧ Tabs ⟨K, .none⟩ H ∧ m ds = some (r, fs) ∧
  ∀ v H' ov of_, Step H H' oA → Rep K H' r v ov → Envs ⟨K, .none⟩ H' (vs.map some) fs of_ → Own H oA (ov ++ of_) → Q v H'
def dUser (m : Fn) (ma : DE → Option (List R × DE)) : Den := fun δ => match ma δ with
  | some (rs, δ1) => if rootsOk rs then match derefs δ1 rs with
    | some ds => match m ds with
      | some (r, fs) => match puts δ1 rs fs with
        | some δ2 => some (.own r, δ2)
        | none => none
      | none => none
    | none => none
    else none
  | none => none
section
variable {X : Cx} {e : Expr} {es : List Expr} {q : Bool} {mr : DE → Option (List R × DE)} {m : Fn} {k : Nat} {f : Addr} {fd : FuncData} {ps : List Str} {x : Str} {p pos : Pos}
theorem t_user {σ : L2.St} {H : Hp} {Q : VK} (h : T (kx X) false (dUser m mr) σ H Q) : TAr (kx X) q mr σ H fun vs H1 => spD X.F m (vs ++ []) H1 Q E0 := by
  obtain ⟨δ, o, r, δ', E, n, hm, k⟩ := h
  simp only [dUser] at hm
  cases h1 : mr δ with
  | none => rw [h1] at hm; simp at hm
  | some p1 =>
    obtain ⟨rs, δ1⟩ := p1
    rw [h1] at hm; dsimp only at hm
    by_cases hr : rootsOk rs = true
    · rw [if_pos hr] at hm
      cases h2 : derefs δ1 rs with
      | none => rw [h2] at hm; simp at hm
      | some ds =>
        rw [h2] at hm; dsimp only at hm
        cases h3 : m ds with
        | none => rw [h3] at hm; simp at hm
        | some p3 =>
          obtain ⟨rr, fs⟩ := p3
          rw [h3] at hm; dsimp only at hm
          cases h4 : puts δ1 rs fs with
          | none => rw [h4] at hm; simp at hm
          | some δ2 =>
            rw [h4] at hm
            simp only [Option.some.injEq, Prod.mk.injEq] at hm
            obtain ⟨rfl, rfl⟩ := hm
            refine ⟨δ, o, rs, δ1, E, n, h1, fun vs H1 o1 ov1 s1 E1 hl w1 => ?_⟩
            obtain ⟨oA, oR, ra, hc, kp⟩ := take_args E1 hl h2 hr
            have n1 := w1.nd n
            have nA : Nd oA := fun a => by have h5 := hc a; have h6 := n1 a; rw [List.count_append] at h6; omega
            rw [List.append_nil]
            refine ⟨ds, oA, rr, fs, ra, nA, E1.tabs.bare, h3, fun v H2 ov of_ s2 rv E2 w2 => ?_⟩
            have hd1 : ∀ a ∈ oR, ∃ u, H1 a = some u ∧ Ow u := fun a ha => by
              have h5 := hc a
              have h6 : 0 < oR.count a := List.count_pos_iff.mpr ha
              have h7 : 0 < ov1.count a ∨ 0 < o1.count a := by omega
              exact h7.elim (fun z => hl.own a (List.count_pos_iff.mp z)) (fun z => E1.own a (List.count_pos_iff.mp z))
            have ap : ∀ a ∈ oR, a ∉ oA := fun a ha hb => by
              have h5 := hc a
              have h6 := n1 a
              have h7 : 0 < oR.count a := List.count_pos_iff.mpr ha
              have h8 : 0 < oA.count a := List.count_pos_iff.mpr hb
              rw [List.count_append] at h6
              omega
            have f : Fr H1 H2 oR := s2.fr (fun a ha => by obtain ⟨vs, e, how⟩ := ra.own a ha; exact ⟨_, e, how.1⟩) hd1 ap
            obtain ⟨o2, E3, c3⟩ := kp H2 fs of_ E2 f δ2 h4
            have s3 : Step H H2 o := by
              refine ⟨fun a u e hn hu => ?_, fun a e => s1.dom a (s2.dom a e), fun P g => s2.tab P (s1.tab P g)⟩
              have e1 := s1.keep a u e (fun z => hn (Wq_sub a z)) hu
              refine s2.keep a u e1 (fun z => ?_) hu
              have h5 := hc a
              have h6 : 0 < oA.count a := List.count_pos_iff.mpr z
              rcases w1 a with w | ⟨w, _⟩
              · rw [List.count_append] at w
                exact hn (List.count_pos_iff.mp (by omega))
              · rw [e] at w; cases w
            refine k v H2 o2 ov ⟨s3, E3, rv, fun a => ?_⟩
            have g1 := hc a
            have g2 := c3 a
            have g3 := w1 a
            have g4 := w2 a
            simp only [List.count_append] at g1 g2 g3 g4 ⊢
            rcases g4 with g4 | ⟨z, g4⟩
            · rcases g3 with g3 | ⟨z3, g3⟩
              · left; omega
              · right; exact ⟨z3, by omega⟩
            · have hz : oR.count a = 0 := List.count_eq_zero.mpr fun hb => by
                obtain ⟨u, e, _⟩ := hd1 a hb
                rw [z] at e; cases e
              exact .inr ⟨s1.dom a z, by omega⟩
    · rw [if_neg hr] at hm; simp at hm
theorem z_call (F : FnOk X.prog X.w X.K X.mg X.base CX0 k f fd ps (spD X.F m)) (hr : Room k X.A) (hg : Gl X x) (hm : X.mg x = some (.ref f)) (hk : PySem.W.keepIn X.K (.ref f) = true) (hb : Binds X.K fd ps [])
    (ha : PA X (e :: es) (TAr (kx X) q mr)) (hdb : (x == ("__debug__" : Str)) = false := by decide) (he : starEach (e :: es) X.env = (false, eval e X.env) :: starEach es X.env := by rfl) (hpl : (backTo pos (starEach es X.env)).any (·.1) = false := by rfl) :
    PE X (.Call (.Name x p) (e :: es) [] pos) (T (kx X) false (dUser m mr)) :=
  PE.imp (pe_call F hr hg hm hk hb .nil pass0 ha hdb he hpl) fun σ H Q h => t_user h
end
end Z


set_option Elab.async false
set_option linter.all false
set_option maxRecDepth 100000
/-! statements -/
namespace Z
open PySem PySem.Spec PyProof.Rows L2

inductive Out where
  | nx (δ : DE) | bk (δ : DE) | ct (δ : DE) | rt (d : D) (δ : DE)
  deriving Inhabited
abbrev Blk := DE → Option Out
structure PS0 (κ : Kx) (H : Hp) (σ : L2.St) (kp : Nat → Bool) (o : List Addr) (δ' : DE) (σ' : L2.St) (H' : Hp) (o' : List Addr) : Prop where
  step : Step H H' o
  env : Envs κ H' σ' δ' o'
  own : Own H o o'
  kept : ∀ i, kp i = true → σ'[i]? = σ[i]?
structure PR0 (κ : Kx) (H : Hp) (σ : L2.St) (kp : Nat → Bool) (o : List Addr) (d : D) (δ' : DE) (σ' : L2.St) (v : V) (H' : Hp) (o' ov : List Addr) : Prop where
  step : Step H H' o
  env : Envs κ H' σ' δ' o'
  rep : Rep κ.K H' d v ov
  own : Own H o (ov ++ o')
  kept : ∀ i, kp i = true → σ'[i]? = σ[i]?
def Fin (κ : Kx) (H : Hp) (σ : L2.St) (kp : Nat → Bool) (o : List Addr) (D' : Ends) : Out → Prop
  | .nx δ' => ∀ σ' H' o', PS0 κ H σ kp o δ' σ' H' o' → D'.nx σ' H'
  | .bk δ' => ∀ σ' H' o', PS0 κ H σ kp o δ' σ' H' o' → D'.bk σ' H'
  | .ct δ' => ∀ σ' H' o', PS0 κ H σ kp o δ' σ' H' o' → D'.ct σ' H'
  | .rt d δ' => ∀ σ' v H' o' ov, PR0 κ H σ kp o d δ' σ' v H' o' ov → D'.rt v H'
def TSm (κ : Kx) (kp : Nat → Bool) (m : Blk) : TS := fun D' σ H => ∃ δ o out, Envs κ H σ δ o ∧ Nd o ∧ m δ = some out ∧ Fin κ H σ kp o D' out
section
variable {K : Fw} {κ : Kx} {H H1 H2 : Hp} {σ σ1 σ2 : L2.St} {kp kp' : Nat → Bool} {o o1 o2 : List Addr} {δ δ1 δ2 : DE} {D' : Ends} {out : Out}
theorem PS0.trans (a : PS0 κ H σ kp o δ1 σ1 H1 o1) (b : PS0 κ H1 σ1 kp o1 δ2 σ2 H2 o2) : PS0 κ H σ kp o δ2 σ2 H2 o2 :=
  ⟨a.step.trans a.own b.step, b.env, a.own.trans a.step b.own, fun i h => (b.kept i h).trans (a.kept i h)⟩
theorem PS0.thenR {d : D} {v : V} {ov : List Addr} (a : PS0 κ H σ kp o δ1 σ1 H1 o1) (b : PR0 κ H1 σ1 kp o1 d δ2 σ2 v H2 o2 ov) : PR0 κ H σ kp o d δ2 σ2 v H2 o2 ov :=
  ⟨a.step.trans a.own b.step, b.env, b.rep, a.own.trans a.step b.own, fun i h => (b.kept i h).trans (a.kept i h)⟩
theorem PS0.refl (E : Envs κ H σ δ o) : PS0 κ H σ kp o δ σ H o := ⟨Step.refl _ _, E, Own.refl _ _, fun _ _ => rfl⟩
theorem PS0.weak (a : PS0 κ H σ kp' o δ1 σ1 H1 o1) (h : ∀ i, kp i = true → kp' i = true) : PS0 κ H σ kp o δ1 σ1 H1 o1 := ⟨a.step, a.env, a.own, fun i z => a.kept i (h i z)⟩
theorem PR0.weak {d : D} {v : V} {ov : List Addr} (a : PR0 κ H σ kp' o d δ1 σ1 v H1 o1 ov) (h : ∀ i, kp i = true → kp' i = true) : PR0 κ H σ kp o d δ1 σ1 v H1 o1 ov := ⟨a.step, a.env, a.rep, a.own, fun i z => a.kept i (h i z)⟩
theorem Fin.shift (h : Fin κ H σ kp o D' out) (a : PS0 κ H σ kp o δ1 σ1 H1 o1) : Fin κ H1 σ1 kp o1 D' out := by
  cases out with
  | nx δ' => exact fun σ' H' o' b => h σ' H' o' (a.trans b)
  | bk δ' => exact fun σ' H' o' b => h σ' H' o' (a.trans b)
  | ct δ' => exact fun σ' H' o' b => h σ' H' o' (a.trans b)
  | rt d δ' => exact fun σ' v H' o' ov b => h σ' v H' o' ov (a.thenR b)
theorem Fin.weak (h : Fin κ H σ kp o D' out) (w : ∀ i, kp i = true → kp' i = true) : Fin κ H σ kp' o D' out := by
  cases out with
  | nx δ' => exact fun σ' H' o' b => h σ' H' o' (b.weak w)
  | bk δ' => exact fun σ' H' o' b => h σ' H' o' (b.weak w)
  | ct δ' => exact fun σ' H' o' b => h σ' H' o' (b.weak w)
  | rt d δ' => exact fun σ' v H' o' ov b => h σ' v H' o' ov (b.weak w)
/-- behind an expression -/
theorem PostA.ps {q : Bool} (P : PostA κ H σ q o δ1 H1 o1) : PS0 κ H σ kp o δ1 σ H1 o1 := ⟨P.step.mono Wq_sub, P.env, P.own, fun _ _ => rfl⟩
end
def dSeq (a b : Blk) : Blk := fun δ => match a δ with
  | some (.nx δ1) => b δ1
  | x => x
def dNx : Blk := fun δ => some (.nx δ)
section
variable {X : Cx} {st : Stmt} {rest : List Stmt} {kp kp' : Nat → Bool} {m m1 m2 : Blk} {e : Expr} {q : Bool} {me : Den} {pos : Pos}
theorem z_nil : PSs X [] (TSm (kx X) kp dNx) := PSs.imp pss_nil fun D' σ H ⟨δ, o, out, E, n, hm, f⟩ => by
  cases (Option.some.inj hm)
  exact f σ H o (.refl E)
theorem z_cons (h1 : PS X st (TSm (kx X) kp m1)) (h2 : PSs X rest (TSm (kx X) kp m2)) : PSs X (st :: rest) (TSm (kx X) kp (dSeq m1 m2)) :=
  PSs.imp (pss_cons h1 h2) fun D' σ H ⟨δ, o, out, E, n, hm, f⟩ => by
    simp only [dSeq] at hm
    cases h1 : m1 δ with
    | none => rw [h1] at hm; simp at hm
    | some x =>
      rw [h1] at hm
      cases x with
      | nx δ1 => exact ⟨δ, o, .nx δ1, E, n, h1, fun σ' H' o' P => ⟨δ1, o', out, P.env, P.own.nd n, hm, f.shift P⟩⟩
      | bk δ1 => cases (Option.some.inj hm); exact ⟨δ, o, .bk δ1, E, n, h1, f⟩
      | ct δ1 => cases (Option.some.inj hm); exact ⟨δ, o, .ct δ1, E, n, h1, f⟩
      | rt d δ1 => cases (Option.some.inj hm); exact ⟨δ, o, .rt d δ1, E, n, h1, f⟩
theorem z_sone (h1 : PS X st (TSm (kx X) kp m1)) : PSs X [st] (TSm (kx X) kp m1) := pss_one h1
def dBk : Blk := fun δ => some (.bk δ)
def dCt : Blk := fun δ => some (.ct δ)
def dDrop (m : Den) : Blk := fun δ => match m δ with
  | some (_, δ1) => some (.nx δ1)
  | none => none
theorem z_expr (he : PE X e (T (kx X) q me)) (hs : swapsWith e none pos.line X.env = pure false := by rfl) : PS X (.Expr e pos) (TSm (kx X) kp (dDrop me)) :=
  PS.imp (ps_expr he hs) fun D' σ H ⟨δ, o, out, E, n, hm, f⟩ => by
    simp only [dDrop] at hm
    cases h1 : me δ with
    | none => rw [h1] at hm; simp at hm
    | some p =>
      obtain ⟨r, δ1⟩ := p
      rw [h1] at hm
      cases (Option.some.inj hm)
      exact ⟨δ, o, r, δ1, E, n, h1, fun v H1 o1 ov P => f σ H1 o1 P.toA.ps⟩
/-- a return: a datum of its own, or a name's list, which goes -/
def dRet (kp : Nat → Bool) (m : Den) : Blk := fun δ => match m δ with
  | some (.own d, δ1) => some (.rt d δ1)
  | some (.at i [], δ1) => if kp i then none else match δ1[i]? with
    | some (some d) => some (.rt d (δ1.set i none))
    | _ => none
  | _ => none
theorem z_ret (he : PE X e (T (kx X) q me)) : PS X (.Return (some e) pos) (TSm (kx X) kp (dRet kp me)) :=
  PS.imp (ps_ret he) fun D' σ H ⟨δ, o, out, E, n, hm, f⟩ => by
    simp only [dRet] at hm
    cases h1 : me δ with
    | none => rw [h1] at hm; simp at hm
    | some p =>
      obtain ⟨r, δ1⟩ := p
      rw [h1] at hm
      refine ⟨δ, o, r, δ1, E, n, h1, fun v H1 o1 ov P => ?_⟩
      cases r with
      | own d =>
        cases (Option.some.inj hm)
        exact f σ v H1 o1 ov ⟨P.step.mono Wq_sub, P.env, P.held, P.own, fun _ _ => rfl⟩
      | «at» i p =>
        cases p with
        | cons _ _ => simp at hm
        | nil =>
          dsimp only at hm
          by_cases hk : kp i = true
          · rw [if_pos hk] at hm; simp at hm
          · rw [if_neg hk] at hm
            cases hd : δ1[i]? with
            | none => rw [hd] at hm; simp at hm
            | some x =>
              cases x with
              | none => rw [hd] at hm; simp at hm
              | some d =>
                rw [hd] at hm
                cases (Option.some.inj hm)
                obtain ⟨v0, oa, oi, ob, hv0, rd, e0, _, kn⟩ := P.env.at hd
                obtain ⟨rfl, u, hu, hp⟩ := P.held
                rw [hv0] at hu; cases hu
                cases (show v = v0 from hp)
                refine f σ v H1 (oa ++ ob) oi ⟨P.step.mono Wq_sub, kn H1 Fr.rfl, rd, P.own.sub fun a => ?_, fun _ _ => rfl⟩
                rw [e0]
                simp only [List.count_append, List.nil_append]
                omega
def dRetN : Blk := fun δ => some (.rt .non δ)
def dIf (c : DenT) (a b : Blk) : Blk := fun δ => match c δ with
  | some (true, δ1) => a δ1
  | some (false, δ1) => b δ1
  | none => none
theorem z_if {c : Expr} {a b : List Stmt} {mc : DenT} {ma mb : Blk} (hc : PT X c (TT (kx X) q mc)) (ha : PSs X a (TSm (kx X) kp ma)) (hb : PSs X b (TSm (kx X) kp mb)) : PS X (.If c a b pos) (TSm (kx X) kp (dIf mc ma mb)) :=
  PS.imp (ps_if hc ha hb) fun D' σ H ⟨δ, o, out, E, n, hm, f⟩ => by
    simp only [dIf] at hm
    cases h1 : mc δ with
    | none => rw [h1] at hm; simp at hm
    | some p =>
      obtain ⟨c, δ1⟩ := p
      rw [h1] at hm
      refine ⟨δ, o, c, δ1, E, n, h1, fun H1 o1 P => ?_⟩
      cases c with
      | true =>
        rw [if_pos rfl]
        exact ⟨δ1, o1, out, P.env, P.own.nd n, hm, f.shift P.ps⟩
      | false =>
        rw [if_neg Bool.false_ne_true]
        exact ⟨δ1, o1, out, P.env, P.own.nd n, hm, f.shift P.ps⟩
end

/-! ### targets -/
abbrev Bnd := D → DE → Option DE
abbrev Bnds := List D → DE → Option DE
def TGm (κ : Kx) (kp : Nat → Bool) (b : Bnd) : TG := fun v σ H Q => ∃ δ o d ov δ', Envs κ H σ δ o ∧ Rep κ.K H d v ov ∧ b d δ = some δ' ∧
  ∀ σ' o', Envs κ H σ' δ' o' → (∀ a, o'.count a ≤ ov.count a + o.count a) → ((∀ i, kp i = true → σ'[i]? = σ[i]?) ∧ σ'.length = σ.length) → Q σ' H
def TGsm (κ : Kx) (kp : Nat → Bool) (b : Bnds) : TGs := fun vs σ H Q => ∃ δ o ds ov δ', Envs κ H σ δ o ∧ Reps κ.K H ds vs ov ∧ b ds δ = some δ' ∧
  ∀ σ' o', Envs κ H σ' δ' o' → (∀ a, o'.count a ≤ ov.count a + o.count a) → ((∀ i, kp i = true → σ'[i]? = σ[i]?) ∧ σ'.length = σ.length) → Q σ' H
def bName (i : Nat) : Bnd := fun d δ => if i < δ.length then some (δ.set i (some d)) else none
def bNil : Bnds := fun ds δ => match ds with
  | [] => some δ
  | _ :: _ => none
def bCons (a : Bnd) (r : Bnds) : Bnds := fun ds δ => match ds with
  | [] => none
  | d :: ds => match a d δ with
    | some δ1 => r ds δ1
    | none => none
def bTup (n : Nat) (r : Bnds) : Bnd := fun d δ => match d with
  | .tup ds => if ds.length = n then r ds δ else none
  | _ => none
section
variable {X : Cx} {kp : Nat → Bool} {pos : Pos}
theorem PG.imp {e : Expr} {t t' : TG} (h : PG X e t) (i : ∀ v σ H Q, t' v σ H Q → t v σ H Q) : PG X e t' := ⟨fun pins s σ H v u Q I r hw => h.run pins s σ H v u Q I r (i _ _ _ _ hw)⟩
theorem PGs.imp {e : List Expr} {t t' : TGs} (h : PGs X e t) (i : ∀ v σ H Q, t' v σ H Q → t v σ H Q) : PGs X e t' := ⟨fun pins s σ H v u Q I r hw => h.run pins s σ H v u Q I r (i _ _ _ _ hw)⟩
theorem set_kept {σ : L2.St} {i : Nat} {x : Option V} (hk : kp i = false) : ∀ j, kp j = true → (σ.set i x)[j]? = σ[j]? := fun j hj => by
  have : i ≠ j := fun e => by rw [e, hj] at hk; cases hk
  rw [List.getElem?_set_ne this]
theorem z_gname {i : Nat} {x : Str} (hN : X.N.Nodup) (hi : X.N[i]? = some x) (hx : Loc X.env.scope x) (hk : kp i = false) (hf : X.fn x = true ∨ X.env.scope.names.lookup x = some .local := by first | exact .inl rfl | exact .inr rfl | assumption) : PG X (.Name x pos) (TGm (kx X) kp (bName i)) :=
  PG.imp (pg_name hN hi hx hf) fun v σ H Q ⟨δ, o, d, ov, δ', E, r, hb, k⟩ => by
    simp only [bName] at hb
    by_cases hl : i < δ.length
    · rw [if_pos hl] at hb
      cases (Option.some.inj hb)
      obtain ⟨o2, E2, c⟩ := Envs.set i E r hl
      exact k _ o2 E2 (fun a => by have := c a; omega) ⟨set_kept hk, List.length_set⟩
    · rw [if_neg hl] at hb; cases hb
theorem z_gsnil : PGs X [] (TGsm (kx X) kp bNil) := PGs.imp pgs_nil fun vs σ H Q ⟨δ, o, ds, ov, δ', E, r, hb, k⟩ => by
  cases ds with
  | cons _ _ => simp [bNil] at hb
  | nil =>
    cases (Option.some.inj hb)
    obtain ⟨rfl, rfl⟩ := r
    exact ⟨rfl, k σ o E (fun a => by simp) ⟨fun _ _ => rfl, rfl⟩⟩
theorem z_gscons {e : Expr} {es : List Expr} {b : Bnd} {bs : Bnds} (h1 : PG X e (TGm (kx X) kp b)) (h2 : PGs X es (TGsm (kx X) kp bs)) (hs : (assignEach (e :: es) X.env).map (·.2) = assign e X.env :: (assignEach es X.env).map (·.2) := by rfl) : PGs X (e :: es) (TGsm (kx X) kp (bCons b bs)) :=
  PGs.imp (pgs_cons h1 h2 hs) fun vs σ H Q ⟨δ, o, ds, ov, δ', E, r, hb, k⟩ => by
    cases ds with
    | nil => simp [bCons] at hb
    | cons d ds =>
      obtain ⟨v, vr, o1, o2, rfl, r1, r2, rfl⟩ := r
      simp only [bCons] at hb
      cases h3 : b d δ with
      | none => rw [h3] at hb; simp at hb
      | some δ1 =>
        rw [h3] at hb
        refine ⟨v, vr, rfl, δ, o, d, o1, δ1, E, r1, h3, fun σ1 o3 E3 c3 k3 => ?_⟩
        refine ⟨δ1, o3, ds, o2, δ', E3, r2, hb, fun σ2 o4 E4 c4 k4 => k σ2 o4 E4 (fun a => ?_) ⟨fun i hi => (k4.1 i hi).trans (k3.1 i hi), k4.2.trans k3.2⟩⟩
        have h5 := c3 a
        have h6 := c4 a
        rw [List.count_append]
        omega
theorem z_gtup {es : List Expr} {k n : Nat} {bs : Bnds} (hc : X.calm = true) (h : PGs X es (TGsm (kx X) kp bs)) (hn : (assignEach es X.env).length = n := by rfl) (hst : (assignEach es X.env).findIdx? (·.1) = none := by rfl) : PG X (.Tuple es k pos) (TGm (kx X) kp (bTup n bs)) :=
  PG.imp (pg_tup hc h hn hst) fun v σ H Q ⟨δ, o, d, ov, δ', E, r, hb, k⟩ => by
    cases d <;> simp only [bTup, reduceCtorEq] at hb
    rename_i ds
    by_cases hl : ds.length = n
    · rw [if_pos hl] at hb
      obtain ⟨a, vs, rfl, hq, rs⟩ := r
      exact ⟨a, vs, rfl, hq, rs.length.trans hl, δ, o, ds, ov, δ', E, rs, hb, k⟩
    · rw [if_neg hl] at hb; cases hb
end
def dAsg (b : Bnd) (m : Den) : Blk := fun δ => match m δ with
  | some (.own d, δ1) => match b d δ1 with
    | some δ2 => some (.nx δ2)
    | none => none
  | _ => none
section
variable {X : Cx} {kp : Nat → Bool} {pos : Pos} {tg e : Expr} {q : Bool} {m : Den} {b : Bnd}
theorem t_asg {κ : Kx} {D' : Ends} {σ : L2.St} {H : Hp} (h : TSm κ kp (dAsg b m) D' σ H) : T κ q m σ H fun x H1 => TGm κ kp b x σ H1 D'.nx := by
  obtain ⟨δ, o, out, E, n, hm, f⟩ := h
  simp only [dAsg] at hm
  cases h1 : m δ with
  | none => rw [h1] at hm; simp at hm
  | some p =>
    obtain ⟨r, δ1⟩ := p
    rw [h1] at hm
    cases r with
    | «at» _ _ => simp at hm
    | own d =>
      dsimp only at hm
      cases h2 : b d δ1 with
      | none => rw [h2] at hm; simp at hm
      | some δ2 =>
        rw [h2] at hm
        cases (Option.some.inj hm)
        refine ⟨δ, o, .own d, δ1, E, n, h1, fun v H1 o1 ov P => ?_⟩
        refine ⟨δ1, o1, d, ov, δ2, P.env, P.held, h2, fun σ' o' E' c k => f σ' H1 o' ⟨P.step.mono Wq_sub, E', P.own.sub fun a => ?_, k.1⟩⟩
        rw [List.count_append]; exact c a
theorem z_asg (he : PE X e (T (kx X) q m)) (hg : PG X tg (TGm (kx X) kp b)) (hs : swapsWithSole [tg] e pos.line X.env = pure false := by rfl) (hw : swappedStores [tg] e X.env = pure none := by rfl)
    (h1 : (assignEach [tg] X.env).map (·.2) = [assign tg X.env] := by rfl) : PS X (.Assign [tg] e pos) (TSm (kx X) kp (dAsg b m)) :=
  PS.imp (ps_asg he hg hs hw h1) fun D' σ H h => t_asg h
theorem gname_of {κ : Kx} {i : Nat} {v : V} {σ : L2.St} {H : Hp} {Q : L2.St → Hp → Prop} (hk : kp i = false) (h : TGm κ kp (bName i) v σ H Q) : Q (σ.set i (some v)) H := by
  obtain ⟨δ, o, d, ov, δ', E, r, hb, k⟩ := h
  simp only [bName] at hb
  by_cases hl : i < δ.length
  · rw [if_pos hl] at hb
    cases (Option.some.inj hb)
    obtain ⟨o2, E2, c⟩ := Envs.set i E r hl
    exact k _ o2 E2 (fun a => by have := c a; omega) ⟨set_kept hk, List.length_set⟩
  · rw [if_neg hl] at hb; cases hb
theorem z_set {i : Nat} {x : Str} {pos' : Pos} (hN : X.N.Nodup) (hi : X.N[i]? = some x) (hx : Loc X.env.scope x) (hk : kp i = false) (he : PE X e (T (kx X) q m)) (hs : swapsWith e (some (.Name x pos')) pos.line X.env = pure false := by rfl)
    (hf : X.fn x = true ∨ X.env.scope.names.lookup x = some .local := by first | exact .inl rfl | exact .inr rfl | assumption) : PS X (.Assign [.Name x pos'] e pos) (TSm (kx X) kp (dAsg (bName i) m)) :=
  PS.imp (ps_set hN hi hx he hs hf) fun D' σ H h => by
    obtain ⟨δ, o, r, δ1, E, n, h1, k⟩ := t_asg (q := q) h
    exact ⟨δ, o, r, δ1, E, n, h1, fun v H1 o1 ov P => gname_of hk (k v H1 o1 ov P)⟩
end

/-! ### while -/
def dWhile (mc : DenT) (mb : Blk) : Nat → Blk
  | 0, _ => none
  | n + 1, δ => match mc δ with
    | some (true, δ1) => match mb δ1 with
      | some (.nx δ2) => dWhile mc mb n δ2
      | some (.ct δ2) => dWhile mc mb n δ2
      | some (.bk δ2) => some (.nx δ2)
      | x => x
    | some (false, δ1) => some (.nx δ1)
    | none => none
section
variable {X : Cx} {kp : Nat → Bool} {pos : Pos} {c : Expr} {body : List Stmt} {q : Bool} {mc : DenT} {mb : Blk}
theorem z_while (n : Nat) (hp : PassesOwn (model X.prog X.w) X.A X.env X.xe) (hc : PT X c (TT (kx X) q mc)) (hb : PSs X body (TSm (kx X) kp mb)) : PS X (.While c body [] pos) (TSm (kx X) kp (dWhile mc mb n)) :=
  PS.imp (ps_while hp hc hb) fun D' σ H ⟨δ, o, out, E, nd, hm, f⟩ => by
    refine ⟨fun m σ1 H1 => ∃ δ1 o1, PS0 (kx X) H σ kp o δ1 σ1 H1 o1 ∧ dWhile mc mb m δ1 = some out, ⟨n, δ, o, .refl E, hm⟩, fun m σ1 H1 hW => ?_⟩
    obtain ⟨δ1, o1, P1, h1⟩ := hW
    cases m with
    | zero => simp [dWhile] at h1
    | succ m =>
      simp only [dWhile] at h1
      cases h2 : mc δ1 with
      | none => rw [h2] at h1; simp at h1
      | some p =>
        obtain ⟨b, δ2⟩ := p
        rw [h2] at h1
        refine ⟨δ1, o1, b, δ2, P1.env, P1.own.nd nd, h2, fun H2 o2 P2 => ?_⟩
        have P12 : PS0 (kx X) H σ kp o δ2 σ1 H2 o2 := P1.trans P2.ps
        cases b with
        | true =>
          dsimp only at h1
          show if true = true then _ else _
          rw [if_pos rfl]
          refine ⟨fun σ3 H3 => ∃ δ3 o3, PS0 (kx X) H σ kp o δ3 σ3 H3 o3 ∧ dWhile mc mb m δ3 = some out, fun σ3 H3 ⟨δ3, o3, P3, h3⟩ => ⟨m, Nat.lt_succ_self _, δ3, o3, P3, h3⟩, ?_⟩
          cases h3 : mb δ2 with
          | none => rw [h3] at h1; simp at h1
          | some x =>
            rw [h3] at h1
            refine ⟨δ2, o2, x, P12.env, P12.own.nd nd, h3, ?_⟩
            cases x with
            | nx δ3 => exact fun σ3 H3 o3 P3 => ⟨δ3, o3, P12.trans P3, h1⟩
            | ct δ3 => exact fun σ3 H3 o3 P3 => ⟨δ3, o3, P12.trans P3, h1⟩
            | bk δ3 =>
              cases (Option.some.inj h1)
              exact fun σ3 H3 o3 P3 => f σ3 H3 o3 (P12.trans P3)
            | rt d δ3 =>
              cases (Option.some.inj h1)
              exact fun σ3 v H3 o3 ov P3 => f σ3 v H3 o3 ov (P12.thenR P3)
        | false =>
          show if false = true then _ else _
          rw [if_neg Bool.false_ne_true]
          cases (Option.some.inj h1)
          exact f σ1 H2 o2 P12
end

/-! ### for -/
/-- what is walked: its items, and the names whose lists have to stay as they are -/
structure Src where
  xs : List D
  gs : List (Nat × D)
  deriving Inhabited
abbrev DenS := DE → Option (Src × DE)
def gOk : List (Nat × D) → DE → Bool
  | [], _ => true
  | (i, d) :: gs, δ => decide (δ[i]? = some (some d)) && gOk gs δ
/-- while the heap is so, the iterator gives the items -/
def SrcOk (K : Fw) (σ : L2.St) (src : Src) (J : It) (H1 : Hp) (ov : List Addr) : Prop :=
  ∀ i H', (∀ a ∈ ov, H' a = H1 a) → (∀ a u, H1 a = some u → Sh u → H' a = some u) → (∀ p ∈ src.gs, ∃ v o, σ[p.1]? = some (some v) ∧ Rep K H' p.2 v o) →
    (∀ x, src.xs[i]? = some x → J.go i H' ∧ ∀ v H'', J.yld i H' v H'' → (∀ a u, H' a = some u → H'' a = some u) ∧ Rep K H'' x v []) ∧ (src.xs.length ≤ i → J.stop i H')
def TIm (κ : Kx) (q : Bool) (m : DenS) : TI := fun σ H R => ∃ δ o src δ', Envs κ H σ δ o ∧ Nd o ∧ m δ = some (src, δ') ∧
  ∀ J H1 o1 ov, Step H H1 (Wq q o) → Envs κ H1 σ δ' o1 → Own H o (ov ++ o1) → (∀ a ∈ ov, ∃ u, H1 a = some u ∧ Ow u) → SrcOk κ.K σ src J H1 ov → src.xs.length ≤ sizeLine → R J H1
def dForL (gs : List (Nat × D)) (b : Bnd) (mb : Blk) : List D → Blk
  | [], δ => if gOk gs δ then some (.nx δ) else none
  | x :: xs, δ => if gOk gs δ then match b x δ with
    | some δ1 => match mb δ1 with
      | some (.nx δ2) => dForL gs b mb xs δ2
      | some (.ct δ2) => dForL gs b mb xs δ2
      | some (.bk δ2) => some (.nx δ2)
      | z => z
    | none => none
    else none
/-- the walked names are among the kept ones -/
def gsIn (kp : Nat → Bool) : List (Nat × D) → Bool
  | [] => true
  | p :: gs => kp p.1 && gsIn kp gs
theorem gsIn_mem {kp : Nat → Bool} : ∀ {gs : List (Nat × D)}, gsIn kp gs = true → ∀ p ∈ gs, kp p.1 = true
  | [], _, _, hp => nomatch hp
  | q :: gs, h, p, hp => by
    simp only [gsIn, Bool.and_eq_true] at h
    rcases List.mem_cons.mp hp with rfl | hp
    · exact h.1
    · exact gsIn_mem h.2 p hp
def dFor (kp : Nat → Bool) (ms : DenS) (b : Bnd) (mb : Blk) : Blk := fun δ => match ms δ with
  | some (src, δ1) => if gsIn kp src.gs then dForL src.gs b mb src.xs δ1 else none
  | none => none
theorem gOk_rep {κ : Kx} {H : Hp} {σ : L2.St} {δ : DE} {o : List Addr} (E : Envs κ H σ δ o) : ∀ {gs : List (Nat × D)}, gOk gs δ = true → ∀ p ∈ gs, ∃ v o, σ[p.1]? = some (some v) ∧ Rep κ.K H p.2 v o
  | [], _, p, hp => nomatch hp
  | (i, d) :: gs, h, p, hp => by
    simp only [gOk, Bool.and_eq_true, decide_eq_true_eq] at h
    rcases List.mem_cons.mp hp with rfl | hp
    · obtain ⟨v, oa, oi, ob, hv, r, _⟩ := E.at h.1
      exact ⟨v, oi, hv, r⟩
    · exact gOk_rep E h.2 p hp
section
variable {X : Cx} {kp kp' : Nat → Bool} {pos : Pos} {tg iter : Expr} {body : List Stmt} {q : Bool} {ms : DenS} {b : Bnd} {mb : Blk}
theorem z_for (hp : PassesOwn (model X.prog X.w) X.A X.env X.xe) (hc : X.calm = true) (hi : PI X tg iter (TIm (kx X) q ms)) (hg : PG X tg (TGm (kx X) kp' b)) (hb : PSs X body (TSm (kx X) kp' mb)) (hw : ∀ i, kp i = true → kp' i = true)
    (hs : ∀ x, foldedSetIterable iter X.env x = pure x := by intro _; rfl) : PS X (.For tg iter body [] pos) (TSm (kx X) kp (dFor kp' ms b mb)) :=
  PS.imp (ps_for hp hc hi hg hb hs) fun D' σ H ⟨δ, o, out, E, n, hm, f0⟩ => by
    have f := f0.weak hw
    simp only [dFor] at hm
    cases h1 : ms δ with
    | none => rw [h1] at hm; simp at hm
    | some p =>
      obtain ⟨src, δ1⟩ := p
      rw [h1] at hm; dsimp only at hm
      by_cases hk0 : gsIn kp' src.gs = true
      case neg => rw [if_neg hk0] at hm; cases hm
      rw [if_pos hk0] at hm
      have hk := gsIn_mem hk0
      refine ⟨δ, o, src, δ1, E, n, h1, fun J H1 o1 ov s1 E1 w1 hov S _ => ?_⟩
      have P1 : PS0 (kx X) H σ kp' o δ1 σ H1 o1 := ⟨s1.mono Wq_sub, E1, own_right w1, fun _ _ => rfl⟩
      have n1 := w1.nd n
      -- W: at turn i
      refine ⟨fun i m σ2 H2 => m + i = src.xs.length ∧ ∃ δ2 o2, PS0 (kx X) H1 σ kp' o1 δ2 σ2 H2 o2 ∧ Step H1 H2 o1 ∧ dForL src.gs b mb (src.xs.drop i) δ2 = some out, ⟨src.xs.length, rfl, δ1, o1, .refl E1, .refl _ _, hm⟩, fun i m σ2 H2 hW => ?_⟩
      obtain ⟨hl, δ2, o2, P2, s2, h2⟩ := hW
      have P12 := P1.trans P2
      have pin : ∀ a ∈ ov, H2 a = H1 a := fun a ha => by
        obtain ⟨u, e, how⟩ := hov a ha
        rw [e]
        exact s2.keep a _ e (nd_split n1 a ha) how.2
      have shr : ∀ a u, H1 a = some u → Sh u → H2 a = some u := fun a u e hu => s2.keep a u e (fun z => by
        obtain ⟨vs, e2, how⟩ := E1.own a z
        rw [e] at e2; cases e2; exact how.1 hu) hu.nt
      have gk : gOk src.gs δ2 = true → ∀ p ∈ src.gs, ∃ v o, σ[p.1]? = some (some v) ∧ Rep X.F H2 p.2 v o := fun hg p hp => by
        obtain ⟨v, o, hv, r⟩ := gOk_rep P2.env hg p hp
        exact ⟨v, o, by rw [← P2.kept _ (hk p hp)]; exact hv, r⟩
      by_cases hi : i < src.xs.length
      · have hx : src.xs[i]? = some src.xs[i] := List.getElem?_eq_getElem hi
        rw [List.drop_eq_getElem_cons hi] at h2
        simp only [dForL] at h2
        by_cases hg : gOk src.gs δ2 = true
        · rw [if_pos hg] at h2
          obtain ⟨go, _⟩ := S i H2 pin shr (gk hg)
          obtain ⟨go, yl⟩ := go _ hx
          cases h3 : b src.xs[i] δ2 with
          | none => rw [h3] at h2; simp at h2
          | some δ3 =>
            rw [h3] at h2; dsimp only at h2
            refine .inr ⟨go, fun σ' H' => ∃ δ4 o4, PS0 (kx X) H1 σ kp' o1 δ4 σ' H' o4 ∧ Step H1 H' o1 ∧ dForL src.gs b mb (src.xs.drop (i + 1)) δ4 = some out, fun σ' H' ⟨δ4, o4, P4, s4, h4⟩ => ⟨m - 1, by omega, by omega, δ4, o4, P4, s4, h4⟩, fun v H3 hy => ?_⟩
            obtain ⟨sm, rv⟩ := yl v H3 hy
            have s3 : Step H1 H3 o1 := s2.same sm
            refine ⟨δ2, o2, src.xs[i], [], δ3, P2.env.same sm, rv, h3, fun σ3 o3 E3 c3 k3 => ?_⟩
            have P3 : PS0 (kx X) H1 σ kp' o1 δ3 σ3 H3 o3 := ⟨s3, E3, P2.own.sub fun a => by have := c3 a; simp only [List.count_nil] at this; omega, fun j hj => (k3.1 j hj).trans (P2.kept j hj)⟩
            cases h4 : mb δ3 with
            | none => rw [h4] at h2; simp at h2
            | some x =>
              rw [h4] at h2
              refine ⟨δ3, o3, x, E3, P3.own.nd (own_right w1 |>.nd n), h4, ?_⟩
              cases x with
              | nx δ4 => exact fun σ4 H4 o4 P4 => ⟨δ4, o4, P3.trans P4, (P3.trans P4).step, h2⟩
              | ct δ4 => exact fun σ4 H4 o4 P4 => ⟨δ4, o4, P3.trans P4, (P3.trans P4).step, h2⟩
              | bk δ4 =>
                cases (Option.some.inj h2)
                exact fun σ4 H4 o4 P4 => f0 σ4 H4 o4 ((P1.trans (P3.trans P4)).weak hw)
              | rt d δ4 =>
                cases (Option.some.inj h2)
                exact fun σ4 v H4 o4 ov P4 => f0 σ4 v H4 o4 ov ((P1.thenR (P3.thenR P4)).weak hw)
        · rw [if_neg hg] at h2; cases h2
      · have hd : src.xs.drop i = [] := List.drop_eq_nil_of_le (by omega)
        rw [hd] at h2
        simp only [dForL] at h2
        by_cases hg : gOk src.gs δ2 = true
        · rw [if_pos hg] at h2
          cases (Option.some.inj h2)
          exact .inl ⟨(S i H2 pin shr (gk hg)).2 (by omega), f0 σ2 H2 o2 (P12.weak hw)⟩
        · rw [if_neg hg] at h2; cases h2
end
end Z


set_option Elab.async false
set_option linter.all false
set_option maxRecDepth 100000
/-! defs; what is walked; lists that change -/
namespace Z
open PySem PySem.Spec PyProof.Rows L2

/-! ### a def -/
def fins (kp : Nat → Bool) : Nat → Nat → DE → List (Option D)
  | _, 0, _ => []
  | i, n + 1, [] => none :: fins kp (i + 1) n []
  | i, n + 1, x :: δ => (if kp i then x else none) :: fins kp (i + 1) n δ
def env0 (nN np : Nat) (ds : List D) : DE := ds.map some ++ List.replicate (nN - np) none
def dFn (nN np : Nat) (kp : Nat → Bool) (m : Blk) : Fn := fun ds => if ds.length = np then match m (env0 nN np ds) with
  | some (.nx δ') => some (.non, fins kp 0 np δ')
  | some (.rt d δ') => some (d, fins kp 0 np δ')
  | _ => none
  else none
section
variable {K : Fw} {κ : Kx} {H : Hp}
theorem envs_none (tb : Tabs κ H) : ∀ (n : Nat), Envs κ H (List.replicate n none) (List.replicate n none) []
  | 0 => ⟨rfl, tb⟩
  | n + 1 => envs_none tb n
theorem envs_start : ∀ {ds : List D} {vs : List V} {o : List Addr} (n : Nat), Reps κ.K H ds vs o → Tabs κ H → Envs κ H (vs.map some ++ List.replicate n none) (ds.map some ++ List.replicate n none) o
  | [], _, _, n, h, tb => by rw [h.1, h.2]; exact envs_none tb n
  | d :: ds, _, _, n, h, tb => by
    obtain ⟨v, vr, o1, o2, rfl, h1, h2, rfl⟩ := h
    exact ⟨o1, o2, h1, envs_start n h2 tb, rfl⟩
theorem envs_fins (kp : Nat → Bool) : ∀ {vs : List V} {σ : L2.St} {δ : DE} {o : List Addr} (j : Nat), Envs κ H σ δ o → (∀ i v, vs[i]? = some v → kp (j + i) = true → σ[i]? = some (some v)) →
    ∃ o', Envs κ H (vs.map some) (fins kp j vs.length δ) o' ∧ ∀ a, o'.count a ≤ o.count a
  | [], _, _, _, j, E, _ => ⟨[], ⟨rfl, E.tabs⟩, fun a => by simp⟩
  | v :: vs, [], [], o, j, E, h => by
    obtain ⟨o', E', c⟩ := envs_fins kp (vs := vs) (σ := []) (δ := []) (o := []) (j + 1) ⟨rfl, E.2⟩ fun i w hi hk => by
      have := h (i + 1) w (by simpa using hi) (by rw [show j + (i + 1) = j + 1 + i by omega]; exact hk)
      simp at this
    refine ⟨o', E', fun a => ?_⟩
    have := c a
    simp only [List.count_nil] at this
    omega
  | v :: vs, s :: σ, x :: δ, o, j, E, h => by
    have hr : ∀ i w, vs[i]? = some w → kp (j + 1 + i) = true → σ[i]? = some (some w) := fun i w hi hk => by
      have := h (i + 1) w (by simpa using hi) (by rw [show j + (i + 1) = j + 1 + i by omega]; exact hk)
      simpa using this
    cases x with
    | none =>
      have E : Envs κ H σ δ o := by cases s <;> exact E
      obtain ⟨o', E', c⟩ := envs_fins kp (j + 1) E hr
      refine ⟨o', ?_, c⟩
      show Envs κ H (some v :: vs.map some) ((if kp j then none else none) :: _) o'
      rw [ite_self]; exact E'
    | some d =>
      cases s with
      | none => exact E.elim
      | some w =>
        obtain ⟨o1, o2, r, E2, rfl⟩ := E
        obtain ⟨o', E', c⟩ := envs_fins kp (j + 1) E2 hr
        by_cases hk : kp j = true
        · have hv := h 0 v rfl hk
          simp only [List.getElem?_cons_zero, Option.some.injEq] at hv
          subst hv
          refine ⟨o1 ++ o', ?_, fun a => by have := c a; rw [List.count_append, List.count_append]; omega⟩
          show Envs κ H (some w :: vs.map some) ((if kp j then some d else none) :: _) _
          rw [if_pos hk]
          exact ⟨o1, o', r, E', rfl⟩
        · refine ⟨o', ?_, fun a => by have := c a; rw [List.count_append]; omega⟩
          show Envs κ H (some v :: vs.map some) ((if kp j then some d else none) :: _) o'
          rw [if_neg hk]; exact E'
  | v :: vs, [], _ :: _, _, _, E, _ => by simp [Envs] at E
  | v :: vs, _ :: _, [], _, _, E, _ => by simp [Envs] at E
end
section
variable {P : Program} {w : World} {K : Fw} {κ : Kx} {mg : Str → Option Value} {base : Heap}
/-- a def of the program stands at f, its code object in the fragment -/
structure FunZ (K : PySem.W.Frag) (qual : Str) (params : Arguments) (body : List Stmt) (scope : Scope) (f : Addr) (fd : FuncData) : Prop where
  ex : ∃ (x : Str) (oc : Value) (od : Option Addr) (dV kV doc pm : Value) (an : Option Addr) (ct : Value) (osl : Array (Option Value)) (c P : Addr),
    fd = PySem.W.fnOf x qual params body scope dV kV doc pm an (.ref c) ct ∧ K.lookup f = some ⟨oc, od, .func fd, osl⟩ ∧ PySem.W.codeIn K (.ref c) qual = true ∧ PySem.W.codeHdIn K c P = true
theorem z_def {qual : Str} {params : Arguments} {body : List Stmt} {scope : Scope} {f : Addr} {fd : FuncData} {N ps : List Str} {k : Nat} {kp : Nat → Bool} {m : Blk} (F : FunZ K qual params body scope f fd) (S : FnScope N ps scope)
    (hb : ∀ (cc : Addr) (A : Around) (outer : List Env) (s : Shared) (H : Hp) (E : XK), Room k (A.deeper (envOfC qual scope s.heap.objs.size f (.ref cc))) → PSs (cxOf CX0 P w K mg base N qual scope f (.ref cc) A outer s H E).nox body (TSm ⟨K, .ref cc⟩ kp m)) :
    FnOk P w K mg base CX0 (k + 1) f fd ps (spD K (dFn N.length ps.length kp m)) := by
  obtain ⟨x, oc, od, dV, kV, doc, pm, an, ct, osl, cc, PP, rfl, lk, hcd, hhd⟩ := F.ex
  refine fn_of lk hcd S (fun vs H Q E h => ?_) fun A outer s H vs Q E hr h => ⟨_, (hb cc A outer s H E hr).nox, ?_⟩
  · obtain ⟨ds, oA, r, fs, ra, n, _, hm, _⟩ := h
    simp only [dFn] at hm
    by_cases hl : ds.length = ps.length
    · rw [ra.length]; exact hl
    · rw [if_neg hl] at hm; cases hm
  · obtain ⟨ds, oA, r, fs, ra, n, tb, hm, k⟩ := h
    simp only [dFn] at hm
    by_cases hl : ds.length = ps.length
    · rw [if_pos hl] at hm
      have hl2 : vs.length = ps.length := ra.length.trans hl
      have E0 : Envs ⟨K, .ref cc⟩ H (L2.start N vs) (env0 N.length ps.length ds) oA := by
        unfold L2.start env0
        rw [hl2]; exact envs_start _ ra ⟨tb.1, fun c e => by cases e; exact ⟨PP, .inl hhd, tb.1 _ _ hhd⟩⟩
      have kept : ∀ {σ' : L2.St}, (∀ i, kp i = true → σ'[i]? = (L2.start N vs)[i]?) → ∀ i v, vs[i]? = some v → kp (0 + i) = true → σ'[i]? = some (some v) := fun h i v hi hk => by
        rw [Nat.zero_add] at hk
        rw [h i hk]
        unfold L2.start
        obtain ⟨hlt, _⟩ := List.getElem?_eq_some_iff.mp hi
        rw [List.getElem?_append_left (by simpa using hlt), List.getElem?_map, hi]; rfl
      cases h1 : m (env0 N.length ps.length ds) with
      | none => rw [h1] at hm; simp at hm
      | some out =>
        rw [h1] at hm
        refine ⟨env0 N.length ps.length ds, oA, out, E0, n, h1, ?_⟩
        cases out with
        | nx δ' =>
          simp only [Option.some.injEq, Prod.mk.injEq] at hm
          obtain ⟨rfl, rfl⟩ := hm
          intro σ' H' o' P
          obtain ⟨of_, Ef, c⟩ := envs_fins kp 0 P.env (kept P.kept)
          rw [hl2] at Ef
          exact k .non H' [] of_ P.step ⟨rfl, rfl⟩ Ef.bare (P.own.sub c)
        | rt d δ' =>
          simp only [Option.some.injEq, Prod.mk.injEq] at hm
          obtain ⟨rfl, rfl⟩ := hm
          intro σ' v H' o' ov P
          obtain ⟨of_, Ef, c⟩ := envs_fins kp 0 P.env (kept P.kept)
          rw [hl2] at Ef
          exact k v H' ov of_ P.step P.rep Ef.bare (P.own.sub fun a => by have := c a; simp only [List.count_append]; omega)
        | bk δ' => simp at hm
        | ct δ' => simp at hm
    · rw [if_neg hl] at hm; cases hm
end

/-! ### what is walked -/
def rangeD (lo : Int) (n : Nat) : List D := (List.range n).map fun (k : Nat) => D.int (lo + (k : Int))
theorem rangeD_get {lo : Int} {n i : Nat} {x : D} (h : (rangeD lo n)[i]? = some x) : i < n ∧ x = .int (lo + i) := by
  unfold rangeD at h
  rw [List.getElem?_map] at h
  cases q : (List.range n)[i]? with
  | none => rw [q] at h; simp at h
  | some k =>
    rw [q] at h
    obtain ⟨hl, e⟩ := List.getElem?_eq_some_iff.mp q
    rw [List.getElem_range] at e
    rw [List.length_range] at hl
    subst e
    exact ⟨hl, (Option.some.inj h).symm⟩
theorem rangeD_len (lo : Int) (n : Nat) : (rangeD lo n).length = n := by simp [rangeD]
def sRange (m : DE → Option (List R × DE)) : DenS := fun δ => match m δ with
  | some ([.own (.int j)], δ') => if -1000000 ≤ j ∧ j ≤ 1000000 then some (⟨rangeD 0 j.toNat, []⟩, δ') else none
  | some ([.own (.int i), .own (.int j)], δ') => if -1000000 ≤ i ∧ i ≤ 1000000 ∧ -1000000 ≤ j ∧ j ≤ 1000000 then some (⟨rangeD i (j - i).toNat, []⟩, δ') else none
  | _ => none
theorem src_range {K : Fw} {σ : L2.St} {H : Hp} {ov : List Addr} (lo : Int) (n : Nat) : SrcOk K σ ⟨rangeD lo n, []⟩ (Itr lo n) H ov := fun i H' _ _ _ =>
  ⟨fun x hx => by
    obtain ⟨hi, rfl⟩ := rangeD_get hx
    exact ⟨hi, fun v H'' hy => by obtain ⟨rfl, rfl⟩ := hy; exact ⟨fun _ _ e => e, rfl, rfl⟩⟩, fun h => by rw [rangeD_len] at h; exact h⟩
section
variable {X : Cx} {tg a b l : Expr} {q : Bool} {m : DE → Option (List R × DE)} {ml : Den} {p pos : Pos}
theorem big_sz : 2000000 ≤ sizeLine := by decide
/-- the lists and tuples are as long as the model has them -/
def HL (K : PySem.W.Frag) (H : Hp) : Prop := (∀ a vs, SqL K H a vs → vs.length ≤ sizeLine) ∧ ∀ a vs, SqT K H a vs → vs.length ≤ sizeLine
theorem inv_hl {pins : List (Addr × Obj)} {σ : L2.St} {H : Hp} {s : Shared} (I : Inv X pins σ H s) : HL X.K H := ⟨fun a vs h => by obtain ⟨_, _, _, z⟩ := I.list h; exact z, fun a vs h => by obtain ⟨_, _, _, z⟩ := I.tuple h; exact z⟩
theorem PI.ok {iter : Expr} {t : TI} (h : PI X tg iter t) : PI X tg iter (fun σ H R => t σ H fun J H1 => HL X.K H1 → R J H1) := ⟨fun pins s σ H R I hw =>
  thn (h.run pins s σ H _ I hw) fun v s1 h1 => thn h1 fun itv s2 ⟨it, fp, tn, J, H', e1, I', T', t0, f', r⟩ => ⟨it, fp, tn, J, H', e1, I', T', t0, f', r (inv_hl I')⟩⟩
theorem PI.imp {iter : Expr} {t t' : TI} (h : PI X tg iter t) (i : ∀ σ H R, t' σ H R → t σ H R) : PI X tg iter t' := ⟨fun pins s σ H R I hw => h.run pins s σ H R I (i _ _ _ hw)⟩
theorem sRange_inv {δ δ' : DE} {src : Src} (h : sRange m δ = some (src, δ')) : (∃ j, m δ = some ([.own (.int j)], δ') ∧ (-1000000 ≤ j ∧ j ≤ 1000000) ∧ src = ⟨rangeD 0 j.toNat, []⟩) ∨
    ∃ i j, m δ = some ([.own (.int i), .own (.int j)], δ') ∧ (-1000000 ≤ i ∧ i ≤ 1000000 ∧ -1000000 ≤ j ∧ j ≤ 1000000) ∧ src = ⟨rangeD i (j - i).toNat, []⟩ := by
  unfold sRange at h
  split at h
  · rename_i j δ1 e
    split at h
    · rename_i hc
      simp only [Option.some.injEq, Prod.mk.injEq] at h
      obtain ⟨rfl, rfl⟩ := h
      exact .inl ⟨j, e, hc, rfl⟩
    · cases h
  · rename_i i j δ1 e
    split at h
    · rename_i hc
      simp only [Option.some.injEq, Prod.mk.injEq] at h
      obtain ⟨rfl, rfl⟩ := h
      exact .inr ⟨i, j, e, hc, rfl⟩
    · cases h
  · cases h
theorem z_range1 (hg : Gl X "range") (hm : X.mg "range" = none) (ha : PA X [a] (TAr (kx X) q m)) (hs : starEach [a] X.env = [(false, eval a X.env)] := by rfl) (h1 : ∀ δ rs δ', m δ = some (rs, δ') → rs.length = 1) : PI X tg (.Call (.Name "range" p) [a] [] pos) (TIm (kx X) q (sRange m)) :=
  PI.imp (pi_range1 hg hm ha hs) fun σ H R ⟨δ, o, src, δ', E, n, h, k⟩ => by
    rcases sRange_inv h with ⟨j, e, hc, rfl⟩ | ⟨i, j, e, hc, rfl⟩
    · refine ⟨δ, o, _, δ', E, n, e, fun vs H1 o1 ov s1 E1 hl w1 => ?_⟩
      obtain ⟨v, vr, oa, ob, rfl, ⟨rfl, rfl⟩, ⟨rfl, rfl⟩, rfl⟩ := hl
      exact ⟨j, rfl, by omega, by omega, k _ H1 o1 [] s1 E1 w1 (fun a ha => nomatch ha) (src_range 0 _) (by rw [rangeD_len]; exact Nat.le_trans (by omega) big_sz)⟩
    · exact absurd (h1 _ _ _ e) (by simp)
theorem z_range2 (hg : Gl X "range") (hm : X.mg "range" = none) (ha : PA X [a, b] (TAr (kx X) q m)) (h2 : ∀ δ rs δ', m δ = some (rs, δ') → rs.length = 2)
    (hs : starEach [a, b] X.env = [(false, eval a X.env), (false, eval b X.env)] := by rfl) (hs2 : starEach [b] X.env = [(false, eval b X.env)] := by rfl) : PI X tg (.Call (.Name "range" p) [a, b] [] pos) (TIm (kx X) q (sRange m)) :=
  PI.imp (pi_range2 hg hm ha hs hs2) fun σ H R ⟨δ, o, src, δ', E, n, h, k⟩ => by
    rcases sRange_inv h with ⟨j, e, hc, rfl⟩ | ⟨i, j, e, hc, rfl⟩
    · exact absurd (h2 _ _ _ e) (by simp)
    · refine ⟨δ, o, _, δ', E, n, e, fun vs H1 o1 ov s1 E1 hl w1 => ?_⟩
      obtain ⟨v, vr, oa, ob, rfl, ⟨rfl, rfl⟩, ⟨v2, vr2, oa2, ob2, rfl, ⟨rfl, rfl⟩, ⟨rfl, rfl⟩, rfl⟩, rfl⟩ := hl
      exact ⟨i, j, rfl, by omega, k _ H1 o1 [] s1 E1 w1 (fun a ha => nomatch ha) (src_range i _) (by rw [rangeD_len]; exact Nat.le_trans (by omega) big_sz)⟩
theorem acons_len1 {qb : Bool} {ma : Den} {δ δ' : DE} {rs : List R} (h : dACons qb ma dANil δ = some (rs, δ')) : rs.length = 1 := by
  simp only [dACons, dANil] at h
  split at h
  · split at h
    · simp only [Option.some.injEq, Prod.mk.injEq] at h; rw [← h.1]; rfl
    · cases h
  · cases h
theorem acons_len2 {qa qb : Bool} {ma mb : Den} {δ δ' : DE} {rs : List R} (h : dACons qa ma (dACons qb mb dANil) δ = some (rs, δ')) : rs.length = 2 := by
  rw [dACons] at h
  split at h
  · split at h
    · rename_i e
      have := acons_len1 e
      split at h
      · simp only [Option.some.injEq, Prod.mk.injEq] at h; rw [← h.1]; simp [this]
      · cases h
    · cases h
  · cases h

/-- a sequence as it comes -/
def chars (x : Str) : List D := x.cps.toList.map fun c => D.str ⟨#[c]⟩
def sSeq (m : Den) : DenS := fun δ => match m δ with
  | some (.own (.tup xs), δ') => if D.imms xs then some (⟨xs, []⟩, δ') else none
  | some (.own (.lst xs), δ') => if D.imms xs then some (⟨xs, []⟩, δ') else none
  | some (.own (.frz xs), δ') => if D.imms xs then some (⟨xs, []⟩, δ') else none
  | some (.own (.str x), δ') => some (⟨chars x, []⟩, δ')
  | some (.at i [], δ') => match δ'[i]? with
    | some (some (.lst xs)) => if D.imms xs then some (⟨xs, [(i, .lst xs)]⟩, δ') else none
    | _ => none
  | _ => none
theorem item_of {K : Fw} {H : Hp} {xs : List D} {vs : List V} {i : Nat} {x : D} (r : Reps K H xs vs []) (e : xs[i]? = some x) : ∃ v, vs[i]? = some v ∧ Rep K H x v [] := by
  obtain ⟨v, o1, e1, r1, hs⟩ := r.get e
  refine ⟨v, e1, ?_⟩
  have : o1 = [] := by
    cases o1 with
    | nil => rfl
    | cons a l => exact nomatch hs a List.mem_cons_self
  rw [this] at r1; exact r1
theorem src_list {K : Fw} {σ : L2.St} {H : Hp} {ov : List Addr} {xs : List D} {gs : List (Nat × D)} {a : Addr}
    (h : ∀ H', (∀ a ∈ ov, H' a = H a) → (∀ a u, H a = some u → Sh u → H' a = some u) → (∀ p ∈ gs, ∃ v o, σ[p.1]? = some (some v) ∧ Rep K H' p.2 v o) → ∃ vs, SqL K H' a vs ∧ Reps K H' xs vs []) : SrcOk K σ ⟨xs, gs⟩ (Itl K a) H ov := fun i H' h1 h2 h3 => by
  obtain ⟨vs, hq, r⟩ := h H' h1 h2 h3
  refine ⟨fun x hx => ?_, fun hl => ⟨vs, hq, by rw [r.length]; exact hl⟩⟩
  obtain ⟨v, hv, rv⟩ := item_of r hx
  refine ⟨⟨vs, v, hq, hv⟩, fun w H'' hy => ?_⟩
  obtain ⟨rfl, hy⟩ := hy
  have := hy vs hq
  rw [hv] at this; cases this
  exact ⟨fun _ _ e => e, rv⟩
theorem src_tup {K : Fw} {σ : L2.St} {H : Hp} {ov : List Addr} {xs : List D} {gs : List (Nat × D)} {a : Addr}
    (h : ∀ H', (∀ a ∈ ov, H' a = H a) → (∀ a u, H a = some u → Sh u → H' a = some u) → (∀ p ∈ gs, ∃ v o, σ[p.1]? = some (some v) ∧ Rep K H' p.2 v o) → ∃ vs, SqT K H' a vs ∧ Reps K H' xs vs []) : SrcOk K σ ⟨xs, gs⟩ (Itt K a) H ov := fun i H' h1 h2 h3 => by
  obtain ⟨vs, hq, r⟩ := h H' h1 h2 h3
  refine ⟨fun x hx => ?_, fun hl => ⟨vs, hq, by rw [r.length]; exact hl⟩⟩
  obtain ⟨v, hv, rv⟩ := item_of r hx
  refine ⟨⟨vs, v, hq, hv⟩, fun w H'' hy => ?_⟩
  obtain ⟨rfl, hy⟩ := hy
  have := hy vs hq
  rw [hv] at this; cases this
  exact ⟨fun _ _ e => e, rv⟩
theorem fr_of {H H' : Hp} {ov : List Addr} (h1 : ∀ a ∈ ov, H' a = H a) (h2 : ∀ a u, H a = some u → Sh u → H' a = some u) : Fr0 H H' ov := ⟨h1, h2⟩
theorem sSeq_inv {δ δ' : DE} {src : Src} (h : sSeq ml δ = some (src, δ')) : (∃ xs, ml δ = some (.own (.tup xs), δ') ∧ D.imms xs = true ∧ src = ⟨xs, []⟩) ∨ (∃ xs, ml δ = some (.own (.lst xs), δ') ∧ D.imms xs = true ∧ src = ⟨xs, []⟩) ∨
    (∃ xs, ml δ = some (.own (.frz xs), δ') ∧ D.imms xs = true ∧ src = ⟨xs, []⟩) ∨ (∃ x, ml δ = some (.own (.str x), δ') ∧ src = ⟨chars x, []⟩) ∨ (∃ i xs, ml δ = some (.at i [], δ') ∧ δ'[i]? = some (some (.lst xs)) ∧ D.imms xs = true ∧ src = ⟨xs, [(i, .lst xs)]⟩) := by
  unfold sSeq at h
  split at h
  · split at h
    · simp only [Option.some.injEq, Prod.mk.injEq] at h; obtain ⟨rfl, rfl⟩ := h; exact .inl ⟨_, by assumption, by assumption, rfl⟩
    · cases h
  · split at h
    · simp only [Option.some.injEq, Prod.mk.injEq] at h; obtain ⟨rfl, rfl⟩ := h; exact .inr (.inl ⟨_, by assumption, by assumption, rfl⟩)
    · cases h
  · split at h
    · simp only [Option.some.injEq, Prod.mk.injEq] at h; obtain ⟨rfl, rfl⟩ := h; exact .inr (.inr (.inl ⟨_, by assumption, by assumption, rfl⟩))
    · cases h
  · simp only [Option.some.injEq, Prod.mk.injEq] at h; obtain ⟨rfl, rfl⟩ := h; exact .inr (.inr (.inr (.inl ⟨_, by assumption, rfl⟩)))
  · split at h
    · split at h
      · simp only [Option.some.injEq, Prod.mk.injEq] at h; obtain ⟨rfl, rfl⟩ := h; exact .inr (.inr (.inr (.inr ⟨_, _, by assumption, by assumption, by assumption, rfl⟩)))
      · cases h
    · cases h
  · cases h
theorem z_seq (hl : PE X l (T (kx X) q ml)) : PI X tg l (TIm (kx X) q (sSeq ml)) := ⟨fun pins s σ H R I hw => by
  obtain ⟨δ, o, src, δ', E, n, h, k⟩ := hw
  rcases sSeq_inv h with ⟨xs, e, hi, rfl⟩ | ⟨xs, e, hi, rfl⟩ | ⟨xs, e, hi, rfl⟩ | ⟨x, e, rfl⟩ | ⟨i, xs, e, hd, hi, rfl⟩
  · refine (PI.ok (pi_tup hl)).run pins s σ H R I ⟨δ, o, _, δ', E, n, e, fun v H1 o1 ov P => ?_⟩
    obtain ⟨a, vs, rfl, hq, r⟩ := P.held
    have := r.imm hi; subst this
    exact ⟨a, rfl, ⟨vs, hq⟩, fun hz => k _ H1 o1 [] P.step P.env P.own (fun a ha => nomatch ha) (src_tup fun H' h1 h2 h3 => ⟨vs, (fr_of h1 h2).sqt hq, r.fr (fr_of h1 h2)⟩) (by rw [← r.length]; exact hz.2 _ _ hq)⟩
  · refine (PI.ok (pi_list hl)).run pins s σ H R I ⟨δ, o, _, δ', E, n, e, fun v H1 o1 ov P => ?_⟩
    obtain ⟨a, vs, o', rfl, hq, r, rfl⟩ := P.held
    have := r.imm hi; subst this
    refine ⟨a, rfl, ⟨vs, .of hq⟩, fun hz => k _ H1 o1 [a] P.step P.env P.own (fun b hb => by rw [List.mem_singleton.mp hb]; exact ⟨_, hq, ow_lst⟩) (src_list fun H' h1 h2 h3 => ⟨vs, .of ((h1 a List.mem_cons_self).trans hq), r.fr ((fr_of h1 h2).sub fun b hb => nomatch hb)⟩) (by rw [← r.length]; exact hz.1 _ _ (.of hq))⟩
  · refine (PI.ok (pi_list hl)).run pins s σ H R I ⟨δ, o, _, δ', E, n, e, fun v H1 o1 ov P => ?_⟩
    obtain ⟨a, vs, rfl, hq, r, rfl⟩ := P.held
    exact ⟨a, rfl, ⟨vs, hq.sq⟩, fun hz => k _ H1 o1 [] P.step P.env P.own (fun a ha => nomatch ha) (src_list fun H' h1 h2 h3 => ⟨vs, ((fr_of h1 h2).fz hq).sq, r.fr (fr_of h1 h2)⟩) (by rw [← r.length]; exact hz.1 _ _ hq.sq)⟩
  · refine (PI.ok (pi_str hl)).run pins s σ H R I ⟨δ, o, _, δ', E, n, e, fun v H1 o1 ov P => ?_⟩
    obtain ⟨rfl, hz, rfl⟩ := P.held
    refine ⟨x, rfl, fun _ => k _ H1 o1 [] P.step P.env P.own (fun a ha => nomatch ha) (fun i H' h1 h2 h3 => ⟨fun y hy => ?_, fun hl => by simpa [chars, Its] using hl⟩) (by simpa [chars, Str.length] using hz.1)⟩
    unfold chars at hy
    rw [List.getElem?_map, Array.getElem?_toList] at hy
    cases hc : x.cps[i]? with
    | none => rw [hc] at hy; simp at hy
    | some c =>
      rw [hc] at hy
      cases (Option.some.inj hy)
      refine ⟨(Array.getElem?_eq_some_iff.mp hc).1, fun v H'' hv => ?_⟩
      obtain ⟨rfl, c', hc', rfl⟩ := hv
      rw [hc] at hc'; cases hc'
      exact ⟨fun _ _ e => e, rfl, ⟨by show 1 ≤ sizeLine; decide, strOk_of (l := [c]) fun d hd => by rw [List.mem_singleton.mp hd]; exact strOk_mem hz.2 (Array.mem_toList_iff.mpr (Array.mem_of_getElem? hc))⟩, rfl⟩
  · refine (PI.ok (pi_list hl)).run pins s σ H R I ⟨δ, o, _, δ', E, n, e, fun v H1 o1 ov P => ?_⟩
    obtain ⟨rfl, u, hu, hp⟩ := P.held
    cases (show v = u from hp)
    obtain ⟨v0, oa, oi, ob, hv0, rd, e0, _, _⟩ := P.env.at hd
    rw [hu] at hv0; cases hv0
    obtain ⟨a, vs, o', rfl, hq, r, _⟩ := rd
    refine ⟨a, rfl, ⟨vs, .of hq⟩, fun hz => k _ H1 o1 [] P.step P.env P.own (fun b hb => nomatch hb) (src_list fun H' h1 h2 h3 => ?_) (by rw [← r.length]; exact hz.1 _ _ (.of hq))⟩
    obtain ⟨v2, o2, hv2, r2⟩ := h3 _ List.mem_cons_self
    rw [hu] at hv2; cases hv2
    obtain ⟨a2, vs2, o2', e2, hq2, rr2, _⟩ := r2
    cases e2
    have := rr2.imm hi; subst this
    exact ⟨vs2, .of hq2, rr2⟩⟩
end

/-! ### lists that change -/
section
variable {K : Fw} {κ : Kx} {H : Hp} {σ : L2.St}
/-- the list at a place of the names, and another content in its stead -/
theorem Envs.mut {δ : DE} {o : List Addr} {s : Nat} {p : List Nat} {d0 : D} {xs : List D} {v : V} {ov : List Addr} (E : Envs κ H σ δ o) (hh : Held κ.K H σ (.at s p) v ov) (hd : δ[s]? = some (some d0)) (hg : getP p d0 = some (.lst xs)) :
    ∃ a vs oxs, v = .ref a ∧ H a = some (.lst vs) ∧ Reps κ.K H xs vs oxs ∧ a ∈ o ∧ (∀ b, oxs.count b ≤ o.count b) ∧
      ∀ ov xs' vs' oxs' d', Nd (ov ++ o) → Reps κ.K H xs' vs' oxs' → (∀ b, oxs'.count b ≤ oxs.count b + ov.count b) → setP p d0 (.lst xs') = some d' → ∃ o', Envs κ (upd H a (.lst vs')) σ (δ.set s (some d')) o' ∧ ∀ b, o'.count b ≤ ov.count b + o.count b := by
  obtain ⟨_, u, hu, hp⟩ := hh
  obtain ⟨v0, oa, oi, ob, hv0, rd, rfl, kr, _⟩ := E.at hd
  rw [hu] at hv0; cases hv0
  obtain ⟨oe, or_, re, hc, k2⟩ := rd.path hg hp
  obtain ⟨a, vs, oxs, rfl, ha, rs, rfl⟩ := re
  have hca := hc a
  rw [List.count_cons_self] at hca
  refine ⟨a, vs, oxs, rfl, ha, rs, ?_, fun b => ?_, fun ov xs' vs' oxs' d' n r' c' hs => ?_⟩
  · refine List.count_pos_iff.mp ?_
    simp only [List.count_append]; omega
  · have h1 := hc b
    have h2 : oxs.count b ≤ (a :: oxs).count b := List.count_le_count_cons
    simp only [List.count_append]; omega
  · have nn := fun b => n b
    simp only [List.count_append] at nn
    have na := nn a
    have nax : a ∉ oxs' := fun hm => by
      have h1 := c' a
      have h2 : 0 < oxs'.count a := List.count_pos_iff.mpr hm
      omega
    have fra : ∀ (l : List Addr), a ∉ l → Fr H (upd H a (.lst vs')) l := fun l hl => ⟨fun b hb => upd_ne (fun e => hl (e ▸ hb)), fun b w e hw => by
      have : b ≠ a := fun z => by rw [z, ha] at e; cases e; exact hw
      rw [upd_ne this]; exact e, (Step.write (W := [a]) ha List.mem_cons_self).tab⟩
    have nar : a ∉ or_ := fun hm => by
      have h2 : 0 < or_.count a := List.count_pos_iff.mpr hm
      omega
    have nab : a ∉ oa ++ ob := fun hm => by
      have h2 : 0 < (oa ++ ob).count a := List.count_pos_iff.mpr hm
      rw [List.count_append] at h2
      omega
    obtain ⟨o1', r1, c1⟩ := k2 (upd H a (.lst vs')) (.lst xs') (a :: oxs') d' ⟨a, vs', oxs', rfl, upd_same, r'.fr (fra _ nax), rfl⟩ (fra _ nar) hs
    refine ⟨oa ++ o1' ++ ob, kr _ d' o1' r1 (fra _ nab), fun b => ?_⟩
    have h1 := hc b
    have h2 := c1 b
    have h3 := c' b
    simp only [List.count_append, List.count_cons] at h1 h2 h3 ⊢
    omega
end
/-- a change of the list that the first operand stands for -/
def mutD (δ : DE) (r : R) (f : List D → Option (List D)) : Option DE := match r with
  | .at s p => match δ[s]? with
    | some (some d0) => match getP p d0 with
      | some (.lst xs) => match f xs with
        | some xs' => match setP p d0 (.lst xs') with
          | some d' => some (δ.set s (some d'))
          | none => none
        | none => none
      | _ => none
    | _ => none
  | _ => none
theorem mutD_inv {δ δ' : DE} {r : R} {f : List D → Option (List D)} (h : mutD δ r f = some δ') : ∃ s p d0 xs xs' d', r = .at s p ∧ δ[s]? = some (some d0) ∧ getP p d0 = some (.lst xs) ∧ f xs = some xs' ∧ setP p d0 (.lst xs') = some d' ∧ δ' = δ.set s (some d') := by
  unfold mutD at h
  split at h
  · split at h
    · split at h
      · split at h
        · split at h
          · cases (Option.some.inj h)
            exact ⟨_, _, _, _, _, _, rfl, by assumption, by assumption, by assumption, by assumption, rfl⟩
          · cases h
        · cases h
      · cases h
    · cases h
  · cases h
def isLst (δ : DE) (r : R) : Bool := match deref δ r with
  | some (.lst _) => true
  | _ => false
def dAppend (qe : Bool) (mo me : Den) : Den := fun δ => match mo δ with
  | some (ro, δ1) => match me δ1 with
    | some (.own d, δ2) => if (ro.short || qe) && isLst δ1 ro then match mutD δ2 ro fun xs => if xs.length < 1000000 then some (xs ++ [d]) else none with
      | some δ3 => some (.own .non, δ3)
      | none => none
      else none
    | _ => none
  | none => none
theorem isLst_ty {κ : Kx} {H : Hp} {σ : L2.St} {δ : DE} {o ov : List Addr} {r : R} {v : V} (E : Envs κ H σ δ o) (h : Held κ.K H σ r v ov) (e : isLst δ r = true) : tyV κ.K "list" v H := by
  unfold isLst at e
  split at e
  · rename_i xs e1
    obtain ⟨o', ⟨a, vs, o2, rfl, hq, _⟩, _⟩ := h.deref E e1
    exact .inl ⟨rfl, vs, .of hq⟩
  · cases e
section
variable {X : Cx} {eo e : Expr} {qo qe : Bool} {mo me : Den} {apos cpos : Pos}
theorem t_append {σ : L2.St} {H : Hp} {Q : VK} (h : T (kx X) false (dAppend qe mo me) σ H Q) : tBM X.K "list" rAppend (T (kx X) qo mo) (TAr (kx X) (qe && true) (dACons true me dANil)) σ H Q := by
  obtain ⟨δ, o, r, δ', E, n, hm, k⟩ := h
  simp only [dAppend] at hm
  cases h1 : mo δ with
  | none => rw [h1] at hm; simp at hm
  | some p1 =>
    obtain ⟨ro, δ1⟩ := p1
    rw [h1] at hm; dsimp only at hm
    cases h2 : me δ1 with
    | none => rw [h2] at hm; simp at hm
    | some p2 =>
      obtain ⟨re, δ2⟩ := p2
      rw [h2] at hm
      cases re with
      | «at» _ _ => simp at hm
      | own d =>
        dsimp only at hm
        by_cases hc0 : ((ro.short || qe) && isLst δ1 ro) = true
        · rw [if_pos hc0] at hm
          obtain ⟨hc, hil⟩ := Bool.and_eq_true_iff.mp hc0
          cases h3 : mutD δ2 ro fun xs => if xs.length < 1000000 then some (xs ++ [d]) else none with
          | none => rw [h3] at hm; simp at hm
          | some δ3 =>
            rw [h3] at hm
            simp only [Option.some.injEq, Prod.mk.injEq] at hm
            obtain ⟨rfl, rfl⟩ := hm
            obtain ⟨s, p, d0, xs, xs', d', rfl, hd, hg, hf, hs, rfl⟩ := mutD_inv h3
            by_cases hlen : xs.length < 1000000
            · rw [if_pos hlen] at hf
              cases (Option.some.inj hf)
              refine ⟨δ, o, _, δ1, E, n, h1, fun v H1 o1 ov1 P1 => ⟨?_, ?_⟩⟩
              · exact isLst_ty P1.env P1.held hil
              · refine ⟨δ1, o1, [.own d], δ2, P1.env, nd_of P1.own n, by simp only [dACons, dANil, h2, Bool.or_true, if_true], fun vs H2 o2 ov2 s2 E2 hl w2 => ?_⟩
                rw [Bool.and_true] at s2
                have hh : Held X.F H2 σ (.at s p) v ov1 := P1.held.step s2 (Wq_ok P1.env) (fun a ha hw => apart_of P1.own n a ha (Wq_sub a hw)) (by
                  simp only [Bool.or_eq_true] at hc
                  rcases hc with hc | hc
                  · exact .inl hc
                  · right; subst hc; rfl)
                obtain ⟨y, vr, oy, onil, rfl, ry, ⟨rfl, rfl⟩, rfl⟩ := hl
                rw [List.append_nil] at w2
                obtain ⟨a, vs, oxs, rfl, ha, rs, hao, hcx, km⟩ := Envs.mut E2 hh hd hg
                have n2 := w2.nd (nd_of P1.own n)
                obtain ⟨o3, E3, c3⟩ := km oy (xs ++ [d]) (vs ++ [y]) (oxs ++ oy) d' n2 (rs.append (.one ry)) (fun b => Nat.le_of_eq (by rw [List.count_append])) hs
                refine ⟨a, vs, y, rfl, rfl, ha, by rw [rs.length]; exact Nat.lt_of_lt_of_le hlen (by decide), ?_⟩
                have w12 := own_app P1.own P1.step P1.held.dom w2
                have s12 : Step H H2 o := ((P1.step.seq (own_right P1.own) s2).mono Wq_sub)
                refine k _ _ o3 [] ⟨?_, E3, ⟨rfl, rfl⟩, fun b => ?_⟩
                · refine ⟨fun b u e hn hu => ?_, fun b e => ?_, fun P g => (Step.write (W := [a]) ha List.mem_cons_self).tab P (s12.tab P g)⟩
                  · have e2 := s12.keep b u e hn hu
                    have : b ≠ a := fun z => by
                      subst z
                      rcases w12 b with w | ⟨w, _⟩
                      · have h5 : 0 < o2.count b := List.count_pos_iff.mpr hao
                        simp only [List.count_append] at w
                        have h6 : 0 < o.count b := by omega
                        exact hn (List.count_pos_iff.mp h6)
                      · rw [e] at w; cases w
                    rw [upd_ne this]; exact e2
                  · by_cases z : b = a
                    · subst z; rw [upd_same] at e; cases e
                    · rw [upd_ne z] at e; exact s12.dom b e
                · have g1 := c3 b
                  have g2 := w12 b
                  simp only [List.count_append, List.nil_append] at g1 g2 ⊢
                  rcases g2 with g2 | ⟨z, g2⟩
                  · left; omega
                  · right; exact ⟨z, by omega⟩
            · rw [if_neg hlen] at hf; cases hf
        · rw [if_neg hc0] at hm; simp at hm
end
end Z


set_option Elab.async false
set_option linter.all false
set_option maxRecDepth 100000
/-! stores to items, methods of lists; operators by the data -/
namespace Z
open PySem PySem.Spec PyProof.Rows L2

section
variable {K : Fw} {κ : Kx} {H H2 : Hp} {σ : L2.St}
/-- behind a change of the list at a place -/
theorem mut_end {δ2 : DE} {o o2 ovr ov : List Addr} {s : Nat} {p : List Nat} {d0 : D} {xs : List D} {v : V} (n : Nd o) (s12 : Step H H2 o) (E2 : Envs κ H2 σ δ2 o2) (w : Own H o (ovr ++ o2)) (hh : Held κ.K H2 σ (.at s p) v ov) (hd : δ2[s]? = some (some d0)) (hg : getP p d0 = some (.lst xs)) :
    ∃ a vs oxs, v = .ref a ∧ H2 a = some (.lst vs) ∧ Reps κ.K H2 xs vs oxs ∧ (∀ b, oxs.count b ≤ o2.count b) ∧
      ∀ xs' vs' oxs' d', Reps κ.K H2 xs' vs' oxs' → (∀ b, oxs'.count b ≤ oxs.count b + ovr.count b) → setP p d0 (.lst xs') = some d' →
        ∃ o3, Step H (upd H2 a (.lst vs')) o ∧ Envs κ (upd H2 a (.lst vs')) σ (δ2.set s (some d')) o3 ∧ Own H o o3 := by
  obtain ⟨a, vs, oxs, rfl, ha, rs, hao, hcx, km⟩ := Envs.mut E2 hh hd hg
  refine ⟨a, vs, oxs, rfl, ha, rs, hcx, fun xs' vs' oxs' d' r' c' hs => ?_⟩
  obtain ⟨o3, E3, c3⟩ := km ovr xs' vs' oxs' d' (w.nd n) r' c' hs
  refine ⟨o3, ⟨fun b u e hn hu => ?_, fun b e => ?_, fun P g => (Step.write (W := [a]) ha List.mem_cons_self).tab P (s12.tab P g)⟩, E3, fun b => ?_⟩
  · have e2 := s12.keep b u e hn hu
    have : b ≠ a := fun z => by
      subst z
      rcases w b with w | ⟨w, _⟩
      · have h5 : 0 < o2.count b := List.count_pos_iff.mpr hao
        simp only [List.count_append] at w
        have h6 : 0 < o.count b := by omega
        exact hn (List.count_pos_iff.mp h6)
      · rw [e] at w; cases w
    rw [upd_ne this]; exact e2
  · by_cases z : b = a
    · subst z; rw [upd_same] at e; cases e
    · rw [upd_ne z] at e; exact s12.dom b e
  · have g1 := c3 b
    have g2 := w b
    simp only [List.count_append] at g1 g2 ⊢
    rcases g2 with g2 | ⟨z, g2⟩
    · left; omega
    · right; exact ⟨z, by omega⟩
end

/-- o[i] = e -/
def dSetI (qo qi : Bool) (mo mi me : Den) : Blk := fun δ => match me δ with
  | some (.own d, δ1) => match mo δ1 with
    | some (ro, δ2) => match mi δ2 with
      | some (.own (.int k), δ3) => if ro.short || qi then match mutD δ3 ro fun xs => match ixN xs.length k with
          | some j => some (xs.set j d)
          | none => none with
        | some δ4 => some (.nx δ4)
        | none => none
        else none
      | _ => none
    | none => none
  | _ => none
theorem dSetI_inv {qo qi : Bool} {mo mi me : Den} {δ : DE} {out : Out} (h : dSetI qo qi mo mi me δ = some out) : ∃ d δ1 ro δ2 k δ3 δ4, me δ = some (.own d, δ1) ∧ mo δ1 = some (ro, δ2) ∧ mi δ2 = some (.own (.int k), δ3) ∧ (ro.short || qi) = true ∧
    (mutD δ3 ro fun xs => match ixN xs.length k with
          | some j => some (xs.set j d)
          | none => none) = some δ4 ∧ out = .nx δ4 := by
  unfold dSetI at h
  split at h
  · split at h
    · split at h
      · split at h
        · split at h
          · cases (Option.some.inj h)
            exact ⟨_, _, _, _, _, _, _, by assumption, by assumption, by assumption, by assumption, by assumption, rfl⟩
          · cases h
        · cases h
      · cases h
    · cases h
  · cases h
theorem Reps.setI {K : Fw} {H : Hp} : ∀ {xs : List D} {vs : List V} {o : List Addr} (j : Nat) {d : D} {y : V} {oy : List Addr}, Reps K H xs vs o → Rep K H d y oy → ∃ o', Reps K H (xs.set j d) (vs.set j y) o' ∧ ∀ b, o'.count b ≤ o.count b + oy.count b
  | [], _, _, _, _, _, _, h, _ => ⟨[], by rw [h.1]; exact ⟨rfl, rfl⟩, fun b => by simp⟩
  | x :: xs, _, _, 0, d, y, oy, h, r => by
    obtain ⟨v, vr, o1, o2, rfl, h1, h2, rfl⟩ := h
    exact ⟨oy ++ o2, ⟨y, vr, oy, o2, rfl, r, h2, rfl⟩, fun b => by simp only [List.count_append]; omega⟩
  | x :: xs, _, _, j + 1, d, y, oy, h, r => by
    obtain ⟨v, vr, o1, o2, rfl, h1, h2, rfl⟩ := h
    obtain ⟨o', r', c⟩ := Reps.setI j h2 r
    exact ⟨o1 ++ o', ⟨v, vr.set j y, o1, o', rfl, h1, r', rfl⟩, fun b => by have := c b; simp only [List.count_append]; omega⟩
section
variable {X : Cx} {eo ei e : Expr} {qo qi q : Bool} {mo mi me : Den} {kp : Nat → Bool} {pos pos' : Pos}
theorem z_setI (he : PE X e (T (kx X) q me)) (ho : PE X eo (T (kx X) qo mo)) (hi : PE X ei (T (kx X) qi mi))
    (ha : ∀ v, assign (.Subscript eo ei pos') X.env v = (do
      let ov ← holding [v] (eval eo X.env)
      let iv ← holding [v, ov] (eval ei X.env)
      standAt pos'
      holding [v, ov, iv] (setItem ov iv v)
      release [v, ov, iv] []) := by intro _; rfl)
    (hs : swapsWithSole [.Subscript eo ei pos'] e pos.line X.env = pure false := by rfl) (hw : swappedStores [.Subscript eo ei pos'] e X.env = pure none := by rfl)
    (h1 : (assignEach [.Subscript eo ei pos'] X.env).map (·.2) = [assign (.Subscript eo ei pos') X.env] := by rfl) : PS X (.Assign [.Subscript eo ei pos'] e pos) (TSm (kx X) kp (dSetI qo qi mo mi me)) :=
  PS.imp (ps_asg he (pg_sub ho hi set_list ha) hs hw h1) fun D' σ H ⟨δ, o, out, E, n, hm, f⟩ => by
    obtain ⟨d, δ1, ro, δ2, k, δ3, δ4, g1, g2, g3, hc, h3, rfl⟩ := dSetI_inv hm
    obtain ⟨s, p, d0, xs, xs', d', rfl, hd, hg, hf, hst, rfl⟩ := mutD_inv h3
    refine (Stk.start E).push n g1 (by simp [allShort]) fun y H1 S1 => ?_
    refine S1.push n g2 (by simp [allShort, R.short]) fun x H2 S2 => ?_
    refine S2.push n g3 ?_ fun w H3 S3 => ?_
    · simp only [allShort, R.short, Bool.and_true]; exact hc
    · obtain ⟨o3, ov, s3, E3, ⟨w', vr, ow, ox1, e1, hw1, ⟨x', vr2, ox, oy1, e2, hx, ⟨y', vr3, oy, on, e3, hy, ⟨e4, e5⟩, e6⟩, e7⟩, e8⟩, w3⟩ := S3
      subst e5 e6 e7 e8 e4
      cases e3; cases e2; cases e1
      obtain ⟨rfl, rfl⟩ := hw1
      have hx0 := hx.1
      subst hx0
      have w4 : Own H o (oy ++ o3) := by simpa using w3
      obtain ⟨a, vs, oxs, rfl, haa, rs, _, km⟩ := mut_end n (s3.mono Wq_sub) E3 w4 hx hd hg
      cases hj : ixN xs.length k with
      | none => rw [hj] at hf; simp at hf
      | some j =>
        rw [hj] at hf
        cases (Option.some.inj hf)
        obtain ⟨o', r', c'⟩ := rs.setI j (d := d) hy
        obtain ⟨o5, s5, E5, w5⟩ := km _ _ o' d' r' c' hst
        exact ⟨a, vs, k, j, rfl, rfl, haa, by rw [rs.length]; exact hj, f σ _ o5 ⟨s5, E5, w5, fun _ _ => rfl⟩⟩
theorem z_append (ho : PE X eo (T (kx X) qo mo)) (he : PE X e (T (kx X) qi me)) {apos cpos : Pos} (hs : starEach [e] X.env = (false, eval e X.env) :: starEach [] X.env := by rfl)
    (hbase : attributeBase eo "append" X.env (eval eo X.env) = eval eo X.env := by rfl)
    (hfew : ((backTo cpos (starEach [e] X.env)).all (fun x => !x.1) && (backToKw cpos (keywordEach [] X.env)).all (fun x => x.1.isSome)
      && decide ([e].length + ([] : List Keyword).length + (if ([] : List Keyword).isEmpty then 0 else 1) < 30)) = true := by rfl)
    (hline : (apos.endLine == cpos.line) = true := by rfl) (hplain : (backTo cpos (starEach [] X.env)).any (·.1) = false := by rfl) :
    PE X (.Call (.Attribute eo "append" apos) [e] [] cpos) (T (kx X) false (dAppend qi mo me)) :=
  PE.imp (pe_bm PySem.F.plainAttrs_list PySem.F.slot_list_append PySem.F.type_list_append mt_append ho (z_acons he z_anil hs) hbase hfew hline hs hplain) fun σ H Q h => t_append h
end

/-! ### operators by the data: the rules -/
theorem pr_end {K : Fw} {f : List D → Option D} {vs : List V} {H : Hp} {Q : VK} (h : Pr K f vs H Q) : ∃ ds o d, Reps K H ds vs o ∧ f ds = some d ∧ (∀ v, Rep K H d v [] → Q v H) ∧ ∀ v H' ov, (∀ a u, H a = some u → H' a = some u) → Rep K H' d v ov → Fresh H ov → Q v H' := by
  obtain ⟨ds, o, d, r, e, k⟩ := h
  exact ⟨ds, o, d, r, e, fun v rv => k v H [] (fun _ _ e => e) rv fresh_nil, k⟩
theorem reps2 {K : Fw} {H : Hp} {ds : List D} {x y : V} {o : List Addr} (h : Reps K H ds [x, y] o) : ∃ a b oa ob, ds = [a, b] ∧ Rep K H a x oa ∧ Rep K H b y ob := by
  cases ds with
  | nil => exact absurd h.1 (by simp)
  | cons a ds =>
    obtain ⟨v, vr, o1, o2, e, h1, h2, _⟩ := h
    cases e
    cases ds with
    | nil => exact absurd h2.1 (by simp)
    | cons b ds =>
      obtain ⟨v, vr, o3, o4, e, h3, h4, _⟩ := h2
      cases e
      cases ds with
      | nil => exact ⟨a, b, o1, o3, rfl, h1, h3⟩
      | cons c ds => obtain ⟨v, vr, _, _, e, _⟩ := h4; cases e
theorem reps1 {K : Fw} {H : Hp} {ds : List D} {x : V} {o : List Addr} (h : Reps K H ds [x] o) : ∃ a oa, ds = [a] ∧ Rep K H a x oa := by
  cases ds with
  | nil => exact absurd h.1 (by simp)
  | cons a ds =>
    obtain ⟨v, vr, o1, o2, e, h1, h2, _⟩ := h
    cases e
    cases ds with
    | nil => exact ⟨a, o1, rfl, h1⟩
    | cons c ds => obtain ⟨v, vr, _, _, e, _⟩ := h2; cases e

def fAdd : List D → Option D
  | [.int i, .int j] => some (.int (i + j))
  | [.str a, .str b] => if a.length + b.length ≤ 1000000 then some (.str (a ++ b)) else none
  | [.tup a, .tup b] => if D.imms a && D.imms b && decide (a.length + b.length ≤ 1000000) then some (.tup (a ++ b)) else none
  | [.lst a, .lst b] => if D.imms a && D.imms b && decide (a.length + b.length ≤ 1000000) then some (.lst (a ++ b)) else none
  | _ => none
theorem m_sz {n : Nat} (h : n ≤ 1000000) : n ≤ sizeLine := Nat.le_trans h (by decide)
section
variable {X : Cx}
theorem Reps.imm' {K : Fw} {H : Hp} {xs : List D} {vs : List V} {o : List Addr} (r : Reps K H xs vs o) (h : D.imms xs = true) : Reps K H xs vs [] := by
  have := r.imm h
  subst this; exact r
theorem list_cat {pins : List (Addr × Obj)} {s : Shared} {σ : L2.St} {H : Hp} {Q : VK} {xs ys : List D} {vs ws : List V} {a b : Addr} (I : Inv X pins σ H s) (ha : H a = some (.lst vs)) (hb : H b = some (.lst ws)) (ra : Reps X.F H xs vs []) (rb : Reps X.F H ys ws []) (hz : xs.length + ys.length ≤ 1000000)
    (k : ∀ v H' ov, (∀ a u, H a = some u → H' a = some u) → Rep X.F H' (.lst (xs ++ ys)) v ov → Fresh H ov → Q v H') : wpAny (model X.prog X.w) X.A (binaryOp .Add (.ref a) (.ref b)) (EP X pins σ Q) X.xe s :=
  op_cat pins s σ H (.ref a) (.ref b) (.ref a) (.ref b) Q I rfl rfl ⟨a, b, vs, ws, rfl, rfl, ha, hb, by rw [ra.length, rb.length]; exact m_sz hz, fun p hp => k _ _ [p] (new_same hp) ⟨p, vs ++ ws, [], rfl, upd_same, (ra.append rb).same (new_same hp), rfl⟩ (fresh_one hp)⟩
theorem strOk_app {a b : Str} (ha : PyData.strOk a = true) (hb : PyData.strOk b = true) : PyData.strOk (a ++ b) = true := by
  have e : a ++ b = ⟨(a.cps.toList ++ b.cps.toList).toArray⟩ := by
    show (⟨a.cps ++ b.cps⟩ : Str) = _
    congr 1
    apply Array.toList_inj.mp
    simp
  rw [e]
  exact strOk_of fun c hc => (List.mem_append.mp hc).elim (strOk_mem ha) (strOk_mem hb)
theorem o_add : OpR X (binaryOp .Add) fun x y => Pr X.F fAdd [x, y] := by
  intro pins s σ H x y v u Q I rx ry h
  obtain ⟨ds, o, d, r, e, k0, k⟩ := pr_end h
  obtain ⟨a, b, oa, ob, rfl, ra, rb⟩ := reps2 r
  unfold fAdd at e
  split at e
  · rename_i i j he
    cases he
    cases (Option.some.inj e)
    obtain ⟨rfl, _⟩ := ra
    obtain ⟨rfl, _⟩ := rb
    exact op_add pins s σ H _ _ v u Q I rx ry ⟨i, j, rfl, rfl, k0 _ ⟨rfl, rfl⟩⟩
  · rename_i i j he
    cases he
    split at e
    · rename_i hl
      cases (Option.some.inj e)
      obtain ⟨rfl, si, _⟩ := ra
      obtain ⟨rfl, sj, _⟩ := rb
      exact op_add_str pins s σ H _ _ v u Q I rx ry ⟨i, j, rfl, rfl, m_sz hl, k0 _ ⟨rfl, ⟨by rw [show (i ++ j).length = i.length + j.length from Array.size_append ..]; exact m_sz hl, strOk_app si.2 sj.2⟩, rfl⟩⟩
    · cases e
  · rename_i i j he
    cases he
    split at e
    · rename_i hc
      simp only [Bool.and_eq_true, decide_eq_true_eq] at hc
      obtain ⟨⟨h1, h2⟩, h3⟩ := hc
      cases (Option.some.inj e)
      obtain ⟨pa, va, rfl, qa, sa⟩ := ra
      obtain ⟨pb, vb, rfl, qb, sb⟩ := rb
      have sa := sa.imm' h1
      have sb := sb.imm' h2
      refine op_catA pins s σ H _ _ v u Q I rx ry ⟨pa, pb, va, vb, rfl, rfl, qa, qb, by rw [sa.length, sb.length]; exact m_sz h3, fun h => k0 _ ?_, fun h h' => k0 _ ?_, fun h h' p hp => k _ _ [] (new_same hp) ⟨p, _, rfl, .of upd_same, (sa.append sb).same (new_same hp)⟩ fresh_nil⟩
      · subst h
        have : i = [] := List.eq_nil_of_length_eq_zero (by rw [← sa.length]; rfl)
        subst this
        exact ⟨pb, vb, rfl, qb, sb⟩
      · subst h'
        have : j = [] := List.eq_nil_of_length_eq_zero (by rw [← sb.length]; rfl)
        subst this
        rw [List.append_nil]
        exact ⟨pa, va, rfl, qa, sa⟩
    · cases e
  · rename_i i j he
    cases he
    split at e
    · rename_i hc
      simp only [Bool.and_eq_true, decide_eq_true_eq] at hc
      obtain ⟨⟨h1, h2⟩, h3⟩ := hc
      cases (Option.some.inj e)
      obtain ⟨pa, va, _, rfl, qa, sa, _⟩ := ra
      obtain ⟨pb, vb, _, rfl, qb, sb, _⟩ := rb
      cases rx; cases ry
      exact list_cat I qa qb (sa.imm' h1) (sb.imm' h2) h3 k
    · cases e
  · cases e
/-- two ints -/
def fI2 (g : Int → Int → Option D) : List D → Option D
  | [.int i, .int j] => g i j
  | _ => none
theorem fI2_inv {g : Int → Int → Option D} {K : Fw} {H : Hp} {x y : V} {Q : VK} (h : Pr K (fI2 g) [x, y] H Q) : ∃ i j d, x = .int i ∧ y = .int j ∧ g i j = some d ∧ (∀ v, Rep K H d v [] → Q v H) := by
  obtain ⟨ds, o, d, r, e, k0, _⟩ := pr_end h
  obtain ⟨a, b, oa, ob, rfl, ra, rb⟩ := reps2 r
  unfold fI2 at e
  split at e
  · rename_i i j he
    cases he
    obtain ⟨rfl, _⟩ := ra
    obtain ⟨rfl, _⟩ := rb
    exact ⟨i, j, d, rfl, rfl, e, k0⟩
  · cases e
theorem o_sub : OpR X (binaryOp .Sub) fun x y => Pr X.F (fI2 fun i j => some (.int (i - j))) [x, y] := by
  intro pins s σ H x y v u Q I rx ry h
  obtain ⟨i, j, d, rfl, rfl, e, k0⟩ := fI2_inv h
  cases (Option.some.inj e)
  exact op_sub pins s σ H _ _ v u Q I rx ry ⟨i, j, rfl, rfl, k0 _ ⟨rfl, rfl⟩⟩
def fMul : List D → Option D
  | [.int i, .int j] => if -(2 ^ 64) < i ∧ i < 2 ^ 64 ∨ -(2 ^ 64) < j ∧ j < 2 ^ 64 then some (.int (i * j)) else none
  | [.lst a, .int j] => if D.imms a ∧ -1000000 ≤ j ∧ j ≤ 1000000 ∧ a.length * j.toNat ≤ 1000000 then some (.lst (List.replicate j.toNat a).flatten) else none
  | _ => none
theorem reps_flat {K : Fw} {H : Hp} {xs : List D} {vs : List V} (r : Reps K H xs vs []) : ∀ n : Nat, Reps K H (List.replicate n xs).flatten (List.replicate n vs).flatten []
  | 0 => ⟨rfl, rfl⟩
  | n + 1 => by
    rw [List.replicate_succ, List.flatten_cons, List.replicate_succ, List.flatten_cons]
    exact r.append (reps_flat r n)
theorem o_mul : OpR X (binaryOp .Mult) fun x y => Pr X.F fMul [x, y] := by
  intro pins s σ H x y v u Q I rx ry h
  obtain ⟨ds, o, d, r, e, k0, k⟩ := pr_end h
  obtain ⟨a, b, oa, ob, rfl, ra, rb⟩ := reps2 r
  unfold fMul at e
  split at e
  · rename_i i j he
    cases he
    split at e
    · rename_i hc
      cases (Option.some.inj e)
      obtain ⟨rfl, _⟩ := ra
      obtain ⟨rfl, _⟩ := rb
      exact op_mul pins s σ H _ _ v u Q I rx ry ⟨i, j, rfl, rfl, hc, k0 _ ⟨rfl, rfl⟩⟩
    · cases e
  · rename_i i j he
    cases he
    split at e
    · rename_i hc
      obtain ⟨h1, h2, h3, h4⟩ := hc
      cases (Option.some.inj e)
      obtain ⟨pa, va, _, rfl, qa, sa, _⟩ := ra
      obtain ⟨rfl, _⟩ := rb
      have sa := sa.imm' h1
      refine op_rep pins s σ H _ _ v u Q I rx ry ⟨pa, j, va, rfl, rfl, qa, by omega, by omega, by rw [sa.length]; exact m_sz h4, fun p hp => ?_⟩
      exact k _ _ [p] (new_same hp) ⟨p, _, [], rfl, upd_same, (reps_flat sa _).same (new_same hp), rfl⟩ (fresh_one hp)
    · cases e
  · cases e
theorem o_fdiv : OpR X (binaryOp .FloorDiv) fun x y => Pr X.F (fI2 fun i j => if j ≠ 0 ∧ j.natAbs < 1073741824 then some (.int (i.fdiv j)) else none) [x, y] := by
  intro pins s σ H x y v u Q I rx ry h
  obtain ⟨i, j, d, rfl, rfl, e, k0⟩ := fI2_inv h
  split at e
  · rename_i hc
    cases (Option.some.inj e)
    exact op_fdivN pins s σ H _ _ v u Q I rx ry ⟨i, j, rfl, rfl, hc, k0 _ ⟨rfl, rfl⟩⟩
  · cases e
theorem o_mod : OpR X (binaryOp .Mod) fun x y => Pr X.F (fI2 fun i j => if j ≠ 0 then some (.int (i.fmod j)) else none) [x, y] := by
  intro pins s σ H x y v u Q I rx ry h
  obtain ⟨i, j, d, rfl, rfl, e, k0⟩ := fI2_inv h
  split at e
  · rename_i hc
    cases (Option.some.inj e)
    exact op_modN pins s σ H _ _ v u Q I rx ry ⟨i, j, rfl, rfl, hc, k0 _ ⟨rfl, rfl⟩⟩
  · cases e
theorem o_pow : OpR X (binaryOp .Pow) fun x y => Pr X.F (fI2 fun i j => if 0 ≤ j ∧ j ≤ 1000000 ∧ i.natAbs < 2 ^ 64 then some (.int (i ^ j.toNat)) else none) [x, y] := by
  intro pins s σ H x y v u Q I rx ry h
  obtain ⟨i, j, d, rfl, rfl, e, k0⟩ := fI2_inv h
  split at e
  · rename_i hc
    cases (Option.some.inj e)
    exact op_pow pins s σ H _ _ v u Q I rx ry ⟨i, j, rfl, rfl, hc, k0 _ ⟨rfl, rfl⟩⟩
  · cases e
end
end Z


set_option Elab.async false
set_option linter.all false
set_option maxRecDepth 100000
/-! comparisons and built-in functions by the data -/
namespace Z
open PySem PySem.Spec PyProof.Rows L2

mutual
def toPy : D → PyData
  | .non => .none
  | .bl b => .bool b
  | .int i => .int i
  | .str x => .str x
  | .tup xs => .tuple (toPys xs)
  | .lst xs => .list (toPys xs)
  | .frz xs => .list (toPys xs)
  | .dic ks vs => .dict ((toPys ks).zip (toPys vs))
  | .obj _ _ _ => .none
def toPys : List D → List PyData
  | [] => []
  | x :: xs => toPy x :: toPys xs
end
theorem toPys_map : ∀ xs : List D, toPys xs = xs.map toPy
  | [] => rfl
  | x :: xs => by rw [toPys, toPys_map xs]; rfl
mutual
/-- how deep; a dict is deeper than anything that is compared -/
def D.dp : D → Nat
  | .tup xs => D.dps xs + 1
  | .lst xs => D.dps xs + 1
  | .frz xs => D.dps xs + 1
  | .dic _ _ => 100
  | .obj _ _ _ => 100
  | _ => 0
def D.dps : List D → Nat
  | [] => 0
  | x :: xs => max (D.dp x) (D.dps xs)
end
mutual
theorem dp_eq : ∀ d : D, D.dp d < 100 → (toPy d).depth = D.dp d
  | .non, _ => by simp [toPy, PyData.depth, D.dp]
  | .bl _, _ => by simp [toPy, PyData.depth, D.dp]
  | .int _, _ => by simp [toPy, PyData.depth, D.dp]
  | .str _, _ => by simp [toPy, PyData.depth, D.dp]
  | .tup xs, h => by simp only [D.dp] at h; simp [toPy, PyData.depth, D.dp, dps_eq xs (by omega)]
  | .lst xs, h => by simp only [D.dp] at h; simp [toPy, PyData.depth, D.dp, dps_eq xs (by omega)]
  | .frz xs, h => by simp only [D.dp] at h; simp [toPy, PyData.depth, D.dp, dps_eq xs (by omega)]
  | .dic _ _, h => by simp [D.dp] at h
  | .obj _ _ _, h => by simp [D.dp] at h
theorem dps_eq : ∀ ds : List D, D.dps ds < 100 → PyData.depthAll (toPys ds) = D.dps ds
  | [], _ => by simp [toPys, PyData.depthAll, D.dps]
  | x :: xs, h => by simp only [D.dps] at h; simp [toPys, PyData.depthAll, D.dps, dp_eq x (by omega), dps_eq xs (by omega)]
end
def dep (d : D) : Bool := decide (D.dp d ≤ 60)
theorem dep_lt {d : D} (h : dep d = true) : D.dp d < 100 := by have := of_decide_eq_true h; omega
theorem dep_le {d : D} (h : dep d = true) : (toPy d).depth ≤ 60 := by have := of_decide_eq_true h; rw [dp_eq d (dep_lt h)]; exact this
def eqD (a b : D) : Bool := PyData.eqv (toPy a) (toPy b)
section
variable {K : Fw} {κ : Kx} {H : Hp}
mutual
theorem Rep.dp : ∀ {d : D} {v : V} {o : List Addr}, Rep K H d v o → D.dp d < 100 → Dp K H v (toPy d)
  | .non, _, _, h, _ => by rw [h.1]; exact .non
  | .bl b, _, _, h, _ => by rw [h.1]; exact .bl b
  | .int b, _, _, h, _ => by rw [h.1]; exact .int b
  | .str b, _, _, h, _ => by rw [h.1]; exact .str b
  | .tup xs, _, _, h, g => by
    obtain ⟨a, vs, rfl, hq, r⟩ := h
    exact .tup hq (Reps.dp r (by simp only [D.dp] at g; omega))
  | .lst xs, _, _, h, g => by
    obtain ⟨a, vs, o', rfl, hq, r, _⟩ := h
    exact .lst (.of hq) (Reps.dp r (by simp only [D.dp] at g; omega))
  | .frz xs, _, _, h, g => by
    obtain ⟨a, vs, rfl, hq, r, _⟩ := h
    exact .lst hq.sq (Reps.dp r (by simp only [D.dp] at g; omega))
  | .dic _ _, _, _, h, g => by simp [D.dp] at g
  | .obj _ _ _, _, _, h, g => by simp [D.dp] at g
theorem Reps.dp : ∀ {d : List D} {v : List V} {o : List Addr}, Reps K H d v o → D.dps d < 100 → DpAll K H v (toPys d)
  | [], _, _, h, _ => by rw [h.1]; exact .nil
  | x :: xs, _, _, h, g => by
    obtain ⟨v, vr, o1, o2, rfl, h1, h2, _⟩ := h
    exact .cons (Rep.dp h1 (by simp only [D.dps] at g; omega)) (Reps.dp h2 (by simp only [D.dps] at g; omega))
end
mutual
theorem Rep.lay : ∀ {d : D} {v : V} {o : List Addr}, Rep K H d v o → D.dp d < 100 → (toPy d).canLay0 = true
  | .non, _, _, h, _ => by simp [toPy, PyData.canLay0]
  | .bl b, _, _, h, _ => by simp [toPy, PyData.canLay0]
  | .int b, _, _, h, _ => by simp [toPy, PyData.canLay0]
  | .str b, _, _, h, _ => by simp only [toPy, PyData.canLay0]; exact h.2.1.2
  | .tup xs, _, _, h, g => by
    obtain ⟨a, vs, rfl, hq, r⟩ := h
    simp only [toPy, PyData.canLay0]; exact Reps.lay r (by simp only [D.dp] at g; omega)
  | .lst xs, _, _, h, g => by
    obtain ⟨a, vs, o', rfl, hq, r, _⟩ := h
    simp only [toPy, PyData.canLay0]; exact Reps.lay r (by simp only [D.dp] at g; omega)
  | .frz xs, _, _, h, g => by
    obtain ⟨a, vs, rfl, hq, r, _⟩ := h
    simp only [toPy, PyData.canLay0]; exact Reps.lay r (by simp only [D.dp] at g; omega)
  | .dic _ _, _, _, h, g => by simp [D.dp] at g
  | .obj _ _ _, _, _, h, g => by simp [D.dp] at g
theorem Reps.lay : ∀ {d : List D} {v : List V} {o : List Addr}, Reps K H d v o → D.dps d < 100 → PyData.canLayAll0 (toPys d) = true
  | [], _, _, h, _ => by simp [toPys, PyData.canLayAll0]
  | x :: xs, _, _, h, g => by
    obtain ⟨v, vr, o1, o2, rfl, h1, h2, _⟩ := h
    simp only [toPys, PyData.canLayAll0, Bool.and_eq_true]
    exact ⟨Rep.lay h1 (by simp only [D.dps] at g; omega), Reps.lay h2 (by simp only [D.dps] at g; omega)⟩
end
theorem Rep.shaped {d : D} {v : V} {o : List Addr} (r : Rep K H d v o) (h : dep d = true) : SeqAt.shaped (toPy d) = true := by
  show ((toPy d).canLay0 && decide ((toPy d).depth ≤ 64)) = true
  rw [Bool.and_eq_true]
  have := dep_le h
  exact ⟨r.lay (dep_lt h), decide_eq_true (by omega)⟩
theorem ents_vals {w : World} : ∀ {ks : List D} {kvs vvs : List V} {es : List DictEntry}, Ents w ks kvs vvs es → Vals kvs (es.map (·.key)) ∧ Vals vvs (es.map (·.val))
  | [], [], [], [], _ => ⟨.nil, .nil⟩
  | _ :: _, _ :: _, _ :: _, _ :: _, h => ⟨.cons h.2.1 (ents_vals h.2.2.2).1, .cons h.2.2.1 (ents_vals h.2.2.2).2⟩
  | [], [], [], _ :: _, h => h.elim
  | [], [], _ :: _, _, h => h.elim
  | [], _ :: _, _, _, h => h.elim
  | _ :: _, [], _, _, h => h.elim
  | _ :: _, _ :: _, [], _, h => h.elim
  | _ :: _, _ :: _, _ :: _, [], h => h.elim
theorem zip_both {α β : Type} : ∀ (xs : List α) (ys : List β), xs.length = ys.length → (xs.zip ys).map (·.1) = xs ∧ (xs.zip ys).map (·.2) = ys
  | [], [], _ => ⟨rfl, rfl⟩
  | x :: xs, y :: ys, h => by
    obtain ⟨h1, h2⟩ := zip_both xs ys (by simpa using h)
    exact ⟨by simp [h1], by simp [h2]⟩
  | [], _ :: _, h => by simp at h
  | _ :: _, [], h => by simp at h
theorem toPys_length : ∀ xs : List D, (toPys xs).length = xs.length := fun xs => by rw [toPys_map, List.length_map]
theorem ents_length {w : World} : ∀ {ks : List D} {kvs vvs : List V} {es : List DictEntry}, Ents w ks kvs vvs es → kvs.length = ks.length ∧ vvs.length = ks.length ∧ es.length = ks.length
  | [], [], [], [], _ => ⟨rfl, rfl, rfl⟩
  | _ :: _, _ :: _, _ :: _, _ :: _, h => by
    obtain ⟨h1, h2, h3⟩ := ents_length h.2.2.2
    simp [h1, h2, h3]
  | [], [], [], _ :: _, h => h.elim
  | [], [], _ :: _, _, h => h.elim
  | [], _ :: _, _, _, h => h.elim
  | _ :: _, [], _, _, h => h.elim
  | _ :: _, _ :: _, [], _, h => h.elim
  | _ :: _, _ :: _, _ :: _, [], h => h.elim
mutual
/-- no object in it -/
def D.ro : D → Bool
  | .tup xs => D.ros xs
  | .lst xs => D.ros xs
  | .frz xs => D.ros xs
  | .dic ks vs => D.ros ks && D.ros vs
  | .obj _ _ _ => false
  | _ => true
def D.ros : List D → Bool
  | [] => true
  | x :: xs => D.ro x && D.ros xs
end
mutual
theorem dp_ro : ∀ d : D, D.dp d < 100 → d.ro = true
  | .non, _ => rfl
  | .bl _, _ => rfl
  | .int _, _ => rfl
  | .str _, _ => rfl
  | .tup xs, h => by simp only [D.dp] at h; exact dps_ros xs (by omega)
  | .lst xs, h => by simp only [D.dp] at h; exact dps_ros xs (by omega)
  | .frz xs, h => by simp only [D.dp] at h; exact dps_ros xs (by omega)
  | .dic _ _, h => by simp [D.dp] at h
  | .obj _ _ _, h => by simp [D.dp] at h
theorem dps_ros : ∀ ds : List D, D.dps ds < 100 → D.ros ds = true
  | [], _ => rfl
  | x :: xs, h => by
    simp only [D.dps] at h
    simp only [D.ros, Bool.and_eq_true]
    exact ⟨dp_ro x (by omega), dps_ros xs (by omega)⟩
end
theorem dep_ro {d : D} (h : dep d = true) : d.ro = true := dp_ro d (dep_lt h)
mutual
theorem Rep.ro : ∀ {d : D} {v : V}, Rep K H d v [] → d.ro = true
  | .non, _, _ => rfl
  | .bl _, _, _ => rfl
  | .int _, _, _ => rfl
  | .str _, _, _ => rfl
  | .tup xs, _, h => by
    obtain ⟨a, vs, rfl, hq, r⟩ := h
    exact Reps.ro r
  | .lst xs, _, h => by
    obtain ⟨a, vs, o', rfl, hq, r, e⟩ := h
    cases e
  | .frz xs, _, h => by
    obtain ⟨a, vs, rfl, hq, r, _⟩ := h
    exact Reps.ro r
  | .dic _ _, _, h => by
    obtain ⟨a, kvs, vvs, es, rfl, hq, hd, hs, hn, rk, rv, en, e⟩ := h
    cases e
  | .obj _ _ _, _, h => by
    obtain ⟨a, dx, vs, o', rfl, hq, hl, r, e⟩ := h
    cases e
theorem Reps.ro : ∀ {d : List D} {v : List V}, Reps K H d v [] → D.ros d = true
  | [], _, _ => rfl
  | x :: xs, _, h => by
    obtain ⟨v, vr, o1, o2, rfl, h1, h2, e⟩ := h
    obtain ⟨rfl, rfl⟩ := List.append_eq_nil_iff.mp e.symm
    simp only [D.ros, Bool.and_eq_true]
    exact ⟨Rep.ro h1, Reps.ro h2⟩
end
theorem Rep.roI {d : D} {v : V} {o : List Addr} (r : Rep K H d v o) (h : d.imm = true) : d.ro = true := by
  have := r.imm h
  subst this
  exact r.ro
mutual
theorem Rep.reads {X : Cx} {pins : List (Addr × Obj)} {s : Shared} {σ : L2.St} {H : Hp} (I : Inv X pins σ H s) : ∀ {d : D} {v : V} {u : Value} {o : List Addr}, Rep X.F H d v o → RelV v u → d.ro = true → ∃ as, Reads s.heap u (toPy d) as
  | .non, _, _, _, h, r, _ => by obtain ⟨rfl, _⟩ := h; cases r; exact ⟨_, Reads.none⟩
  | .bl b, _, _, _, h, r, _ => by obtain ⟨rfl, _⟩ := h; cases r; exact ⟨_, Reads.bool b⟩
  | .int b, _, u, _, h, r, _ => by obtain ⟨rfl, _⟩ := h; obtain ⟨t, rfl⟩ := (show ∃ t, u = Value.int _ t from r); exact ⟨_, Reads.int b t⟩
  | .str b, _, u, _, h, r, _ => by obtain ⟨rfl, _⟩ := h; obtain ⟨t, rfl⟩ := (show ∃ t, u = Value.str _ t from r); exact ⟨_, Reads.str b t⟩
  | .tup xs, _, _, _, h, r, w => by
    obtain ⟨a, vs, rfl, hq, rs⟩ := h
    cases r
    obtain ⟨its, rv, ⟨ob, e1, e2, n, e3⟩, _⟩ := I.tuple hq
    obtain ⟨as, g⟩ := Reps.reads I rs rv w
    exact ⟨_, Reads.tuple e1 e2 e3 (by simpa using g)⟩
  | .lst xs, _, _, _, h, r, w => by
    obtain ⟨a, vs, o', rfl, hq, rs, _⟩ := h
    cases r
    obtain ⟨its, rv, ⟨ob, n, e1, e2, _, e3⟩, _⟩ := I.list (SqL.of hq)
    obtain ⟨as, g⟩ := Reps.reads I rs rv w
    exact ⟨_, Reads.list e1 e2 e3 (by simpa using g)⟩
  | .frz xs, _, _, _, h, r, w => by
    obtain ⟨a, vs, rfl, hq, rs, _⟩ := h
    cases r
    obtain ⟨its, rv, ⟨ob, n, e1, e2, _, e3⟩, _⟩ := I.list hq.sq
    obtain ⟨as, g⟩ := Reps.reads I rs rv w
    exact ⟨_, Reads.list e1 e2 e3 (by simpa using g)⟩
  | .dic ks vs, _, _, _, h, r, w => by
    have w := Bool.and_eq_true_iff.mp (show (D.ros ks && D.ros vs) = true from w)
    obtain ⟨a, kvs, vvs, es, rfl, hq, hd, hs, hn, rk, rv, en, rfl⟩ := h
    cases r
    obtain ⟨ob, ep, e1, e2, e3⟩ := (I.hok a _ hq).1
    obtain ⟨v1, v2⟩ := ents_vals en
    obtain ⟨as, g1⟩ := Reps.reads I rk v1 w.1
    obtain ⟨bs, g2⟩ := Reps.reads I rv v2 w.2
    obtain ⟨l1, l2, _⟩ := ents_length en
    have hl : (toPys ks).length = (toPys vs).length := by rw [toPys_length, toPys_length, ← rv.length]; exact l2.symm
    obtain ⟨z1, z2⟩ := zip_both _ _ hl
    exact ⟨_, Reads.dict e1 e2.1 e3 (by rw [z1]; exact g1) (by rw [z2]; exact g2)⟩
  | .obj _ _ _, _, _, _, _, _, w => nomatch w
theorem Reps.reads {X : Cx} {pins : List (Addr × Obj)} {s : Shared} {σ : L2.St} {H : Hp} (I : Inv X pins σ H s) : ∀ {ds : List D} {vs : List V} {us : List Value} {o : List Addr}, Reps X.F H ds vs o → Vals vs us → D.ros ds = true → ∃ as, ReadsAll s.heap us (toPys ds) as
  | [], _, _, _, h, r, _ => by rw [h.1] at r; cases r; exact ⟨_, ReadsAll.nil⟩
  | x :: xs, _, _, _, h, r, w => by
    have w := Bool.and_eq_true_iff.mp (show (D.ro x && D.ros xs) = true from w)
    obtain ⟨v, vr, o1, o2, rfl, h1, h2, _⟩ := h
    cases r with
    | cons r1 r2 =>
      obtain ⟨as, g1⟩ := Rep.reads I h1 r1 w.1
      obtain ⟨bs, g2⟩ := Reps.reads I h2 r2 w.2
      exact ⟨_, ReadsAll.cons g1 g2⟩
end
end

def fEq : List D → Option D
  | [a, b] => if dep a && dep b then some (.bl (eqD a b)) else none
  | _ => none
def fNe : List D → Option D
  | [a, b] => if dep a && dep b then some (.bl (!eqD a b)) else none
  | _ => none
def isNone : D → Bool
  | .non => true
  | _ => false
def fIs : List D → Option D
  | [a, .non] => some (.bl (isNone a))
  | [.bl a, .bl b] => some (.bl (decide (a = b)))
  | _ => none
def anyEq (xs : List D) (x : D) : Bool := xs.any fun y => eqD y x
def fIn : List D → Option D
  | [x, .lst xs] => if dep x && dep (.lst xs) then some (.bl (anyEq xs x)) else none
  | [x, .frz xs] => if dep x && dep (.frz xs) then some (.bl (anyEq xs x)) else none
  | [x, .tup xs] => if dep x && dep (.tup xs) then some (.bl (anyEq xs x)) else none
  | [.str i, .str j] => some (.bl (!(Builtin.Str.occurrences j i 0 j.length 1).isEmpty))
  | _ => none
def fNotIn : List D → Option D
  | [x, .lst xs] => if dep x && dep (.lst xs) then some (.bl (!anyEq xs x)) else none
  | [x, .frz xs] => if dep x && dep (.frz xs) then some (.bl (!anyEq xs x)) else none
  | [x, .tup xs] => if dep x && dep (.tup xs) then some (.bl (!anyEq xs x)) else none
  | [.str i, .str j] => some (.bl (!(!(Builtin.Str.occurrences j i 0 j.length 1).isEmpty)))
  | _ => none
/-- can be compared by < -/
def cmpOk (a b : D) : Bool := PySem.W.alike (toPy a) (toPy b) && dep a && dep b && match a with
  | .int _ => true
  | .str _ => true
  | .bl _ => true
  | .tup _ => true
  | .lst _ => true
  | .frz _ => true
  | _ => false
def ltD (a b : D) : Bool := PySem.W.dataLt (toPy a) (toPy b)
def fCmp (g : D → D → Bool) : List D → Option D
  | [a, b] => if cmpOk a b then some (.bl (g a b)) else none
  | _ => none
section
variable {X : Cx}
theorem any_toPys (xs : List D) (x : D) : (toPys xs).any (fun z => PyData.eqv z (toPy x)) = anyEq xs x := by
  rw [toPys_map, List.any_map]; rfl
theorem o_eq (hu : X.A.units + 64 < cLine) : OpR X (compareOp .Eq) fun x y => Pr X.F fEq [x, y] := by
  intro pins s σ H x y v u Q I rx ry h
  obtain ⟨ds, o, d, r, e, k0, k⟩ := pr_end h
  obtain ⟨a, b, oa, ob, rfl, ra, rb⟩ := reps2 r
  simp only [fEq] at e
  split at e
  · rename_i hc
    simp only [Bool.and_eq_true] at hc
    cases (Option.some.inj e)
    exact op_eqD hu pins s σ H x y v u Q I rx ry ⟨_, _, ra.dp (dep_lt hc.1), rb.dp (dep_lt hc.2), ra.shaped hc.1, rb.shaped hc.2, k0 _ ⟨rfl, rfl⟩⟩
  · cases e
theorem o_ne (hu : X.A.units + 64 < cLine) : OpR X (compareOp .NotEq) fun x y => Pr X.F fNe [x, y] := by
  intro pins s σ H x y v u Q I rx ry h
  obtain ⟨ds, o, d, r, e, k0, k⟩ := pr_end h
  obtain ⟨a, b, oa, ob, rfl, ra, rb⟩ := reps2 r
  simp only [fNe] at e
  split at e
  · rename_i hc
    simp only [Bool.and_eq_true] at hc
    cases (Option.some.inj e)
    exact op_neD hu pins s σ H x y v u Q I rx ry ⟨_, _, ra.dp (dep_lt hc.1), rb.dp (dep_lt hc.2), ra.shaped hc.1, rb.shaped hc.2, k0 _ ⟨rfl, rfl⟩⟩
  · cases e
theorem rep_non {K : Fw} {H : Hp} {a : D} {x : V} {o : List Addr} (r : Rep K H a x o) : isNone a = decide (x = .non) := by
  cases a with
  | non => rw [r.1]; rfl
  | bl _ => rw [r.1]; rfl
  | int _ => rw [r.1]; rfl
  | str _ => rw [r.1]; rfl
  | tup _ => obtain ⟨_, _, rfl, _⟩ := r; rfl
  | lst _ => obtain ⟨_, _, _, rfl, _⟩ := r; rfl
  | frz _ => obtain ⟨_, _, rfl, _⟩ := r; rfl
  | dic _ _ => obtain ⟨_, _, _, _, rfl, _⟩ := r; rfl
  | obj _ _ _ => obtain ⟨_, _, _, _, rfl, _⟩ := r; rfl
theorem o_is : OpR X (compareOp .Is) fun x y => Pr X.F fIs [x, y] := by
  intro pins s σ H x y v u Q I rx ry h
  obtain ⟨ds, o, d, r, e, k0, k⟩ := pr_end h
  obtain ⟨a, b, oa, ob, rfl, ra, rb⟩ := reps2 r
  unfold fIs at e
  split at e
  · rename_i a' he
    cases he
    cases (Option.some.inj e)
    obtain ⟨rfl, _⟩ := rb
    exact op_isN pins s σ H x _ v u Q I rx ry ⟨rfl, by rw [← rep_non ra]; exact k0 _ ⟨rfl, rfl⟩⟩
  · rename_i a' b' he
    cases he
    cases (Option.some.inj e)
    obtain ⟨rfl, _⟩ := ra
    obtain ⟨rfl, _⟩ := rb
    exact op_is_bl pins s σ H _ _ v u Q I rx ry ⟨a', b', rfl, rfl, k0 _ ⟨rfl, rfl⟩⟩
  · cases e
theorem o_in (hu : X.A.units + 65 < cLine) : OpR X (compareOp .In) fun x y => Pr X.F fIn [x, y] := by
  intro pins s σ H x y v u Q I rx ry h
  obtain ⟨ds, o, d, r, e, k0, k⟩ := pr_end h
  obtain ⟨a, b, oa, ob, rfl, ra, rb⟩ := reps2 r
  have lists : ∀ (xs : List D), toPy b = .list (toPys xs) → dep a = true → dep b = true → d = .bl (anyEq xs a) → wpAny (model X.prog X.w) X.A (compareOp .In v u) (EP X pins σ Q) X.xe s := fun xs hb h1 h2 hd => by
    subst hd
    have rb2 := rb.dp (dep_lt h2)
    have sb := rb.shaped h2
    rw [hb] at rb2 sb
    exact op_inD hu pins s σ H x y v u Q I rx ry ⟨_, _, ra.dp (dep_lt h1), rb2, ra.shaped h1, sb, by rw [any_toPys]; exact k0 _ ⟨rfl, rfl⟩⟩
  unfold fIn at e
  split at e
  · rename_i a' xs he
    cases he
    split at e
    · rename_i hc
      simp only [Bool.and_eq_true] at hc
      exact lists xs rfl hc.1 hc.2 (Option.some.inj e).symm
    · cases e
  · rename_i a' xs he
    cases he
    split at e
    · rename_i hc
      simp only [Bool.and_eq_true] at hc
      exact lists xs rfl hc.1 hc.2 (Option.some.inj e).symm
    · cases e
  · rename_i a' xs he
    cases he
    split at e
    · rename_i hc
      simp only [Bool.and_eq_true] at hc
      cases (Option.some.inj e)
      obtain ⟨as, h1⟩ := Rep.reads I ra rx (dep_ro hc.1)
      obtain ⟨bs, h2⟩ := Rep.reads I rb ry (dep_ro hc.2)
      have hl := rb.lay (dep_lt hc.2)
      have hd2 := dep_le hc.1
      simp only [toPy] at h2 hl
      refine SeqAt.in_tuple_reads h2 h1 (by simpa [PyData.canLay0] using hl) (ra.lay (dep_lt hc.1)) (by have := Nat.min_le_right (PyData.depthAll (toPys xs)) (toPy a).depth; omega) ?_
      rw [any_toPys]
      exact ⟨.bl _, H, I, rfl, k0 _ ⟨rfl, rfl⟩⟩
    · cases e
  · rename_i i j he
    cases he
    cases (Option.some.inj e)
    obtain ⟨rfl, _⟩ := ra
    obtain ⟨rfl, _⟩ := rb
    exact op_in_str pins s σ H _ _ v u Q I rx ry ⟨i, j, rfl, rfl, k0 _ ⟨rfl, rfl⟩⟩
  · cases e
theorem o_notIn (hu : X.A.units + 65 < cLine) : OpR X (compareOp .NotIn) fun x y => Pr X.F fNotIn [x, y] := by
  intro pins s σ H x y v u Q I rx ry h
  obtain ⟨ds, o, d, r, e, k0, k⟩ := pr_end h
  obtain ⟨a, b, oa, ob, rfl, ra, rb⟩ := reps2 r
  have lists : ∀ (xs : List D), toPy b = .list (toPys xs) → dep a = true → dep b = true → d = .bl (!anyEq xs a) → wpAny (model X.prog X.w) X.A (compareOp .NotIn v u) (EP X pins σ Q) X.xe s := fun xs hb h1 h2 hd => by
    subst hd
    have rb2 := rb.dp (dep_lt h2)
    have sb := rb.shaped h2
    rw [hb] at rb2 sb
    exact op_notInD hu pins s σ H x y v u Q I rx ry ⟨_, _, ra.dp (dep_lt h1), rb2, ra.shaped h1, sb, by rw [any_toPys]; exact k0 _ ⟨rfl, rfl⟩⟩
  unfold fNotIn at e
  split at e
  · rename_i a' xs he
    cases he
    split at e
    · rename_i hc
      simp only [Bool.and_eq_true] at hc
      exact lists xs rfl hc.1 hc.2 (Option.some.inj e).symm
    · cases e
  · rename_i a' xs he
    cases he
    split at e
    · rename_i hc
      simp only [Bool.and_eq_true] at hc
      exact lists xs rfl hc.1 hc.2 (Option.some.inj e).symm
    · cases e
  · rename_i a' xs he
    cases he
    split at e
    · rename_i hc
      simp only [Bool.and_eq_true] at hc
      cases (Option.some.inj e)
      obtain ⟨as, h1⟩ := Rep.reads I ra rx (dep_ro hc.1)
      obtain ⟨bs, h2⟩ := Rep.reads I rb ry (dep_ro hc.2)
      have hl := rb.lay (dep_lt hc.2)
      have hd2 := dep_le hc.1
      simp only [toPy] at h2 hl
      refine SeqAt.notIn_tuple_reads h2 h1 (by simpa [PyData.canLay0] using hl) (ra.lay (dep_lt hc.1)) (by have := Nat.min_le_right (PyData.depthAll (toPys xs)) (toPy a).depth; omega) ?_
      rw [any_toPys]
      exact ⟨.bl _, H, I, rfl, k0 _ ⟨rfl, rfl⟩⟩
    · cases e
  · rename_i i j he
    cases he
    cases (Option.some.inj e)
    obtain ⟨rfl, _⟩ := ra
    obtain ⟨rfl, _⟩ := rb
    exact op_notin_str pins s σ H _ _ v u Q I rx ry ⟨i, j, rfl, rfl, k0 _ ⟨rfl, rfl⟩⟩
  · cases e
theorem cmp_inv {K : Fw} {g : D → D → Bool} {H : Hp} {x y : V} {Q : VK} (h : Pr K (fCmp g) [x, y] H Q) : ∃ a b oa ob, Rep K H a x oa ∧ Rep K H b y ob ∧ PySem.W.alike (toPy a) (toPy b) = true ∧ toPy a ≠ .none ∧ (dep a = true ∧ dep b = true) ∧ Q (.bl (g a b)) H := by
  obtain ⟨ds, o, d, r, e, k0, k⟩ := pr_end h
  obtain ⟨a, b, oa, ob, rfl, ra, rb⟩ := reps2 r
  simp only [fCmp] at e
  split at e
  · rename_i hc
    cases (Option.some.inj e)
    simp only [cmpOk, Bool.and_eq_true] at hc
    obtain ⟨⟨⟨h1, h2⟩, h3⟩, h4⟩ := hc
    refine ⟨a, b, oa, ob, ra, rb, h1, ?_, ⟨h2, h3⟩, k0 _ ⟨rfl, rfl⟩⟩
    cases a <;> simp_all [toPy]
  · cases e
theorem o_lt (hu : X.A.units + 64 < cLine) : OpR X (compareOp .Lt) fun x y => Pr X.F (fCmp fun a b => ltD a b) [x, y] := by
  intro pins s σ H x y v u Q I rx ry h
  obtain ⟨a, b, oa, ob, ra, rb, h1, h2, h3, q⟩ := cmp_inv h
  obtain ⟨as, g1⟩ := Rep.reads I ra rx (dep_ro h3.1)
  obtain ⟨bs, g2⟩ := Rep.reads I rb ry (dep_ro h3.2)
  have h5 := dep_le h3.1
  exact PySem.W.lt_data g1 g2 h1 h2 (by omega) ⟨.bl _, H, I, rfl, q⟩
theorem o_gt (hu : X.A.units + 64 < cLine) : OpR X (compareOp .Gt) fun x y => Pr X.F (fCmp fun a b => ltD b a) [x, y] := by
  intro pins s σ H x y v u Q I rx ry h
  obtain ⟨a, b, oa, ob, ra, rb, h1, h2, h3, q⟩ := cmp_inv h
  obtain ⟨as, g1⟩ := Rep.reads I ra rx (dep_ro h3.1)
  obtain ⟨bs, g2⟩ := Rep.reads I rb ry (dep_ro h3.2)
  have h5 := dep_le h3.1
  exact PySem.W.gt_data g1 g2 h1 h2 (by omega) ⟨.bl _, H, I, rfl, q⟩
theorem o_ge (hu : X.A.units + 64 < cLine) : OpR X (compareOp .GtE) fun x y => Pr X.F (fCmp fun a b => !ltD a b) [x, y] := by
  intro pins s σ H x y v u Q I rx ry h
  obtain ⟨a, b, oa, ob, ra, rb, h1, h2, h3, q⟩ := cmp_inv h
  obtain ⟨as, g1⟩ := Rep.reads I ra rx (dep_ro h3.1)
  obtain ⟨bs, g2⟩ := Rep.reads I rb ry (dep_ro h3.2)
  have h5 := dep_le h3.1
  exact PySem.W.ge_data g1 g2 h1 h2 (by omega) ⟨.bl _, H, I, rfl, q⟩

/-! ### built-in functions -/
def lenD : D → Option Nat
  | .str x => some x.length
  | .tup xs => some xs.length
  | .lst xs => some xs.length
  | .frz xs => some xs.length
  | _ => none
def fLen : List D → Option D
  | [a] => match lenD a with
    | some n => some (.int n)
    | none => none
  | _ => none
theorem one_inv {K : Fw} {f : List D → Option D} {vs : List V} {H : Hp} {Q : VK} (h : Pr K f vs H Q) (h1 : ∀ ds d, f ds = some d → ∃ a, ds = [a]) : ∃ a x oa d, vs = [x] ∧ Rep K H a x oa ∧ f [a] = some d ∧ (∀ v, Rep K H d v [] → Q v H) ∧ ∀ v H' ov, (∀ a u, H a = some u → H' a = some u) → Rep K H' d v ov → Fresh H ov → Q v H' := by
  obtain ⟨ds, o, d, r, e, k0, k⟩ := pr_end h
  obtain ⟨a, rfl⟩ := h1 ds d e
  obtain ⟨v, vr, o1, o2, rfl, ra, ⟨rfl, _⟩, _⟩ := r
  exact ⟨a, v, o1, d, rfl, ra, e, k0, k⟩
theorem c_len : CallR X (.builtin "len") (Pr X.F fLen) := by
  intro pins s σ H xs us Q I r h
  obtain ⟨a, x, oa, d, rfl, ra, e, k0, k⟩ := one_inv h fun ds d e => by
    cases ds with
    | nil => simp [fLen] at e
    | cons a ds => cases ds with
      | nil => exact ⟨a, rfl⟩
      | cons b ds => simp [fLen] at e
  simp only [fLen] at e
  cases hl : lenD a with
  | none => rw [hl] at e; simp at e
  | some n =>
    rw [hl] at e
    cases (Option.some.inj e)
    refine call_len pins s σ H _ us Q I r ⟨x, n, rfl, ?_, k0 _ ⟨rfl, rfl⟩⟩
    cases a <;> simp only [lenD, reduceCtorEq, Option.some.injEq] at hl
    · obtain ⟨rfl, hs, _⟩ := ra
      exact ⟨hs.1, hl.symm⟩
    · obtain ⟨p, vs, rfl, hq, rs⟩ := ra
      exact .inr ⟨vs, hq, by rw [rs.length]; exact hl.symm⟩
    · obtain ⟨p, vs, _, rfl, hq, rs, _⟩ := ra
      exact .inl ⟨vs, .of hq, by rw [rs.length]; exact hl.symm⟩
    · obtain ⟨p, vs, rfl, hq, rs, _⟩ := ra
      exact .inl ⟨vs, hq.sq, by rw [rs.length]; exact hl.symm⟩
def fInt : List D → Option D
  | [.int i] => some (.int i)
  | [.bl b] => some (.int (if b then 1 else 0))
  | _ => none
theorem c_int : CallR X (.type "int") (Pr X.F fInt) := by
  intro pins s σ H xs us Q I r h
  obtain ⟨ds, o, d, rr, e, k0, k⟩ := pr_end h
  unfold fInt at e
  split at e
  · cases (Option.some.inj e)
    obtain ⟨v, vr, o1, o2, rfl, ⟨rfl, _⟩, ⟨rfl, _⟩, _⟩ := rr
    exact call_int1 pins s σ H _ us Q I r (.inl ⟨_, rfl, k0 _ ⟨rfl, rfl⟩⟩)
  · cases (Option.some.inj e)
    obtain ⟨v, vr, o1, o2, rfl, ⟨rfl, _⟩, ⟨rfl, _⟩, _⟩ := rr
    exact call_int1 pins s σ H _ us Q I r (.inr ⟨_, rfl, k0 _ ⟨rfl, rfl⟩⟩)
  · cases e
def fTuple : List D → Option D
  | [.lst xs] => if D.imms xs then some (.tup xs) else none
  | [.frz xs] => some (.tup xs)
  | [.tup xs] => if D.imms xs then some (.tup xs) else none
  | _ => none
theorem c_tuple : CallR X (.type "tuple") (Pr X.F fTuple) := by
  intro pins s σ H xs us Q I r h
  obtain ⟨ds, o, d, rr, e, k0, k⟩ := pr_end h
  have lists : ∀ (a : Addr) (vs : List V) (ys : List D), xs = [.ref a] → SqL X.K H a vs → Reps X.F H ys vs [] → d = .tup ys → wpAny (model X.prog X.w) X.A (call (.type "tuple") us) (EP X pins σ Q) X.xe s := fun a vs ys hx hq rs hd => by
    subst hx hd
    exact call_tuple_of pins s σ H _ us Q I r ⟨a, vs, rfl, .inl ⟨hq, fun l hl => k _ _ [] (new_same hl) ⟨l, vs, rfl, .of upd_same, rs.same (new_same hl)⟩ fresh_nil⟩⟩
  unfold fTuple at e
  split at e
  · rename_i ys
    split at e
    · rename_i hi
      obtain ⟨v, vr, o1, o2, rfl, ⟨a, vs, o', rfl, hq, rs, _⟩, ⟨rfl, _⟩, _⟩ := rr
      exact lists a vs ys rfl (.of hq) (rs.imm' hi) (Option.some.inj e).symm
    · cases e
  · rename_i ys
    obtain ⟨v, vr, o1, o2, rfl, ⟨a, vs, rfl, hq, rs, _⟩, ⟨rfl, _⟩, _⟩ := rr
    exact lists a vs ys rfl hq.sq rs (Option.some.inj e).symm
  · rename_i ys
    split at e
    · rename_i hi
      obtain ⟨v, vr, o1, o2, rfl, ⟨a, vs, rfl, hq, rs⟩, ⟨rfl, _⟩, _⟩ := rr
      cases (Option.some.inj e)
      exact call_tuple_of pins s σ H _ us Q I r ⟨a, vs, rfl, .inr ⟨hq, k0 _ ⟨a, vs, rfl, hq, rs.imm' hi⟩⟩⟩
    · cases e
  · cases e
end
end Z


set_option Elab.async false
set_option linter.all false
set_option maxRecDepth 100000
/-! isinstance; least and greatest; sums -/
namespace Z
open PySem PySem.Spec PyProof.Rows L2

def fIsa (g : PyData → Bool) : List D → Option D
  | [.obj _ _ _] => none
  | [a] => some (.bl (g (toPy a)))
  | _ => none
section
variable {X : Cx} {e : Expr} {q : Bool} {m : Den} {p p2 pos : Pos}
/-- what isinstance is asked of -/
structure IsaT (T : String) (g : PyData → Bool) : Prop where
  non : ∀ {prog : Program} {w : World} {A : Around} {E Q : Value → Shared → Prop} {s : Shared}, (∀ tk, s.toks ≤ tk → Q (.bool (g .none)) { s with toks := tk }) → wpAny (model prog w) A (call (.builtin "isinstance") [.none, .type T]) Q E s
  bl : ∀ {prog : Program} {w : World} {A : Around} {E Q : Value → Shared → Prop} {s : Shared} {b : Bool}, (∀ tk, s.toks ≤ tk → Q (.bool (g (.bool b))) { s with toks := tk }) → wpAny (model prog w) A (call (.builtin "isinstance") [.bool b, .type T]) Q E s
  int : ∀ {prog : Program} {w : World} {A : Around} {E Q : Value → Shared → Prop} {s : Shared} {i : Int} {t : Nat}, (∀ tk, s.toks ≤ tk → Q (.bool (g (.int i))) { s with toks := tk }) → wpAny (model prog w) A (call (.builtin "isinstance") [.int i t, .type T]) Q E s
  str : ∀ {prog : Program} {w : World} {A : Around} {E Q : Value → Shared → Prop} {s : Shared} {x : Str} {t : Nat}, (∀ tk, s.toks ≤ tk → Q (.bool (g (.str x))) { s with toks := tk }) → wpAny (model prog w) A (call (.builtin "isinstance") [.str x t, .type T]) Q E s
  lst : ∀ {prog : Program} {w : World} {A : Around} {E Q : Value → Shared → Prop} {s : Shared} {a : Addr} {o : Obj} {xs : List PyData}, s.heap.get? a = some o → o.cls = .type "list" → (∀ tk, s.toks ≤ tk → Q (.bool (g (.list xs))) { s with toks := tk }) → wpAny (model prog w) A (call (.builtin "isinstance") [.ref a, .type T]) Q E s
  tup : ∀ {prog : Program} {w : World} {A : Around} {E Q : Value → Shared → Prop} {s : Shared} {a : Addr} {o : Obj} {xs : List PyData}, s.heap.get? a = some o → o.cls = .type "tuple" → (∀ tk, s.toks ≤ tk → Q (.bool (g (.tuple xs))) { s with toks := tk }) → wpAny (model prog w) A (call (.builtin "isinstance") [.ref a, .type T]) Q E s
  dic : ∀ {prog : Program} {w : World} {A : Around} {E Q : Value → Shared → Prop} {s : Shared} {a : Addr} {o : Obj} {xs : List (PyData × PyData)}, s.heap.get? a = some o → o.cls = .type "dict" → (∀ tk, s.toks ≤ tk → Q (.bool (g (.dict xs))) { s with toks := tk }) → wpAny (model prog w) A (call (.builtin "isinstance") [.ref a, .type T]) Q E s
theorem isa_tuple : IsaT "tuple" PyData.isTuple where
  non h := PySem.W.isinstance_tuple_data .none h
  bl h := PySem.W.isinstance_tuple_data (.bool _) h
  int h := PySem.W.isinstance_tuple_data (.int _ _) h
  str h := PySem.W.isinstance_tuple_data (.str _ _) h
  lst {_ _ _ _ _ s _ _ _} h1 h2 h := IsiPair.list_tuple h1 h2 (h _ (Nat.le_succ _))
  tup {_ _ _ _ _ s _ _ _} h1 h2 h := IsiPair.tuple_tuple h1 h2 (h s.toks (Nat.le_refl _))
  dic {_ _ _ _ _ s _ _ _} h1 h2 h := IsiPair.dict_tuple h1 h2 (h _ (Nat.le_succ _))
theorem isa_bool : IsaT "bool" PyData.isBool where
  non h := PySem.W.isinstance_bool_data .none h
  bl h := PySem.W.isinstance_bool_data (.bool _) h
  int h := PySem.W.isinstance_bool_data (.int _ _) h
  str h := PySem.W.isinstance_bool_data (.str _ _) h
  lst {_ _ _ _ _ s _ _ _} h1 h2 h := IsiPair.list_bool h1 h2 (h _ (Nat.le_succ _))
  tup {_ _ _ _ _ s _ _ _} h1 h2 h := IsiPair.tuple_bool h1 h2 (h _ (Nat.le_succ _))
  dic {_ _ _ _ _ s _ _ _} h1 h2 h := IsiPair.dict_bool h1 h2 (h _ (Nat.le_succ _))
theorem isa_int : IsaT "int" PyData.isInt where
  non h := PySem.W.isinstance_int_data .none h
  bl h := PySem.W.isinstance_int_data (.bool _) h
  int h := PySem.W.isinstance_int_data (.int _ _) h
  str h := PySem.W.isinstance_int_data (.str _ _) h
  lst {_ _ _ _ _ s _ _ _} h1 h2 h := IsiPair.list_int h1 h2 (h _ (Nat.le_succ _))
  tup {_ _ _ _ _ s _ _ _} h1 h2 h := IsiPair.tuple_int h1 h2 (h _ (Nat.le_succ _))
  dic {_ _ _ _ _ s _ _ _} h1 h2 h := IsiPair.dict_int h1 h2 (h _ (Nat.le_succ _))
theorem isa_str : IsaT "str" PyData.isStr where
  non h := PySem.W.isinstance_str_data .none h
  bl h := PySem.W.isinstance_str_data (.bool _) h
  int h := PySem.W.isinstance_str_data (.int _ _) h
  str h := PySem.W.isinstance_str_data (.str _ _) h
  lst {_ _ _ _ _ s _ _ _} h1 h2 h := IsiPair.list_str h1 h2 (h _ (Nat.le_succ _))
  tup {_ _ _ _ _ s _ _ _} h1 h2 h := IsiPair.tuple_str h1 h2 (h _ (Nat.le_succ _))
  dic {_ _ _ _ _ s _ _ _} h1 h2 h := IsiPair.dict_str h1 h2 (h _ (Nat.le_succ _))
theorem c_isa {T : String} {g : PyData → Bool} (t : IsaT T g) : CallR X (.builtin "isinstance") fun xs H Q => ∃ x, xs = [x, .ty T] ∧ Pr X.F (fIsa g) [x] H Q := by
  intro pins s σ H xs us Q I r h
  obtain ⟨x, rfl, h⟩ := h
  obtain ⟨ds, o, d, rr, e, k0, k⟩ := pr_end h
  obtain ⟨a, oa, rfl, ra⟩ := reps1 rr
  cases r with
  | cons r1 r2 =>
    cases r2 with
    | cons r3 r4 =>
      cases r4
      cases r3
      have fin : ∀ tk, s.toks ≤ tk → d = .bl (g (toPy a)) → EP X pins σ Q (.bool (g (toPy a))) { s with toks := tk } := fun tk htk ed => ⟨.bl _, H, I.tok tk, rfl, k0 _ (by rw [ed]; exact ⟨rfl, rfl⟩)⟩
      cases a with
      | non => cases (Option.some.inj e); obtain ⟨rfl, _⟩ := ra; cases r1; exact t.non fun tk h => fin tk h rfl
      | bl b => cases (Option.some.inj e); obtain ⟨rfl, _⟩ := ra; cases r1; exact t.bl fun tk h => fin tk h rfl
      | int b => cases (Option.some.inj e); obtain ⟨rfl, _⟩ := ra; obtain ⟨tt, rfl⟩ := (show ∃ t, _ = Value.int _ t from r1); exact t.int fun tk h => fin tk h rfl
      | str b => cases (Option.some.inj e); obtain ⟨rfl, _⟩ := ra; obtain ⟨tt, rfl⟩ := (show ∃ t, _ = Value.str _ t from r1); exact t.str fun tk h => fin tk h rfl
      | tup xs =>
        cases (Option.some.inj e)
        obtain ⟨p, vs, rfl, hq, rs⟩ := ra
        cases r1
        obtain ⟨its, rv, ⟨ob, e1, e2, n, e3⟩, _⟩ := I.tuple hq
        exact t.tup e1 e2 fun tk h => fin tk h rfl
      | lst xs =>
        cases (Option.some.inj e)
        obtain ⟨p, vs, o', rfl, hq, rs, _⟩ := ra
        cases r1
        obtain ⟨its, rv, ⟨ob, n, e1, e2, _, e3⟩, _⟩ := I.list (SqL.of hq)
        exact t.lst e1 e2 fun tk h => fin tk h rfl
      | frz xs =>
        cases (Option.some.inj e)
        obtain ⟨p, vs, rfl, hq, rs, _⟩ := ra
        cases r1
        obtain ⟨its, rv, ⟨ob, n, e1, e2, _, e3⟩, _⟩ := I.list hq.sq
        exact t.lst e1 e2 fun tk h => fin tk h rfl
      | dic ks vs =>
        cases (Option.some.inj e)
        obtain ⟨p, kvs, vvs, es, rfl, hq, _⟩ := ra
        cases r1
        obtain ⟨ob, ep, e1, e2, e3⟩ := (I.hok p _ hq).1
        exact t.dic e1 e2.1 fun tk h => fin tk h rfl
      | obj _ _ _ => cases e
theorem z_isa {T : String} {x : Str} {g : PyData → Bool} (t : IsaT T g) (hg : Gl X "isinstance") (hm : X.mg "isinstance" = none) (hv : bootBuiltins "isinstance" = some (.builtin "isinstance")) (hg2 : Gl X x) (hm2 : X.mg x = none) (hv2 : bootBuiltins x = some (.type T))
    (he : PE X e (Z.T (kx X) q m)) (hn2 : x ≠ "__name__" := by decide) (hdb2 : (x == ("__debug__" : Str)) = false := by decide)
    (hs : starEach [e, .Name x p2] X.env = (false, eval e X.env) :: starEach [.Name x p2] X.env := by rfl) (hs2 : starEach [.Name x p2] X.env = (false, eval (.Name x p2) X.env) :: starEach [] X.env := by rfl) (hpl : (backTo pos (starEach [.Name x p2] X.env)).any (·.1) = false := by rfl) :
    PE X (.Call (.Name "isinstance" p) [e, .Name x p2] [] pos) (Z.T (kx X) (q && true) (dCall (fIsa g) (dACons true m dANil))) :=
  PE.imp (pe_callB (c_isa t) hg hm hv (pa_cons he (pa_cons (pe_bltn (v := .ty T) hg2 hm2 hv2 rfl hn2 hdb2) pa_nil hs2) hs) (by decide) (by decide) hs hpl) fun σ H Q h => by
    obtain ⟨δ, o, r, δ', E, n, hm, k⟩ := t_call h
    simp only [dACons, dANil] at hm
    cases h1 : m δ with
    | none => rw [h1] at hm; simp at hm
    | some p1 =>
      obtain ⟨x, δ1⟩ := p1
      rw [h1] at hm
      simp only [Bool.or_true, if_true, Option.some.injEq, Prod.mk.injEq] at hm
      obtain ⟨rfl, rfl⟩ := hm
      rw [Bool.and_true] at k
      exact ⟨δ, o, x, δ1, E, n, h1, fun v H1 o1 ov1 P1 => ⟨v, rfl, k [v] H1 o1 (ov1 ++ []) P1.step P1.env ⟨v, [], ov1, [], rfl, P1.held, ⟨rfl, rfl⟩, rfl⟩ (by rw [List.append_nil]; exact P1.own)⟩⟩
end

/-! ### min, max of data -/
mutual
/-- no list in it -/
def D.nol : D → Bool
  | .tup xs => D.nols xs
  | .lst _ => false
  | .frz _ => false
  | .dic _ _ => false
  | .obj _ _ _ => false
  | _ => true
def D.nols : List D → Bool
  | [] => true
  | x :: xs => D.nol x && D.nols xs
end
theorem D.nols_iff : ∀ (xs : List D), D.nols xs = true ↔ ∀ x ∈ xs, D.nol x = true
  | [] => by simp [D.nols]
  | x :: xs => by simp [D.nols, D.nols_iff xs]
mutual
theorem D.nol_imm : ∀ (d : D), d.nol = true → d.imm = true
  | .tup xs, h => by simp only [D.nol, D.imm] at h ⊢; exact D.nols_imms xs h
  | .non, _ => rfl
  | .bl _, _ => rfl
  | .int _, _ => rfl
  | .str _, _ => rfl
  | .lst _, h => by simp [D.nol] at h
  | .frz _, h => by simp [D.nol] at h
  | .dic _ _, h => by simp [D.nol] at h
  | .obj _ _ _, h => by simp [D.nol] at h
theorem D.nols_imms : ∀ (xs : List D), D.nols xs = true → D.imms xs = true
  | [], _ => rfl
  | x :: xs, h => by
    simp only [D.nols, D.imms, Bool.and_eq_true] at h ⊢
    exact ⟨D.nol_imm x h.1, D.nols_imms xs h.2⟩
end
mutual
theorem toPy_inj : ∀ (a b : D), a.nol = true → b.nol = true → toPy a = toPy b → a = b
  | .tup xs, b, ha, hb, h => by
    cases b <;> simp only [toPy, reduceCtorEq] at h
    · simp only [PyData.tuple.injEq] at h
      rw [toPys_inj xs _ ha hb h]
    all_goals simp [D.nol] at hb
  | .non, b, _, hb, h => by cases b <;> simp_all [toPy, D.nol]
  | .bl _, b, _, hb, h => by cases b <;> simp_all [toPy, D.nol]
  | .int _, b, _, hb, h => by cases b <;> simp_all [toPy, D.nol]
  | .str _, b, _, hb, h => by cases b <;> simp_all [toPy, D.nol]
  | .lst _, _, ha, _, _ => by simp [D.nol] at ha
  | .frz _, _, ha, _, _ => by simp [D.nol] at ha
  | .dic _ _, _, ha, _, _ => by simp [D.nol] at ha
  | .obj _ _ _, _, ha, _, _ => by simp [D.nol] at ha
theorem toPys_inj : ∀ (a b : List D), D.nols a = true → D.nols b = true → toPys a = toPys b → a = b
  | [], b, _, _, h => by cases b <;> simp_all [toPys]
  | x :: xs, b, ha, hb, h => by
    cases b with
    | nil => simp [toPys] at h
    | cons y ys =>
      simp only [D.nols, Bool.and_eq_true, toPys, List.cons.injEq] at ha hb h
      rw [toPy_inj x y ha.1 hb.1 h.1, toPys_inj xs ys ha.2 hb.2 h.2]
end
/-- all can be compared with one another -/
def cmpAll (xs : List D) : Bool := D.nols xs && xs.all fun x => xs.all fun y => cmpOk x y
def minD (x : D) (xs : List D) : D := xs.foldl (fun a y => if ltD y a then y else a) x
def itemsD : D → Option (List D)
  | .tup xs => some xs
  | .lst xs => some xs
  | .frz xs => some xs
  | _ => none
def fMin : List D → Option D
  | [a] => match itemsD a with
    | some (x :: xs) => if cmpAll (x :: xs) then some (minD x xs) else none
    | _ => none
  | a :: b :: r => if cmpAll (a :: b :: r) then some (minD a (b :: r)) else none
  | _ => none
theorem minD_py (x : D) (xs : List D) : toPy (minD x xs) = PySem.W.minD (toPy x) (toPys xs) := by
  rw [toPys_map]
  unfold minD PySem.W.minD
  induction xs generalizing x with
  | nil => rfl
  | cons y ys ih =>
    rw [List.foldl_cons, List.map_cons, List.foldl_cons, ih]
    congr 1
    show toPy (if PySem.W.dataLt (toPy y) (toPy x) = true then y else x) = _
    split <;> rfl
theorem minD_mem (x : D) (xs : List D) : minD x xs ∈ x :: xs := by
  unfold minD
  induction xs generalizing x with
  | nil => simp
  | cons y ys ih =>
    rw [List.foldl_cons]
    have := ih (if ltD y x then y else x)
    split at this
    · rcases List.mem_cons.mp this with h | h
      · rw [if_pos (by assumption)]; rw [h]; simp
      · rw [if_pos (by assumption)]; simp [h]
    · rcases List.mem_cons.mp this with h | h
      · rw [if_neg (by assumption)]; rw [h]; simp
      · rw [if_neg (by assumption)]; simp [h]
theorem cmpAll_alike {xs : List D} (h : cmpAll xs = true) : PySem.W.AlikeAll (toPys xs) ∧ PyData.depthAll (toPys xs) ≤ 60 := by
  simp only [cmpAll, Bool.and_eq_true, List.all_eq_true] at h
  obtain ⟨hn, h⟩ := h
  rw [toPys_map]
  refine ⟨⟨fun a ha b hb => ?_, fun a ha => ?_⟩, ?_⟩
  · obtain ⟨x, hx, rfl⟩ := List.mem_map.mp ha
    obtain ⟨y, hy, rfl⟩ := List.mem_map.mp hb
    have := h x hx y hy
    simp only [cmpOk, Bool.and_eq_true] at this
    exact this.1.1.1
  · obtain ⟨x, hx, rfl⟩ := List.mem_map.mp ha
    have := h x hx x hx
    simp only [cmpOk, Bool.and_eq_true] at this
    have h4 := this.2
    cases x <;> simp_all [toPy]
  · have hd : ∀ x ∈ xs, (toPy x).depth ≤ 60 := fun x hx => by
      have := h x hx x hx
      simp only [cmpOk, Bool.and_eq_true] at this
      exact dep_le this.1.1.2
    clear h hn
    induction xs with
    | nil => simp [PyData.depthAll]
    | cons x xs ih =>
      simp only [List.map_cons, PyData.depthAll]
      have h1 := hd x List.mem_cons_self
      have h2 := ih fun y hy => hd y (List.mem_cons_of_mem _ hy)
      omega
section
variable {X : Cx}
theorem vals_at {us : List Value} {vs : List V} {i : Nat} {u : Value} (r : Vals vs us) (h : us[i]? = some u) : ∃ v, vs[i]? = some v ∧ RelV v u := by
  cases hv : vs[i]? with
  | none => rw [r.none_of hv] at h; cases h
  | some v =>
    obtain ⟨u', h', ru⟩ := r.get hv
    rw [h] at h'; cases h'
    exact ⟨v, rfl, ru⟩
mutual
theorem Rep.layN {K : Fw} {H : Hp} : ∀ {d : D} {v : V} {o : List Addr}, Rep K H d v o → d.nol = true → (toPy d).canLay0 = true
  | .non, _, _, h, _ => by simp [toPy, PyData.canLay0]
  | .bl b, _, _, h, _ => by simp [toPy, PyData.canLay0]
  | .int b, _, _, h, _ => by simp [toPy, PyData.canLay0]
  | .str b, _, _, h, _ => by simp only [toPy, PyData.canLay0]; exact h.2.1.2
  | .tup xs, _, _, h, g => by
    obtain ⟨a, vs, rfl, hq, r⟩ := h
    simp only [toPy, PyData.canLay0]; exact Reps.layN r g
  | .lst xs, _, _, h, g => by simp [D.nol] at g
  | .frz xs, _, _, h, g => by simp [D.nol] at g
  | .dic _ _, _, _, h, g => by simp [D.nol] at g
  | .obj _ _ _, _, _, h, g => by simp [D.nol] at g
theorem Reps.layN {K : Fw} {H : Hp} : ∀ {d : List D} {v : List V} {o : List Addr}, Reps K H d v o → D.nols d = true → PyData.canLayAll0 (toPys d) = true
  | [], _, _, h, _ => by simp [toPys, PyData.canLayAll0]
  | x :: xs, _, _, h, g => by
    obtain ⟨v, vr, o1, o2, rfl, h1, h2, _⟩ := h
    simp only [D.nols, Bool.and_eq_true] at g
    simp only [toPys, PyData.canLayAll0, Bool.and_eq_true]
    exact ⟨Rep.layN h1 g.1, Reps.layN h2 g.2⟩
end
/-- an item that reads as a datum of the list is that datum -/
theorem item_eq {pins : List (Addr × Obj)} {s : Shared} {σ : L2.St} {H : Hp} {xs : List D} {vs : List V} {us : List Value} {i : Nat} {u : Value} {d : D} {h' : Heap} {bs : List Addr} (I : Inv X pins σ H s) (rs : Reps X.F H xs vs []) (rv : Vals vs us) (hn : D.nols xs = true) (hd : d.nol = true) (hi : us[i]? = some u) (hr : Reads h' u (toPy d) bs)
    (hk : ∀ b o, s.heap.get? b = some o → h'.get? b = some o) : ∃ v, RelV v u ∧ Rep X.F H d v [] := by
  obtain ⟨v, hv, ru⟩ := vals_at rv hi
  have hil : i < xs.length := by
    have := (List.getElem?_eq_some_iff.mp hv).1
    rw [rs.length] at this; exact this
  obtain ⟨v', hv', rr⟩ := item_of rs (List.getElem?_eq_getElem hil)
  rw [hv] at hv'; cases hv'
  obtain ⟨as, g⟩ := Rep.reads I rr ru rr.ro
  have e : toPy xs[i] = toPy d := SeqAt.plain_unique _ _ u as bs (PyData.plain_of_canLay0 _ (Rep.layN rr ((D.nols_iff xs).mp hn _ (List.getElem_mem hil)))) (Reads.keeps hk g) hr
  have := toPy_inj _ _ ((D.nols_iff xs).mp hn _ (List.getElem_mem hil)) hd e
  rw [this] at rr
  exact ⟨v, ru, rr⟩
theorem seq_items {K : Fw} {H : Hp} {a : D} {v : V} {o : List Addr} {xs : List D} (r : Rep K H a v o) (h : itemsD a = some xs) (hi : D.imms xs = true) : ∃ p vs, v = .ref p ∧ (SqL K H p vs ∨ SqT K H p vs) ∧ Reps K H xs vs [] := by
  cases a <;> simp only [itemsD, reduceCtorEq, Option.some.injEq] at h
  · subst h
    obtain ⟨p, vs, rfl, hq, rs⟩ := r
    exact ⟨p, vs, rfl, .inr hq, rs.imm' hi⟩
  · subst h
    obtain ⟨p, vs, _, rfl, hq, rs, _⟩ := r
    exact ⟨p, vs, rfl, .inl (.of hq), rs.imm' hi⟩
  · subst h
    obtain ⟨p, vs, rfl, hq, rs, _⟩ := r
    exact ⟨p, vs, rfl, .inl hq.sq, rs⟩
theorem plainL_isList {h : Heap} {a : Addr} {its : Array Value} (p : PlainL h a its) : h.IsList a its := by
  obtain ⟨o, n, e, c, _, d⟩ := p
  exact ⟨o, e, c, n, d⟩
theorem fMin_one (hc : X.calm = true) (hu : X.A.units + 64 < cLine) {pins : List (Addr × Obj)} {s : Shared} {σ : L2.St} {H : Hp} {Q : VK} {us : List Value} {xs : List V} (I : Inv X pins σ H s) (r : Vals xs us) (h : Pr X.F fMin xs H Q) (h1 : xs.length = 1) :
    wpAny (model X.prog X.w) X.A (call (.builtin "min") us) (EP X pins σ Q) X.xe s := by
  obtain ⟨ds, o, d, rr, e, k0, k⟩ := pr_end h
  obtain ⟨x, rfl⟩ := List.length_eq_one_iff.mp h1
  obtain ⟨a, oa, rfl, ra⟩ := reps1 rr
  simp only [fMin] at e
  split at e
  · rename_i y ys hit
    split at e
    · rename_i hcm
      cases (Option.some.inj e)
      have hn : D.nols (y :: ys) = true := by simp only [cmpAll, Bool.and_eq_true] at hcm; exact hcm.1
      obtain ⟨p, vs, rfl, hq, rs⟩ := seq_items ra hit (D.nols_imms _ hn)
      obtain ⟨hal, hdp⟩ := cmpAll_alike hcm
      simp only [toPys] at hal hdp
      cases r with
      | cons r1 r2 =>
        cases r2
        cases r1
        have hmn : (minD y ys).nol = true := (D.nols_iff _).mp hn _ (minD_mem y ys)
        have fin : ∀ (its : List Value), Vals vs its → ∀ (i : Nat) (v : Value) (h' : Heap) (tk : Nat) (bs : List Addr), its.toArray[i]? = some v → Reads h' v (PySem.W.minD (toPy y) (toPys ys)) bs → (∀ b o, s.heap.get? b = some o → h'.get? b = some o) → EP X pins σ Q v { s with heap := h', toks := tk } := fun its rv i v h' tk bs hi hr hk => by
          rw [← minD_py] at hr
          obtain ⟨w, rw', rd⟩ := item_eq I rs rv hn hmn (by simpa using hi) hr hk
          exact ⟨w, H, I.kept hk, rw', k0 _ rd⟩
        rcases hq with hq | hq
        · obtain ⟨its, rv, hp, _⟩ := I.list hq
          obtain ⟨as, g⟩ := Reps.reads I rs rv rs.ro
          simp only [toPys] at g
          exact PySem.W.min_list_data (I.ok.hd hc) (plainL_isList hp) (by simpa using g) hal (by omega) (fin its rv)
        · obtain ⟨its, rv, hp, _⟩ := I.tuple hq
          obtain ⟨as, g⟩ := Reps.reads I rs rv rs.ro
          simp only [toPys] at g
          obtain ⟨ob, e1, e2, e3⟩ := hp
          exact PySem.W.min_tuple_data (I.ok.hd hc) ⟨ob, e1, e2, e3⟩ (by simpa using g) hal (by omega) (fin its rv)
    · cases e
  · cases e
def fMin1 : List D → Option D
  | [a] => fMin [a]
  | _ => none
theorem pr_one {K : Fw} {f f1 : List D → Option D} {vs : List V} {H : Hp} {Q : VK} (h : Pr K f1 vs H Q) (h1 : ∀ ds d, f1 ds = some d → ds.length = 1 ∧ f ds = some d) : Pr K f vs H Q ∧ vs.length = 1 := by
  obtain ⟨ds, o, d, r, e, k⟩ := h
  obtain ⟨g1, g2⟩ := h1 ds d e
  exact ⟨⟨ds, o, d, r, g2, k⟩, r.length.trans g1⟩
theorem c_min1 (hc : X.calm = true) (hu : X.A.units + 64 < cLine) : CallR X (.builtin "min") (Pr X.F fMin1) := by
  intro pins s σ H xs us Q I r h
  obtain ⟨h2, h3⟩ := pr_one (f := fMin) h fun ds d e => by
    unfold fMin1 at e
    split at e
    · exact ⟨rfl, e⟩
    · cases e
  exact fMin_one hc hu I r h2 h3
end
end Z


set_option Elab.async false
set_option linter.all false
set_option maxRecDepth 100000
/-! list comprehensions -/
namespace Z
open PySem PySem.Spec PyProof.Rows L2

def wipeD (δ : DE) : List Nat → DE
  | [] => δ
  | v :: vs => (wipeD δ vs).set v none
/-- the block's own names as they were ahead of it -/
def restD (δ0 : DE) : DE → List Nat → DE
  | δ2, [] => δ2
  | δ2, v :: vs => restD δ0 (δ2.set v (match (wipeD δ0 vs)[v]? with | some x => x | none => none)) vs
section
variable {K : Fw} {κ : Kx} {H H1 H2 : Hp}
theorem wipeD_len (δ : DE) : ∀ vs : List Nat, (wipeD δ vs).length = δ.length
  | [] => rfl
  | v :: vs => by rw [wipeD, List.length_set, wipeD_len δ vs]
/-- a slot that isn't told -/
theorem Envs.sig : ∀ {σ : L2.St} {δ : DE} {o : List Addr} (v : Nat) (x : Option V), Envs κ H σ δ o → (∀ d, δ[v]? ≠ some (some d)) → Envs κ H (σ.set v x) δ o
  | [], [], _, _, _, h, _ => h
  | s :: σ, none :: δ, o, 0, x, h, _ => by
    cases x <;> cases s <;> exact h
  | some w :: σ, some d :: δ, o, 0, x, h, hn => absurd rfl (hn d)
  | none :: σ, none :: δ, o, v + 1, x, h, hn => Envs.sig (σ := σ) (δ := δ) v x h fun d e => hn d (by simpa using e)
  | some w :: σ, none :: δ, o, v + 1, x, h, hn => Envs.sig (σ := σ) (δ := δ) v x h fun d e => hn d (by simpa using e)
  | some w :: σ, some d :: δ, o, v + 1, x, h, hn => by
    obtain ⟨o1, o2, h1, h2, e⟩ := h
    exact ⟨o1, o2, h1, Envs.sig v x h2 fun d e => hn d (by simpa using e), e⟩
  | none :: σ, some d :: δ, _, _, _, h, _ => h.elim
  | [], _ :: _, _, _, _, h, _ => by simp [Envs] at h
  | _ :: _, [], _, _, _, h, _ => by simp [Envs] at h
theorem set_none_same {δ : DE} {v : Nat} (h : ∀ d, δ[v]? ≠ some (some d)) : δ.set v none = δ := by
  by_cases hl : v < δ.length
  · have e : δ[v] = none := by
      cases q : δ[v] with
      | none => rfl
      | some d => exact absurd (by rw [List.getElem?_eq_getElem hl, q]) (h d)
    rw [← e]; exact List.set_getElem_self hl
  · exact List.set_eq_of_length_le (by omega)
theorem set_none_get {δ : DE} (v : Nat) : ∀ d, (δ.set v none)[v]? ≠ some (some d) := fun d e => by
  by_cases hl : v < δ.length
  · rw [List.getElem?_set_self hl] at e; simp at e
  · rw [List.getElem?_eq_none (by simpa using hl)] at e; cases e
theorem Envs.drop {σ : L2.St} {δ : DE} {o : List Addr} (v : Nat) (E : Envs κ H σ δ o) : ∃ o', Envs κ H σ (δ.set v none) o' ∧ ∀ a, o'.count a ≤ o.count a := by
  by_cases h : ∃ d, δ[v]? = some (some d)
  · obtain ⟨d, h⟩ := h
    obtain ⟨w, oa, o1, ob, _, _, rfl, _, k⟩ := E.at h
    exact ⟨oa ++ ob, k H Fr.rfl, fun a => by simp only [List.count_append]; omega⟩
  · rw [set_none_same fun d e => h ⟨d, e⟩]
    exact ⟨o, E, fun _ => Nat.le_refl _⟩
theorem Envs.wipe : ∀ {σ : L2.St} {δ : DE} {o : List Addr} (vs : List Nat), Envs κ H σ δ o → ∃ ow, Envs κ H (wipe σ vs) (wipeD δ vs) ow ∧ ∀ a, ow.count a ≤ o.count a
  | σ, δ, o, [], E => ⟨o, E, fun _ => Nat.le_refl _⟩
  | σ, δ, o, v :: vs, E => by
    obtain ⟨ow, Ew, c⟩ := Envs.wipe vs E
    obtain ⟨o', E', c'⟩ := Ew.drop v
    refine ⟨o', ?_, fun a => Nat.le_trans (c' a) (c a)⟩
    exact Envs.sig v none E' (set_none_get v)
/-- the block's own names put back -/
theorem Envs.rest : ∀ (vs : List Nat) {σ : L2.St} {δ : DE} {o : List Addr}, Envs κ H1 σ δ o → Nd o → ∃ (ow od : List Addr), Envs κ H1 (L2.wipe σ vs) (wipeD δ vs) ow ∧ (∀ a, ow.count a + od.count a ≤ o.count a) ∧ (∀ a ∈ od, H1 a ≠ none) ∧
    ∀ {H2 : Hp} {δ2 : DE} {o2 : List Addr}, Step H1 H2 ow → Envs κ H2 (L2.wipe σ vs) δ2 o2 → ∃ o3, Envs κ H2 σ (restD δ δ2 vs) o3 ∧ ∀ a, o3.count a ≤ o2.count a + od.count a
  | [], σ, δ, o, E, n => ⟨o, [], E, fun a => by simp, (fun a ha => nomatch ha), fun {H2 δ2 o2} s E2 => ⟨o2, E2, fun a => by simp⟩⟩
  | v :: vs, σ, δ, o, E, n => by
    obtain ⟨ow, od, Ew, c, dm, k⟩ := Envs.rest vs E n
    have nw : Nd ow := fun a => by have := c a; have := n a; omega
    by_cases h : ∃ d, (wipeD δ vs)[v]? = some (some d)
    · obtain ⟨d, h⟩ := h
      obtain ⟨w, oa, o1, ob, hw, r, rfl, _, kn⟩ := Ew.at h
      have Ev := kn H1 Fr.rfl
      have hvl : v < (wipeD δ vs).length := (List.getElem?_eq_some_iff.mp h).1
      have tr : ∀ a ∈ o1, H1 a ≠ none := fun a ha => by obtain ⟨vs, e, how⟩ := r.own a ha; rw [e]; simp
      refine ⟨oa ++ ob, o1 ++ od, Envs.sig v none Ev (set_none_get v), fun a => ?_, fun a ha => (List.mem_append.mp ha).elim (tr a) (dm a), fun {H2 δ2 o2} s E2 => ?_⟩
      · have := c a; simp only [List.count_append] at this ⊢; omega
      · have hd1 : ∀ a ∈ o1, a ∉ oa ++ ob := fun a h1 h2 => by
          have g1 : 0 < o1.count a := List.count_pos_iff.mpr h1
          have g2 : 0 < (oa ++ ob).count a := List.count_pos_iff.mpr h2
          have g3 := nw a
          simp only [List.count_append] at g2 g3
          omega
        have r2 : Rep κ.K H2 d w o1 := r.step s (fun a ha => Ew.ok a (by rcases List.mem_append.mp ha with z | z <;> simp [z])) hd1
        have hl2 : δ2.length = δ.length := by
          rw [← E2.length, wipe_length, ← E.length]
        obtain ⟨o3, E3, c3⟩ := Envs.set v E2 r2 (by rw [hl2, ← wipeD_len δ vs]; exact hvl)
        have hs : (L2.wipe σ (v :: vs)).set v (some w) = L2.wipe σ vs := by
          show ((L2.wipe σ vs).set v none).set v (some w) = _
          rw [List.set_set]
          obtain ⟨hl, e⟩ := List.getElem?_eq_some_iff.mp hw
          rw [← e]; exact List.set_getElem_self hl
        rw [hs] at E3
        have s3 : Step H1 H2 (oa ++ o1 ++ ob) := s.mono fun a ha => by rcases List.mem_append.mp ha with z | z <;> simp [z]
        obtain ⟨o4, E4, c4⟩ := k s3 E3
        refine ⟨o4, ?_, fun a => ?_⟩
        · show Envs κ H2 σ (restD δ (δ2.set v (match (wipeD δ vs)[v]? with | some x => x | none => none)) vs) o4
          rw [h]; exact E4
        · have g := c3 a
          have g2 := c4 a
          rw [List.count_append]; omega
    · have hn : ∀ d, (wipeD δ vs)[v]? ≠ some (some d) := fun d e => h ⟨d, e⟩
      refine ⟨ow, od, ?_, c, dm, fun {H2 δ2 o2} s E2 => ?_⟩
      · show Envs κ H1 ((L2.wipe σ vs).set v none) ((wipeD δ vs).set v none) ow
        rw [set_none_same hn]
        exact Envs.sig v none Ew hn
      · obtain ⟨o2', E2', c2'⟩ := E2.drop v
        have E3 : Envs κ H2 (L2.wipe σ vs) (δ2.set v none) o2' := by
          have e : L2.wipe σ vs = (L2.wipe σ (v :: vs)).set v ((L2.wipe σ vs)[v]?.getD none) := by
            show _ = ((L2.wipe σ vs).set v none).set v _
            rw [List.set_set]
            by_cases hl : v < (L2.wipe σ vs).length
            · rw [List.getElem?_eq_getElem hl]; exact (List.set_getElem_self hl).symm
            · exact (List.set_eq_of_length_le (by omega)).symm
          rw [e]
          exact Envs.sig v _ E2' (set_none_get v)
        obtain ⟨o4, E4, c4⟩ := k s E3
        refine ⟨o4, ?_, fun a => ?_⟩
        · show Envs κ H2 σ (restD δ (δ2.set v (match (wipeD δ vs)[v]? with | some x => x | none => none)) vs) o4
          have : (match (wipeD δ vs)[v]? with | some x => x | none => none) = (none : Option D) := by
            cases q : (wipeD δ vs)[v]? with
            | none => rfl
            | some x => cases x with
              | none => rfl
              | some d => exact absurd q (hn d)
          rw [this]; exact E4
        · have g := c2' a
          have g2 := c4 a
          omega
end
/-- one turn after another: what the elements are -/
def dLcL (gs : List (Nat × D)) (vs : List Nat) (b : Bnd) (mt : DenT) (me : Den) : List D → DE → Option (List D × DE)
  | [], δ => if gOk gs δ then some ([], δ) else none
  | x :: xs, δ => if gOk gs δ then match b x δ with
    | some δ1 => match mt δ1 with
      | some (false, δ2) => dLcL gs vs b mt me xs (wipeD δ2 vs)
      | some (true, δ2) => match me δ2 with
        | some (.own d, δ3) => match dLcL gs vs b mt me xs (wipeD δ3 vs) with
          | some (ds, δ4) => some (d :: ds, δ4)
          | none => none
        | _ => none
      | none => none
    | none => none
    else none
def kpOut (vs : List Nat) : Nat → Bool := fun i => !vs.contains i
def dLc (vs : List Nat) (ms : DenS) (b : Bnd) (mt : DenT) (me : Den) : Den := fun δ => match ms δ with
  | some (src, δ1) => if gsIn (kpOut vs) src.gs then match dLcL src.gs vs b mt me src.xs (wipeD δ1 vs) with
    | some (ds, δ2) => some (.own (.lst ds), restD δ1 δ2 vs)
    | none => none
    else none
  | none => none
def dYes : DenT := fun δ => some (true, δ)
theorem wipe_get {σ : L2.St} {i : Nat} : ∀ {vs : List Nat}, i ∉ vs → (L2.wipe σ vs)[i]? = σ[i]?
  | [], _ => rfl
  | v :: vs, h => by
    simp only [List.mem_cons, not_or] at h
    show ((L2.wipe σ vs).set v none)[i]? = _
    rw [List.getElem?_set_ne (Ne.symm h.1), wipe_get h.2]
theorem wipe_in {σ : L2.St} {i : Nat} : ∀ {vs : List Nat}, i ∈ vs → i < σ.length → (L2.wipe σ vs)[i]? = some none
  | v :: vs, h, hl => by
    show ((L2.wipe σ vs).set v none)[i]? = _
    by_cases e : v = i
    · subst e
      rw [List.getElem?_set_self (by rw [wipe_length]; exact hl)]
    · rw [List.getElem?_set_ne e]
      exact wipe_in ((List.mem_cons.mp h).resolve_left (Ne.symm e)) hl
theorem wipe_same {σ σ2 : L2.St} {vs : List Nat} (hl : σ2.length = σ.length) (h : ∀ i, i ∉ vs → σ2[i]? = σ[i]?) : L2.wipe σ2 vs = L2.wipe σ vs := by
  apply List.ext_getElem?
  intro i
  by_cases hi : i ∈ vs
  · by_cases hn : i < σ.length
    · rw [wipe_in hi hn, wipe_in hi (by omega)]
    · rw [List.getElem?_eq_none (by rw [wipe_length]; omega), List.getElem?_eq_none (by rw [wipe_length]; omega)]
  · rw [wipe_get hi, wipe_get hi, h i hi]
theorem wipe_wipe (σ : L2.St) (vs : List Nat) : L2.wipe (L2.wipe σ vs) vs = L2.wipe σ vs := wipe_same (wipe_length σ vs) fun i hi => wipe_get hi
section
variable {X : Cx} {elt tg iter c : Expr} {ifs : List Expr} {q qt qe : Bool} {ms : DenS} {b : Bnd} {mt : DenT} {me : Den} {vs : List Nat}
theorem PTs.imp {t t' : L2.TT} (h : PTs X ifs t) (i : ∀ σ H Q, t' σ H Q → t σ H Q) : PTs X ifs t' := ⟨fun pins s σ H Q I hw => h.run pins s σ H Q I (i _ _ _ hw)⟩
theorem z_tsnil : PTs X [] (TT (kx X) true dYes) := PTs.imp pts_nil fun σ H Q ⟨δ, o, bb, δ', E, n, hm, k⟩ => by
  simp only [dYes, Option.some.injEq, Prod.mk.injEq] at hm
  obtain ⟨rfl, rfl⟩ := hm
  exact k H o ⟨Step.refl _ _, E, Own.refl _ _⟩
theorem z_tsone (h : PT X c (TT (kx X) qt mt)) : PTs X [c] (TT (kx X) qt mt) := pts_one h
/-- the reading of a comprehension -/
theorem t_lc {κ : Kx} {σ : L2.St} {H : Hp} {Q : VK} (h : T κ false (dLc vs ms b mt me) σ H Q) : tLc (TIm κ q ms) (TGm κ (kpOut vs) b) (TT κ qt mt) (T κ qe me) vs σ H Q := by
  obtain ⟨δ, o, r, δ', E, n, hm, k⟩ := h
  simp only [dLc] at hm
  cases h1 : ms δ with
  | none => rw [h1] at hm; simp at hm
  | some p =>
    obtain ⟨src, δ1⟩ := p
    rw [h1] at hm; dsimp only at hm
    by_cases hk0 : gsIn (kpOut vs) src.gs = true
    case neg => rw [if_neg hk0] at hm; cases hm
    rw [if_pos hk0] at hm
    have hk : ∀ p ∈ src.gs, p.1 ∉ vs := fun p hp => by
      have := gsIn_mem hk0 p hp
      simpa [kpOut] using this
    cases h2 : dLcL src.gs vs b mt me src.xs (wipeD δ1 vs) with
    | none => rw [h2] at hm; simp at hm
    | some p2 =>
      obtain ⟨ds, δe⟩ := p2
      rw [h2] at hm
      simp only [Option.some.injEq, Prod.mk.injEq] at hm
      obtain ⟨rfl, rfl⟩ := hm
      refine ⟨δ, o, src, δ1, E, n, h1, fun J H1 o1 ov s1 E1 w1 hov S hlen => fun D hD => ?_⟩
      have n1 := w1.nd n
      have no1 : Nd o1 := (own_right w1).nd n
      obtain ⟨ow, od, Ew, cw, hod, kr⟩ := Envs.rest vs E1 no1
      have nw : Nd ow := fun a => by have := cw a; have := no1 a; omega
      have hlw : (wipeD δ1 vs).length = σ.length := by rw [wipeD_len, ← E1.length]
      -- the heap is so at turn i
      refine ⟨fun i m H' => m + i = src.xs.length ∧ ∃ accV accD oacc δ2 o2 rest, accV.length ≤ i ∧ H' D = some (.lst accV) ∧ Reps κ.K H' accD accV oacc ∧ Envs κ H' (L2.wipe σ vs) δ2 o2 ∧ Step H1 H' ow ∧ Own H1 ow (oacc ++ o2) ∧ D ∉ oacc ++ o2 ∧
        dLcL src.gs vs b mt me (src.xs.drop i) δ2 = some (rest, δe) ∧ accD ++ rest = ds, ⟨src.xs.length, rfl, [], [], [], wipeD δ1 vs, ow, ds, Nat.le_refl _, upd_same, ⟨rfl, rfl⟩, Ew.same (new_same hD), Step.new hD, Own.refl _ _, fun hm => Ew.dom D hm hD, h2, rfl⟩, fun i m H' hW => ?_⟩
      obtain ⟨hmi, accV, accD, oacc, δ2, o2, rest, hacc, hHD, ra, E2, s2, w2, hDn, h3, hds⟩ := hW
      have n2 := w2.nd nw
      have pin : ∀ a ∈ ov, H' a = H1 a := fun a ha => by
        obtain ⟨u, e, how⟩ := hov a ha
        rw [e]
        refine s2.keep a _ e (fun hz => nd_split n1 a ha ?_) how.2
        have h5 : 0 < ow.count a := List.count_pos_iff.mpr hz
        have h6 := cw a
        exact List.count_pos_iff.mp (show 0 < o1.count a by omega)
      have shr : ∀ a u, H1 a = some u → Sh u → H' a = some u := fun a u e hu => s2.keep a u e (fun z => by
        obtain ⟨vs, e2, how⟩ := Ew.own a z
        rw [e] at e2; cases e2; exact how.1 hu) hu.nt
      have gk : gOk src.gs δ2 = true → ∀ p ∈ src.gs, ∃ v o, σ[p.1]? = some (some v) ∧ Rep κ.K H' p.2 v o := fun hg p hp => by
        obtain ⟨v, o, hv, r⟩ := gOk_rep E2 hg p hp
        exact ⟨v, o, by rw [← wipe_get (σ := σ) (hk p hp)]; exact hv, r⟩
      by_cases hi : i < src.xs.length
      · have hx : src.xs[i]? = some src.xs[i] := List.getElem?_eq_getElem hi
        rw [List.drop_eq_getElem_cons hi] at h3
        simp only [dLcL] at h3
        by_cases hg : gOk src.gs δ2 = true
        case neg => rw [if_neg hg] at h3; cases h3
        rw [if_pos hg] at h3
        obtain ⟨go, _⟩ := S i H' pin shr (gk hg)
        obtain ⟨go, yl⟩ := go _ hx
        cases h4 : b src.xs[i] δ2 with
        | none => rw [h4] at h3; simp at h3
        | some δ3 =>
          rw [h4] at h3; dsimp only at h3
          refine .inr ⟨go, fun H6 => ∃ accV accD oacc δ2 o2 rest, accV.length ≤ i + 1 ∧ H6 D = some (.lst accV) ∧ Reps κ.K H6 accD accV oacc ∧ Envs κ H6 (L2.wipe σ vs) δ2 o2 ∧ Step H1 H6 ow ∧ Own H1 ow (oacc ++ o2) ∧ D ∉ oacc ++ o2 ∧
            dLcL src.gs vs b mt me (src.xs.drop (i + 1)) δ2 = some (rest, δe) ∧ accD ++ rest = ds, fun H6 hN => ⟨m - 1, by omega, by omega, hN⟩, fun v H3 hy => ?_⟩
          obtain ⟨sm, rv⟩ := yl v H3 hy
          have s3 : Step H1 H3 ow := s2.same sm
          refine ⟨δ2, o2, src.xs[i], [], δ3, E2.same sm, rv, h4, fun σ3 o3 E3 c3 k3 => ?_⟩
          have c3' : ∀ a, o3.count a ≤ o2.count a := fun a => by have := c3 a; simp only [List.count_nil] at this; omega
          have hw3 : L2.wipe σ3 vs = L2.wipe σ vs := by
            rw [← wipe_wipe σ vs]
            exact wipe_same k3.2 fun j hj => k3.1 j (by simpa [kpOut] using hj)
          refine ⟨hw3, ?_⟩
          have w3 : Own H1 ow (oacc ++ o3) := w2.sub fun a => by rw [List.count_append, List.count_append]; have := c3' a; omega
          have hD3 : D ∉ oacc ++ o3 := fun hm => hDn (by
            rcases List.mem_append.mp hm with z | z
            · exact List.mem_append_left _ z
            · have h5 : 0 < o3.count D := List.count_pos_iff.mpr z
              have h6 := c3' D
              exact List.mem_append_right _ (List.count_pos_iff.mp (show 0 < o2.count D by omega)))
          have n3 : Nd (oacc ++ o3) := w3.nd nw
          have no3 : Nd o3 := fun a => by have := n3 a; rw [List.count_append] at this; omega
          cases h5 : mt δ3 with
          | none => rw [h5] at h3; simp at h3
          | some p5 =>
            obtain ⟨bt, δ4⟩ := p5
            rw [h5] at h3
            refine ⟨δ3, o3, bt, δ4, E3, no3, h5, fun H4 o4 P4 => ?_⟩
            -- what stays through a step of the block
            have stay : ∀ {H5 : Hp} {o5 ov5 : List Addr}, Step H3 H5 o3 → Own H3 o3 (ov5 ++ o5) → (∀ a ∈ ov5 ++ o5, H5 a ≠ none) → H5 D = some (.lst accV) ∧ Reps κ.K H5 accD accV oacc ∧ Step H1 H5 ow ∧ Own H1 ow (oacc ++ (ov5 ++ o5)) ∧ D ∉ oacc ++ (ov5 ++ o5) := fun {H5 o5 ov5} st wt hdom => by
              have hD5 : D ∉ o3 := fun z => hD3 (List.mem_append_right _ z)
              have hHD3 : H3 D = some (.lst accV) := sm _ _ hHD
              have ra3 : Reps κ.K H3 accD accV oacc := ra.same sm
              refine ⟨st.keep D _ hHD3 hD5 (fun _ z => nomatch z), ra3.step st E3.ok (nd_split n3), s3.trans (own_right w3) st, fun a => ?_, fun hm => ?_⟩
              · have g1 := w3 a
                have g2 := wt a
                simp only [List.count_append] at g1 g2 ⊢
                rcases g2 with g2 | ⟨z, g2⟩
                · rcases g1 with g1 | ⟨z1, g1⟩
                  · left; omega
                  · right; exact ⟨z1, by omega⟩
                · have : oacc.count a = 0 := List.count_eq_zero.mpr fun hm => by
                    obtain ⟨vs, e, how⟩ := ra3.own a hm
                    rw [z] at e; cases e
                  right; exact ⟨s3.dom a z, by omega⟩
              · rcases List.mem_append.mp hm with z | z
                · exact hD3 (List.mem_append_left _ z)
                · have g : 0 < (ov5 ++ o5).count D := List.count_pos_iff.mpr z
                  rcases wt D with y | ⟨y, _⟩
                  · exact hD5 (List.count_pos_iff.mp (show 0 < o3.count D by omega))
                  · rw [hHD3] at y; cases y
            cases bt with
            | false =>
              show if false = true then _ else _
              rw [if_neg Bool.false_ne_true]
              dsimp only at h3
              obtain ⟨g1, g2, g3, g4, g5⟩ := stay (ov5 := []) (P4.step.mono Wq_sub) P4.own (fun a ha => P4.env.dom a ha)
              obtain ⟨o6, E6, c6⟩ := P4.env.wipe vs
              rw [hw3] at E6
              refine ⟨accV, accD, oacc, wipeD δ4 vs, o6, rest, by omega, g1, g2, E6, g3, g4.sub fun a => ?_, fun hm => g5 ?_, h3, hds⟩
              · have := c6 a; simp only [List.count_append, List.nil_append]; omega
              · rcases List.mem_append.mp hm with z | z
                · exact List.mem_append_left _ z
                · have h7 : 0 < o6.count D := List.count_pos_iff.mpr z
                  have h8 := c6 D
                  exact List.mem_append_right _ (List.count_pos_iff.mp (show 0 < ([] ++ o4).count D by rw [List.nil_append]; omega))
            | true =>
              show if true = true then _ else _
              rw [if_pos rfl]
              dsimp only at h3
              cases h6 : me δ4 with
              | none => rw [h6] at h3; simp at h3
              | some p6 =>
                obtain ⟨re, δ5⟩ := p6
                rw [h6] at h3
                cases re with
                | «at» _ _ => simp at h3
                | own d =>
                  dsimp only at h3
                  cases h7 : dLcL src.gs vs b mt me (src.xs.drop (i + 1)) (wipeD δ5 vs) with
                  | none => rw [h7] at h3; simp at h3
                  | some p7 =>
                    obtain ⟨rest', δe'⟩ := p7
                    rw [h7] at h3
                    simp only [Option.some.injEq, Prod.mk.injEq] at h3
                    obtain ⟨rfl, rfl⟩ := h3
                    refine T.then_ (qb := qe) no3 P4 h6 fun y H5 o5 oy P5 => ?_
                    obtain ⟨g1, g2, g3, g4, g5⟩ := stay (P5.step.mono Wq_sub) P5.own (fun a ha => (List.mem_append.mp ha).elim (P5.held.dom a) (P5.env.dom a))
                    refine ⟨accV, g1, by omega, ?_⟩
                    obtain ⟨o6, E6, c6⟩ := P5.env.wipe vs
                    rw [hw3] at E6
                    have rep6 := g2.append (Reps.one P5.held)
                    have fr6 : ∀ (l : List Addr), D ∉ l → Fr H5 (upd H5 D (.lst (accV ++ [y]))) l := fun l hl => ⟨fun a ha => upd_ne (fun e => hl (e ▸ ha)), fun a w e hw => by
                      have : a ≠ D := fun z => by rw [z, g1] at e; cases e; exact hw
                      rw [upd_ne this]; exact e, (Step.write (W := [D]) g1 List.mem_cons_self).tab⟩
                    have hDo : D ∉ oacc ++ oy := fun hm => g5 (by
                      rcases List.mem_append.mp hm with z | z
                      · exact List.mem_append_left _ z
                      · exact List.mem_append_right _ (List.mem_append_left _ z))
                    have hD6 : D ∉ o6 := fun z => by
                      have h8 : 0 < o6.count D := List.count_pos_iff.mpr z
                      have h9 := c6 D
                      exact g5 (List.mem_append_right _ (List.mem_append_right _ (List.count_pos_iff.mp (show 0 < o5.count D by omega))))
                    refine ⟨accV ++ [y], accD ++ [d], oacc ++ oy, wipeD δ5 vs, o6, rest', by simp; omega, upd_same, rep6.fr (fr6 _ hDo), E6.fr (fr6 _ hD6), ⟨fun a u e hn hu => ?_, fun a e => ?_, fun P g => (Step.write (W := [D]) g1 List.mem_cons_self).tab P (g3.tab P g)⟩, g4.sub fun a => ?_, fun hm => ?_, h7, by rw [List.append_assoc]; exact hds⟩
                    · have : a ≠ D := fun z => by rw [z, hD] at e; cases e
                      rw [upd_ne this]; exact g3.keep a u e hn hu
                    · by_cases z : a = D
                      · rw [z, upd_same] at e; cases e
                      · rw [upd_ne z] at e; exact g3.dom a e
                    · have := c6 a; simp only [List.count_append]; omega
                    · rcases List.mem_append.mp hm with z | z
                      · exact hDo z
                      · exact hD6 z
      · have hd : src.xs.drop i = [] := List.drop_eq_nil_of_le (by omega)
        rw [hd] at h3
        simp only [dLcL] at h3
        by_cases hg : gOk src.gs δ2 = true
        case neg => rw [if_neg hg] at h3; cases h3
        rw [if_pos hg] at h3
        simp only [Option.some.injEq, Prod.mk.injEq] at h3
        obtain ⟨rfl, rfl⟩ := h3
        rw [List.append_nil] at hds
        subst hds
        obtain ⟨o3, E3, c3⟩ := kr s2 E2
        have sH : Step H H' o := (s1.mono Wq_sub).trans (own_right w1) (s2.mono fun a ha => by
          have h5 : 0 < ow.count a := List.count_pos_iff.mpr ha
          have h6 := cw a
          exact List.count_pos_iff.mp (show 0 < o1.count a by omega))
        refine .inl ⟨(S i H' pin shr (gk hg)).2 (by omega), k _ H' o3 (D :: oacc) ⟨sH, E3, ⟨D, accV, oacc, rfl, hHD, ra, rfl⟩, fun a => ?_⟩⟩
        have g1 := w2 a
        have g2 := c3 a
        have g3 := cw a
        have g4 := w1 a
        simp only [List.count_append] at g1 g4 ⊢
        have g5 : od.count a = 0 ∨ H1 a ≠ none := by
          by_cases z : a ∈ od
          · exact .inr (hod a z)
          · exact .inl (List.count_eq_zero.mpr z)
        by_cases ha : a = D
        · subst ha
          have z1 : oacc.count a = 0 := List.count_eq_zero.mpr fun z => hDn (List.mem_append_left _ z)
          have z2 : o2.count a = 0 := List.count_eq_zero.mpr fun z => hDn (List.mem_append_right _ z)
          have z3 : od.count a = 0 := g5.resolve_right (fun z => z hD)
          rw [List.count_cons_self]
          exact .inr ⟨s1.dom a hD, by omega⟩
        · rw [List.count_cons_of_ne (Ne.symm ha)]
          rcases g1 with g1 | ⟨z, g1⟩
          · rcases g4 with g4 | ⟨z4, g4⟩
            · left; omega
            · right; exact ⟨z4, by omega⟩
          · have z3 : od.count a = 0 := g5.resolve_right (fun y => y z)
            exact .inr ⟨s1.dom a z, by omega⟩
theorem z_lc {scope : Scope} {own : List (Str × Nat)} {pos : Pos} (hc : X.calm = true) (hN : X.N.Nodup) (hi : PI X tg iter (TIm (kx X) q ms)) (ok : BlkOk X.N X.env.scope scope own)
    (hg : ∀ (s : Shared) (H : Hp) (C : Addr) (cl : List (Str × Addr)) (fp : List Addr), PG (X.blk s H scope (compEnvC scope cl C X.env) fp) tg (TGm (kx X) (kpOut (own.map (·.2))) b)) (ht : ∀ (s : Shared) (H : Hp) (C : Addr) (cl : List (Str × Addr)) (fp : List Addr), PTs (X.blk s H scope (compEnvC scope cl C X.env) fp) ifs (TT (kx X) qt mt))
    (he : ∀ (s : Shared) (H : Hp) (C : Addr) (cl : List (Str × Addr)) (fp : List Addr), PE (X.blk s H scope (compEnvC scope cl C X.env) fp) elt (T (kx X) qe me)) (hs : ∀ x, foldedSetIterable iter X.env x = pure x := by intro _; rfl) :
    PE X (.ListComp elt [⟨tg, iter, ifs, 0⟩] scope pos) (T (kx X) false (dLc (own.map (·.2)) ms b mt me)) :=
  PE.imp (pe_lc hc hN hi ok hg ht he hs) fun σ H Q h => t_lc h
/-- name = [..], the name a local -/
theorem z_setLc {i : Nat} {y : Str} {py : Pos} {scope : Scope} {own : List (Str × Nat)} {pos spos : Pos} {kp : Nat → Bool} (hc : X.calm = true) (hN : X.N.Nodup) (hy : X.N[i]? = some y) (hyl : X.env.scope.names.lookup y = some .local) (hk : kp i = false)
    (hsw : swapsWith (.ListComp elt [⟨tg, iter, ifs, 0⟩] scope pos) (some (.Name y py)) spos.line X.env = pure true) (hi : PI X tg iter (TIm (kx X) q ms)) (ok : BlkOk X.N X.env.scope scope own)
    (hg : ∀ (s : Shared) (H : Hp) (C : Addr) (cl : List (Str × Addr)) (fp : List Addr), PG (X.blk s H scope (compEnvC scope cl C X.env) fp) tg (TGm (kx X) (kpOut (own.map (·.2))) b)) (ht : ∀ (s : Shared) (H : Hp) (C : Addr) (cl : List (Str × Addr)) (fp : List Addr), PTs (X.blk s H scope (compEnvC scope cl C X.env) fp) ifs (TT (kx X) qt mt))
    (he : ∀ (s : Shared) (H : Hp) (C : Addr) (cl : List (Str × Addr)) (fp : List Addr), PE (X.blk s H scope (compEnvC scope cl C X.env) fp) elt (T (kx X) qe me)) (hs : ∀ x, foldedSetIterable iter X.env x = pure x := by intro _; rfl) :
    PS X (.Assign [.Name y py] (.ListComp elt [⟨tg, iter, ifs, 0⟩] scope pos) spos) (TSm (kx X) kp (dAsg (bName i) (dLc (own.map (·.2)) ms b mt me))) :=
  PS.imp (ps_setLc hc hN hy hyl hsw hi ok hg ht he hs) fun D' σ H h => t_lc (by
    obtain ⟨δ, o, r, δ1, E, n, h1, k⟩ := t_asg (q := false) h
    exact ⟨δ, o, r, δ1, E, n, h1, fun v H1 o1 ov P => gname_of hk (k v H1 o1 ov P)⟩)
end
end Z


set_option Elab.async false
set_option linter.all false
set_option maxRecDepth 100000
/-! generator expressions: the code object, the frame -/
namespace Z
open PySem PySem.Spec PyProof.Rows L2

/-- the module of built-ins, as a new frame asks it -/
def BMod (base : Heap) (mg : Str → Option Value) : Prop := ∃ (bm : Addr) (ob : Obj), mg "__builtins__" = some (.ref bm) ∧ bm ≠ builtinsNs ∧ base.get? bm = some ob ∧ ob.cls = .type "module" ∧ ob.dict = some builtinsNs ∧ ob.data = .plain
theorem among_snoc {pos q : Pos} {c : Value} (l : List Value) (h : TriplesOk l) : codeAmong q (l ++ [rawInt pos.line, rawInt pos.col, c]) =
    match codeAmong q l with
    | some v => some v
    | none => codeAmong q [rawInt pos.line, rawInt pos.col, c] := by
  fun_induction TriplesOk l with
  | case1 => simp [codeAmong]
  | case2 a t b u x rest ih =>
    simp only [List.cons_append, codeAmong]
    split
    · rfl
    · exact ih h
  | case3 l h1 h2 => exact h.elim
theorem among_one {pos q : Pos} {c v : Value} (h : codeAmong q [rawInt pos.line, rawInt pos.col, c] = some v) : v = c := by
  simp only [codeAmong, rawInt] at h
  split at h
  · exact (Option.some.inj h).symm
  · cases h
/-- a table has a new code: all that was good is good -/
theorem GoodT.grow {H H' : Hp} {P c1 P1 : Addr} {ps : Array Value} {pos : Pos} (hP : H P = some (.tbl ps)) (hP' : H' P = some (.tbl (ps ++ #[rawInt pos.line, rawInt pos.col, .ref c1])))
    (hc : H' c1 = some (.ext fun h => PySem.W.CodeHd h c1 P1)) (h1 : H' P1 = some (.tbl #[])) (keep : ∀ a u, H a = some u → a ≠ P → H' a = some u) {Q : Addr} (g : GoodT H Q) : GoodT H' Q := by
  have new : GoodT H' P1 := .mk P1 #[] (fun _ => 0) (fun _ => 0) h1 trivial (fun pos cv h => by simp [codeAmong] at h) (fun pos cv h => by simp [codeAmong] at h)
  induction g with
  | mk Q qs cf pf e t kk _ ih =>
    have hcf : ∀ q cv, codeAmong q qs.toList = some cv → cv = .ref (cf q) ∧ H' (cf q) = some (.ext fun h => PySem.W.CodeHd h (cf q) (pf q)) := fun q cv h => by
      obtain ⟨h2, h3⟩ := kk q cv h
      refine ⟨h2, keep _ _ h3 fun z => ?_⟩
      rw [z, hP] at h3; cases h3
    by_cases hQ : Q = P
    · subst hQ
      rw [hP] at e; cases e
      have hl : (ps ++ #[rawInt pos.line, rawInt pos.col, Value.ref c1]).toList = ps.toList ++ [rawInt pos.line, rawInt pos.col, .ref c1] := by simp
      refine .mk Q _ (fun q => if (codeAmong q ps.toList).isSome then cf q else c1) (fun q => if (codeAmong q ps.toList).isSome then pf q else P1) hP' (by rw [hl]; exact TriplesOk_snoc _ _ _ _ t) (fun q cv h => ?_) fun q cv h => ?_
      · rw [hl, among_snoc _ t] at h
        cases ha : codeAmong q ps.toList with
        | some v =>
          rw [ha] at h
          dsimp only at h
          cases h
          simp only [Option.isSome_some, if_true]
          exact hcf q _ ha
        | none =>
          rw [ha] at h
          dsimp only at h
          have := among_one h
          subst this
          simp only [Option.isSome_none, Bool.false_eq_true, if_false]
          exact ⟨trivial, hc⟩
      · rw [hl, among_snoc _ t] at h
        cases ha : codeAmong q ps.toList with
        | some v =>
          simp only [Option.isSome_some, if_true]
          exact ih q v ha
        | none =>
          simp only [Option.isSome_none, Bool.false_eq_true, if_false]
          exact new
    · exact .mk Q qs cf pf (keep _ _ e hQ) t hcf ih
section
variable {X : Cx} {pins : List (Addr × Obj)} {σ : L2.St} {H : Hp} {s : Shared}
theorem hd_stable {c P : Addr} : ∀ h1 h2 : Heap, PySem.W.CodeHd h1 c P → (∀ o, h1.get? c = some o → h2.get? c = some o) → PySem.W.CodeHd h2 c P := fun h1 h2 ⟨o, vs, file, tf, flags, tg, inF, text, tt, e, r⟩ k => ⟨o, vs, file, tf, flags, tg, inF, text, tt, k _ e, r⟩
/-- the code object of a generator expression: found, or made -/
theorem gen_code {cc : Addr} {δ : DE} {o : List Addr} {gpos : Pos} {qn : Str} {scope : Scope} {E : Value → Shared → Prop} {Q : Value → Shared → Prop} (hcode : X.env.code = .ref cc) (I : Inv X pins σ H s) (En : Envs (kx X) H σ δ o)
    (hQ : ∀ c' P' H' s', Inv X pins σ H' s' → Step H H' [] → Fr H H' o → (∀ b, H b = none → b < s.heap.objs.size → H' b = none) → H' c' = some (.ext fun h => PySem.W.CodeHd h c' P') → GoodT H' P' → s.heap.objs.size ≤ s'.heap.objs.size → (∀ b o, H b = none → s.heap.get? b = some o → s'.heap.get? b = some o) → Q (.ref c') s') :
    wpAny (model X.prog X.w) X.A (genexprCode X.env gpos qn scope) Q E s := by
  obtain ⟨P, hhd, gP⟩ := En.tabs.2 cc hcode
  have hd : PySem.W.CodeHd s.heap cc P := by
    rcases hhd with z | z
    · exact PySem.W.codeHd_of_K I.kIn z
    · exact (I.hok cc _ z).1
  cases gP with
  | mk _ ps cf pf e t kk gg =>
  have hPs : s.heap.get? P = some { cls := .none, data := .fields ps } := I.hok P _ e
  cases hf : codeAmong gpos ps.toList with
  | some cv =>
    obtain ⟨rfl, hc⟩ := kk _ _ hf
    exact wpAny_genexprCode_hit hcode (hd.code hPs t) hf (hQ _ _ H s I (.refl _ _) .rfl (fun b hb _ => hb) hc (gg _ _ hf) (Nat.le_refl _) fun _ _ _ e => e)
  | none =>
    refine wpAny_genexprCodeX hcode (hd.code hPs t) (hd.tab hPs) hf fun c1 h' tk hx hge hlt hco' _ htab' ⟨P1, hP1, hco1, htab1⟩ => ?_
    have hP1' : h'.get? P1 = some { cls := .none, data := .fields #[] } := htab1.2
    have hcd1 : PySem.W.CodeHd h' c1 P1 := .of hco1 htab1
    have ne1 : c1 ≠ P1 := by
      obtain ⟨_, _, _, _, _, _, _, _, _, _, _, _, _, _, _, _, _, _, z⟩ := hcd1
      exact z
    have nf1 : H c1 = none := I.hok.fresh hge
    have nf2 : H P1 = none := I.hok.fresh hP1
    have nP1 : P ≠ c1 := ne_of_none e nf1
    have nP2 : P ≠ P1 := ne_of_none e nf2
    let H' : Hp := upd (upd (upd H P (.tbl (ps ++ #[rawInt gpos.line, rawInt gpos.col, .ref c1]))) c1 (.ext fun h => PySem.W.CodeHd h c1 P1)) P1 (.tbl #[])
    have eP : H' P = some (.tbl (ps ++ #[rawInt gpos.line, rawInt gpos.col, .ref c1])) := by
      show upd _ _ _ _ = _
      rw [upd_ne nP2, upd_ne nP1, upd_same]
    have ec : H' c1 = some (.ext fun h => PySem.W.CodeHd h c1 P1) := by
      show upd _ _ _ _ = _
      rw [upd_ne ne1, upd_same]
    have e1 : H' P1 = some (.tbl #[]) := upd_same
    have eo : ∀ b, b ≠ P → b ≠ c1 → b ≠ P1 → H' b = H b := fun b n1 n2 n3 => by
      show upd _ _ _ _ = _
      rw [upd_ne n3, upd_ne n2, upd_ne n1]
    have keep : ∀ a u, H a = some u → a ≠ P → H' a = some u := fun a u ea n => by
      rw [eo a n (ne_of_none ea nf1) (ne_of_none ea nf2)]; exact ea
    have old : ∀ b o, s.heap.get? b = some o → b ≠ c1 ∧ b ≠ P1 := fun b o eb => by
      have := Heap.lt_size eb
      exact ⟨fun z => by subst z; exact absurd (Nat.lt_of_lt_of_le this hge) (Nat.lt_irrefl _), fun z => by subst z; exact absurd (Nat.lt_of_lt_of_le this hP1) (Nat.lt_irrefl _)⟩
    have nP : ∀ b u, H b = some u → (∀ qs, u ≠ .tbl qs) → b ≠ P := fun b u eb hn z => by
      rw [z, e] at eb; cases eb; exact hn _ rfl
    have nN : ∀ b, H b = none → b ≠ P := fun b eb z => by rw [z, e] at eb; cases eb
    have un : Un X.fs [] H H' s.heap h' := by
      refine ⟨fun b o eb hb _ _ => hx b o (nN b hb) eb, fun b o eb hb _ _ => ⟨o.slots, hx b o (nN b hb) eb⟩, fun b o eb hb _ => ?_, fun b o eb _ => ?_, fun b xs eb => keep b _ eb (nP b _ eb fun _ z => nomatch z), fun b o u eb => keep b _ eb (nP b _ eb fun _ z => nomatch z), fun b qs eb => ?_⟩
      · rw [eo b (nN b hb) (old b o eb).1 (old b o eb).2]; exact hb
      · by_cases hb : b = P
        · rw [hb]; exact ⟨_, htab'.2⟩
        · exact ⟨o, hx b o hb eb⟩
      · by_cases hb : b = P
        · rw [hb, e] at eb; cases eb
          exact ⟨_, by rw [hb]; exact eP⟩
        · exact ⟨#[], by rw [keep b _ eb hb]; simp⟩
    have hok : HOk X.prog X.w H' h' := fun a u ea => by
      by_cases ha : a = P
      · rw [ha, eP] at ea; cases ea; rw [ha]; exact htab'.2
      · by_cases ha1 : a = c1
        · rw [ha1, ec] at ea; cases ea
          rw [ha1]
          obtain ⟨ob, vs, file, tf, flags, tg, inF, text, tt, eo1, r⟩ := id hcd1
          exact ⟨hcd1, ⟨ob, eo1⟩, hd_stable⟩
        · by_cases ha2 : a = P1
          · rw [ha2, e1] at ea; cases ea; rw [ha2]; exact hP1'
          · rw [eo a ha ha1 ha2] at ea
            refine (I.hok a u ea).stay (fun b v hb eb => hx b v ?_ eb) (fun b eb => keep b _ eb (nP b _ eb fun _ z => nomatch z)) fun b xs eb => keep b _ eb (nP b _ eb fun _ z => nomatch z)
            rcases hb with rfl | hb
            · exact ha
            · exact nP b _ hb fun _ z => nomatch z
    have gr : ∀ Q, GoodT H Q → GoodT H' Q := fun Q g => g.grow e eP ec e1 keep
    refine hQ c1 P1 H' _ (I.un (t' := tk) un hok) ⟨fun a u ea _ hn => keep a u ea (nP a u ea hn), fun a ea => ?_, gr⟩ ⟨fun a ha => ?_, fun a u ea hs => keep a u ea (nP a u ea hs.nt), gr⟩ (fun b hb hl => ?_) ec (.mk P1 #[] (fun _ => 0) (fun _ => 0) e1 trivial (fun _ _ h => by simp [codeAmong] at h) (fun _ _ h => by simp [codeAmong] at h)) (Nat.le_trans hge (Nat.le_of_lt hlt)) fun b o hb eb => hx b o (nN b hb) eb
    · cases q : H a with
      | none => rfl
      | some u =>
        by_cases ha : a = P
        · rw [ha, eP] at ea; cases ea
        · rw [keep a u q ha] at ea; cases ea
    · obtain ⟨vs, ea, how⟩ := En.own a ha
      rw [ea]; exact keep a _ ea (nP a _ ea how.2)
    · rw [eo b (nN b hb) (fun z => by subst z; exact absurd (Nat.lt_of_lt_of_le hl hge) (Nat.lt_irrefl _)) (fun z => by subst z; exact absurd (Nat.lt_of_lt_of_le hl hP1) (Nat.lt_irrefl _))]; exact hb
end
end Z


set_option Elab.async false
set_option linter.all false
set_option maxRecDepth 100000
/-! generator expressions: the generator's own frame -/
namespace Z
open PySem PySem.Spec PyProof.Rows L2

/-- the context of a generator's frame that was made at s -/
abbrev _root_.L2.Cx.gen (X : Cx) (A : Around) (s : Shared) (H : Hp) (scope : Scope) (cenv : Env) (fp : List Addr) : Cx :=
  { X with A := A, s_0 := s, H_0 := H, env := cenv, outer := X.stack, stack := cenv :: X.stack, ex := fp, fn := fun x => scope.names.lookup x == some .cell, pn := [], xe := fun _ _ => False }
theorem newEnv_gen {M : Model} {A : Around} {E : Value → Shared → Prop} {s : Shared} {scope : Scope} {cl : List (Str × Addr)} {env : Env} {it code : Value} {bi : Addr} {Q : Env → Shared → Prop} (hk : scope.kind = .function) (h0 : scope.names.lookup (".0" : Str) = some NameKind.local)
    (hQ : ∀ h' tk, h'.Ns s.heap.objs.size (fun y => if y = ".0" then some it else none) → Heap.SameBut s.heap.objs.size (pushCells (s.heap.push { cls := .type "frame", data := .dict #[] }) scope.names) h' →
      Q (genEnv scope (cellsFrom (s.heap.objs.size + 1) scope.names cl) s.heap.objs.size code bi env) { s with heap := h', toks := tk }) :
    wpAny M A (newFunctionEnv scope env.globals cl [((".0" : Str), it)] (env.qual ++ "<genexpr>.") none code none bi) Q E s := by
  simp only [newFunctionEnv, Option.isSome_none, Bool.false_eq_true, if_false]
  refine wpAny_bind (wpAny_alloc ?_)
  refine wpAny_bind (wpAny_layCells _ (fun name kind cells => by cases hkc : kind == NameKind.cell <;> simp [hkc]) _ _ _ _ ?_)
  rw [show ({ s with heap := s.heap.push { cls := .type "frame", data := .dict #[] } } : Shared).heap.objs.size = s.heap.objs.size + 1 from Heap.size_push ..]
  simp only [List.forIn_cons, List.forIn_nil]
  refine wpAny_bind (wpAny_bind (wpAny_bind (wpAny_storeName_local (m := fun _ => none) h0 ((Heap.Ns.new s.heap (.type "frame")).keeps (pushCells_keeps _ _)) (fun h' hn hs => ?_) (by simp [hk]))))
  exact wpAny_pure (wpAny_pure (wpAny_pure (hQ h' _ hn hs)))
section
variable {X : Cx} {pins : List (Addr × Obj)} {σ : L2.St} {H : Hp} {s : Shared}
theorem gen_start {A : Around} {scope : Scope} {own : List (Str × Nat)} {fp : List Addr} {code : Value} {it : Value} {h' h5 : Heap} {g5 : Array GenState} {t5 : Nat} (I : Inv X pins σ H s) (ok : BlkOk X.N X.env.scope scope own) (hN : X.N.Nodup) (hfp : ∀ b ∈ fp, FpOk X pins H b ∧ b < s.heap.objs.size)
    (hA : A.frames = some (genEnv scope (cellsFrom (s.heap.objs.size + 1) scope.names (cloFrom X.env.cells scope.names [])) s.heap.objs.size code builtinsNs X.env :: X.stack)) (hh : A.handled = none)
    (hn : h'.Ns s.heap.objs.size (fun y => if y = ".0" then some it else none)) (hs : Heap.SameBut s.heap.objs.size (pushCells (s.heap.push { cls := .type "frame", data := .dict #[] }) scope.names) h') (h5k : ∀ b o, h'.get? b = some o → h5.get? b = some o) (hg : AllBare g5) :
    Inv (X.gen A s H scope (genEnv scope (cellsFrom (s.heap.objs.size + 1) scope.names (cloFrom X.env.cells scope.names [])) s.heap.objs.size code builtinsNs X.env) fp) [] (wipe σ (own.map (·.2))) H { s with heap := h5, gens := g5, toks := t5 } := by
  have hfree : ∀ y ∈ scope.names, y.2 = .free → ∃ c, X.env.cells.lookup y.1 = some c := fun y hy e => by
    rcases ok.free y hy e with k | k
    · exact I.ok.has _ (.inl k)
    · exact I.ok.has _ (.inr k)
  generalize hcenv : genEnv scope (cellsFrom (s.heap.objs.size + 1) scope.names (cloFrom X.env.cells scope.names [])) s.heap.objs.size code builtinsNs X.env = cenv at *
  have hlc : ∀ b o, b ≠ s.heap.objs.size → (pushCells (s.heap.push { cls := .type "frame", data := .dict #[] }) scope.names).get? b = some o → h5.get? b = some o := fun b o hb e => h5k b o (hs.extBut b o hb e)
  have kp : ∀ b o, s.heap.get? b = some o → h5.get? b = some o := fun b o e => hlc b o (Nat.ne_of_lt (Heap.lt_size e)) (pushCells_keeps _ _ _ _ (Heap.get?_push_of_some _ e))
  have hL : cenv.locals = s.heap.objs.size := by rw [← hcenv]; rfl
  have hcl : cenv.cells = cellsFrom (s.heap.objs.size + 1) scope.names (cloFrom X.env.cells scope.names []) := by rw [← hcenv]; rfl
  have hsc : cenv.scope = scope := by rw [← hcenv]; rfl
  rw [← Heap.size_push s.heap { cls := .type "frame", data := .dict #[] }] at hcl
  have cm : ∀ {y c}, (y, c) ∈ cloFrom X.env.cells scope.names [] → X.env.cells.lookup y = some c ∧ c < s.heap.objs.size := fun {y c} hm => by
    rcases cloFrom_mem hm with hm | ⟨h1, rfl⟩
    · cases hm
    · obtain ⟨c, hc⟩ := hfree _ h1 rfl
      rw [hc]
      obtain ⟨w, z⟩ := I.cell _ _ hc
      exact ⟨rfl, z.lt⟩
  have mem : ∀ {y c}, cenv.cells.lookup y = some c → (X.env.cells.lookup y = some c ∧ c < s.heap.objs.size) ∨ (s.heap.objs.size + 1 ≤ c ∧ CellAt h5 c none) := fun {y c} e => by
    rw [hcl] at e
    rcases cells_mem (PySem.mem_of_lookup e) with hm | ⟨_, h2, o, h3, h4⟩
    · exact .inl (cm hm)
    · rw [Heap.size_push] at h2
      exact .inr ⟨h2, o, hlc c o (Nat.ne_of_gt h2) h3, h4⟩
  have look : ∀ {y}, scope.names.lookup y = some .free → ∃ c, cenv.cells.lookup y = some c ∧ X.env.cells.lookup y = some c := fun {y} hl => by
    have hy : (y, NameKind.free) ∈ scope.names := PySem.mem_of_lookup hl
    obtain ⟨c', e'⟩ := mem_lookup (cells_acc (names := scope.names) (n := (s.heap.push { cls := .type "frame", data := .dict #[] }).objs.size) (cloFrom_has (cells := X.env.cells) (acc := []) hy))
    rw [← hcl] at e'
    refine ⟨c', e', ?_⟩
    rw [hcl] at e'
    rcases cells_mem (PySem.mem_of_lookup e') with hm | ⟨h1, _, _⟩
    · exact (cm hm).1
    · have := ok.uniq _ h1
      rw [hl] at this; cases this
  have okB : (X.gen A s H scope cenv fp).Ok := by
    refine ⟨I.ok.mod, by show cenv.scope.kind = _; rw [hsc]; exact ok.kind, by show cenv.globals = _; rw [← hcenv]; exact I.ok.glob, by show cenv.builtins = _; rw [← hcenv]; rfl, by show s.heap.objs.size ≤ cenv.locals; rw [hL]; exact Nat.le_refl _,
      fun y z c e1 e2 => ?_, fun y hy => ?_, fun y c z e => ?_, fun _ => hh, hA, .inr ⟨rfl, by show cenv.frame = some cenv.locals; rw [← hcenv]; rfl⟩, fun b hb => ⟨?_, fun y c e z => ?_⟩, I.bs, Nat.le_trans I.ok.bsz I.sz, fun b o e hb => ?_, fun b hb z => ?_, I.stack, I.stkFree⟩
    · have e1 : cenv.cells.lookup y = some c := e1
      have e2 : cenv.cells.lookup z = some c := e2
      rw [hcl] at e1 e2
      refine cells_inj (fun p hp => ?_) (fun y z c a b => I.ok.inj y z c (cm a).1 (cm b).1) (PySem.mem_of_lookup e1) (PySem.mem_of_lookup e2)
      rw [Heap.size_push]
      exact Nat.lt_succ_of_lt (cm (y := p.1) (c := p.2) hp).2
    · show ∃ c, cenv.cells.lookup y = some c
      have hy : cenv.scope.names.lookup y = some .cell ∨ cenv.scope.names.lookup y = some .free := hy
      rw [hsc] at hy
      rcases hy with e | e
      · obtain ⟨c, hm⟩ := cells_has (n := (s.heap.push { cls := .type "frame", data := .dict #[] }).objs.size) (acc := cloFrom X.env.cells scope.names []) (PySem.mem_of_lookup e)
        obtain ⟨c', e'⟩ := mem_lookup hm
        exact ⟨c', by rw [hcl]; exact e'⟩
      · obtain ⟨c, h1, _⟩ := look e
        exact ⟨c, h1⟩
    · have z : (scope.names.lookup y == some NameKind.cell) = true := z
      have z : scope.names.lookup y = some .cell := by simpa using z
      have e : cenv.cells.lookup y = some c := e
      rw [hcl] at e
      rcases cells_mem (PySem.mem_of_lookup e) with hm | ⟨_, h2, _⟩
      · rcases cloFrom_mem hm with hm | ⟨h1, _⟩
        · cases hm
        · have q := ok.uniq _ h1
          rw [z] at q; cases q
      · rw [Heap.size_push] at h2
        exact Nat.le_of_succ_le h2
    · show b ≠ cenv.locals
      rw [hL]; exact Nat.ne_of_lt (hfp b hb).2
    · have e : cenv.cells.lookup y = some c := e
      rcases mem e with ⟨h1, _⟩ | ⟨h1, _⟩
      · exact (hfp b hb).1.2.2.2.2.1 y c h1 z
      · have h2 : s.heap.objs.size + 1 ≤ b := by rw [← z]; exact h1
        exact absurd (Nat.lt_of_lt_of_le (hfp b hb).2 (Nat.le_of_succ_le h2)) (Nat.lt_irrefl _)
    · rcases (hfp b hb).1.2.2.2.1 with z | z
      · exact I.ok.noex b o e z
      · exact absurd (Nat.lt_of_lt_of_le (Heap.lt_size e) (Nat.le_trans I.ok.bsz z)) (Nat.lt_irrefl _)
    · rcases List.mem_cons.mp (I.stkSub b z) with z | z
      · exact (hfp b hb).1.2.1 z
      · exact (hfp b hb).1.2.2.1 z
  refine ⟨okB, rfl, hg, Un.kept kp, ⟨(fun y => if y = ".0" then some it else none), ?_, fun i y av e1 e2 e3 => ?_⟩, fun y c e => ?_, ?_, fun y c e => ?_, fun p hp => ?_, I.hok.kept kp, by rw [wipe_length]; exact I.len⟩
  · show Heap.Ns _ cenv.locals _
    rw [hL]
    exact hn.keeps h5k
  · obtain ⟨e2, hne⟩ := wipe_some e2
    have e3 : Vis cenv.scope y := e3
    rw [hsc] at e3
    have hfr : scope.names.lookup y = some .free := by
      have no : ∀ k, scope.names.lookup y = some k → ¬ (k = .local ∨ k = .cell) := fun k e hh => by
        rcases ok.own _ (PySem.mem_of_lookup e) hh with e' | e'
        · obtain ⟨p, hp, hpy⟩ := List.mem_map.mp e'
          have e3 := ok.ix p hp
          have : p.1 = y := hpy
          rw [this] at e3
          exact hne (List.mem_map.mpr ⟨p, hp, nodup_ix hN e3 e1⟩)
        · exact e' (List.mem_of_getElem? e1)
      rcases e3 with e3 | e3 | e3
      · exact absurd (.inl rfl) (no _ e3)
      · exact absurd (.inr rfl) (no _ e3)
      · exact e3
    obtain ⟨m, hnm, hl⟩ := I.loc
    have hvis : Vis X.env.scope y := (ok.free _ (PySem.mem_of_lookup hfr) rfl).elim (fun k => .inr (.inl k)) (fun k => .inr (.inr k))
    obtain ⟨w, r, q⟩ := hl i y av e1 e2 hvis
    refine ⟨w, r, .inr ⟨.inr (by show cenv.scope.names.lookup y = _; rw [hsc]; exact hfr), ?_⟩⟩
    obtain ⟨c, h1, h2⟩ := look hfr
    rcases q with ⟨k, _⟩ | ⟨_, c', e', z⟩
    · have k : X.env.scope.names.lookup y = some .local := k
      rcases ok.free _ (PySem.mem_of_lookup hfr) rfl with k' | k' <;> rw [show X.env.scope.names.lookup y = _ from k'] at k <;> cases k
    · rw [h2] at e'; cases e'
      exact ⟨c, h1, z.keeps kp⟩
  · have e : cenv.cells.lookup y = some c := e
    rcases mem e with ⟨h1, _⟩ | ⟨_, z⟩
    · obtain ⟨w, z⟩ := I.cell y c h1
      exact ⟨w, z.keeps kp⟩
    · exact ⟨_, z⟩
  · show H cenv.locals = none
    rw [hL]; exact I.hok.fresh (Nat.le_refl _)
  · have e : cenv.cells.lookup y = some c := e
    rcases mem e with ⟨h1, _⟩ | ⟨h1, _⟩
    · exact I.freeC y c h1
    · exact I.hok.fresh (Nat.le_of_succ_le h1)
  · exact absurd (show p ∈ ([] : List (Addr × Obj)) ++ [] from hp) (by simp)
theorem over_gen {A : Around} {elt : Expr} {gs : List Comprehension} {scope : Scope} {pos : Pos} {it acc : Value} {cenv : Env} : A.over (.compLoop (.GeneratorExp elt gs scope pos) 0 it acc cenv) [] = A.deeper cenv := by rfl
end
end Z


set_option Elab.async false
set_option linter.all false
set_option maxRecDepth 100000
/-! generator expressions: the turns -/
namespace Z
open PySem PySem.Spec PyProof.Rows L2

/-- what one item of the walked thing gives: nothing told, nothing handed out, or a datum -/
def gx (vs : List Nat) (b : Bnd) (mt : DenT) (me : Den) (δw : DE) (x : D) : Option (Option D) := match b x δw with
  | some δ3 => match mt δ3 with
    | some (false, δ4) => if wipeD δ4 vs = δw then some none else none
    | some (true, δ4) => match me δ4 with
      | some (.own d, δ5) => if wipeD δ5 vs = δw ∧ d.imm = true then some (some d) else none
      | _ => none
    | none => none
  | none => none
/-- what is handed out, up to the first that ends the walk -/
def dG (stop : D → Bool) (f : D → Option (Option D)) : List D → Option (List D)
  | [] => some []
  | x :: xs => match f x with
    | none => none
    | some none => dG stop f xs
    | some (some d) => if stop d then some [d] else match dG stop f xs with
      | some r => some (d :: r)
      | none => none
theorem Envs.cv {κ : Kx} {cv : Value} {H : Hp} : ∀ {σ : List (Option V)} {δ : DE} {o : List Addr}, Envs κ H σ δ o → CodeNow κ.K cv H → Envs ⟨κ.K, cv⟩ H σ δ o
  | [], [], _, h, c => ⟨h.1, h.2.1, c⟩
  | none :: σ, none :: δ, _, h, c => Envs.cv (σ := σ) (δ := δ) h c
  | some _ :: σ, none :: δ, _, h, c => Envs.cv (σ := σ) (δ := δ) h c
  | some v :: σ, some d :: δ, _, h, c => by
    obtain ⟨o1, o2, h1, h2, e⟩ := h
    exact ⟨o1, o2, h1, Envs.cv h2 c, e⟩
  | none :: σ, some d :: δ, _, h, _ => h.elim
  | [], _ :: _, _, h, _ => by simp [Envs] at h
  | _ :: _, [], _, h, _ => by simp [Envs] at h
theorem rest_wipe (δ : DE) : ∀ vs : List Nat, restD δ (wipeD δ vs) vs = δ
  | [] => rfl
  | v :: vs => by
    show restD δ (((wipeD δ vs).set v none).set v (match (wipeD δ vs)[v]? with | some x => x | none => none)) vs = δ
    rw [List.set_set]
    have : (wipeD δ vs).set v (match (wipeD δ vs)[v]? with | some x => x | none => none) = wipeD δ vs := by
      by_cases hl : v < (wipeD δ vs).length
      · rw [List.getElem?_eq_getElem hl]; exact List.set_getElem_self hl
      · exact List.set_eq_of_length_le (by omega)
    rw [this]
    exact rest_wipe δ vs
theorem pinsAt_eq {L : List Addr} {h h' : Heap} (k : ∀ b ∈ L, ∃ o, h.get? b = some o ∧ h'.get? b = some o) : pinsAt L h' = pinsAt L h := by
  unfold pinsAt
  induction L with
  | nil => rfl
  | cons b L ih =>
    obtain ⟨o, e1, e2⟩ := k b List.mem_cons_self
    rw [List.filterMap_cons, List.filterMap_cons, e1, e2, ih fun b hb => k b (List.mem_cons_of_mem _ hb)]
theorem _root_.L2.Inv.gens {X : Cx} {pins : List (Addr × Obj)} {σ : L2.St} {H : Hp} {s : Shared} (I : Inv X pins σ H s) {g : Array GenState} (h : AllBare g) : Inv X pins σ H { s with gens := g } :=
  ⟨I.ok, I.os, h, I.base, I.loc, I.cell, I.free, I.freeC, I.pin, I.hok, I.len⟩

/-- the consumer's lists hold these data -/
def Keeps (K : Fw) (S : List Addr) (gd : List D) (H : Hp) (s : Shared) : Prop := ∀ b ∈ S, ∃ acc c gv, s.heap.get? b = some (lstObj acc c) ∧ Vals gv acc.toList ∧ Reps K H gd gv [] ∧ H b = none
/-- a generator's turn i is due: its frame's context, the names and data that it has, what is pinned -/
structure GInv (Xg : Cx) (σw : L2.St) (δw : DE) (fp : List Addr) (tn : Nat → Heap → Prop) (H1 : Hp) (ow : List Addr) (L : List Addr) (S : List Addr) (gd : List D) (pins : List (Addr × Obj)) (i : Nat) (H : Hp) (s : Shared) : Prop where
  inv : Inv Xg pins σw H s
  trn : tn i s.heap
  nof : ∀ b ∈ fp, H b = none
  env : ∃ o', Envs (kx Xg) H σw δw o' ∧ Own H1 ow o'
  step : Step H1 H ow
  live : ∀ b ∈ L, ∃ o, s.heap.get? b = some o
  apart : ∀ p ∈ pins, p.1 ∉ fp
  held : Keeps Xg.F S gd H s
/-- at the end -/
structure GEnd (Xg : Cx) (σw : L2.St) (δw : DE) (H1 : Hp) (ow : List Addr) (S : List Addr) (gd : List D) (pins : List (Addr × Obj)) (H : Hp) (s : Shared) : Prop where
  inv : Inv Xg pins σw H s
  env : ∃ o', Envs (kx Xg) H σw δw o' ∧ Own H1 ow o'
  step : Step H1 H ow
  held : Keeps Xg.F S gd H s
theorem GInv.fin {Xg : Cx} {σw : L2.St} {δw : DE} {fp : List Addr} {tn : Nat → Heap → Prop} {H1 : Hp} {ow L S : List Addr} {gd : List D} {pins : List (Addr × Obj)} {i : Nat} {H : Hp} {s : Shared} (G : GInv Xg σw δw fp tn H1 ow L S gd pins i H s) : GEnd Xg σw δw H1 ow S gd pins H s := ⟨G.inv, G.env, G.step, G.held⟩
def GPr (Xg : Cx) (σw : L2.St) (δw : DE) (H1 : Hp) (ow : List Addr) (L S : List Addr) (cd : Nat → List D) (R0 : List D) : Nat → Shared → Shared → Prop := fun n s₀ s => n = 1 ∧ ∃ H, GEnd Xg σw δw H1 ow S (cd R0.length) (pinsAt L s₀.heap) H s
def GYd (Xg : Cx) (σw : L2.St) (δw : DE) (fp : List Addr) (tn : Nat → Heap → Prop) (H1 : Hp) (ow : List Addr) (L S : List Addr) (cd : Nat → List D) (stop : D → Bool) (R0 : List D) : Protocol := fun m s₀ v s kap =>
  1 ≤ m ∧ ∃ i d x H, R0[R0.length - m]? = some d ∧ GInv Xg σw δw fp tn H1 ow L S (cd (R0.length - m)) (pinsAt L s₀.heap) i H s ∧ RelV x v ∧ Rep Xg.F H d x [] ∧
    (stop d = false → ∀ s'' H'', GInv Xg σw δw fp tn H1 ow L S (cd (R0.length - m + 1)) (pinsAt L s''.heap) i H'' s'' → kap (.send .none) s'')
section
variable {Xg : Cx} {σ : L2.St} {δw : DE} {fp : List Addr} {tn : Nat → Heap → Prop} {H1 : Hp} {ow L Sc vs : List Addr} {cd : Nat → List D} {stop : D → Bool} {R0 : List D} {Ac : Around} {cenv : Env} {elt tg iter : Expr} {ifs : List Expr} {scope : Scope} {pos : Pos} {it : Addr} {J : It} {xs : List D} {b : Bnd} {mt : DenT} {me : Den} {qt qe : Bool}
theorem seg_gen (hA : Xg.A = Ac.deeper cenv) (hE : Xg.env = cenv) (hxe : Xg.xe = fun _ _ => False) (hx : Xg.ex = fp) (hpn : Xg.pn = []) (hcm : Xg.calm = true) (hco : cenv.scope.isCoroutine = false)
    (Tn : Turn Xg.prog Xg.w Xg.K tg J fp it tn) (pg : PG Xg tg (TGm (kx Xg) (kpOut vs) b)) (pt : PTs Xg ifs (TT (kx Xg) qt mt)) (pe : PE Xg elt (T (kx Xg) qe me)) (hNow : Nd ow)
    (S : ∀ i H, Step H1 H ow → (∃ o', Envs (kx Xg) H (L2.wipe σ vs) δw o' ∧ Own H1 ow o') → (∀ x, xs[i]? = some x → J.go i H ∧ ∀ v H'', J.yld i H v H'' → (∀ a u, H a = some u → H'' a = some u) ∧ Rep Xg.F H'' x v []) ∧ (xs.length ≤ i → J.stop i H)) :
    ∀ (k i : Nat) (s₀ s : Shared) (H : Hp) (r pre : List D), xs.length - i = k → i ≤ xs.length → dG stop (gx vs b mt me δw) (xs.drop i) = some r → R0 = pre ++ r → (∀ b ∈ L, ∃ o, s₀.heap.get? b = some o) → (∀ b ∈ Sc, b ∈ L) → GInv Xg (L2.wipe σ vs) δw fp tn H1 ow L Sc (cd pre.length) (pinsAt L s₀.heap) i H s →
      Seg (model Xg.prog Xg.w) Ac (fun n s₀ r s₁ => r = .ok .next ∧ GPr Xg (L2.wipe σ vs) δw H1 ow L Sc cd R0 n s₀ s₁) (GYd Xg (L2.wipe σ vs) δw fp tn H1 ow L Sc cd stop R0) (r.length + 1) s₀
        (.compLoop (.GeneratorExp elt [⟨tg, iter, ifs, 0⟩] scope pos) 0 (.ref it) .none cenv) ((model Xg.prog Xg.w).den (.compLoop (.GeneratorExp elt [⟨tg, iter, ifs, 0⟩] scope pos) 0 (.ref it) .none cenv)) [] s := by
  have stat : ∀ {pins : List (Addr × Obj)} {σ' : L2.St} {H' : Hp} {s' : Shared}, Inv Xg pins σ' H' s' → (∀ p ∈ pins, p.1 ∉ fp) → (∀ b ∈ fp, H' b = none) → ∀ b ∈ fp, FpOk Xg pins H' b := fun {pins σ' H' s'} I' hp hn b hb => by
    have hb' : b ∈ Xg.ex := by rw [hx]; exact hb
    refine ⟨hn b hb, (I'.ok.exf b hb').1, I'.ok.exfs b hb', .inl hb', fun x c e => (I'.ok.exf b hb').2 x c e, fun p hp' => ?_⟩
    rw [hpn, List.nil_append] at hp'
    exact fun z => hp p hp' (z ▸ hb)
  intro k
  induction k with
  | zero =>
    intro i s₀ s H r pre hk hi hr hR hL hLS G
    have hin : i = xs.length := by omega
    subst hin
    rw [List.drop_length] at hr
    cases (Option.some.inj hr : [] = r)
    show Seg _ Ac _ _ _ s₀ _ ((compTurn (.GeneratorExp elt [⟨tg, iter, ifs, 0⟩] scope pos) 0 (.ref it) .none cenv).onRaise (leaving cenv)) [] s
    rw [compTurn_gen, Sem.onRaise_eq_wrap]
    refine seg_bind_wrap (wpAny_standAt ?_)
    have td := Tn.done Xg rfl rfl rfl hcm xs.length (pinsAt L s₀.heap) s _ H (fun _ _ => False) G.inv (stat G.inv G.apart G.nof) G.trn ((S xs.length H G.step G.env).2 (Nat.le_refl _))
    rw [hA] at td
    refine seg_bind_wrap ?_
    rw [over_gen]
    refine thnF td fun r s6 ⟨hr, I6⟩ => ?_
    subst hr
    exact seg_end (.ok .next) ⟨rfl, rfl, H, I6, G.env, G.step, by
      rw [hR, List.append_nil]
      intro b hb
      obtain ⟨acc, c, gv, e, va, re, hn⟩ := G.held b hb
      exact ⟨acc, c, gv, (I6.pin (b, _) (List.mem_append_right _ (mem_pinsAt (hLS b hb) (by
        obtain ⟨o, eo⟩ := hL b (hLS b hb)
        have := (G.inv.pin (b, o) (List.mem_append_right _ (mem_pinsAt (hLS b hb) eo))).1
        rw [e] at this; rw [eo, this])))).1, va, re, hn⟩⟩
  | succ k ih =>
    intro i s₀ s H r pre hk hi hr hR hL hLS G
    have hlt : i < xs.length := by omega
    have hxi : xs[i]? = some xs[i] := List.getElem?_eq_getElem hlt
    rw [List.drop_eq_getElem_cons hlt] at hr
    simp only [dG] at hr
    obtain ⟨o2, E2, w2⟩ := G.env
    obtain ⟨go, yl⟩ := (S i H G.step ⟨o2, E2, w2⟩).1 _ hxi
    show Seg _ Ac _ _ _ s₀ _ ((compTurn (.GeneratorExp elt [⟨tg, iter, ifs, 0⟩] scope pos) 0 (.ref it) .none cenv).onRaise (leaving cenv)) [] s
    rw [compTurn_gen, Sem.onRaise_eq_wrap]
    refine seg_bind_wrap (wpAny_standAt ?_)
    have ti := Tn.item Xg rfl rfl rfl hcm i (pinsAt L s₀.heap) s _ H (fun _ _ => False) G.inv (stat G.inv G.apart G.nof) G.trn go
    rw [hA] at ti
    refine seg_bind_wrap ?_
    rw [over_gen]
    refine thnF ti fun r6 s6 ⟨u, hr6, h6⟩ => ?_
    subst hr6
    dsimp only
    refine seg_bind_wrap ?_
    rw [over_gen]
    refine thnF h6 fun _ s7 ⟨x, H7, I7, r7, y7, st7, n7⟩ => ?_
    obtain ⟨sm, rv⟩ := yl x H7 y7
    have I7' := I7.pinned (stat I7 G.apart n7) (Tn.obj _ _ st7)
    cases hg : gx vs b mt me δw xs[i] with
    | none => rw [hg] at hr; simp at hr
    | some go1 =>
    rw [hg] at hr
    simp only [gx] at hg
    cases hb : b xs[i] δw with
    | none => rw [hb] at hg; simp at hg
    | some δ3 =>
    rw [hb] at hg; dsimp only at hg
    cases hm : mt δ3 with
    | none => rw [hm] at hg; simp at hg
    | some p4 =>
    obtain ⟨bt, δ4⟩ := p4
    rw [hm] at hg
    have s3 : Step H1 H7 ow := G.step.same sm
    -- the target, the tests
    have tgt : TGm (kx Xg) (kpOut vs) b x (L2.wipe σ vs) H7 (fun σ3 H3 => H3 = H7 ∧ L2.wipe σ3 vs = L2.wipe σ vs ∧ σ3.length = (L2.wipe σ vs).length ∧ ∃ o3, Envs (kx Xg) H7 σ3 δ3 o3 ∧ Own H1 ow o3) := by
      refine ⟨δw, o2, xs[i], [], δ3, E2.same sm, rv, hb, fun σ3 o3 E3 c3 k3 => ⟨rfl, ?_, k3.2, o3, E3, w2.sub fun a => ?_⟩⟩
      · rw [← wipe_wipe σ vs]
        exact wipe_same k3.2 fun j hj => k3.1 j (by simpa [kpOut] using hj)
      · have := c3 a; simp only [List.count_nil] at this; omega
    have pgr := pg.run _ s7 _ H7 x u _ I7' r7 tgt
    rw [hA, hE, hxe] at pgr
    refine seg_bind_wrap ?_
    rw [over_gen]
    refine thnF pgr fun _ s8 ⟨σ8, H8, I8, e8, hw8, hl8, o3, E3, w3⟩ => ?_
    subst e8
    have no3 : Nd o3 := w3.nd hNow
    have tst : TT (kx Xg) qt mt σ8 H8 (fun b9 H9 => b9 = bt ∧ Step H8 H9 o3 ∧ ∃ o4, Envs (kx Xg) H9 σ8 δ4 o4 ∧ Own H8 o3 o4) := ⟨δ3, o3, bt, δ4, E3, no3, hm, fun H9 o4 P4 => ⟨rfl, P4.step.mono Wq_sub, o4, P4.env, P4.own⟩⟩
    have ptr := pt.run _ s8 σ8 H8 _ I8 tst
    rw [hA, hE, hxe] at ptr
    refine seg_bind_wrap ?_
    rw [over_gen]
    refine thnF ptr fun b9 s9 ⟨H9, I9, hb9, s9', o4, E4, w4⟩ => ?_
    subst hb9
    have s4 : Step H1 H9 ow := s3.trans w3 s9'
    have w4' : Own H1 ow o4 := w3.trans s3 w4
    have keep9 : ∀ gv, Reps Xg.F H (cd pre.length) gv [] → Reps Xg.F H9 (cd pre.length) gv [] := fun gv r => (r.same sm).step s9' E3.ok fun a ha => nomatch ha
    -- behind the turn
    have fin : ∀ {s' : Shared} {H' : Hp} {δ' : DE} {o' : List Addr}, Inv Xg (pinsAt L s₀.heap ++ pinsAt fp s7.heap) σ8 H' s' → Step H1 H' ow → Envs (kx Xg) H' σ8 δ' o' → Own H1 ow o' → wipeD δ' vs = δw → (∀ gv, Reps Xg.F H (cd pre.length) gv [] → Reps Xg.F H' (cd pre.length) gv []) → GInv Xg (L2.wipe σ vs) δw fp tn H1 ow L Sc (cd pre.length) (pinsAt L s₀.heap) (i + 1) H' s' := fun {s' H' δ' o'} I' st' E' w' hw hre => by
      have pin' : ∀ b ∈ fp, ∀ o, s7.heap.get? b = some o → s'.heap.get? b = some o ∧ H' b = none := fun b hb o e =>
        let z := I'.pin (b, o) (List.mem_append_right _ (List.mem_append_right _ (mem_pinsAt hb e)))
        ⟨z.1, z.2.1⟩
      obtain ⟨o6, E6, c6⟩ := E'.wipe vs
      rw [hw8, hw] at E6
      refine ⟨(I'.unpinned).weak hl8.symm fun j v e => ?_, Tn.keep _ _ _ st7 fun b hb o e => (pin' b hb o e).1, fun b hb => ?_, ⟨o6, E6, w'.sub c6⟩, st', fun b hb => ?_, G.apart, fun b hb => ?_⟩
      · rw [← hw8] at e
        exact (wipe_some e).1
      · obtain ⟨o, e, _⟩ := Tn.obj _ _ st7 b hb
        exact (pin' b hb o e).2
      · obtain ⟨o, e⟩ := hL b hb
        exact ⟨o, (I'.pin (b, o) (List.mem_append_right _ (List.mem_append_left _ (mem_pinsAt hb e)))).1⟩
      · obtain ⟨acc, c, gv, e, va, re, _⟩ := G.held b hb
        obtain ⟨o, eo⟩ := hL b (hLS b hb)
        have e2 := (G.inv.pin (b, o) (List.mem_append_right _ (mem_pinsAt (hLS b hb) eo))).1
        rw [e] at e2
        have e3 := (I'.pin (b, o) (List.mem_append_right _ (List.mem_append_left _ (mem_pinsAt (hLS b hb) eo)))).1
        exact ⟨acc, c, gv, by rw [e3, Option.some.inj e2], va, hre gv re, (I'.pin (b, o) (List.mem_append_right _ (List.mem_append_left _ (mem_pinsAt (hLS b hb) eo)))).2.1⟩
    cases b9 with
    | false =>
      by_cases hwd : wipeD δ4 vs = δw
      case neg => dsimp only at hg; rw [if_neg hwd] at hg; cases hg
      dsimp only at hg
      rw [if_pos hwd] at hg
      cases (Option.some.inj hg : none = go1)
      simp only [Bool.false_eq_true, if_false]
      exact seg_again rfl (ih (i + 1) s₀ _ H9 r pre (by omega) hlt hr hR hL hLS (fin I9 s4 E4 w4' hwd keep9))
    | true =>
      dsimp only at hg
      cases he : me δ4 with
      | none => rw [he] at hg; simp at hg
      | some p5 =>
      obtain ⟨re, δ5⟩ := p5
      rw [he] at hg
      cases re with
      | «at» _ _ => simp at hg
      | own d =>
      dsimp only at hg
      by_cases hwd : wipeD δ5 vs = δw ∧ d.imm = true
      case neg => rw [if_neg hwd] at hg; cases hg
      rw [if_pos hwd] at hg
      cases (Option.some.inj hg : some d = go1)
      dsimp only at hr
      have no4 : Nd o4 := w4'.nd hNow
      have elr : T (kx Xg) qe me σ8 H9 (fun y H5 => Step H9 H5 o4 ∧ Rep Xg.F H5 d y [] ∧ ∃ o5, Envs (kx Xg) H5 σ8 δ5 o5 ∧ Own H9 o4 o5) := ⟨δ4, o4, .own d, δ5, E4, no4, he, fun y H5 o5 oy P5 => by
        have hoy : oy = [] := Rep.imm P5.held hwd.2
        subst hoy
        exact ⟨P5.step.mono Wq_sub, P5.held, o5, P5.env, own_right P5.own⟩⟩
      have per := pe.run _ s9 σ8 H9 _ I9 elr
      rw [hA, hE, hxe] at per
      simp only [if_true]
      have hy : ∀ v, yieldOut cenv v = yieldValue v := fun v => by simp only [yieldOut, hco, Bool.false_eq_true, if_false]
      simp only [hy]
      rw [Sem.bind_eq_wrap', Sem.bind_eq_wrap', Sem.wrap_wrap, Sem.wrap_wrap]
      refine seg_wrap ?_
      rw [over_gen]
      refine thnF per fun y s10 ⟨yv, H10, I10, r10, s10', rep, o5, E5, w5⟩ => ?_
      have s5 : Step H1 H10 ow := s4.trans w4' s10'
      have w5' : Own H1 ow o5 := w4'.trans s4 w5
      have G10 := fin I10 s5 E5 w5' hwd.1 fun gv r => (keep9 gv r).step s10' E4.ok fun a ha => nomatch ha
      have hr' : ∃ r', r = d :: r' ∧ (stop d = false → dG stop (gx vs b mt me δw) (xs.drop (i + 1)) = some r') := by
        cases hst : stop d with
        | true =>
          rw [hst, if_pos rfl] at hr
          exact ⟨[], (Option.some.inj hr).symm, fun z => nomatch z⟩
        | false =>
          rw [hst, if_neg Bool.false_ne_true] at hr
          cases hq : dG stop (gx vs b mt me δw) (xs.drop (i + 1)) with
          | none => rw [hq] at hr; simp at hr
          | some r' =>
            rw [hq] at hr
            exact ⟨r', (Option.some.inj hr).symm, fun _ => rfl⟩
      obtain ⟨r', rfl, hr2⟩ := hr'
      rw [List.length_cons]
      have hj : R0.length - (r'.length + 1) = pre.length := by rw [hR, List.length_append, List.length_cons]; omega
      refine seg_at (seg_yield rfl rfl rfl ⟨Nat.le_add_left 1 _, i + 1, d, yv, H10, ?_, by rw [hj]; exact G10, r10, rep, fun hst s'' H'' G'' => ?_⟩)
      · rw [hj, hR, List.getElem?_append_right (Nat.le_refl _), Nat.sub_self]; rfl
      · rw [hj] at G''
        exact seg_again rfl (ih (i + 1) s'' s'' H'' r' (pre ++ [d]) (by omega) hlt (hr2 hst) (by rw [hR, List.append_assoc]; rfl) G''.live hLS (by rw [List.length_append]; exact G''))
end
end Z


set_option Elab.async false
set_option linter.all false
set_option maxRecDepth 100000
/-! generator expressions: begun, asked for the next item, made -/
namespace Z
open PySem PySem.Spec PyProof.Rows L2

section
variable {Xg : Cx} {σw : L2.St} {δw : DE} {fp : List Addr} {tn : Nat → Heap → Prop} {H1 : Hp} {ow L Sc vs : List Addr} {cd : Nat → List D} {gd : List D} {stop : D → Bool} {R0 : List D}
/-- the generator g, r still to come -/
def Gat (Xg : Cx) (σw : L2.St) (δw : DE) (fp : List Addr) (tn : Nat → Heap → Prop) (H1 : Hp) (ow L Sc : List Addr) (cd : Nat → List D) (stop : D → Bool) (R0 : List D) (Ac : Around) (g i : Nat) (r : List D) (s : Shared) : Prop :=
  g < s.gens.size ∧ ∃ gs, s.gens[g]? = some gs ∧ ∀ s'' H'', GInv Xg σw δw fp tn H1 ow L Sc (cd (R0.length - r.length)) (pinsAt L s''.heap) i H'' s'' →
    gs.Goes (model Xg.prog Xg.w) Ac (fun n s₀ r s₁ => r = .ok .next ∧ GPr Xg σw δw H1 ow L Sc cd R0 n s₀ s₁) (GYd Xg σw δw fp tn H1 ow L Sc cd stop R0) (r.length + 1) (.send .none) s''
theorem GInv.gens {pins : List (Addr × Obj)} {i : Nat} {H : Hp} {s : Shared} (G : GInv Xg σw δw fp tn H1 ow L Sc gd pins i H s) {g : Array GenState} (h : AllBare g) : GInv Xg σw δw fp tn H1 ow L Sc gd pins i H { s with gens := g } :=
  ⟨G.inv.gens h, G.trn, G.nof, G.env, G.step, G.live, G.apart, G.held⟩
theorem GInv.pin {i : Nat} {H : Hp} {s₀ s : Shared} (G : GInv Xg σw δw fp tn H1 ow L Sc gd (pinsAt L s₀.heap) i H s) (hL : ∀ b ∈ L, ∃ o, s₀.heap.get? b = some o) : pinsAt L s.heap = pinsAt L s₀.heap := pinsAt_eq fun b hb => by
  obtain ⟨o, e⟩ := hL b hb
  exact ⟨o, e, (G.inv.pin (b, o) (List.mem_append_right _ (mem_pinsAt hb e))).1⟩
theorem GInv.at {i : Nat} {H : Hp} {s₀ s : Shared} {b : Addr} {o : Obj} (G : GInv Xg σw δw fp tn H1 ow L Sc gd (pinsAt L s₀.heap) i H s) (hb : b ∈ L) (e : s₀.heap.get? b = some o) : s.heap.get? b = some o := (G.inv.pin (b, o) (List.mem_append_right _ (mem_pinsAt hb e))).1
theorem GEnd.at {H : Hp} {s₀ s : Shared} {b : Addr} {o : Obj} (G : GEnd Xg σw δw H1 ow Sc gd (pinsAt L s₀.heap) H s) (hb : b ∈ L) (e : s₀.heap.get? b = some o) : s.heap.get? b = some o := (G.inv.pin (b, o) (List.mem_append_right _ (mem_pinsAt hb e))).1
theorem gen_next {A : Around} {a : Addr} {g i : Nat} {H : Hp} {s : Shared} {r pre : List D} {E : Value → Shared → Prop} {Q : Option Value → Shared → Prop} (hh : A.handled = none) (hroom : A.depth < recursionLimit) (ha : a ∈ L) (isg : s.heap.IsGen a g)
    (G : GInv Xg σw δw fp tn H1 ow L Sc (cd pre.length) (pinsAt L s.heap) i H s) (Ka : Gat Xg σw δw fp tn H1 ow L Sc cd stop R0 A.in1 g i r s) (hR : R0 = pre ++ r) (hpre : ∀ d ∈ pre, stop d = false)
    (hnil : r = [] → ∀ s' H', GEnd Xg σw δw H1 ow Sc (cd pre.length) (pinsAt L s.heap) H' s' → Q none s')
    (hcons : ∀ d r', r = d :: r' → ∀ v x i' s' H', RelV x v → Rep Xg.F H' d x [] → GInv Xg σw δw fp tn H1 ow L Sc (cd pre.length) (pinsAt L s.heap) i' H' s' → s'.heap.IsGen a g → (stop d = false → Gat Xg σw δw fp tn H1 ow L Sc cd stop R0 A.in1 g i' r' s') → Q (some v) s') :
    wpAny (model Xg.prog Xg.w) A (pyNext (.ref a)) Q E s := by
  obtain ⟨hgl, gs, hgs, goes⟩ := Ka
  have hbr : AllBare (s.setGen g .running).gens := allBare_setGen G.inv.bare rfl
  have hj : R0.length - r.length = pre.length := by rw [hR, List.length_append]; omega
  rw [hj] at goes
  have G0 : GInv Xg σw δw fp tn H1 ow L Sc (cd pre.length) (pinsAt L s.heap) i H (s.setGen g .running) := G.gens hbr
  have hgo := goes (s.setGen g .running) H G0
  have live := G.live
  refine GenW.wpAny_gsz (n := g + 1) hgl (wpAny_pyNext_genexpQ hh G.inv.nolimit hroom isg hgs hgo (fun v s₁ gs' hb hY => ?_) fun s₁ hP h' hk => ?_)
  · intro hsz
    have hs1 : g < s₁.gens.size := by
      have q : (s₁.setGen g gs').gens.size = s₁.gens.size := GenW.setGen_size _ _ _
      have hsz' : g + 1 ≤ (s₁.setGen g gs').gens.size := hsz
      omega
    obtain ⟨h1, i', d, x, H', hd, G', rx, rep, kap⟩ := hY
    cases r with
    | nil => exact absurd h1 (by simp)
    | cons d0 r' =>
      have hd0 : d = d0 := by
        have hd : R0[R0.length - (d0 :: r').length]? = some d := hd
        rw [hR, List.length_append, List.length_cons, show pre.length + (r'.length + 1) - (r'.length + 1) = pre.length by omega, List.getElem?_append_right (Nat.le_refl _), Nat.sub_self] at hd
        simpa using hd.symm
      subst hd0
      have hj2 : R0.length - (d :: r').length = pre.length := by rw [hR, List.length_append, List.length_cons]; omega
      have hj3 : R0.length - (d :: r').length + 1 = R0.length - r'.length := by rw [hj2, hR, List.length_append, List.length_cons]; omega
      have G' : GInv Xg σw δw fp tn H1 ow L Sc (cd pre.length) (pinsAt L s.heap) i' H' s₁ := by rw [← hj2]; exact G'
      have G1 : GInv Xg σw δw fp tn H1 ow L Sc (cd pre.length) (pinsAt L s.heap) i' H' (s₁.setGen g gs') := G'.gens (allBare_setGen G'.inv.bare hb)
      have isg' : (s₁.setGen g gs').heap.IsGen a g := by
        obtain ⟨o, nm, qn, ho, q⟩ := isg
        exact ⟨o, nm, qn, G'.at ha ho, q⟩
      refine hcons d r' rfl v x i' _ H' rx rep G1 isg' fun hst => ⟨by rw [GenW.setGen_size]; exact hs1, gs', setGen_at hs1, fun s'' H'' G'' => kap hst s'' H'' (by rw [← hj3] at G''; exact G'')⟩
  · intro hsz
    obtain ⟨hn, H', Ge⟩ := hP
    have hnil' : r = [] := List.length_eq_zero_iff.mp (Nat.succ.inj hn)
    have hRl : R0.length = pre.length := by rw [hR, hnil', List.append_nil]
    have Ge : GEnd Xg σw δw H1 ow Sc (cd pre.length) (pinsAt L s.heap) H' s₁ := by rw [← hRl]; exact Ge
    refine hnil hnil' _ H' ⟨?_, Ge.env, Ge.step, fun b hb => by obtain ⟨acc, c, gv, e, q⟩ := Ge.held b hb; exact ⟨acc, c, gv, hk _ _ e, q⟩⟩
    exact (Ge.inv.gens (allBare_setGen Ge.inv.bare rfl)).kept (t' := s₁.toks) hk
end
section
variable {Xg : Cx} {σ : L2.St} {δw : DE} {fp : List Addr} {tn : Nat → Heap → Prop} {H1 : Hp} {ow L Sc vs : List Addr} {cd : Nat → List D} {stop : D → Bool} {R0 : List D} {Ac : Around} {cenv : Env} {elt tg iter : Expr} {ifs : List Expr} {scope : Scope} {pos : Pos} {it : Addr} {J : It} {xs : List D} {b : Bnd} {mt : DenT} {me : Den} {qt qe : Bool}
theorem seg_gen0 (hA : Xg.A = Ac.deeper cenv) (hE : Xg.env = cenv) (hxe : Xg.xe = fun _ _ => False) (hx : Xg.ex = fp) (hpn : Xg.pn = []) (hcm : Xg.calm = true) (hco : cenv.scope.isCoroutine = false)
    (Tn : Turn Xg.prog Xg.w Xg.K tg J fp it tn) (pg : PG Xg tg (TGm (kx Xg) (kpOut vs) b)) (pt : PTs Xg ifs (TT (kx Xg) qt mt)) (pe : PE Xg elt (T (kx Xg) qe me)) (hNow : Nd ow)
    (S : ∀ i H, Step H1 H ow → (∃ o', Envs (kx Xg) H (L2.wipe σ vs) δw o' ∧ Own H1 ow o') → (∀ x, xs[i]? = some x → J.go i H ∧ ∀ v H'', J.yld i H v H'' → (∀ a u, H a = some u → H'' a = some u) ∧ Rep Xg.F H'' x v []) ∧ (xs.length ≤ i → J.stop i H))
    (s : Shared) (H : Hp) (hr : dG stop (gx vs b mt me δw) xs = some R0) (hLS : ∀ b ∈ Sc, b ∈ L) (G : GInv Xg (L2.wipe σ vs) δw fp tn H1 ow L Sc (cd 0) (pinsAt L s.heap) 0 H s) :
    Seg (model Xg.prog Xg.w) Ac (fun n s₀ r s₁ => r = .ok .next ∧ GPr Xg (L2.wipe σ vs) δw H1 ow L Sc cd R0 n s₀ s₁) (GYd Xg (L2.wipe σ vs) δw fp tn H1 ow L Sc cd stop R0) (R0.length + 1) s
        (.compStart (.GeneratorExp elt [⟨tg, iter, ifs, 0⟩] scope pos) 0 (.ref it) .none cenv) ((model Xg.prog Xg.w).den (.compStart (.GeneratorExp elt [⟨tg, iter, ifs, 0⟩] scope pos) 0 (.ref it) .none cenv)) [] s := by
  have loop := seg_gen (iter := iter) (scope := scope) (pos := pos) (R0 := R0) hA hE hxe hx hpn hcm hco Tn pg pt pe hNow S xs.length 0 s s H R0 [] (Nat.sub_zero _) (Nat.zero_le _) (by rw [List.drop_zero]; exact hr) rfl G.live hLS G
  show Seg _ Ac _ _ _ s _ ((compStart (.GeneratorExp elt [⟨tg, iter, ifs, 0⟩] scope pos) 0 (.ref it) .none cenv).onRaise (leaving cenv)) [] s
  unfold compStart
  rw [Sem.onRaise_eq_wrap]
  show Seg _ Ac _ _ _ s _ ((ask >>= _).wrap _ _ _ _) [] s
  refine seg_bind_wrap (wpAny_askSetting ?_)
  split
  · exact seg_again rfl loop
  · first
      | exact seg_bind_wrap (wpAny_rule (seg_bind_wrap (wpAny_standAt (seg_bind_wrap (Tn.self _ 0 s _ _ G.trn (seg_again rfl loop))))))
      | (refine seg_bind_wrap (wpAny_rule ?_); show Seg _ Ac _ _ _ s _ ((standAt iter.pos >>= _).wrap _ _ _ _) [] s; exact seg_bind_wrap (wpAny_standAt (seg_bind_wrap (Tn.self _ 0 s _ _ G.trn (seg_again rfl loop)))))
end
end Z


set_option Elab.async false
set_option linter.all false
set_option maxRecDepth 100000
/-! generator expressions: what a consumer sees of one -/
namespace Z
open PySem PySem.Spec PyProof.Rows L2

/-- back in the def's context -/
structure Back (X : Cx) (pins : List (Addr × Obj)) (σ : L2.St) (δ : DE) (o : List Addr) (Hx : Hp) (H : Hp) (s : Shared) : Prop where
  inv : Inv X pins σ H s
  env : ∃ o', Envs (kx X) H σ δ o' ∧ Own Hx o o'
  step : Step Hx H o
/-- the consumer has changed its own objects S, or made new ones -/
structure Chg (S : List Addr) (s s' : Shared) : Prop where
  os : s'.os = s.os
  gens : s'.gens = s.gens
  keep : ∀ b o, b ∉ S → s.heap.get? b = some o → s'.heap.get? b = some o
  own : ∀ b ∈ S, ∃ o, s'.heap.get? b = some o ∧ ∀ v, o.data ≠ .cell v
theorem Chg.refl {S : List Addr} {s : Shared} (h : ∀ b ∈ S, ∃ o, s.heap.get? b = some o ∧ ∀ v, o.data ≠ .cell v) : Chg S s s := ⟨rfl, rfl, fun _ _ _ e => e, h⟩
/-- the consumer's objects stay -/
def Sk (S : List Addr) (s s' : Shared) : Prop := ∀ b ∈ S, ∀ o, s.heap.get? b = some o → s'.heap.get? b = some o
/-- the generator a, of which r is still to come; cd: what the consumer's lists hold when it asks for the j-th -/
def GSt (X : Cx) (pins : List (Addr × Obj)) (σ : L2.St) (δ : DE) (o : List Addr) (Hx : Hp) (A : Around) (a : Addr) (stop : D → Bool) (S : List Addr) (cd : Nat → List D) : Nat → List D → Hp → Shared → Prop
  | j, [], H, s => Back X pins σ δ o Hx H s ∧ s.TypeIs (.ref a) "generator" ∧ ∀ (s'' : Shared) (E : Value → Shared → Prop) (Q : Option Value → Shared → Prop), Chg S s s'' → Keeps X.F S (cd j) H s'' →
      (∀ s' H', Back X pins σ δ o Hx H' s' → Sk S s'' s' → Keeps X.F S (cd j) H' s' → Q none s') → wpAny (model X.prog X.w) A (pyNext (.ref a)) Q E s''
  | j, d :: r, H, s => Back X pins σ δ o Hx H s ∧ s.TypeIs (.ref a) "generator" ∧ ∀ (s'' : Shared) (E : Value → Shared → Prop) (Q : Option Value → Shared → Prop), Chg S s s'' → Keeps X.F S (cd j) H s'' →
      (∀ v x s' H', RelV x v → Rep X.F H' d x [] → Back X pins σ δ o Hx H' s' → Sk S s'' s' → Keeps X.F S (cd j) H' s' → (stop d = false → GSt X pins σ δ o Hx A a stop S cd (j + 1) r H' s') → Q (some v) s') → wpAny (model X.prog X.w) A (pyNext (.ref a)) Q E s''
theorem GSt.back {X : Cx} {pins : List (Addr × Obj)} {σ : L2.St} {δ : DE} {o : List Addr} {Hx : Hp} {A : Around} {a : Addr} {stop : D → Bool} {S : List Addr} {cd : Nat → List D} {j : Nat} {r : List D} {H : Hp} {s : Shared} (h : GSt X pins σ δ o Hx A a stop S cd j r H s) : Back X pins σ δ o Hx H s := by
  cases r with
  | nil => exact h.1
  | cons d r => exact h.1
theorem GSt.ty {X : Cx} {pins : List (Addr × Obj)} {σ : L2.St} {δ : DE} {o : List Addr} {Hx : Hp} {A : Around} {a : Addr} {stop : D → Bool} {S : List Addr} {cd : Nat → List D} {j : Nat} {r : List D} {H : Hp} {s : Shared} (h : GSt X pins σ δ o Hx A a stop S cd j r H s) : s.TypeIs (.ref a) "generator" := by
  cases r with
  | nil => exact h.2.1
  | cons d r => exact h.2.1
theorem Chg.trans {S : List Addr} {s s' s'' : Shared} (h : Chg S s s') (k : Chg S s' s'') : Chg S s s'' := ⟨k.os.trans h.os, k.gens.trans h.gens, fun b o hb e => k.keep b o hb (h.keep b o hb e), k.own⟩
/-- the consumer has done something meanwhile -/
theorem GSt.chg {X : Cx} {pins : List (Addr × Obj)} {σ : L2.St} {δ : DE} {o : List Addr} {Hx : Hp} {A : Around} {a : Addr} {stop : D → Bool} {S : List Addr} {cd : Nat → List D} {j : Nat} {r : List D} {H : Hp} {s s2 : Shared} (h : GSt X pins σ δ o Hx A a stop S cd j r H s) (c : Chg S s s2) (B : Back X pins σ δ o Hx H s2) (t : s2.TypeIs (.ref a) "generator") : GSt X pins σ δ o Hx A a stop S cd j r H s2 := by
  cases r with
  | nil => exact ⟨B, t, fun s'' E Q k => h.2.2 s'' E Q (c.trans k)⟩
  | cons d r => exact ⟨B, t, fun s'' E Q k => h.2.2 s'' E Q (c.trans k)⟩
section
variable {X : Cx} {pins : List (Addr × Obj)} {σ : L2.St} {δ1 : DE} {o1 ow od : List Addr} {Hx : Hp} {sB : Shared} {vs : List Nat} {scope : Scope} {cenv : Env} {fp : List Addr} {tn : Nat → Heap → Prop} {stop : D → Bool} {S : List Addr} {cd : Nat → List D} {gd : List D} {A Ag : Around} {a g : Addr}
theorem back_of (IB : Inv X pins σ Hx sB) (hfp : ∀ b ∈ fp, FpOk X pins Hx b) (En : Envs (kx X) Hx σ δ1 o1) (cw : ∀ a, ow.count a + od.count a ≤ o1.count a) (hod : ∀ a ∈ od, Hx a ≠ none) (hok : ∀ a ∈ ow, ∃ u, Hx a = some u ∧ ¬ Sh u)
    (kr : ∀ {H2 : Hp} {δ2 : DE} {o2 : List Addr}, Step Hx H2 ow → Envs (kx X) H2 (L2.wipe σ vs) δ2 o2 → ∃ o3, Envs (kx X) H2 σ (restD δ1 δ2 vs) o3 ∧ ∀ a, o3.count a ≤ o2.count a + od.count a) {pg : List (Addr × Obj)} {H : Hp} {s : Shared}
    (G : GEnd (X.gen Ag sB Hx scope cenv fp) (L2.wipe σ vs) (wipeD δ1 vs) Hx ow S gd pg H s) : Back X pins σ δ1 o1 Hx H s := by
  obtain ⟨I, ⟨o', E', w'⟩, st, _⟩ := G
  refine ⟨IB.call' (ch := fp) I.os I.base I.hok I.bare fun b hb => ⟨(hfp b hb).2.2.2.1, (hfp b hb).2.1, (hfp b hb).2.2.2.2.1, (hfp b hb).2.2.2.2.2⟩, ?_, st.mono fun a ha => ?_⟩
  · have E2 : Envs (kx X) H (L2.wipe σ vs) (wipeD δ1 vs) o' := Envs.cv (cv := X.env.code) E' (En.tabs.step st hok).2
    obtain ⟨o3, E3, c3⟩ := kr st E2
    rw [rest_wipe] at E3
    refine ⟨o3, E3, fun a => ?_⟩
    have h1 := c3 a
    have h2 := cw a
    rcases w' a with w | ⟨z, w⟩
    · left; omega
    · have : od.count a = 0 := List.count_eq_zero.mpr fun hm => hod a hm z
      right; exact ⟨z, by omega⟩
  · have h1 : 0 < ow.count a := List.count_pos_iff.mpr ha
    have h2 := cw a
    exact List.count_pos_iff.mp (show 0 < o1.count a by omega)
theorem gst_of (IB : Inv X pins σ Hx sB) (hfp : ∀ b ∈ fp, FpOk X pins Hx b) (En : Envs (kx X) Hx σ δ1 o1) (cw : ∀ a, ow.count a + od.count a ≤ o1.count a) (hod : ∀ a ∈ od, Hx a ≠ none) (hok : ∀ a ∈ ow, ∃ u, Hx a = some u ∧ ¬ Sh u)
    (kr : ∀ {H2 : Hp} {δ2 : DE} {o2 : List Addr}, Step Hx H2 ow → Envs (kx X) H2 (L2.wipe σ vs) δ2 o2 → ∃ o3, Envs (kx X) H2 σ (restD δ1 δ2 vs) o3 ∧ ∀ a, o3.count a ≤ o2.count a + od.count a)
    (hh : A.handled = none) (hroom : A.depth < recursionLimit) (haS : a ∉ S) (hSy : ∀ b ∈ S, sB.heap.objs.size ≤ b ∧ b ≠ cenv.locals ∧ (∀ x c, cenv.cells.lookup x = some c → c ≠ b) ∧ b ∉ fp) (hTn : ∀ i h h', tn i h → (∀ b ∈ fp, ∀ o, h.get? b = some o → h'.get? b = some o) → tn i h')
    {R0 : List D} : ∀ (r pre : List D) (i : Nat) (H : Hp) (s : Shared) (gd : List D), R0 = pre ++ r → (∀ d ∈ pre, stop d = false) → s.heap.IsGen a g →
    GInv (X.gen Ag sB Hx scope cenv fp) (L2.wipe σ vs) (wipeD δ1 vs) fp tn Hx ow (a :: S) S gd (pinsAt (a :: S) s.heap) i H s → Gat (X.gen Ag sB Hx scope cenv fp) (L2.wipe σ vs) (wipeD δ1 vs) fp tn Hx ow (a :: S) S cd stop R0 A.in1 g i r s →
    GSt X pins σ δ1 o1 Hx A a stop S cd pre.length r H s := by
  have chg : ∀ {i : Nat} {H : Hp} {s s'' : Shared} {r : List D} {gd gd' : List D}, Chg S s s'' → s.heap.IsGen a g → GInv (X.gen Ag sB Hx scope cenv fp) (L2.wipe σ vs) (wipeD δ1 vs) fp tn Hx ow (a :: S) S gd (pinsAt (a :: S) s.heap) i H s → Keeps X.F S gd' H s'' → Gat (X.gen Ag sB Hx scope cenv fp) (L2.wipe σ vs) (wipeD δ1 vs) fp tn Hx ow (a :: S) S cd stop R0 A.in1 g i r s →
      s''.heap.IsGen a g ∧ GInv (X.gen Ag sB Hx scope cenv fp) (L2.wipe σ vs) (wipeD δ1 vs) fp tn Hx ow (a :: S) S gd' (pinsAt (a :: S) s''.heap) i H s'' ∧ Gat (X.gen Ag sB Hx scope cenv fp) (L2.wipe σ vs) (wipeD δ1 vs) fp tn Hx ow (a :: S) S cd stop R0 A.in1 g i r s'' := fun {i H s s'' r gd gd'} c isg G hk Ga => by
    have isg' : s''.heap.IsGen a g := by
      obtain ⟨o, nm, qn, ho, q⟩ := isg
      exact ⟨o, nm, qn, c.keep a o haS ho, q⟩
    have nP : ∀ b ∈ S, ∃ o, s.heap.get? b = some o ∧ H b = none ∧ b ≠ cenv.locals ∧ b ∉ frs X.stack := fun b hb => by
      obtain ⟨o, e⟩ := G.live b (List.mem_cons_of_mem _ hb)
      obtain ⟨_, h2, h3, h4, _⟩ := G.inv.pin (b, o) (List.mem_append_right _ (mem_pinsAt (List.mem_cons_of_mem _ hb) e))
      exact ⟨o, e, h2, h3, h4⟩
    have I0 : Inv (X.gen Ag sB Hx scope cenv fp) [] (L2.wipe σ vs) H s := G.inv.pins_of fun p hp => nomatch hp
    have nt : ∀ b u, H b = some u → b ∉ S := fun b u e hb => by obtain ⟨_, _, z, _⟩ := nP b hb; rw [e] at z; cases z
    have I1 : Inv (X.gen Ag sB Hx scope cenv fp) [] (L2.wipe σ vs) H s'' := by
      obtain ⟨hp, gn, dr, tk, os⟩ := s''
      have e : os = s.os := c.os
      subst e
      refine I0.step (g' := gn) (t' := tk) (d' := dr) (ch := S) (fun b hb => ⟨.inr (hSy b hb).1, (hSy b hb).2.1, (hSy b hb).2.2.1, fun p hp => nomatch hp⟩)
        (fun b o _ _ hc e _ => c.keep b o hc e) (fun b o _ _ hc e _ => ⟨o.slots, c.keep b o hc e⟩) (fun _ _ _ _ n => n) (fun b o hc e => ⟨o, c.keep b o hc e⟩) (fun _ _ e => e) (fun _ _ _ e => e) (fun b ps e => ⟨#[], by rw [e]; simp⟩) (fun m hm => ?_) (fun b u e => ?_) (by rw [show gn = s.gens from c.gens]; exact G.inv.bare)
      · obtain ⟨ob, es, ep, ho, r⟩ := hm
        exact ⟨ob, es, ep, c.keep _ ob (fun hb => (hSy _ hb).2.1 rfl) ho, r⟩
      · refine (I0.hok b u e).stay (fun d v hd q => c.keep d v ?_ q) (fun _ q => q) fun _ _ q => q
        rcases hd with rfl | hd
        · exact nt _ u e
        · exact nt d _ hd
    refine ⟨isg', ⟨I1.pins_of fun p hp => ?_, hTn i _ _ G.trn fun b hb o e => c.keep b o (fun hm => (hSy b hm).2.2.2 hb) e, G.nof, G.env, G.step, fun b hb => ?_, fun p hp => ?_, hk⟩, by rw [c.gens]; exact Ga.1, by rw [c.gens]; exact Ga.2⟩
    · obtain ⟨hb, e⟩ := of_pinsAt hp
      rcases List.mem_cons.mp hb with hb | hb
      · obtain ⟨o, nm, qn, ho, q1, q2, q3⟩ := isg
        have ea := c.keep a o haS ho
        rw [hb, ea] at e
        have eo : o = p.2 := Option.some.inj e
        obtain ⟨_, h2, h3, h4, h5⟩ := G.inv.pin (a, o) (List.mem_append_right _ (mem_pinsAt List.mem_cons_self ho))
        rw [hb, ← eo]
        exact ⟨ea, h2, h3, h4, h5⟩
      · obtain ⟨o, _, h2, h3, h4⟩ := nP p.1 hb
        obtain ⟨o', e', hc⟩ := c.own p.1 hb
        rw [e'] at e
        have eo : o' = p.2 := Option.some.inj e
        exact ⟨by rw [e', eo], h2, h3, h4, by rw [← eo]; exact hc⟩
    · rcases List.mem_cons.mp hb with rfl | hb
      · obtain ⟨o, nm, qn, ho, _⟩ := isg'
        exact ⟨o, ho⟩
      · obtain ⟨o', e', _⟩ := c.own b hb
        exact ⟨o', e'⟩
    · obtain ⟨hb, e⟩ := of_pinsAt hp
      rcases List.mem_cons.mp hb with hb | hb
      · obtain ⟨o, nm, qn, ho, _⟩ := isg
        have := G.apart (a, o) (mem_pinsAt List.mem_cons_self ho)
        rw [hb]; exact this
      · exact (hSy p.1 hb).2.2.2
  intro r
  induction r with
  | nil =>
    intro pre i H s gd hR hpre isg G Ga
    refine ⟨back_of IB hfp En cw hod hok kr G.fin, isg.typeIs, fun s'' E Q c hk hQ => ?_⟩
    obtain ⟨isg2, G2, Ga2⟩ := chg c isg G hk Ga
    refine gen_next (Xg := X.gen Ag sB Hx scope cenv fp) hh hroom List.mem_cons_self isg2 G2 Ga2 hR hpre (fun _ s' H' Ge => ?_) fun d r' e => nomatch e
    exact hQ s' H' (back_of IB hfp En cw hod hok kr Ge) (fun b hb o e => Ge.at (List.mem_cons_of_mem _ hb) e) Ge.held
  | cons d r ih =>
    intro pre i H s gd hR hpre isg G Ga
    refine ⟨back_of IB hfp En cw hod hok kr G.fin, isg.typeIs, fun s'' E Q c hk hQ => ?_⟩
    obtain ⟨isg2, G2, Ga2⟩ := chg c isg G hk Ga
    refine gen_next (Xg := X.gen Ag sB Hx scope cenv fp) hh hroom List.mem_cons_self isg2 G2 Ga2 hR hpre (fun e => nomatch e) fun d' r' e v x i' s' H' rx rep G' isg' Gn => ?_
    cases e
    refine hQ v x s' H' rx rep (back_of IB hfp En cw hod hok kr G'.fin) (fun b hb o e => G'.at (List.mem_cons_of_mem _ hb) e) G'.held fun hst => ?_
    have hp : pinsAt (a :: S) s'.heap = pinsAt (a :: S) s''.heap := G'.pin G2.live
    have := ih (pre ++ [d]) i' H' s' _ (by rw [hR, List.append_assoc]; rfl) (fun z hz => (List.mem_append.mp hz).elim (hpre z) fun hz => by rw [List.mem_singleton.mp hz]; exact hst) isg' (by rw [hp]; exact G') (Gn hst)
    rw [List.length_append] at this
    exact this
end
end Z


set_option Elab.async false
set_option linter.all false
set_option maxRecDepth 100000
/-! generator expressions: made -/
namespace Z
open PySem PySem.Spec PyProof.Rows L2

theorem inv_same {X : Cx} {pins : List (Addr × Obj)} {σ : L2.St} {H : Hp} {s s' : Shared} (I : Inv X pins σ H s) (h : s'.heap = s.heap) (g : s'.gens = s.gens) (o : s'.os = s.os) : Inv X pins σ H s' := by
  obtain ⟨h', g', d', t', o'⟩ := s'
  obtain ⟨h0, g0, d0, t0, o0⟩ := s
  cases h; cases g; cases o
  exact ⟨I.ok, I.os, I.bare, I.base, I.loc, I.cell, I.free, I.freeC, I.pin, I.hok, I.len⟩
/-- the generator expression's scope -/
structure GSc (scope : Scope) : Prop where
  co : scope.isCoroutine = false
  dot : scope.names.lookup (".0" : Str) = some NameKind.local
/-- the generator that stands at a may be walked -/
def GMk (X : Cx) (pins : List (Addr × Obj)) (σ : L2.St) (δ1 : DE) (o1 : List Addr) (Hx : Hp) (k : Nat) (a : Addr) (stop : D → Bool) (R0 : List D) (s5 : Shared) : Prop :=
  s5.TypeIs (.ref a) "generator" ∧ a < s5.heap.objs.size ∧ Back X pins σ δ1 o1 Hx Hx s5 ∧ ∀ (A : Around) (S : List Addr) (cd : Nat → List D) (s6 : Shared), A.handled = none → A.depth < recursionLimit → (∀ e, Room k (A.in1.deeper e)) → A.frames = some X.stack → (∀ b ∈ S, s5.heap.objs.size ≤ b) → Chg S s5 s6 → Keeps X.F S (cd 0) Hx s6 → GSt X pins σ δ1 o1 Hx A a stop S cd 0 R0 Hx s6
section
variable {X : Cx} {pins : List (Addr × Obj)} {σ : L2.St} {H : Hp} {s : Shared} {elt tg iter : Expr} {ifs : List Expr} {scope : Scope} {own : List (Str × Nat)} {pos : Pos} {ms : DenS} {b : Bnd} {mt : DenT} {me : Den} {q qt qe : Bool} {k : Nat} {stop : D → Bool}
theorem gen_make {δ : DE} {o : List Addr} {src : Src} {δ1 : DE} {R0 : List D} {Q : Value → Shared → Prop} {cc : Addr} (hr : Room (k + 1) X.A) (hcode : X.env.code = .ref cc) (hc : X.calm = true) (hN : X.N.Nodup) (hBM : BMod X.base X.mg) (gs : GSc scope)
    (hi : PI X tg iter (TIm (kx X) q ms)) (ok : BlkOk X.N X.env.scope scope own)
    (hg : ∀ (Ag : Around) (s : Shared) (H : Hp) (C c' : Addr) (cl : List (Str × Addr)) (fp : List Addr), Room k Ag → PG (X.gen Ag s H scope (genEnv scope cl C (.ref c') builtinsNs X.env) fp) tg (TGm ⟨X.F, .ref c'⟩ (kpOut (own.map (·.2))) b))
    (ht : ∀ (Ag : Around) (s : Shared) (H : Hp) (C c' : Addr) (cl : List (Str × Addr)) (fp : List Addr), Room k Ag → PTs (X.gen Ag s H scope (genEnv scope cl C (.ref c') builtinsNs X.env) fp) ifs (TT ⟨X.F, .ref c'⟩ qt mt))
    (he : ∀ (Ag : Around) (s : Shared) (H : Hp) (C c' : Addr) (cl : List (Str × Addr)) (fp : List Addr), Room k Ag → PE (X.gen Ag s H scope (genEnv scope cl C (.ref c') builtinsNs X.env) fp) elt (T ⟨X.F, .ref c'⟩ qe me))
    (hs : ∀ v, genFold iter X.env v = pure v) (I : Inv X pins σ H s) (E : Envs (kx X) H σ δ o) (n : Nd o) (hm : ms δ = some (src, δ1)) (hgo : gOk src.gs δ1 = true) (hd : dG stop (gx (own.map (·.2)) b mt me (wipeD δ1 (own.map (·.2)))) src.xs = some R0)
    (hQ : ∀ a s5 Hx o1, Step H Hx (Wq q o) → Envs (kx X) Hx σ δ1 o1 → Own H o o1 → R0.length ≤ sizeLine → GMk X pins σ δ1 o1 Hx k a stop R0 s5 → Q (.ref a) s5) :
    wpAny (model X.prog X.w) X.A (eval (.GeneratorExp elt [⟨tg, iter, ifs, 0⟩] scope pos) X.env) Q X.xe s := by
  have hfree : ∀ y ∈ scope.names, y.2 = .free → ∃ c, X.env.cells.lookup y.1 = some c := fun y hy e => by
    rcases ok.free y hy e with k | k
    · exact I.ok.has _ (.inl k)
    · exact I.ok.has _ (.inr k)
  rw [eval_GeneratorExp1 _ _ _ _ _ _ _ gs.co, closure_ok hfree]
  have hrd : TIm (kx X) q ms σ H (fun J H1 => ∃ o1 ov, Step H H1 (Wq q o) ∧ Envs (kx X) H1 σ δ1 o1 ∧ Own H o (ov ++ o1) ∧ (∀ a ∈ ov, ∃ u, H1 a = some u ∧ Ow u) ∧ SrcOk X.F σ src J H1 ov ∧ src.xs.length ≤ sizeLine) :=
    ⟨δ, o, src, δ1, E, n, hm, fun J H1 o1 ov s1 E1 w1 hov S hl => ⟨o1, ov, s1, E1, w1, hov, S, hl⟩⟩
  refine wpAny_bind (thn (hi.run pins s σ H _ I hrd) fun xv s1 h1 => ?_)
  refine wpAny_bind (wpAny_standAt ?_)
  refine wpAny_bind (wpAny_of_eq (hs xv) ?_)
  refine wpAny_bind (wpAny_holding (thn h1 fun itv s2 h2 => ?_))
  obtain ⟨it, fp, tn, J, H2, rfl, I2, Tn, st2, f2, o1, ov, s12, E2, w2, hov, S, hlen⟩ := h2
  refine wpAny_bind (wpAny_enterFrame I2.nolimit (by have := hr.dp; omega) ?_)
  refine wpAny_bind (wpAny_pure ?_)
  refine wpAny_bind (gen_code hcode I2 E2 fun c' P' H3 s3 I3 st3 fr3 nf3 hc' gP' hsz3 hk3 => ?_)
  obtain ⟨bm, ob, b1, b2, b3, b4, b5, b6⟩ := hBM
  refine wpAny_bind (wpAny_builtinsFor (m := X.mg) (by rw [I3.ok.glob]; exact I3.mod.glob.keeps I3.bk) b1 b2 (I3.bk _ _ b3) b4 b5 b6 ?_)
  refine wpAny_bind (newEnv_gen ok.kind gs.dot fun h' tk hn hs' => ?_)
  simp only [newGenerator, newFields]
  refine wpAny_bind (wpAny_newGen (wpAny_bind (wpAny_mkText (wpAny_bind (wpAny_mkText (wpAny_newObj_type ?_ (by size_fits)))))))
  suffices main : ∀ (gobj : Obj) (nm qn : Value) (tk3 : Nat), gobj.cls = .type "generator" → gobj.data = .fields #[.int s3.gens.size 0, nm, qn] → gobj.slots = #[] → (∀ h : Heap, (h.push gobj).get? h.objs.size = some gobj) →
      Q (.ref h'.objs.size) { s3 with heap := h'.push gobj, gens := s3.gens.push (.fresh (.compStart (.GeneratorExp elt [⟨tg, iter, ifs, 0⟩] scope pos) 0 (.ref it) .none (genEnv scope (cellsFrom (s3.heap.objs.size + 1) scope.names (cloFrom X.env.cells scope.names [])) s3.heap.objs.size (.ref c') builtinsNs X.env))), toks := tk3 } from
    main _ _ _ _ rfl rfl rfl fun h => Heap.get?_push_size _ rfl
  intro gobj nm qn tk3 gcl gd gsl gpush
  have no1 : Nd o1 := (own_right w2).nd n
  have E3 : Envs (kx X) H3 σ δ1 o1 := E2.fr fr3
  obtain ⟨ow, od, Ew, cw, hod, kr⟩ := Envs.rest (own.map (·.2)) E3 no1
  have nw : Nd ow := fun a => by have := cw a; have := no1 a; omega
  have sz4 : h'.objs.size = (pushCells (s3.heap.push { cls := .type "frame", data := .dict #[] }) scope.names).objs.size := hs'.1
  have sz4' : s3.heap.objs.size + 1 ≤ h'.objs.size := by
    rw [sz4]
    have := pushCells_size scope.names (s3.heap.push { cls := .type "frame", data := .dict #[] })
    rw [Heap.size_push] at this; exact this
  have k34 : ∀ b o, s3.heap.get? b = some o → h'.get? b = some o := fun b o e => hs'.extBut b o (Nat.ne_of_lt (Heap.lt_size e)) (pushCells_keeps _ _ _ _ (Heap.get?_push_of_some _ e))
  have fp3 : ∀ b ∈ fp, FpOk X pins H3 b ∧ b < s3.heap.objs.size := fun b hb => by
    obtain ⟨ob, e, _⟩ := Tn.obj _ _ st2 b hb
    have hlt := Heap.lt_size e
    exact ⟨⟨nf3 b (f2 b hb).1 hlt, (f2 b hb).2⟩, Nat.lt_of_lt_of_le hlt hsz3⟩
  have st3' : tn 0 s3.heap := Tn.keep _ _ _ st2 fun b hb o e => hk3 b o (f2 b hb).1 e
  generalize hcenv : genEnv scope (cellsFrom (s3.heap.objs.size + 1) scope.names (cloFrom X.env.cells scope.names [])) s3.heap.objs.size (.ref c') builtinsNs X.env = cenv
  have hloc : cenv.locals = s3.heap.objs.size := by rw [← hcenv]; rfl
  have hcd : cenv.code = .ref c' := by rw [← hcenv]; rfl
  have hscp : cenv.scope = scope := by rw [← hcenv]; rfl
  have gobAt : (h'.push gobj).get? h'.objs.size = some gobj := gpush h'
  have hisG : ∀ h : Heap, h.get? h'.objs.size = some gobj → h.IsGen h'.objs.size s3.gens.size := fun h e => ⟨gobj, nm, qn, e, gcl, gd, gsl⟩
  -- the generator's frame, whatever is made behind
  have start : ∀ (A : Around) (s6 : Shared), A.handled = none → A.frames = some X.stack → (∀ b o, (h'.push gobj).get? b = some o → s6.heap.get? b = some o) → s6.os = s3.os → AllBare s6.gens → Inv (X.gen (A.in1.deeper cenv) s3 H3 scope cenv fp) [] (L2.wipe σ (own.map (·.2))) H3 s6 := fun A s6 hA hfr hk6 ho hb6 => by
    subst hcenv
    refine inv_same (gen_start (A := A.in1.deeper _) (h' := h') (h5 := s6.heap) (g5 := s6.gens) (t5 := s6.toks) I3 ok hN fp3 ?_ hA hn hs' (fun b o e => hk6 b o (Heap.get?_push_of_some _ e)) hb6) rfl rfl ho
    exact Around.frames_deeper (show A.in1.frames = some X.stack from hfr)
  have nostk : ∀ b, s3.heap.objs.size ≤ b → b ∉ frs X.stack := fun b hb hm => by
    rcases List.mem_cons.mp (I3.stkSub b hm) with z | z
    · have := I3.lt; rw [← z] at this; exact absurd (Nat.lt_of_lt_of_le this hb) (Nat.lt_irrefl _)
    · exact I3.nofs hb z
  have sz5 : (h'.push gobj).objs.size = h'.objs.size + 1 := Heap.size_push ..
  have IB5 : ∀ (s6 : Shared), (∀ b o, (h'.push gobj).get? b = some o → s6.heap.get? b = some o) → s6.os = s3.os → AllBare s6.gens → Inv X pins σ H3 s6 := fun s6 hk6 ho hb6 => I3.call' (ch := []) ho (Un.kept fun b o e => hk6 b o (Heap.get?_push_of_some _ (k34 b o e))) (I3.hok.kept fun b o e => hk6 b o (Heap.get?_push_of_some _ (k34 b o e))) hb6 fun b z => by simp at z
  have bare5 : AllBare (s3.gens.push (.fresh (.compStart (.GeneratorExp elt [⟨tg, iter, ifs, 0⟩] scope pos) 0 (.ref it) .none cenv))) := I3.bare.push rfl
  have hR0 : R0.length ≤ sizeLine := Nat.le_trans (by
    have : ∀ (xs : List D) (r : List D), dG stop (gx (own.map (·.2)) b mt me (wipeD δ1 (own.map (·.2)))) xs = some r → r.length ≤ xs.length := by
      intro xs
      induction xs with
      | nil => intro r h; cases (Option.some.inj h : [] = r); exact Nat.le_refl _
      | cons x xs ih =>
        intro r h
        simp only [dG] at h
        split at h
        · cases h
        · exact Nat.le_succ_of_le (ih r h)
        · split at h
          · cases (Option.some.inj h); simp
          · split at h
            · rename_i r' e
              cases (Option.some.inj h)
              exact Nat.succ_le_succ (ih r' e)
            · cases h
    exact this _ _ hd) hlen
  have w3 : Own H o o1 := own_right w2
  have sH3 : Step H H3 (Wq q o) := ⟨fun a u e hn hu => st3.keep a u (s12.keep a u e hn hu) (by simp) hu, fun a e => s12.dom a (st3.dom a e), fun P g => st3.tab P (s12.tab P g)⟩
  refine hQ h'.objs.size _ H3 o1 sH3 E3 w3 hR0 ⟨Heap.IsGen.typeIs (s := { s3 with heap := h'.push gobj, gens := _, toks := tk3 }) (hisG _ gobAt), by show _ < (h'.push gobj).objs.size; rw [sz5]; exact Nat.lt_succ_self _, ⟨IB5 _ (fun _ _ e => e) rfl bare5, ⟨o1, E3, .refl _ _⟩, .refl _ _⟩, fun A Sx cd s6 hA hdp hrm hfr hS hC hKp => ?_⟩
  have hk6 : ∀ b o, (h'.push gobj).get? b = some o → s6.heap.get? b = some o := fun b o e => hC.keep b o (fun hm => by
    have h1 := hS b hm
    have h2 : b < (h'.push gobj).objs.size := Heap.lt_size e
    exact absurd (Nat.lt_of_lt_of_le h2 h1) (Nat.lt_irrefl _)) e
  have gn6 : s6.gens = s3.gens.push (.fresh (.compStart (.GeneratorExp elt [⟨tg, iter, ifs, 0⟩] scope pos) 0 (.ref it) .none cenv)) := hC.gens
  have Ig := start A s6 hA hfr hk6 hC.os (by rw [gn6]; exact bare5)
  have hS5 : ∀ b ∈ Sx, h'.objs.size + 1 ≤ b := fun b hb => by rw [← sz5]; exact hS b hb
  have ndS : h'.objs.size ∉ Sx := fun hm => absurd (hS5 _ hm) (Nat.not_succ_le_self _)
  have cells : ∀ x c, cenv.cells.lookup x = some c → c < (h'.push gobj).objs.size := fun x c e => by
    have I5 := start A { s3 with heap := h'.push gobj, gens := s3.gens.push (.fresh (.compStart (.GeneratorExp elt [⟨tg, iter, ifs, 0⟩] scope pos) 0 (.ref it) .none cenv)) } hA hfr (fun _ _ e => e) rfl bare5
    obtain ⟨v, z⟩ := I5.cell x c e
    exact z.lt
  have En' : Envs ⟨X.F, .ref c'⟩ H3 (L2.wipe σ (own.map (·.2))) (wipeD δ1 (own.map (·.2))) ow := Envs.cv (κ := kx X) Ew fun c e => by cases e; exact ⟨P', .inr hc', gP'⟩
  have En2 : Envs (kx (X.gen (A.in1.deeper cenv) s3 H3 scope cenv fp)) H3 (L2.wipe σ (own.map (·.2))) (wipeD δ1 (own.map (·.2))) ow := by
    show Envs ⟨X.F, cenv.code⟩ _ _ _ _
    rw [hcd]; exact En'
  have G : GInv (X.gen (A.in1.deeper cenv) s3 H3 scope cenv fp) (L2.wipe σ (own.map (·.2))) (wipeD δ1 (own.map (·.2))) fp tn H3 ow (h'.objs.size :: Sx) Sx (cd 0) (pinsAt (h'.objs.size :: Sx) s6.heap) 0 H3 s6 := by
    refine ⟨Ig.pins_of fun p hp => ?_, Tn.keep _ _ _ st3' fun b hb o e => hk6 b o (Heap.get?_push_of_some _ (k34 b o e)), fun b hb => (fp3 b hb).1.1, ⟨ow, En2, .refl _ _⟩, .refl _ _, fun b hb => ?_, fun p hp hf => ?_, hKp⟩
    · obtain ⟨hb, e⟩ := of_pinsAt hp
      have hge : s3.heap.objs.size + 1 ≤ p.1 := by
        rcases List.mem_cons.mp hb with z | z
        · rw [z]; exact sz4'
        · exact Nat.le_trans (Nat.le_succ_of_le sz4') (hS5 _ z)
      refine ⟨e, I3.hok.fresh (Nat.le_of_succ_le hge), ?_, nostk _ (Nat.le_of_succ_le hge), fun v hv => ?_⟩
      · show p.1 ≠ cenv.locals
        rw [hloc]; exact Nat.ne_of_gt hge
      · rcases List.mem_cons.mp hb with z | z
        · rw [z, hk6 _ _ gobAt] at e
          rw [← Option.some.inj e, gd] at hv; cases hv
        · obtain ⟨o', e', hn'⟩ := hC.own _ z
          rw [e'] at e
          rw [← Option.some.inj e] at hv
          exact hn' v hv
    · rcases List.mem_cons.mp hb with rfl | hb
      · exact ⟨_, hk6 _ _ gobAt⟩
      · obtain ⟨o', e', _⟩ := hC.own b hb
        exact ⟨o', e'⟩
    · obtain ⟨hb, e⟩ := of_pinsAt hp
      have hlt := (fp3 _ hf).2
      rcases List.mem_cons.mp hb with z | z
      · rw [z] at hlt; exact absurd (Nat.lt_of_lt_of_le hlt (Nat.le_of_succ_le sz4')) (Nat.lt_irrefl _)
      · exact absurd (Nat.lt_of_lt_of_le hlt (Nat.le_trans (Nat.le_of_succ_le sz4') (Nat.le_of_succ_le (hS5 _ z)))) (Nat.lt_irrefl _)
  have Srun : ∀ i H, Step H3 H ow → (∃ o', Envs (kx (X.gen (A.in1.deeper cenv) s3 H3 scope cenv fp)) H (L2.wipe σ (own.map (·.2))) (wipeD δ1 (own.map (·.2))) o' ∧ Own H3 ow o') → (∀ x, src.xs[i]? = some x → J.go i H ∧ ∀ v H'', J.yld i H v H'' → (∀ a u, H a = some u → H'' a = some u) ∧ Rep X.F H'' x v []) ∧ (src.xs.length ≤ i → J.stop i H) := fun i H st ⟨o', E', w'⟩ => by
    have E4 : Envs (kx X) H (L2.wipe σ (own.map (·.2))) (wipeD δ1 (own.map (·.2))) o' := Envs.cv (cv := X.env.code) E' (E3.tabs.step st Ew.ok).2
    obtain ⟨o3, E5, _⟩ := kr st E4
    rw [rest_wipe] at E5
    refine S i H (fun a ha => ?_) (fun a u e hu => ?_) fun p hp => gOk_rep E5 hgo p hp
    · obtain ⟨us, e, how⟩ := hov a ha
      rw [e]
      refine st.keep a _ (st3.keep a _ e (by simp) how.2) (fun hz => nd_split (w2.nd n) a ha ?_) how.2
      have h5 : 0 < ow.count a := List.count_pos_iff.mpr hz
      have h6 := cw a
      exact List.count_pos_iff.mp (show 0 < o1.count a by omega)
    · refine st.keep a u (st3.keep a u e (by simp) hu.nt) (fun hz => ?_) hu.nt
      obtain ⟨us, e2, how⟩ := Ew.own a hz
      rw [st3.keep a u e (by simp) hu.nt] at e2; cases e2; exact how.1 hu
  have Ga : Gat (X.gen (A.in1.deeper cenv) s3 H3 scope cenv fp) (L2.wipe σ (own.map (·.2))) (wipeD δ1 (own.map (·.2))) fp tn H3 ow (h'.objs.size :: Sx) Sx cd stop R0 A.in1 s3.gens.size 0 R0 s6 := by
    refine ⟨by rw [gn6, Array.size_push]; exact Nat.lt_succ_self _, _, by rw [gn6]; exact Array.getElem?_push_size .., fun s'' H'' G'' => ?_⟩
    have seg := seg_gen0 (Xg := X.gen (A.in1.deeper cenv) s3 H3 scope cenv fp) (Ac := A.in1) (cenv := cenv) (iter := iter) (scope := scope) (pos := pos) (qt := qt) (qe := qe) (R0 := R0) rfl rfl rfl rfl rfl hc (by rw [hscp]; exact gs.co) Tn
      (by have := hg (A.in1.deeper cenv) s3 H3 s3.heap.objs.size c' (cellsFrom (s3.heap.objs.size + 1) scope.names (cloFrom X.env.cells scope.names [])) fp (hrm cenv)
          rw [hcenv] at this
          show PG _ tg (TGm ⟨X.F, cenv.code⟩ _ b)
          rw [hcd]; exact this)
      (by have := ht (A.in1.deeper cenv) s3 H3 s3.heap.objs.size c' (cellsFrom (s3.heap.objs.size + 1) scope.names (cloFrom X.env.cells scope.names [])) fp (hrm cenv)
          rw [hcenv] at this
          show PTs _ ifs (TT ⟨X.F, cenv.code⟩ qt mt)
          rw [hcd]; exact this)
      (by have := he (A.in1.deeper cenv) s3 H3 s3.heap.objs.size c' (cellsFrom (s3.heap.objs.size + 1) scope.names (cloFrom X.env.cells scope.names [])) fp (hrm cenv)
          rw [hcenv] at this
          show PE _ elt (T ⟨X.F, cenv.code⟩ qe me)
          rw [hcd]; exact this) nw Srun s'' H'' hd (fun b hb => List.mem_cons_of_mem _ hb) (by rw [Nat.sub_self] at G''; exact G'')
    exact ⟨rfl, seg⟩
  refine gst_of (Ag := A.in1.deeper cenv) (scope := scope) (cenv := cenv) (tn := tn) (g := s3.gens.size) (R0 := R0) I3 (fun b hb => (fp3 b hb).1) E3 cw hod Ew.ok kr hA hdp ndS (fun b hb => ?_) (fun i h h2 t => Tn.keep i h h2 t) R0 [] 0 H3 s6 _ rfl (fun d hd => nomatch hd) (hisG _ (hk6 _ _ gobAt)) G Ga
  have h5 := hS5 b hb
  have h6 : s3.heap.objs.size < b := Nat.lt_of_lt_of_le (Nat.lt_of_succ_le sz4') (Nat.le_of_succ_le h5)
  refine ⟨Nat.le_of_lt h6, by rw [hloc]; exact Nat.ne_of_gt h6, fun x c e z => ?_, fun hf => ?_⟩
  · have := cells x c e
    rw [sz5, z] at this; exact absurd (Nat.lt_of_lt_of_le this h5) (Nat.lt_irrefl _)
  · exact absurd (Nat.lt_trans (fp3 b hf).2 h6) (Nat.lt_irrefl _)
end
end Z


set_option Elab.async false
set_option linter.all false
set_option maxRecDepth 100000
/-! all, any of a generator expression -/
namespace Z
open PySem PySem.Spec PyProof.Rows L2

/-- a plain value's truth -/
def truthS : D → Option Bool
  | .non => some false
  | .bl b => some b
  | .int i => some (i != 0)
  | .str x => some ((x.length : Int) != 0)
  | _ => none
def allT : List D → Option Bool
  | [] => some true
  | d :: r => match truthS d with
    | some true => allT r
    | x => x
def anyT : List D → Option Bool
  | [] => some false
  | d :: r => match truthS d with
    | some false => anyT r
    | x => x
def stopAll (d : D) : Bool := match truthS d with | some true => false | _ => true
def stopAny (d : D) : Bool := match truthS d with | some false => false | _ => true
/-- a generator expression that is walked to its end, or to the first that stops -/
def dGe (vs : List Nat) (ms : DenS) (b : Bnd) (mt : DenT) (me : Den) (stop : D → Bool) : DE → Option (List D × DE) := fun δ => match ms δ with
  | some (src, δ1) => if gOk src.gs δ1 then match dG stop (gx vs b mt me (wipeD δ1 vs)) src.xs with
    | some r => some (r, δ1)
    | none => none
    else none
  | none => none
def dFold (f : List D → Option D) (m : DE → Option (List D × DE)) : Den := fun δ => match m δ with
  | some (r, δ1) => match f r with
    | some d => some (.own d, δ1)
    | none => none
  | none => none
def fAll (r : List D) : Option D := (allT r).map .bl
def fAny (r : List D) : Option D := (anyT r).map .bl
theorem truth_s {M : Program} {w : World} {A : Around} {K : Fw} {H : Hp} {d : D} {x : V} {v : Value} {o : List Addr} {b : Bool} {s : Shared} {E : Value → Shared → Prop} {Q : Bool → Shared → Prop} (h : truthS d = some b) (r : Rep K H d x o) (rx : RelV x v) (hQ : ∀ tk, Q b { s with toks := tk }) : wpAny (model M w) A (truthy v) Q E s := by
  cases d <;> simp only [truthS, reduceCtorEq, Option.some.injEq] at h
  · obtain ⟨rfl, _⟩ := r
    obtain rfl : v = Value.none := rx
    subst h
    exact truthy_none (hQ s.toks)
  · obtain ⟨rfl, _⟩ := r
    obtain rfl : v = Value.bool _ := rx
    subst h
    exact wpAny_truthy_bool (hQ s.toks)
  · obtain ⟨rfl, _⟩ := r
    obtain ⟨t, rfl⟩ := (show ∃ t, v = Value.int _ t from rx)
    subst h
    exact P.truthy_int (hQ s.toks)
  · obtain ⟨rfl, hz, _⟩ := r
    obtain ⟨t, rfl⟩ := (show ∃ t, v = Value.str _ t from rx)
    subst h
    exact P.truthy_str (by have := hz.1; have h2 : sizeLine < 2 ^ 63 := by decide
                           omega) (hQ _)
theorem iter_gen {M : Program} {w : World} {A : Around} {a : Addr} {s : Shared} {E : Value → Shared → Prop} {Q : Value → Shared → Prop} (ty : s.TypeIs (.ref a) "generator") (h : Q (.ref a) s) : wpAny (model M w) A (pyIter (.ref a)) Q E s := by
  refine wpAny_pyIter_slot ty slot_gen_iter (wpAny_call_entry slot_gen_iter ty entry_gen_iter ?_ (args_gen_iter _))
  show wpAny _ _ (ret (.ref a)) _ _ s
  exact wpAny_pure ⟨_, rfl, "generator", _, ty, slot_gen_next.lookup, h⟩
section
variable {X : Cx} {pins : List (Addr × Obj)} {σ : L2.St} {δ : DE} {o : List Addr} {Hx : Hp} {A : Around} {a : Addr}
theorem Back.tok {H : Hp} {s : Shared} (B : Back X pins σ δ o Hx H s) (t : Nat) : Back X pins σ δ o Hx H { s with toks := t } := ⟨B.inv.tok t, B.env, B.step⟩
theorem chg_tok {s : Shared} (t : Nat) : Chg [] s { s with toks := t } := ⟨rfl, rfl, fun _ _ _ e => e, fun b hb => nomatch hb⟩
theorem keeps_none {K : Fw} {gd : List D} {H : Hp} {s : Shared} : Keeps K [] gd H s := fun b hb => nomatch hb
theorem all_loop {cd : Nat → List D} {R : Result → Shared → Prop} {bo : Bool} : ∀ (r : List D) (j : Nat) (H : Hp) (s : Shared), GSt X pins σ δ o Hx A.in1 a stopAll [] cd j r H s → allT r = some bo → (∀ s' H', Back X pins σ δ o Hx H' s' → R (.ok (.ret (.bool bo))) s') →
    codeAny (model X.prog X.w) A (.builtin "all.loop" ⟨[.ref a], []⟩) R s
  | [], j, H, s, g, hb, hR => by
    cases (Option.some.inj hb : true = bo)
    refine codeAny_builtin F.entry_all_loop ?_
    rw [Around.under_plainId F.plain_all_loop _]
    show wpAny _ A.in1 (pyNext (.ref a) >>= _) _ _ s
    refine wpAny_bind (g.2.2 s _ _ (.refl fun b hb => nomatch hb) keeps_none fun s' H' B _ _ => ?_)
    exact wpAny_bind (wpAny_rule (wpAny_pure (hR s' H' B)))
  | d :: r, j, H, s, g, hb, hR => by
    refine codeAny_builtin F.entry_all_loop ?_
    rw [Around.under_plainId F.plain_all_loop _]
    show wpAny _ A.in1 (pyNext (.ref a) >>= _) _ _ s
    refine wpAny_bind (g.2.2 s _ _ (.refl fun b hb => nomatch hb) keeps_none fun v x s' H' rx rep B _ _ gn => ?_)
    simp only [allT] at hb
    cases ht : truthS d with
    | none => rw [ht] at hb; cases hb
    | some bt =>
      rw [ht] at hb
      refine wpAny_bind (wpAny_holding (truth_s ht rep rx fun tk => ?_))
      refine wpAny_bind (wpAny_letGo ?_)
      cases bt with
      | true =>
        simp only [if_true]
        have g2 := gn (by simp [stopAll, ht])
        exact wpAny_pure ⟨plainId_quiet F.plain_all_loop _, all_loop r (j + 1) H' _ (g2.chg (chg_tok tk) (B.tok tk) g2.ty) hb hR⟩
      | false =>
        cases (Option.some.inj hb : false = bo)
        simp only [Bool.false_eq_true, if_false]
        exact wpAny_bind (wpAny_rule (wpAny_pure (hR _ H' (B.tok tk))))
theorem any_loop {cd : Nat → List D} {R : Result → Shared → Prop} {bo : Bool} : ∀ (r : List D) (j : Nat) (H : Hp) (s : Shared), GSt X pins σ δ o Hx A.in1 a stopAny [] cd j r H s → anyT r = some bo → (∀ s' H', Back X pins σ δ o Hx H' s' → R (.ok (.ret (.bool bo))) s') →
    codeAny (model X.prog X.w) A (.builtin "any.loop" ⟨[.ref a], []⟩) R s
  | [], j, H, s, g, hb, hR => by
    cases (Option.some.inj hb : false = bo)
    refine codeAny_builtin F.entry_any_loop ?_
    rw [Around.under_plainId F.plain_any_loop _]
    show wpAny _ A.in1 (pyNext (.ref a) >>= _) _ _ s
    refine wpAny_bind (g.2.2 s _ _ (.refl fun b hb => nomatch hb) keeps_none fun s' H' B _ _ => ?_)
    exact wpAny_bind (wpAny_rule (wpAny_pure (hR s' H' B)))
  | d :: r, j, H, s, g, hb, hR => by
    refine codeAny_builtin F.entry_any_loop ?_
    rw [Around.under_plainId F.plain_any_loop _]
    show wpAny _ A.in1 (pyNext (.ref a) >>= _) _ _ s
    refine wpAny_bind (g.2.2 s _ _ (.refl fun b hb => nomatch hb) keeps_none fun v x s' H' rx rep B _ _ gn => ?_)
    simp only [anyT] at hb
    cases ht : truthS d with
    | none => rw [ht] at hb; cases hb
    | some bt =>
      rw [ht] at hb
      refine wpAny_bind (wpAny_holding (truth_s ht rep rx fun tk => ?_))
      refine wpAny_bind (wpAny_letGo ?_)
      cases bt with
      | false =>
        simp only [Bool.false_eq_true, if_false]
        have g2 := gn (by simp [stopAny, ht])
        exact wpAny_pure ⟨plainId_quiet F.plain_any_loop _, any_loop r (j + 1) H' _ (g2.chg (chg_tok tk) (B.tok tk) g2.ty) hb hR⟩
      | true =>
        cases (Option.some.inj hb : true = bo)
        simp only [if_true]
        exact wpAny_bind (wpAny_rule (wpAny_pure (hR _ H' (B.tok tk))))
end
/-- a judgement of a generator expression that a consumer will walk -/
structure PGx (X : Cx) (k : Nat) (e : Expr) (stop : D → Bool) (m : DE → Option (List D × DE)) : Prop where
  run : ∀ (pins : List (Addr × Obj)) (s : Shared) (σ : L2.St) (H : Hp) (δ : DE) (o : List Addr) (R0 : List D) (δ1 : DE) (Q : Value → Shared → Prop), Inv X pins σ H s → Envs (kx X) H σ δ o → Nd o → m δ = some (R0, δ1) →
    (∀ a s5 Hx o1, Step H Hx o → Envs (kx X) Hx σ δ1 o1 → Own H o o1 → R0.length ≤ sizeLine → GMk X pins σ δ1 o1 Hx k a stop R0 s5 → Q (.ref a) s5) → wpAny (model X.prog X.w) X.A (eval e X.env) Q X.xe s
section
variable {X : Cx} {elt tg iter : Expr} {ifs : List Expr} {scope : Scope} {own : List (Str × Nat)} {pos : Pos} {ms : DenS} {b : Bnd} {mt : DenT} {me : Den} {q qt qe : Bool} {k : Nat} {stop : D → Bool}
theorem z_gen {cc : Addr} (hr : Room (k + 1) X.A) (hcode : X.env.code = .ref cc) (hc : X.calm = true) (hN : X.N.Nodup) (hBM : BMod X.base X.mg) (gs : GSc scope)
    (hi : PI X tg iter (TIm (kx X) q ms)) (ok : BlkOk X.N X.env.scope scope own)
    (hg : ∀ (Ag : Around) (s : Shared) (H : Hp) (C c' : Addr) (cl : List (Str × Addr)) (fp : List Addr), Room k Ag → PG (X.gen Ag s H scope (genEnv scope cl C (.ref c') builtinsNs X.env) fp) tg (TGm ⟨X.F, .ref c'⟩ (kpOut (own.map (·.2))) b))
    (ht : ∀ (Ag : Around) (s : Shared) (H : Hp) (C c' : Addr) (cl : List (Str × Addr)) (fp : List Addr), Room k Ag → PTs (X.gen Ag s H scope (genEnv scope cl C (.ref c') builtinsNs X.env) fp) ifs (TT ⟨X.F, .ref c'⟩ qt mt))
    (he : ∀ (Ag : Around) (s : Shared) (H : Hp) (C c' : Addr) (cl : List (Str × Addr)) (fp : List Addr), Room k Ag → PE (X.gen Ag s H scope (genEnv scope cl C (.ref c') builtinsNs X.env) fp) elt (T ⟨X.F, .ref c'⟩ qe me))
    (hs : ∀ v, genFold iter X.env v = pure v := by intro _; rfl) : PGx X k (.GeneratorExp elt [⟨tg, iter, ifs, 0⟩] scope pos) stop (dGe (own.map (·.2)) ms b mt me stop) := by
  refine ⟨fun pins s σ H δ o R0 δ1 Q I E n hm hQ => ?_⟩
  simp only [dGe] at hm
  cases h1 : ms δ with
  | none => rw [h1] at hm; simp at hm
  | some p =>
    obtain ⟨src, δ2⟩ := p
    rw [h1] at hm; dsimp only at hm
    by_cases hgo : gOk src.gs δ2 = true
    case neg => rw [if_neg hgo] at hm; cases hm
    rw [if_pos hgo] at hm
    cases h2 : dG stop (gx (own.map (·.2)) b mt me (wipeD δ2 (own.map (·.2)))) src.xs with
    | none => rw [h2] at hm; simp at hm
    | some r =>
      rw [h2] at hm
      simp only [Option.some.injEq, Prod.mk.injEq] at hm
      obtain ⟨rfl, rfl⟩ := hm
      exact gen_make hr hcode hc hN hBM gs hi ok hg ht he hs I E n h1 hgo h2 fun a s5 Hx o1 st E1 w1 hl g => hQ a s5 Hx o1 (st.mono Wq_sub) E1 w1 hl g
theorem room_gen {A : Around} (hr : Room (k + 1) A) : ∀ e, Room k (A.in1.in1.deeper e) := fun e => ⟨hr.hd, by have := hr.dp; show A.depth + 1 + 3 * k + 5 < _; omega, by have := hr.un; show A.units + 1 + 1 + 3 + 16 * k + 200 < _; omega⟩
/-- a generator given to a built-in function: what the call is to do -/
theorem z_fold {e : Expr} {m : DE → Option (List D × DE)} {f : List D → Option D} {nm : Str} {bid : String} {p : Pos} (hg : Gl X nm) (hm : X.mg nm = none) (hb : bootBuiltins nm = some (.builtin bid)) (he : PGx X k e stop m)
    (hcall : ∀ (pins : List (Addr × Obj)) (σ : L2.St) (δ1 : DE) (o1 : List Addr) (Hx : Hp) (a : Addr) (R0 : List D) (d : D) (s5 : Shared) (Q : Value → Shared → Prop), Inv X pins σ Hx s5 → R0.length ≤ sizeLine → GMk X pins σ δ1 o1 Hx k a stop R0 s5 → f R0 = some d → (∀ s' H' H'' v x ov, (∃ o', Envs (kx X) H' σ δ1 o' ∧ Own Hx o1 o') → Step Hx H' o1 → Inv X pins σ H'' s' → (∀ a u, H' a = some u → H'' a = some u) → RelV x v → Rep X.F H'' d x ov → Fresh H' ov → Q v s') → wpAny (model X.prog X.w) X.A (call (.builtin bid) [.ref a]) Q X.xe s5)
    (hnm : nm ≠ "__name__" := by decide) (hdb : (nm == ("__debug__" : Str)) = false := by decide) (hst : starEach [e] X.env = (false, eval e X.env) :: starEach [] X.env := by rfl) : PE X (.Call (.Name nm p) [e] [] pos) (T (kx X) false (dFold f m)) := by
  refine ⟨fun pins s σ H Q I h => ?_⟩
  obtain ⟨δ, o, r, δ', E, n, hmm, kq⟩ := h
  simp only [dFold] at hmm
  cases h1 : m δ with
  | none => rw [h1] at hmm; simp at hmm
  | some p1 =>
    obtain ⟨R0, δ1⟩ := p1
    rw [h1] at hmm; dsimp only at hmm
    cases h2 : f R0 with
    | none => rw [h2] at hmm; simp at hmm
    | some d =>
      rw [h2] at hmm
      simp only [Option.some.injEq, Prod.mk.injEq] at hmm
      obtain ⟨rfl, rfl⟩ := hmm
      refine wpAny_Call_Name_kw (ld_blt I hg hm hb ?_ hnm hdb)
      refine PyProof.Rows.callWith_builtin1 ?_ hst (by rfl)
      rw [hst]
      show wpAny _ _ (spliced ((false, eval e X.env) :: backTo pos (starEach [] X.env))) _ _ s
      refine Calls.spliced_cons (he.run pins s σ H δ o R0 δ1 _ I E n h1 fun a s5 Hx o1 st E1 w1 hl g => ?_)
      refine Calls.spliced_nil ?_
      refine hcall pins σ δ1 o1 Hx a R0 d s5 _ g.2.2.1.inv hl g h2 fun s' H' H'' v x ov Be Bs I2 hk rx rep fr => ?_
      obtain ⟨o', E', w'⟩ := Be
      refine ⟨x, H'', I2, rx, kq x H'' o' ov ⟨(st.trans w1 Bs).same hk, E'.same hk, rep, ?_⟩⟩
      exact own_fresh (w1.trans st w') (st.trans w1 Bs) fr E'.dom
theorem z_all {e : Expr} {m : DE → Option (List D × DE)} {p : Pos} (hr : Room (k + 1) X.A) (hg : Gl X "all") (hm : X.mg "all" = none) (he : PGx X k e stopAll m)
    (hst : starEach [e] X.env = (false, eval e X.env) :: starEach [] X.env := by rfl) : PE X (.Call (.Name "all" p) [e] [] pos) (T (kx X) false (dFold fAll m)) := by
  refine z_fold (bid := "all") hg hm (by decide +kernel) he (fun pins σ δ1 o1 Hx a R0 d s5 Q I hl g hf hQ => ?_) (by decide) (by decide) hst
  obtain ⟨ty, _, B5, gg⟩ := g
  simp only [fAll] at hf
  cases hb : allT R0 with
  | none => rw [hb] at hf; cases hf
  | some bo =>
    rw [hb] at hf
    cases (Option.some.inj hf : D.bl bo = d)
    have gst := gg X.A.in1 [] (fun _ => []) s5 hr.hd (by have := hr.dp; show X.A.depth < _; omega) (room_gen hr) I.ok.frames (fun b hb => nomatch hb) (.refl fun b hb => nomatch hb) keeps_none
    refine call_function_tree F.kind_all F.plain_all F.entry_all (F.args_all1 _) ?_
    unfold Builtin.«all»
    refine wpAny_bind (m := oneArg "all" _) (wpAny_pure ?_)
    refine wpAny_bind (iter_gen ty ?_)
    exact wpAny_pure ⟨plainId_quiet F.plain_all_loop _, all_loop (A := X.A) R0 0 Hx s5 gst hb fun s' H' B => hQ s' H' H' _ (.bl bo) [] B.env B.step B.inv (fun _ _ e => e) rfl ⟨rfl, rfl⟩ fresh_nil⟩
theorem z_any {e : Expr} {m : DE → Option (List D × DE)} {p : Pos} (hr : Room (k + 1) X.A) (hg : Gl X "any") (hm : X.mg "any" = none) (he : PGx X k e stopAny m)
    (hst : starEach [e] X.env = (false, eval e X.env) :: starEach [] X.env := by rfl) : PE X (.Call (.Name "any" p) [e] [] pos) (T (kx X) false (dFold fAny m)) := by
  refine z_fold (bid := "any") hg hm (by decide +kernel) he (fun pins σ δ1 o1 Hx a R0 d s5 Q I hl g hf hQ => ?_) (by decide) (by decide) hst
  obtain ⟨ty, _, B5, gg⟩ := g
  simp only [fAny] at hf
  cases hb : anyT R0 with
  | none => rw [hb] at hf; cases hf
  | some bo =>
    rw [hb] at hf
    cases (Option.some.inj hf : D.bl bo = d)
    have gst := gg X.A.in1 [] (fun _ => []) s5 hr.hd (by have := hr.dp; show X.A.depth < _; omega) (room_gen hr) I.ok.frames (fun b hb => nomatch hb) (.refl fun b hb => nomatch hb) keeps_none
    refine call_function_tree F.kind_any F.plain_any F.entry_any (F.args_any1 _) ?_
    unfold Builtin.«any»
    refine wpAny_bind (m := oneArg "any" _) (wpAny_pure ?_)
    refine wpAny_bind (iter_gen ty ?_)
    exact wpAny_pure ⟨plainId_quiet F.plain_any_loop _, any_loop (A := X.A) R0 0 Hx s5 gst hb fun s' H' B => hQ s' H' H' _ (.bl bo) [] B.env B.step B.inv (fun _ _ e => e) rfl ⟨rfl, rfl⟩ fresh_nil⟩
end
end Z


set_option Elab.async false
set_option linter.all false
set_option maxRecDepth 100000
/-! tuple, sum, join of a generator expression -/
namespace Z
open PySem PySem.Spec PyProof.Rows L2
open AutoSeq1 (wpAny_loadPart')

def never (_ : D) : Bool := false
section
variable {X : Cx} {pins : List (Addr × Obj)} {σ : L2.St} {δ : DE} {o : List Addr} {Hx : Hp} {A : Around} {a : Addr}
/-- the consumer's own list changes -/
theorem Back.own {H : Hp} {s : Shared} {h' : Heap} {b : Addr} (B : Back X pins σ δ o Hx H s) (hf : FpOk X pins H b) (k : ∀ c ob, c ≠ b → s.heap.get? c = some ob → h'.get? c = some ob) (t : Nat) : Back X pins σ δ o Hx H { s with heap := h', toks := t } :=
  ⟨B.inv.turned (it := b) k hf.1 hf.2.1 hf.2.2.2.1 hf.2.2.2.2.1 hf.2.2.2.2.2, B.env, B.step⟩
theorem FpOk.at {H H' : Hp} {b : Addr} (h : FpOk X pins H b) (hn : H' b = none) : FpOk X pins H' b := ⟨hn, h.2⟩
theorem extend_loop {R : Result → Shared → Prop} {R0 : List D} {S0 : Addr} {res : Value} (hl : R0.length ≤ sizeLine) (hSa : S0 ≠ a) {Hf : Hp} (hf : FpOk X pins Hf S0) (hR : ∀ s' H' acc c gv, Back X pins σ δ o Hx H' s' → s'.heap.get? S0 = some (lstObj acc c) → Vals gv acc.toList → Reps X.F H' R0 gv [] → H' S0 = none → R (.ok (.ret res)) s') :
    ∀ (r : List D) (j : Nat) (H : Hp) (s : Shared), R0 = R0.take j ++ r → j + r.length = R0.length → GSt X pins σ δ o Hx A.in1 a never [S0] (fun j => R0.take j) j r H s → Keeps X.F [S0] (R0.take j) H s →
    codeAny (model X.prog X.w) A (.builtin "list.extend.loop" ⟨[.ref S0, .ref a, res], []⟩) R s
  | [], j, H, s, hr, hj, g, hk => by
    have hlive : ∀ b ∈ [S0], ∃ ob, s.heap.get? b = some ob ∧ ∀ v, ob.data ≠ .cell v := fun b hb => by
      obtain ⟨acc, c, gv, e, _⟩ := hk b hb
      exact ⟨_, e, fun v z => nomatch z⟩
    refine codeAny_builtin F.entry_extend_loop ?_
    rw [Around.under_plainId F.plain_extend_loop _]
    show wpAny _ A.in1 (pyNext (.ref a) >>= _) _ _ s
    refine wpAny_bind (g.2.2 s _ _ (.refl hlive) hk fun s' H' B sk hk' => ?_)
    obtain ⟨acc, c, gv, e, va, re, hn⟩ := hk' S0 List.mem_cons_self
    rw [List.append_nil] at hr
    exact wpAny_pure (hR s' H' acc c gv B e va (by rw [hr]; exact re) hn)
  | d :: r, j, H, s, hr, hj, g, hk => by
    have hlive : ∀ b ∈ [S0], ∃ ob, s.heap.get? b = some ob ∧ ∀ v, ob.data ≠ .cell v := fun b hb => by
      obtain ⟨acc, c, gv, e, _⟩ := hk b hb
      exact ⟨_, e, fun v z => nomatch z⟩
    refine codeAny_builtin F.entry_extend_loop ?_
    rw [Around.under_plainId F.plain_extend_loop _]
    show wpAny _ A.in1 (pyNext (.ref a) >>= _) _ _ s
    refine wpAny_bind (g.2.2 s _ _ (.refl hlive) hk fun v x s' H' rx rep B sk hk' gn => ?_)
    obtain ⟨acc, c, gv, e, va, re, hn⟩ := hk' S0 List.mem_cons_self
    have hsz : acc.size = j := by
      have h1 := va.length
      have h2 := re.length
      rw [List.length_take, List.length_cons] at *
      have h3 : acc.toList.length = acc.size := by simp
      omega
    rw [List.length_cons] at hj
    have ht : R0.take (j + 1) = R0.take j ++ [d] := by
      have : R0[j]? = some d := by
        rw [hr, List.getElem?_append_right (by rw [List.length_take]; omega), List.length_take, show j - min j R0.length = 0 by omega]; rfl
      rw [List.take_add_one, this]; rfl
    show wpAny _ A.in1 (updateSeq S0 (·.push v) >>= _) _ _ _
    refine wpAny_bind ?_
    have e2 := Heap.get?_update_self (Obj.mapSeq (·.push v)) e rfl
    have kp : ∀ b ob, b ≠ S0 → s'.heap.get? b = some ob → (s'.heap.update S0 (Obj.mapSeq (·.push v))).get? b = some ob := fun b ob hb eb => (Heap.get?_update_other _ _ (Ne.symm hb)).trans eb
    refine wpAny_updateSeq e rfl (wpAny_pure ⟨plainId_quiet F.plain_extend_loop _, ?_⟩) (by rw [hsz]; omega) (by show (acc.push v).size ≤ sizeLine + 1; rw [Array.size_push, hsz]; omega)
    have B2 := B.own ⟨hn, hf.2⟩ kp s'.toks
    have g2 := gn rfl
    have ty2 : Shared.TypeIs { s' with heap := s'.heap.update S0 (Obj.mapSeq (·.push v)) } (.ref a) "generator" := by
      obtain ⟨ob, e, q⟩ := g2.ty
      exact ⟨ob, kp a ob (Ne.symm hSa) e, q⟩
    have ch : Chg [S0] s' { s' with heap := s'.heap.update S0 (Obj.mapSeq (·.push v)) } := ⟨rfl, rfl, fun b ob hb eb => kp b ob (fun z => hb (by rw [z]; exact List.mem_cons_self)) eb, fun b hb => by
      rw [List.mem_singleton.mp hb]
      exact ⟨_, e2, fun v z => nomatch z⟩⟩
    refine extend_loop hl hSa hf hR r (j + 1) H' _ (by rw [ht, List.append_assoc]; exact hr) (by omega) (g2.chg ch B2 ty2) fun b hb => ?_
    rw [List.mem_singleton.mp hb]
    refine ⟨acc.push v, _, gv ++ [x], e2, by rw [Array.toList_push]; exact va.append (.cons rx .nil), ?_, hn⟩
    rw [ht]
    exact re.append (Reps.one rep)
theorem collect_gen {k : Nat} {R0 : List D} {s : Shared} {E : Value → Shared → Prop} {Q : List Value → Shared → Prop} (hh : A.handled = none) (hdp : A.depth < recursionLimit) (hrm : ∀ e, Room k (A.in1.in1.deeper e)) (hfr : A.frames = some X.stack) (hl : R0.length ≤ sizeLine) (g : GMk X pins σ δ o Hx k a never R0 s)
    (hQ : ∀ s' H' acc gv, Back X pins σ δ o Hx H' s' → Vals gv acc → Reps X.F H' R0 gv [] → Q acc s') : wpAny (model X.prog X.w) A (collect (.ref a)) Q E s := by
  obtain ⟨ty, hlt, B5, gg⟩ := g
  have hSa : s.heap.objs.size ≠ a := Nat.ne_of_gt hlt
  have hf : FpOk X pins Hx s.heap.objs.size := B5.inv.fpOk (Nat.le_refl _) (B5.inv.hok.fresh (Nat.le_refl _))
  unfold collect
  refine wpAny_bind (wpAny_runValue (codeAny_builtin F.entry_proto_collect ?_))
  rw [Around.under_plainId F.plain_proto_collect _]
  show wpAny _ A.in1 (newList [] >>= fun l => again (.builtin "list.__iadd__" ⟨[l, .ref a], []⟩)) _ _ s
  refine wpAny_bind (wpAny_newObj_type ?_)
  refine wpAny_pure ⟨plainId_quiet F.plain_list_iadd _, codeAny_builtin F.entry_list_iadd ?_⟩
  rw [Around.under_plainId F.plain_list_iadd _]
  have ty2 : Shared.TypeIs { s with heap := s.heap.push { cls := .type "list", data := .seq ([] : List Value).toArray } } (.ref a) "generator" := by
    obtain ⟨ob, e, q⟩ := ty
    exact ⟨ob, Heap.get?_push_of_some _ e, q⟩
  show wpAny _ A.in1 (Builtin.List.listExtendWith (.ref s.heap.objs.size) (.ref a) (.ref s.heap.objs.size)) _ _ _
  unfold Builtin.List.listExtendWith
  refine wpAny_bind (wpAny_typeOf ty2 ?_)
  have h1 : Builtin.List.listSameRef (.ref s.heap.objs.size) (.ref a) = false := by simp [Builtin.List.listSameRef, hSa]
  have h2 : (Value.type "generator" == Value.type "list") = false := by decide
  have h3 : (Value.type "generator" == Value.type "tuple") = false := by decide
  simp only [h1, h2, h3, Bool.or_false, Bool.false_eq_true, if_false]
  refine wpAny_bind (iter_gen ty2 ?_)
  refine wpAny_bind (wpAny_holding ?_)
  unfold Builtin.List.listLengthHint
  refine wpAny_bind (wpAny_specialOf ty2 F.gen_no_len ?_)
  show wpAny _ A.in1 (specialOf (Value.ref a) (Str.ofString "__length_hint__") >>= _) _ _ _
  refine wpAny_bind (wpAny_specialOf ty2 F.gen_no_hint ?_)
  refine wpAny_pure ?_
  show wpAny _ A.in1 (rule "list.extend.makes-room" >>= fun _ => Builtin.List.listTouch (.ref s.heap.objs.size) >>= fun _ =>
    again (.builtin "list.extend.loop" ⟨[.ref s.heap.objs.size, .ref a, .ref s.heap.objs.size], []⟩)) _ _ _
  refine wpAny_bind (wpAny_rule ?_)
  have hS₁ : (s.heap.push { cls := .type "list", data := .seq ([] : List Value).toArray }).get? s.heap.objs.size = some { cls := .type "list", data := .seq ([] : List Value).toArray } := Heap.get?_push_size _ rfl
  refine wpAny_bind ?_
  show wpAny _ A.in1 (updateSeq s.heap.objs.size (·.push .none) >>= fun _ => updateSeq s.heap.objs.size (·.pop)) _ _ _
  refine wpAny_bind (wpAny_updateSeq hS₁ rfl ?_)
  have hS₂ := Heap.get?_update_self (Obj.mapSeq (·.push Value.none)) hS₁ rfl
  refine wpAny_updateSeq hS₂ rfl ?_
  have hS₃ := Heap.get?_update_self (Obj.mapSeq (·.pop)) hS₂ rfl
  have old : ∀ b ob, s.heap.get? b = some ob → (((s.heap.push { cls := .type "list", data := .seq ([] : List Value).toArray }).update s.heap.objs.size (Obj.mapSeq (·.push Value.none))).update s.heap.objs.size (Obj.mapSeq (·.pop))).get? b = some ob := fun b ob e => by
    have hne : s.heap.objs.size ≠ b := Nat.ne_of_gt (Heap.lt_size e)
    exact (Heap.get?_update_other _ _ hne).trans ((Heap.get?_update_other _ _ hne).trans (Heap.get?_push_of_some _ e))
  have ch : Chg [s.heap.objs.size] s { s with heap := ((s.heap.push { cls := .type "list", data := .seq ([] : List Value).toArray }).update s.heap.objs.size (Obj.mapSeq (·.push Value.none))).update s.heap.objs.size (Obj.mapSeq (·.pop)) } :=
    ⟨rfl, rfl, fun b ob _ e => old b ob e, fun b hb => by rw [List.mem_singleton.mp hb]; exact ⟨_, hS₃, fun v z => nomatch z⟩⟩
  have kp : Keeps X.F [s.heap.objs.size] (R0.take 0) Hx { s with heap := ((s.heap.push { cls := .type "list", data := .seq ([] : List Value).toArray }).update s.heap.objs.size (Obj.mapSeq (·.push Value.none))).update s.heap.objs.size (Obj.mapSeq (·.pop)) } := fun b hb => by
    rw [List.mem_singleton.mp hb]
    exact ⟨#[], _, [], hS₃, .nil, by rw [List.take_zero]; exact ⟨rfl, rfl⟩, hf.1⟩
  have gst := gg A.in1 [s.heap.objs.size] (fun j => R0.take j) _ hh hdp hrm hfr (fun b hb => by rw [List.mem_singleton.mp hb]; exact Nat.le_refl _) ch kp
  refine wpAny_pure ⟨plainId_quiet F.plain_extend_loop _, extend_loop hl hSa hf (fun s' H' acc c gv B e va re hn => ?_) R0 0 Hx _ (by rw [List.take_zero]; rfl) (by omega) gst kp⟩
  show wpAny _ A (load s.heap.objs.size >>= _) _ _ s'
  refine wpAny_bind (wpAny_load e ?_)
  exact wpAny_pure (hQ s' H' acc.toList gv B va re)
theorem tuple_new_gen {k : Nat} {R0 : List D} {s : Shared} {E : Value → Shared → Prop} {Q₁ : Value → Shared → Prop} (hh : A.handled = none) (hdp : A.depth < recursionLimit) (hrm : ∀ e, Room k (A.in1.in1.in1.deeper e)) (hfr : A.frames = some X.stack) (hl : R0.length ≤ sizeLine) (g : GMk X pins σ δ o Hx k a never R0 s)
    (h : ∀ s' H' acc gv, Back X pins σ δ o Hx H' s' → Vals gv acc → Reps X.F H' R0 gv [] → Q₁ (.ref s'.heap.objs.size) { s' with heap := s'.heap.push { cls := .type "tuple", data := .seq acc.toArray } }) :
    codeAny (model X.prog X.w) A (.call (.builtin "tuple.__new__") ⟨[.type "tuple", .ref a], []⟩) (wants Q₁ E) s := by
  refine codeAny_of_tree ?_
  show wpAny _ A.in1 (do checkBuiltinCall "tuple.__new__" ⟨[.type "tuple", .ref a], []⟩; again (.builtin "tuple.__new__" ⟨[.type "tuple", .ref a], []⟩)) _ _ s
  refine wpAny_bind (wpAny_of_eq (F.newCall_tuple_1 _) (wpAny_pure ⟨plainId_quiet F.plain_tuple_new _, codeAny_builtin F.entry_tuple_new ?_⟩))
  rw [Around.under_plainId F.plain_tuple_new _]
  have hsub := sub_tuple_self
  have hinit := init_tuple_lookup
  have hmh := madeHere_tuple
  have hTI := g.1
  wp_walk using wpAny_typeOf hTI, collect_gen (A := A.in1) hh hdp hrm hfr hl g
  intro s' H' acc gv B va re
  show wpAny _ _ (Builtin.Tuple.tupleExact acc.toArray >>= fun v => ret v) _ _ _
  unfold Builtin.Tuple.tupleExact
  refine wpAny_bind (wpAny_newObj_type ?_ (by show acc.toArray.size ≤ sizeLine; rw [List.size_toArray, ← va.length, re.length]; exact hl))
  exact wpAny_pure (h s' H' acc gv B va re)
theorem tuple_gen {k : Nat} {R0 : List D} {s : Shared} {E : Value → Shared → Prop} {Q : Value → Shared → Prop} (hr : Room (k + 1) A) (hfr : A.frames = some X.stack) (hl : R0.length ≤ sizeLine) (g : GMk X pins σ δ o Hx k a never R0 s)
    (hQ : ∀ s' H' acc gv, Back X pins σ δ o Hx H' s' → Vals gv acc → Reps X.F H' R0 gv [] → Q (.ref s'.heap.objs.size) { s' with heap := s'.heap.push { cls := .type "tuple", data := .seq acc.toArray } }) :
    wpAny (model X.prog X.w) A (call (.type "tuple") [.ref a]) Q E s := by
  have hrm : ∀ e, Room k (A.in1.in1.in1.in1.deeper e) := fun e => ⟨hr.hd, by have := hr.dp; show A.depth + 1 + 3 * k + 5 < _; omega, by have := hr.un; show A.units + 1 + 1 + 1 + 1 + 3 + 16 * k + 200 < _; omega⟩
  refine callType_codes (Q₁ := fun obj s₁ => s₁.TypeIs obj "tuple" ∧ Q obj s₁) F.called_tuple (F.typeCall_tuple_1 _) F.entry_object_init
    (tuple_new_gen (A := A.in1) hr.hd (by have := hr.dp; show A.depth < _; omega) hrm hfr hl g fun s' H' acc gv B va re => ⟨⟨_, Heap.get?_push_size _ rfl, rfl⟩, hQ s' H' acc gv B va re⟩) fun obj s₁ h₁ => ?_
  exact ⟨h₁.1, F.args_object_init_2 obj _, object_init_meets F.called_tuple.init.lookup F.called_tuple.made (by decide) X.prog X.w A.in1 _ s₁ ⟨h₁.1, rfl, h₁.2⟩⟩
end
section
variable {X : Cx} {k : Nat}
def fTup (r : List D) : Option D := some (.tup r)
/-- tuple(.. for ..) -/
theorem z_tupleG {e : Expr} {m : DE → Option (List D × DE)} {p pos : Pos} (hr : Room (k + 1) X.A) (hg : Gl X "tuple") (hm : X.mg "tuple" = none) (he : PGx X k e never m)
    (hst : starEach [e] X.env = (false, eval e X.env) :: starEach [] X.env := by rfl) : PE X (.Call (.Name "tuple" p) [e] [] pos) (T (kx X) false (dFold fTup m)) := by
  refine ⟨fun pins s σ H Q I h => ?_⟩
  obtain ⟨δ, o, r, δ', E, n, hmm, kq⟩ := h
  simp only [dFold, fTup] at hmm
  cases h1 : m δ with
  | none => rw [h1] at hmm; simp at hmm
  | some p1 =>
    obtain ⟨R0, δ1⟩ := p1
    rw [h1] at hmm
    simp only [Option.some.injEq, Prod.mk.injEq] at hmm
    obtain ⟨rfl, rfl⟩ := hmm
    refine wpAny_Call_Name_kw (ld_blt I hg hm (by decide +kernel : bootBuiltins "tuple" = some (.type "tuple")) ?_ (by decide) (by decide))
    refine PyProof.Rows.callWith_type1 ?_ hst rfl
    rw [hst]
    show wpAny _ _ (spliced ((false, eval e X.env) :: backTo pos (starEach [] X.env))) _ _ s
    refine Calls.spliced_cons (he.run pins s σ H δ o R0 δ1 _ I E n h1 fun a s5 Hx o1 st E1 w1 hl g => ?_)
    refine Calls.spliced_nil ?_
    refine tuple_gen hr I.ok.frames hl g fun s' H' acc gv B va re => ?_
    have hp : H' s'.heap.objs.size = none := B.inv.hok.fresh (Nat.le_refl _)
    have new : ∀ b ob, s'.heap.get? b = some ob → (s'.heap.push { cls := .type "tuple", data := .seq acc.toArray }).get? b = some ob := fun b ob e => Heap.get?_push_of_some _ e
    have I2 : Inv X pins σ (upd H' s'.heap.objs.size (.tup gv)) { s' with heap := s'.heap.push { cls := .type "tuple", data := .seq acc.toArray } } :=
      B.inv.laid (t' := s'.toks) new (Nat.le_refl _) ⟨by rw [re.length]; exact hl, acc, va, _, Heap.get?_push_size _ rfl, rfl, 0, rfl⟩
    obtain ⟨o', E', w'⟩ := B.env
    refine ⟨.ref s'.heap.objs.size, _, I2, rfl, kq _ _ o' [] ⟨(st.trans w1 B.step).same (new_same hp), E'.same (new_same hp), ⟨_, gv, rfl, .of upd_same, re.same (new_same hp)⟩, ?_⟩⟩
    exact w1.trans st w'
end
end Z


set_option Elab.async false
set_option linter.all false
set_option maxRecDepth 100000
/-! sorted -/
namespace Z
open PySem PySem.Spec PyProof.Rows L2

def isTupN : D → Bool
  | .tup _ => true
  | _ => false
def isPlainS : D → Bool
  | .bl _ => true
  | .int _ => true
  | .str _ => true
  | _ => false
mutual
theorem reads_nol {h : Heap} : ∀ {d : D} {v : Value} {as : List Addr}, d.nol = true → Reads h v (toPy d) as → as = []
  | .non, _, _, _, r => by cases r; rfl
  | .bl _, _, _, _, r => by cases r; rfl
  | .int _, _, _, _, r => by cases r; rfl
  | .str _, _, _, _, r => by cases r; rfl
  | .tup xs, _, _, n, r => by
    cases r with
    | tuple _ _ _ q => exact readsAll_nol (xs := xs) n q
  | .lst _, _, _, n, _ => by simp [D.nol] at n
  | .frz _, _, _, n, _ => by simp [D.nol] at n
  | .dic _ _, _, _, n, _ => by simp [D.nol] at n
  | .obj _ _ _, _, _, n, _ => by simp [D.nol] at n
theorem readsAll_nol {h : Heap} : ∀ {xs : List D} {vs : List Value} {as : List Addr}, D.nols xs = true → ReadsAll h vs (toPys xs) as → as = []
  | [], _, _, _, r => by cases r; rfl
  | x :: xs, _, _, n, r => by
    simp only [D.nols, Bool.and_eq_true] at n
    cases r with
    | cons r1 r2 => rw [reads_nol n.1 r1, readsAll_nol n.2 r2]; rfl
end
section
variable {X : Cx} {pins : List (Addr × Obj)} {σ : L2.St} {H : Hp} {s : Shared}
end
section
variable {X : Cx} {k : Nat}
end
end Z


set_option Elab.async false
set_option linter.all false
set_option maxRecDepth 100000
/-! sorted of a sequence; x += e -/
namespace Z
open PySem PySem.Spec PyProof.Rows L2

section
variable {X : Cx}
end
/-- x op= e, ints -/
def dAug (i : Nat) (g : Int → Int → Int) (m : Den) : Blk := fun δ => match δ[i]? with
  | some (some (.int a)) => match m δ with
    | some (.own (.int b), δ1) => if i < δ1.length then some (.nx (δ1.set i (some (.int (g a b))))) else none
    | _ => none
  | _ => none
section
variable {X : Cx} {kp : Nat → Bool} {e : Expr} {q : Bool} {m : Den} {pos : Pos}
theorem z_aug {i : Nat} {x : Str} {op : Operator} {g : Int → Int → Int} {pos' : Pos} (hN : X.N.Nodup) (hi : X.N[i]? = some x) (hx : Loc X.env.scope x) (hk : kp i = false) (he : PE X e (T (kx X) q m)) (ho : PIp X op (ipI g)) (hf : X.fn x = true ∨ X.env.scope.names.lookup x = some .local := by first | exact .inl rfl | exact .inr rfl | assumption) :
    PS X (.AugAssign (.Name x pos') op e pos) (TSm (kx X) kp (dAug i g m)) :=
  PS.imp (ps_aug hN hi hx he ho hf) fun D' σ H ⟨δ, o, out, E, n, hm, f⟩ => by
    simp only [dAug] at hm
    cases h1 : δ[i]? with
    | none => rw [h1] at hm; simp at hm
    | some od =>
    cases od with
    | none => rw [h1] at hm; simp at hm
    | some d =>
    cases d <;> rw [h1] at hm <;> simp only [reduceCtorEq] at hm
    rename_i a
    cases h2 : m δ with
    | none => rw [h2] at hm; simp at hm
    | some p =>
    obtain ⟨r, δ1⟩ := p
    rw [h2] at hm
    cases r with
    | «at» _ _ => simp at hm
    | own d =>
    cases d <;> simp only [reduceCtorEq] at hm
    rename_i b
    by_cases hl : i < δ1.length
    case neg => rw [if_neg hl] at hm; cases hm
    rw [if_pos hl] at hm
    cases (Option.some.inj hm)
    obtain ⟨v, oa, o1, ob, hv, rd, _⟩ := E.at h1
    obtain ⟨rfl, _⟩ := rd
    refine ⟨.int a, hv, δ, o, .own (.int b), δ1, E, n, h2, fun w H1 o2 ov P => ?_⟩
    obtain ⟨rfl, rfl⟩ := P.held
    refine ⟨a, b, rfl, rfl, ?_⟩
    obtain ⟨o3, E3, c3⟩ := Envs.set i P.env (show Rep (kx X).K H1 (.int (g a b)) (.int (g a b)) [] from ⟨rfl, rfl⟩) hl
    refine f _ H1 o3 ⟨P.step.mono Wq_sub, E3, (own_right P.own).sub fun a => by have := c3 a; simpa using this, fun j hj => ?_⟩
    rw [List.getElem?_set_ne]
    intro z; subst z; rw [hk] at hj; cases hj
end
end Z


set_option Elab.async false
set_option linter.all false
set_option maxRecDepth 100000
/-! list.extend of a new list -/
namespace Z
open PySem PySem.Spec PyProof.Rows L2

section
variable {X : Cx} {eo e : Expr} {qo qe : Bool} {mo me : Den} {apos cpos : Pos}
end
end Z


set_option Elab.async false
set_option linter.all false
set_option maxRecDepth 100000
set_option maxHeartbeats 4000000
/-! sets of ints and texts that are sorted -/
namespace Z
open PySem PySem.Spec PyProof.Rows L2

def keyK (e : Int × Value) : Key := match e.2 with
  | .int k _ => .inl k
  | .str x _ => .inr x
  | _ => .inl 0
def GoodK (w : World) (e : Int × Value) : Prop := ∃ k, keyIs k e.2 = true ∧ e.1 = keyH w k
/-- the set at a holds the keys of S; it can be walked -/
def SetM (w : World) (h : Heap) (a : Addr) (S : Key → Bool) (n : Nat) : Prop :=
  ∃ o es ep t, h.get? a = some o ∧ o.ExactSet ∧ o.data = .set es ep t ∧ (∀ e ∈ es.toList, GoodK w e) ∧ (es.toList.map keyK).Nodup ∧ (∀ k, S k = true ↔ k ∈ es.toList.map keyK) ∧
    es.size < scanBound ∧ t.fits es.size = true ∧ es.size = n ∧ Ris t.place.toList ∧ (w.params.followText "set-order" = true ∨ t.led = true)
theorem SetM.at {w : World} {h h' : Heap} {a : Addr} {S : Key → Bool} {n : Nat} (R : SetM w h a S n) (k : ∀ o, h.get? a = some o → h'.get? a = some o) : SetM w h' a S n := by
  obtain ⟨o, es, ep, t, ho, r⟩ := R
  exact ⟨o, es, ep, t, k o ho, r⟩
theorem SetM.congr {w : World} {h : Heap} {a : Addr} {S S' : Key → Bool} {n : Nat} (R : SetM w h a S n) (e : ∀ k, S' k = S k) : SetM w h a S' n := by
  have q : S' = S := funext e
  rw [q]; exact R
section
variable {P : Program} {w : World} {A : Around} {E : Value → Shared → Prop} {s : Shared} {a : Addr} {S : Key → Bool} {n : Nat}
end
end Z


set_option Elab.async false
set_option linter.all false
set_option maxRecDepth 100000
set_option maxHeartbeats 4000000
/-! set(..) of a sequence of keys; sorted(set(..)) -/
namespace Z
open PySem PySem.Spec PyProof.Rows L2

section
variable {P : Program} {w : World} {A : Around} {E : Value → Shared → Prop} {s : Shared}
end
end Z


set_option Elab.async false
set_option linter.all false
set_option maxRecDepth 100000
/-! sorted(set(..)) -/
namespace Z
open PySem PySem.Spec PyProof.Rows L2

end Z


set_option Elab.async false
set_option linter.all false
set_option maxRecDepth 100000
/-! sorted(set(..)): the rule -/
namespace Z
open PySem PySem.Spec PyProof.Rows L2

section
variable {X : Cx} {e : Expr} {q : Bool} {m : Den} {p p2 pos pos2 : Pos}
end
end Z


set_option Elab.async false
set_option linter.all false
set_option maxRecDepth 100000
/-! the head: what the defs' objects are, the tables at the start, the law's call -/
namespace Z
open PySem PySem.Spec PyProof.Rows L2

theorem codeHd_inv {K : PySem.W.Frag} {c P : Addr} (h : PySem.W.codeHdIn K c P = true) : ∃ od vs sl, K.lookup c = some ⟨.type "code", od, .fields vs, sl⟩ ∧ He.tabOf K c = P := by
  unfold PySem.W.codeHdIn at h
  split at h
  · rename_i od vs sl hk
    refine ⟨od, vs, sl, hk, ?_⟩
    unfold He.tabOf
    rw [hk]
    simp only [Bool.and_eq_true] at h
    have h11 := h.1.1.1.1.1
    split at h11
    · rename_i P' e
      show (match vs.getD 11 .none with | .ref P => P | _ => 0) = P
      rw [Array.getD_eq_getD_getElem?, e]
      exact beq_iff_eq.mp h11
    · cases h11
  · cases h
/-- each code object of the fragment is one of these defs' -/
def exTabs (tf : List He.Defn) (K : PySem.W.Frag) : Bool := K.all fun q => match q.2 with
  | ⟨.type c, _, .fields _, _⟩ => c != "code" || (tf.map fun p => (He.cT K p).1).contains q.1
  | _ => true
section
variable {fa : List He.Fa} {fn : List He.DefD} {ts : List He.Tab} {tf : List He.Defn} {w : World} {h : Heap} {K : PySem.W.Frag}
theorem tabs_start (c : exTabs tf K = true) {H : Hp} (hH : ∀ p ∈ tf.map (He.cT K), H p.2 = some (.tbl #[])) : Tabs ⟨⟨K, w⟩, .none⟩ H := by
  refine ⟨fun cc P hc => ?_, fun _ e => by cases e⟩
  obtain ⟨od, vs, sl, hk, ht⟩ := codeHd_inv hc
  have h1 := List.all_eq_true.mp c _ (He.lookup_mem hk)
  simp only [bne_self_eq_false, Bool.false_or, List.contains_iff_mem, List.mem_map] at h1
  obtain ⟨p, hp, e⟩ := h1
  have h2 := hH _ (List.mem_map_of_mem hp)
  have e2 : (He.cT K p).2 = P := by
    rw [← ht, ← e]; rfl
  rw [e2] at h2
  exact .mk P #[] (fun _ => 0) (fun _ => 0) h2 trivial (fun pos cv h => by simp [codeAmong] at h) fun pos cv h => by simp [codeAmong] at h
/-- a def of the top, as the others see it -/
structure Def (K : PySem.W.Frag) (mg : Str → Option Value) (x : Str) (st : Stmt) (ps : List Str) (f : Addr) (fd : FuncData) : Prop where
  fz : FunZ K x (L2.defArgs st) (L2.defBody st) (L2.defScope st) f fd
  kp : PySem.W.keepIn K (.ref f) = true
  g : mg x = some (.ref f)
  b : Binds K fd ps []
theorem funZ_of {qual x : Str} {params : Arguments} {body : List Stmt} {scope : Scope} {dvs : List V} {kws : List (Str × V)} {fd : FuncData} {p : He.Defn} (F : FunD K x qual params body scope dvs kws (He.fAd K p) fd) (hd : PySem.W.codeHdIn K (He.cT K p).1 (He.cT K p).2 = true) : FunZ K qual params body scope (He.fAd K p) fd := by
  obtain ⟨oc, od, dV, kV, doc, pm, an, cdv, ct, osl, rfl, lk, hcd, _, _⟩ := F.ex
  obtain ⟨c, rfl⟩ := He.codeIn_ref hcd
  have e := He.codeOf_eq lk rfl
  rw [show (He.cT K p).1 = c from e] at hd
  exact ⟨⟨x, oc, od, dV, kV, doc, pm, an, ct, osl, c, _, rfl, lk, hcd, hd⟩⟩
abbrev dOf (x : Str) (st : Stmt) : He.DefD := ⟨(x, none), x, x, L2.defArgs st, L2.defBody st, L2.defScope st, [], []⟩
theorem Def.of (X : K.In h) {mg : Str → Option Value} (G : h.Ns mainGlobals mg) (c : He.SaysX fa fn ts tf (exTabs tf) w h K) {x : Str} {st : Stmt} {ps : List Str} (hd : dOf x st ∈ fn) (ht : (x, none) ∈ tf) (hg : He.Fa.glo x ∈ fa)
    (hb : ∀ (kV doc pm : Value) (an : Option Addr) (cdv ct : Value) (us : List Value), us.length = ps.length → bindArgs (PySem.W.fnOf x x (L2.defArgs st) (L2.defBody st) (L2.defScope st) .none kV doc pm an cdv ct) ⟨us, []⟩ = pure (ps.zip us)) :
    ∃ fd, Def K mg x st ps (He.fAd K (x, none)) fd ∧ ∀ (s : Shared) (us : List Value), us.length = ps.length → BindsTo s fd ⟨us, []⟩ (ps.zip us) := by
  obtain ⟨fd, F⟩ := He.SaysD.defs (fa := fa) (fn := fn) c.t.d hd
  exact ⟨fd, ⟨funZ_of F (c.hd _ ht), F.kp, He.glo_ok X G (He.SaysD.facts c.t.d hg), F.bindsN hb⟩, F.bindsA hb⟩
/-- the law's def, given the walk and what its denotation answers -/
theorem lawAt {l : PySem.W.OpenLaw} {n k : Nat} {x : Str} {mg : Str → Option Value} {f : Addr} {fd : FuncData} {m : Fn} (X : K.In h) (c : He.SaysX fa fn ts tf (exTabs tf) w h K) (hne : tf ≠ [])
    (hb : ∀ (s : Shared) (u : Value), BindsTo s fd ⟨[u], []⟩ [(x, u)])
    (F : ∀ base : Heap, K.In base → base.Ns mainGlobals mg → BMod base mg → FnOk l.prog w K mg base CX0 k f fd [x] (spD ⟨K, w⟩ m))
    (hm : ∀ (ns : List Int) (c : List D → D), c = .lst ∨ c = .frz → ns.length ≤ n → (∀ z ∈ ns, Builtin.Int.intBits z ≤ 1048576) → ∃ fs, m [c (ns.map .int)] = some (.bl true, fs)) : LamX.LawAtS l w K CX0 k n x mg f h := by
  refine ⟨fd, tf.map (He.cT K), spD ⟨K, w⟩ m, fun p hp => ?_, fun p hp => ?_, fun p hp => ?_, hb, fun H a ns hl hbt hH hS => ?_, fun base hK hG hT => F base hK hG ?_⟩
  · obtain ⟨q, hq, rfl⟩ := List.mem_map.mp hp
    exact c.empty q hq
  · obtain ⟨q, hq, rfl⟩ := List.mem_map.mp hp
    exact c.out q hq
  · obtain ⟨q, hq, rfl⟩ := List.mem_map.mp hp
    exact PySem.W.codeHd_of_K X (c.hd q hq)
  · have tb := tabs_start (w := w) (K := K) c.more hH
    have ri : ∀ (js : List Int), Reps ⟨K, w⟩ H (js.map D.int) (js.map V.int) [] := fun js => by
      induction js with
      | nil => exact ⟨rfl, rfl⟩
      | cons j js ih => exact ⟨.int j, _, [], [], rfl, ⟨rfl, rfl⟩, ih, rfl⟩
    rcases hS with (hS | hS) | hS
    · obtain ⟨fs, e⟩ := hm ns .lst (.inl rfl) hl hbt
      refine ⟨[.lst (ns.map .int)], [a], .bl true, fs, ⟨.ref a, [], [a], [], rfl, ⟨a, _, [], rfl, hS, ri ns, rfl⟩, ⟨rfl, rfl⟩, rfl⟩, ?_, tb, e, fun v H' ov of_ _ r _ _ => r.1⟩
      intro b
      rw [List.count_cons, List.count_nil]
      split <;> omega
    · obtain ⟨fs, e⟩ := hm ns .frz (.inr rfl) hl hbt
      refine ⟨[.frz (ns.map .int)], [], .bl true, fs, ⟨.ref a, [], [], [], rfl, ⟨a, _, rfl, .inl hS, ri ns, rfl⟩, ⟨rfl, rfl⟩, rfl⟩, ?_, tb, e, fun v H' ov of_ _ r _ _ => r.1⟩
      simp [Nd]
    · obtain ⟨fs, e⟩ := hm ns .frz (.inr rfl) hl hbt
      refine ⟨[.frz (ns.map .int)], [], .bl true, fs, ⟨.ref a, [], [], [], rfl, ⟨a, _, rfl, .inr hS, ri ns, rfl⟩, ⟨rfl, rfl⟩, rfl⟩, ?_, tb, e, fun v H' ov of_ _ r _ _ => r.1⟩
      simp [Nd]
  · cases tf with
    | nil => exact absurd rfl hne
    | cons p tf =>
      have := hT (He.cT K p) (List.mem_cons_self ..)
      obtain ⟨bm, ob, e1, e2, e3, e4, e5, e6, e7, e8⟩ := this.bm
      exact ⟨bm, ob, e1, e2, e5, e6, e7, e8⟩
/-- a deeper place has room for a line's work -/
theorem hu_of {k : Nat} {A : Around} (r : Room k A) : A.units + 70 < cLine := by
  have := r.un; unfold cLine at *; omega
end
end Z


set_option Elab.async false
set_option linter.all false
set_option maxRecDepth 100000
/-! short names for what is printed -/
namespace Z
open PySem PySem.Spec PyProof.Rows L2
theorem h64 {k : Nat} {A : Around} (r : Room k A) : A.units + 64 < cLine := by have := hu_of r; omega
theorem h65 {k : Nat} {A : Around} (r : Room k A) : A.units + 65 < cLine := by have := hu_of r; omega
abbrev fSub : List D → Option D := fI2 fun i j => some (.int (i - j))
abbrev fFdiv : List D → Option D := fI2 fun i j => if j ≠ 0 ∧ j.natAbs < 1073741824 then some (.int (i.fdiv j)) else none
abbrev fMod : List D → Option D := fI2 fun i j => if j ≠ 0 then some (.int (i.fmod j)) else none
abbrev fPow : List D → Option D := fI2 fun i j => if 0 ≤ j ∧ j ≤ 1000000 ∧ i.natAbs < 2 ^ 64 then some (.int (i ^ j.toNat)) else none
abbrev fLt : List D → Option D := fCmp fun a b => ltD a b
abbrev fGt : List D → Option D := fCmp fun a b => ltD b a
abbrev fLe : List D → Option D := fCmp fun a b => !ltD b a
abbrev fGe : List D → Option D := fCmp fun a b => !ltD a b
theorem bb_len : bootBuiltins "len" = some (.builtin "len") := by decide +kernel
theorem bb_isinstance : bootBuiltins "isinstance" = some (.builtin "isinstance") := by decide +kernel
theorem bb_min : bootBuiltins "min" = some (.builtin "min") := by decide +kernel
theorem bb_int : bootBuiltins "int" = some (.type "int") := by decide +kernel
theorem bb_tuple : bootBuiltins "tuple" = some (.type "tuple") := by decide +kernel
theorem bb_str : bootBuiltins "str" = some (.type "str") := by decide +kernel
theorem bb_bool : bootBuiltins "bool" = some (.type "bool") := by decide +kernel
/-- the slots of a list -/
def kpL (l : List Nat) : Nat → Bool := fun i => l.contains i
theorem kpL_sub {a b : List Nat} (h : a.all (b.contains ·) = true) : ∀ i, kpL a i = true → kpL b i = true := fun i hi => by
  unfold kpL at hi ⊢
  exact List.all_eq_true.mp h i (List.contains_iff_mem.mp hi)
/-- a def of which nothing is asked -/
theorem fn_none {P : Program} {w : World} {K : PySem.W.Frag} {mg : Str → Option Value} {base : Heap} {k : Nat} {f : Addr} {fd : FuncData} {ps : List Str} : FnOk P w K mg base CX0 k f fd ps (spD ⟨K, w⟩ fun _ => none) := by
  constructor
  · intro vs H Q E h
    obtain ⟨ds, oA, r, fs, _, _, _, e, _⟩ := h
    cases e
  · intro A outer s H args us vs Q E hr h0 hb hv h
    obtain ⟨ds, oA, r, fs, _, _, _, e, _⟩ := h
    cases e
end Z


set_option Elab.async false
set_option linter.all false
set_option maxRecDepth 100000
/-! plain laws of what the denotations compute by -/
namespace Z
open PySem PySem.Spec PyProof.Rows L2

/-! ### equality, depth -/
mutual
/-- no bool in it: equality is sameness -/
def D.cl : D → Bool
  | .non => true
  | .int _ => true
  | .str _ => true
  | .tup xs => D.cls xs
  | .lst xs => D.cls xs
  | _ => false
def D.cls : List D → Bool
  | [] => true
  | x :: xs => D.cl x && D.cls xs
end
mutual
theorem eqD_cl : ∀ (a b : D), a.cl = true → b.cl = true → (eqD a b = true ↔ a = b)
  | .non, b, _, h => by cases b <;> simp [D.cl] at h <;> simp [eqD, toPy, PyData.eqv]
  | .int i, b, _, h => by cases b <;> simp [D.cl] at h <;> simp [eqD, toPy, PyData.eqv]
  | .str x, b, _, h => by cases b <;> simp [D.cl] at h <;> simp [eqD, toPy, PyData.eqv]
  | .tup xs, b, g, h => by
    cases b <;> simp [D.cl] at h <;> simp [eqD, toPy, PyData.eqv]
    exact eqDs_cl xs _ (by simpa [D.cl] using g) h
  | .lst xs, b, g, h => by
    cases b <;> simp [D.cl] at h <;> simp [eqD, toPy, PyData.eqv]
    exact eqDs_cl xs _ (by simpa [D.cl] using g) h
  | .bl _, _, g, _ => by simp [D.cl] at g
  | .frz _, _, g, _ => by simp [D.cl] at g
  | .dic _ _, _, g, _ => by simp [D.cl] at g
  | .obj _ _ _, _, g, _ => by simp [D.cl] at g
theorem eqDs_cl : ∀ (a b : List D), D.cls a = true → D.cls b = true → (PyData.eqvAll (toPys a) (toPys b) = true ↔ a = b)
  | [], [], _, _ => by simp [toPys, PyData.eqvAll]
  | [], _ :: _, _, _ => by simp [toPys, PyData.eqvAll]
  | _ :: _, [], _, _ => by simp [toPys, PyData.eqvAll]
  | x :: xs, y :: ys, g, h => by
    simp only [D.cls, Bool.and_eq_true] at g h
    have h1 := eqD_cl x y g.1 h.1
    have h2 := eqDs_cl xs ys g.2 h.2
    simp only [toPys, PyData.eqvAll, Bool.and_eq_true, List.cons.injEq]
    exact and_congr h1 h2
end
theorem eqD_eq {a b : D} (ha : a.cl = true) (hb : b.cl = true) : eqD a b = decide (a = b) := by
  rw [Bool.eq_iff_iff, eqD_cl a b ha hb, decide_eq_true_eq]
theorem dep_of {d : D} (h : d.dp ≤ 60) : dep d = true := decide_eq_true h
theorem dep_int (i : Int) : dep (.int i) = true := dep_of (by simp [D.dp])
/-! ### the operators -/
theorem fEq_cl {a b : D} (ha : a.cl = true) (hb : b.cl = true) (da : a.dp ≤ 60) (db : b.dp ≤ 60) : fEq [a, b] = some (.bl (decide (a = b))) := by
  simp only [fEq, dep_of da, dep_of db, Bool.and_self, if_true, eqD_eq ha hb]
theorem fEq_int (i j : Int) : fEq [.int i, .int j] = some (.bl (decide (i = j))) := by
  rw [fEq_cl (by simp [D.cl]) (by simp [D.cl]) (by simp [D.dp]) (by simp [D.dp])]; simp
theorem fEq_str (i j : Str) : fEq [.str i, .str j] = some (.bl (decide (i = j))) := by
  rw [fEq_cl (by simp [D.cl]) (by simp [D.cl]) (by simp [D.dp]) (by simp [D.dp])]; simp
theorem fNe_int (i j : Int) : fNe [.int i, .int j] = some (.bl (decide (i ≠ j))) := by
  simp only [fNe, dep_int, Bool.and_self, if_true, eqD_eq (a := .int i) (b := .int j) (by simp [D.cl]) (by simp [D.cl])]
  simp
theorem cmp_int (i j : Int) : cmpOk (.int i) (.int j) = true := by simp [cmpOk, toPy, PySem.W.alike, dep_int]
theorem ltD_int (i j : Int) : ltD (.int i) (.int j) = decide (i < j) := by
  unfold ltD; exact PySem.W.dataLt_int i j
theorem fLt_int (i j : Int) : fLt [.int i, .int j] = some (.bl (decide (i < j))) := by simp only [fCmp, cmp_int, if_true, ltD_int]
theorem fGt_int (i j : Int) : fGt [.int i, .int j] = some (.bl (decide (j < i))) := by simp only [fCmp, cmp_int, if_true, ltD_int]
theorem not_dec {p q : Prop} [Decidable p] [Decidable q] (h : ¬ p ↔ q) : (!decide p) = decide q := by
  by_cases hp : p
  · have : ¬ q := fun hq => h.mpr hq hp
    simp [hp, this]
  · simp [hp, h.mp hp]
theorem fLe_int (i j : Int) : fLe [.int i, .int j] = some (.bl (decide (i ≤ j))) := by
  simp only [fCmp, cmp_int, if_true, ltD_int]
  exact congrArg (fun b => some (D.bl b)) (not_dec (by omega))
theorem fGe_int (i j : Int) : fGe [.int i, .int j] = some (.bl (decide (j ≤ i))) := by
  simp only [fCmp, cmp_int, if_true, ltD_int]
  exact congrArg (fun b => some (D.bl b)) (not_dec (by omega))
/-! ### loops -/
/-- a for loop that never leaves, by what holds behind each part of its items; gs: the walked lists that must stand -/
theorem dForL_inv {gs : List (Nat × D)} {b : Bnd} {mb : Blk} (J : List D → DE → Prop) : ∀ (xs pre : List D) (δ : DE), (∀ p δ, J p δ → gOk gs δ = true) → (∀ p x q δ, pre ++ xs = p ++ x :: q → J p δ → ∃ δ1 δ2, b x δ = some δ1 ∧ (mb δ1 = some (.nx δ2) ∨ mb δ1 = some (.ct δ2)) ∧ J (p ++ [x]) δ2) →
    J pre δ → ∃ δ', dForL gs b mb xs δ = some (.nx δ') ∧ J (pre ++ xs) δ'
  | [], pre, δ, hg, _, h => ⟨δ, by simp only [dForL, hg _ _ h, if_true], by rw [List.append_nil]; exact h⟩
  | x :: xs, pre, δ, hg, hs, h => by
    obtain ⟨δ1, δ2, e1, e2, h2⟩ := hs pre x xs δ rfl h
    obtain ⟨δ', e3, h3⟩ := dForL_inv J xs (pre ++ [x]) δ2 hg (fun p y q δ e => hs p y q δ (by rw [← e]; simp)) h2
    refine ⟨δ', ?_, by simpa using h3⟩
    simp only [dForL, hg _ _ h, if_true, e1]
    rcases e2 with e2 | e2 <;> rw [e2] <;> exact e3
end Z


set_option Elab.async false
set_option linter.all false
set_option maxRecDepth 100000
/-! enumerate of a list or a tuple -/
namespace Z
open PySem PySem.Spec PyProof.Rows L2

/-- a list (true) or a tuple (false) -/
def SqB (b : Bool) (K : PySem.W.Frag) (H : Hp) (a : Addr) (xs : List V) : Prop := match b with
  | true => SqL K H a xs
  | false => SqT K H a xs
def IsB (b : Bool) (h : Heap) (a : Addr) (its : Array Value) : Prop := match b with
  | true => h.IsList a its
  | false => h.IsTuple a its
def IsBI (b : Bool) (h : Heap) (it a : Addr) (i : Nat) : Prop := match b with
  | true => h.IsListIter it a i
  | false => h.IsTupleIter it a i
def itB (b : Bool) (a : Addr) : Obj := match b with
  | true => { cls := .type "list_iterator", data := .fields #[.ref a, .int 0 0] }
  | false => { cls := .type "tuple_iterator", data := .fields #[.ref a, .int 0 0] }
theorem begins_b (b : Bool) (a : Addr) (its : Array Value) : Begins (.ref a) (itB b a) fun h => IsB b h a its := by
  cases b
  · exact begins_tuple a its
  · exact begins_list a its
theorem isBI_new {b : Bool} {a it : Addr} {h : Heap} (e : h.get? it = some (itB b a)) : IsBI b h it a 0 := by
  cases b
  · exact ⟨_, e, rfl, rfl⟩
  · exact ⟨_, e, rfl, rfl⟩
theorem isBI_at {b : Bool} {a it : Addr} {i : Nat} {h h' : Heap} (s : IsBI b h it a i) (k : ∀ o, h.get? it = some o → h'.get? it = some o) : IsBI b h' it a i := by
  cases b
  · obtain ⟨o, e, c, d⟩ := s; exact ⟨o, k o e, c, d⟩
  · obtain ⟨o, e, c, d⟩ := s; exact ⟨o, k o e, c, d⟩
theorem isBI_obj {b : Bool} {a it : Addr} {i : Nat} {h : Heap} (s : IsBI b h it a i) : ∃ o, h.get? it = some o ∧ ∀ v, o.data ≠ .cell v := by
  cases b
  · obtain ⟨o, e, c, d⟩ := s; exact ⟨o, e, fun v q => by rw [d] at q; cases q⟩
  · obtain ⟨o, e, c, d⟩ := s; exact ⟨o, e, fun v q => by rw [d] at q; cases q⟩
theorem draws_b {P : Program} {w : World} {A : Around} (b : Bool) (hh : A.handled = none) (it a : Addr) (hne : a ≠ it) (its : Array Value) :
    Draws P w A it [it, a] its.size (fun i v => its[i]? = some v) (fun i h => IsBI b h it a i ∧ IsB b h a its) := by
  cases b
  · exact Draws.tuple hh it a hne its
  · exact Draws.list hh it a hne its
theorem drawsEnd_b {P : Program} {w : World} {A : Around} (b : Bool) (hh : A.handled = none) (it a : Addr) (its : Array Value) (i : Nat) (hi : its.size ≤ i) :
    Draws P w A it [it, a] i (fun _ _ => True) (fun j h => j = i ∧ IsBI b h it a i ∧ IsB b h a its) where
  live := fun j h st => by obtain ⟨o, e, _⟩ := isBI_obj st.2.1; exact ⟨o, e⟩
  frame := fun j h h' st hk => by
    refine ⟨st.1, isBI_at st.2.1 fun o e => hk it (by simp) o e, ?_⟩
    have h2 := st.2.2
    cases b
    · obtain ⟨o, e, r⟩ := h2; exact ⟨o, hk a (by simp) o e, r⟩
    · obtain ⟨o, e, r⟩ := h2; exact ⟨o, hk a (by simp) o e, r⟩
  item := fun j s Q E hj st hQ => absurd st.1 (by omega)
  done := fun s Q E st hE => by
    cases b
    · exact wpAny_nextOf_tuple_end hh st.2.1 st.2.2 (by simpa using hi) hE
    · exact wpAny_nextOf_list_end hh st.2.1 st.2.2 (by simpa using hi) hE
section
variable {X : Cx} {pins : List (Addr × Obj)} {σ : L2.St} {H : Hp} {s : Shared}
theorem inv_b {b : Bool} {a : Addr} {xs : List V} (I : Inv X pins σ H s) (h : SqB b X.K H a xs) : ∃ its : List Value, Vals xs its ∧ IsB b s.heap a its.toArray ∧ xs.length ≤ sizeLine := by
  cases b
  · exact I.tuple h
  · obtain ⟨its, r, p, z⟩ := I.list h
    exact ⟨its, r, p.isList, z⟩
theorem inv_b_inj {b : Bool} {a : Addr} {xs ys : List V} (I : Inv X pins σ H s) (h : SqB b X.K H a xs) (h' : SqB b X.K H a ys) : xs = ys := by
  cases b
  · exact I.tuple_inj h h'
  · exact I.list_inj h h'
end
theorem lt_of_isB {b : Bool} {h : Heap} {a : Addr} {its : Array Value} (s : IsB b h a its) : a < h.objs.size := by
  cases b
  · obtain ⟨o, e, _⟩ := s; exact Heap.lt_size e
  · obtain ⟨o, e, _⟩ := s; exact Heap.lt_size e
end Z


set_option Elab.async false
set_option linter.all false
set_option maxRecDepth 100000
/-! enumerate as what is walked -/
namespace Z
open PySem PySem.Spec PyProof.Rows L2
open PySem.AutoSeq1 (wpAny_loadPart')

end Z


set_option Elab.async false
set_option linter.all false
set_option maxRecDepth 100000
/-! for .. in enumerate(a list or a tuple) -/
namespace Z
open PySem PySem.Spec PyProof.Rows L2

section
variable {X : Cx} {e l : Expr} {ta : TA} {p pos tpos : Pos} {elts : List Expr} {kk : Nat} {q : Bool} {ml : Den}
end
end Z


set_option Elab.async false
set_option linter.all false
set_option maxRecDepth 100000
/-! unary minus -/
namespace Z
open PySem PySem.Spec PyProof.Rows L2
section
variable {X : Cx}
end
end Z


set_option Elab.async false
set_option linter.all false
set_option maxRecDepth 100000
/-! zip of two or three lists or tuples -/
namespace Z
open PySem PySem.Spec PyProof.Rows L2
/-- draws up to i at least, whatever is left -/
theorem draws_at {P : Program} {w : World} {A : Around} (b : Bool) (hh : A.handled = none) (it a : Addr) (hne : a ≠ it) (its : Array Value) (i : Nat) :
    ∃ (n : Nat) (Pt : Nat → Value → Prop) (St : Nat → Heap → Prop), Draws P w A it [it, a] n Pt St ∧ i ≤ n ∧ (its.size ≤ i → n = i) ∧ ∀ h, IsBI b h it a i → IsB b h a its → St i h := by
  by_cases hi : its.size ≤ i
  · exact ⟨i, _, _, drawsEnd_b b hh it a its i hi, Nat.le_refl _, fun _ => rfl, fun h h1 h2 => ⟨rfl, h1, h2⟩⟩
  · exact ⟨its.size, _, _, draws_b b hh it a hne its, by omega, fun h => absurd h hi, fun h h1 h2 => ⟨h1, h2⟩⟩
/-- pairs of the items of the lists or tuples at a and b -/
def ItzB (b1 b2 : Bool) (K : PySem.W.Frag) (a1 a2 : Addr) : It :=
  ⟨fun i H => ∃ (xs ys : List V) (x y : V), SqB b1 K H a1 xs ∧ SqB b2 K H a2 ys ∧ xs[i]? = some x ∧ ys[i]? = some y,
   fun i H v H' => ∃ T x y, v = .ref T ∧ H T = none ∧ H' = upd H T (.tup [x, y]) ∧ (∀ xs, SqB b1 K H a1 xs → xs[i]? = some x) ∧ ∀ ys, SqB b2 K H a2 ys → ys[i]? = some y,
   fun i H => ∃ xs ys : List V, SqB b1 K H a1 xs ∧ SqB b2 K H a2 ys ∧ (xs.length ≤ i ∨ ys.length ≤ i)⟩
structure Zs2 (z TI TO i1 i2 a1 a2 : Addr) : Prop where
  s : ZipSep2 z TI TO i1 i2 [i1, a1] [i2, a2]
  n1 : a1 ≠ i1
  n2 : a2 ≠ i2
set_option maxHeartbeats 1000000 in
theorem turn_zipB {P : Program} {w : World} {K : PySem.W.Frag} {elts : List Expr} {kk : Nat} {tpos : Pos} (b1 b2 : Bool) {z TI TO i1 i2 a1 a2 : Addr} (D : Zs2 z TI TO i1 i2 a1 a2) :
    Turn P w K (.Tuple elts kk tpos) (ItzB b1 b2 K a1 a2) [z, TI, TO, i1, i2] z (fun i h => IsZip h z TI TO .none ∧ IsTupOf2 h TI (.ref i1) (.ref i2) ∧ (∃ x y, IsTupOf2 h TO x y) ∧ IsBI b1 h i1 a1 i ∧ IsBI b2 h i2 a2 i) where
  mem := by simp
  obj := fun i h st c hc => by
    obtain ⟨hz, hTI, ⟨x, y, hTO⟩, h1, h2⟩ := st
    have e' : c = z ∨ c = TI ∨ c = TO ∨ c = i1 ∨ c = i2 := by simpa using hc
    rcases e' with q | q | q | q | q
    · rw [q]; exact ⟨_, hz, fun v q => nomatch q⟩
    · rw [q]; exact ⟨_, hTI, fun v q => nomatch q⟩
    · rw [q]; exact ⟨_, hTO, fun v q => nomatch q⟩
    · rw [q]; exact isBI_obj h1
    · rw [q]; exact isBI_obj h2
  keep := fun i h h' st k => by
    obtain ⟨hz, hTI, ⟨x, y, hTO⟩, h1, h2⟩ := st
    exact ⟨k z (by simp) _ hz, k TI (by simp) _ hTI, ⟨x, y, k TO (by simp) _ hTO⟩, isBI_at h1 fun o q => k i1 (by simp) o q, isBI_at h2 fun o q => k i2 (by simp) o q⟩
  item := by
    intro X hP hw hK hc i pins s σ H E I hf st hg
    subst hP hw hK
    obtain ⟨hz, hTI, hTO, h1, h2⟩ := st
    obtain ⟨xs, ys, x, y, hqx, hqy, hx, hy⟩ := hg
    obtain ⟨its, rv, p, _⟩ := inv_b I hqx
    obtain ⟨its2, rv2, p2, _⟩ := inv_b I hqy
    obtain ⟨u, hu, ru⟩ := rv.get hx
    obtain ⟨u2, hu2, ru2⟩ := rv2.get hy
    have l1 := rv.length
    have l2 := rv2.length
    have g1 := (List.getElem?_eq_some_iff.mp hx).1
    have g2 := (List.getElem?_eq_some_iff.mp hy).1
    have hh : X.A.in1.handled = none := I.ok.hd hc
    have G := GoesN.zip2 (elts := elts) (x1 := kk) (pos := tpos) D.s (draws_b (P := X.prog) (w := X.w) (A := X.A.in1) b1 hh i1 a1 D.n1 its.toArray) (draws_b (P := X.prog) (w := X.w) (A := X.A.in1) b2 hh i2 a2 D.n2 its2.toArray)
    refine G.goes i s _ E (by simp; omega) ⟨hz, hTI, hTO, ⟨h1, p⟩, h2, p2⟩ fun v h' tk ⟨T, x', y', ev, hT, hx', hy', hIs⟩ st' hk htk => ?_
    subst ev
    have ex : x' = u := by
      have q : its.toArray[i]? = some u := by simpa using hu
      rw [q] at hx'; exact (Option.some.inj hx').symm
    have ey : y' = u2 := by
      have q : its2.toArray[i]? = some u2 := by simpa using hu2
      rw [q] at hy'; exact (Option.some.inj hy').symm
    subst ex ey
    obtain ⟨hz', hTI', hTO', ⟨h1', _⟩, h2', _⟩ := st'
    obtain ⟨o, ho, hcl, n, hd⟩ := hIs
    have new : ObjOk X.prog X.w (upd H T (.tup [x, y])) h' T (.tup [x, y]) := ⟨by show 2 ≤ sizeLine; decide, [x', y'], .cons ru (.cons ru2 .nil), ⟨o, ho, hcl, n, hd⟩⟩
    have I1 : Inv X pins σ (upd H T (.tup [x, y])) { s with heap := h', toks := tk } := I.turnedNew (ch := [z, TI, TO, i1, i2]) (fun c o hb q => hk c o (fun q' => hb (by
      simp only [List.mem_cons, List.not_mem_nil, or_false] at q' ⊢
      rcases q' with q' | q' | q' | q' <;> simp [q'])) q) hf hT new
    have lts : ∀ c ∈ [z, TI, TO, i1, i2], c < s.heap.objs.size := fun c hcm => by
      have e' : c = z ∨ c = TI ∨ c = TO ∨ c = i1 ∨ c = i2 := by simpa using hcm
      rcases e' with q | q | q | q | q
      · rw [q]; exact Heap.lt_size hz
      · rw [q]; exact Heap.lt_size hTI
      · rw [q]; obtain ⟨_, _, hTO⟩ := hTO; exact Heap.lt_size hTO
      · rw [q]; obtain ⟨_, e, _⟩ := isBI_obj h1; exact Heap.lt_size e
      · rw [q]; obtain ⟨_, e, _⟩ := isBI_obj h2; exact Heap.lt_size e
    refine ⟨.ref T, _, I1, rfl, ⟨T, x, y, rfl, I.hok.fresh hT, rfl, fun l hl => by rw [inv_b_inj I hl hqx]; exact hx, fun l hl => by rw [inv_b_inj I hl hqy]; exact hy⟩, ⟨hz', hTI', hTO', h1', h2'⟩, fun c hcm => ?_⟩
    rw [upd_ne (Nat.ne_of_lt (Nat.lt_of_lt_of_le (lts c hcm) hT))]
    exact (hf c hcm).1
  done := by
    intro X hP hw hK hc i pins s σ H E I hf st hg
    subst hP hw hK
    obtain ⟨hz, hTI, ⟨x0, y0, hTO⟩, h1, h2⟩ := st
    obtain ⟨xs, ys, hqx, hqy, hend⟩ := hg
    obtain ⟨its, rv, p, _⟩ := inv_b I hqx
    obtain ⟨its2, rv2, p2, _⟩ := inv_b I hqy
    have l1 := rv.length
    have l2 := rv2.length
    have hh : X.A.in1.handled = none := I.ok.hd hc
    obtain ⟨n1, P1, S1, D1, le1, en1, st1⟩ := draws_at (P := X.prog) (w := X.w) (A := X.A.in1) b1 hh i1 a1 D.n1 its.toArray i
    obtain ⟨n2, P2, S2, D2, le2, en2, st2⟩ := draws_at (P := X.prog) (w := X.w) (A := X.A.in1) b2 hh i2 a2 D.n2 its2.toArray i
    refine wpAny_pyNext_zipD2_end D.s D1 D2 hz hTI hTO (st1 _ h1 p) (st2 _ h2 p2) le1 le2 ?_ fun h' tk hk => ⟨rfl, I.turnedL (ch := [z, TI, TO, i1, i2]) (fun c o hb q => hk c o (fun q' => hb (by simp [q'])) (fun q' => hb (by simp [q'])) (fun q' => hb (by simp [q'])) (fun q' => hb (by simp [q'])) q) hf⟩
    rcases hend with q | q
    · exact .inl (en1 (by simp; omega)).symm
    · exact .inr (en2 (by simp; omega)).symm
  self := fun A i s Q E st h => wpAny_pyIter_zip st.1 h
end Z


set_option Elab.async false
set_option linter.all false
set_option maxRecDepth 100000
/-! for .. in zip(..) -/
namespace Z
open PySem PySem.Spec PyProof.Rows L2
/-- the items of a list or tuple; whether it is a list; what must stand meanwhile -/
def seqR (δ : DE) : R → Option (List D × Bool × List (Nat × D))
  | .own (.tup xs) => if D.imms xs then some (xs, false, []) else none
  | .own (.lst xs) => if D.imms xs then some (xs, true, []) else none
  | .own (.frz xs) => if D.imms xs then some (xs, true, []) else none
  | .at i [] => match δ[i]? with
    | some (some (.lst xs)) => if D.imms xs then some (xs, true, [(i, .lst xs)]) else none
    | _ => none
  | _ => none
section
variable {K : Fw} {κ : Kx} {H : Hp} {σ : L2.St} {δ : DE} {o : List Addr}
theorem seqR_ok {r : R} {v : V} {ov : List Addr} {xs : List D} {b : Bool} {gs : List (Nat × D)} (E : Envs κ H σ δ o) (h : Held κ.K H σ r v ov) (e : seqR δ r = some (xs, b, gs)) :
    ∃ a, v = .ref a ∧ (∀ c ∈ ov, ∃ u, H c = some u ∧ Ow u) ∧ (∃ vs, SqB b κ.K H a vs ∧ Reps κ.K H xs vs []) ∧
      ∀ H', (∀ c ∈ ov, H' c = H c) → (∀ c u, H c = some u → Sh u → H' c = some u) → (∀ p ∈ gs, ∃ v o, σ[p.1]? = some (some v) ∧ Rep κ.K H' p.2 v o) → ∃ vs, SqB b κ.K H' a vs ∧ Reps κ.K H' xs vs [] := by
  unfold seqR at e
  split at e
  · split at e
    · rename_i hi
      simp only [Option.some.injEq, Prod.mk.injEq] at e
      obtain ⟨rfl, rfl, rfl⟩ := e
      obtain ⟨a, vs, rfl, hq, r⟩ := h
      have := r.imm hi; subst this
      exact ⟨a, rfl, (fun c hc => nomatch hc), ⟨vs, hq, r⟩, fun H' h1 h2 h3 => ⟨vs, (fr_of h1 h2).sqt hq, r.fr (fr_of h1 h2)⟩⟩
    · cases e
  · split at e
    · rename_i hi
      simp only [Option.some.injEq, Prod.mk.injEq] at e
      obtain ⟨rfl, rfl, rfl⟩ := e
      obtain ⟨a, vs, o', rfl, hq, r, rfl⟩ := h
      have := r.imm hi; subst this
      exact ⟨a, rfl, fun c hc => by rw [List.mem_singleton.mp hc]; exact ⟨_, hq, ow_lst⟩, ⟨vs, .of hq, r⟩, fun H' h1 h2 h3 => ⟨vs, .of ((h1 a List.mem_cons_self).trans hq), r.fr ((fr_of h1 h2).sub fun b hb => nomatch hb)⟩⟩
    · cases e
  · split at e
    · rename_i hi
      simp only [Option.some.injEq, Prod.mk.injEq] at e
      obtain ⟨rfl, rfl, rfl⟩ := e
      obtain ⟨a, vs, rfl, hq, r, rfl⟩ := h
      exact ⟨a, rfl, (fun c hc => nomatch hc), ⟨vs, hq.sq, r⟩, fun H' h1 h2 h3 => ⟨vs, ((fr_of h1 h2).fz hq).sq, r.fr (fr_of h1 h2)⟩⟩
    · cases e
  · split at e
    · rename_i hd
      split at e
      · rename_i hi
        simp only [Option.some.injEq, Prod.mk.injEq] at e
        obtain ⟨rfl, rfl, rfl⟩ := e
        obtain ⟨rfl, u, hu, hp⟩ := h
        cases (show v = u from hp)
        obtain ⟨v0, oa, oi, ob, hv0, rd, e0, _, _⟩ := E.at hd
        rw [hu] at hv0; cases hv0
        obtain ⟨a, vs, o', rfl, hq, r, _⟩ := rd
        have := r.imm hi; subst this
        refine ⟨a, rfl, (fun c hc => nomatch hc), ⟨vs, .of hq, r⟩, fun H' h1 h2 h3 => ?_⟩
        obtain ⟨v2, o2, hv2, r2⟩ := h3 _ List.mem_cons_self
        rw [hu] at hv2; cases hv2
        obtain ⟨a2, vs2, o2', e2, hq2, rr2, _⟩ := r2
        cases e2
        have := rr2.imm hi; subst this
        exact ⟨vs2, .of hq2, rr2⟩
      · cases e
    · cases e
  · cases e
end
def zipD : List D → List D → List D
  | x :: xs, y :: ys => .tup [x, y] :: zipD xs ys
  | _, _ => []
theorem zipD_len : ∀ xs ys : List D, (zipD xs ys).length = min xs.length ys.length
  | [], ys => by simp [zipD]
  | _ :: _, [] => by simp [zipD]
  | x :: xs, y :: ys => by simp only [zipD, List.length_cons, zipD_len xs ys]; omega
theorem zipD_get : ∀ (xs ys : List D) (i : Nat) (z : D), (zipD xs ys)[i]? = some z → ∃ x y, xs[i]? = some x ∧ ys[i]? = some y ∧ z = .tup [x, y]
  | [], ys, i, z, h => by simp [zipD] at h
  | _ :: _, [], i, z, h => by simp [zipD] at h
  | x :: xs, y :: ys, 0, z, h => by simp [zipD] at h; exact ⟨x, y, rfl, rfl, h.symm⟩
  | x :: xs, y :: ys, i + 1, z, h => by
    simp only [zipD, List.getElem?_cons_succ] at h ⊢
    exact zipD_get xs ys i z h
def sZip2 (m : DE → Option (List R × DE)) : DenS := fun δ => match m δ with
  | some ([r1, r2], δ') => match seqR δ' r1 with
    | some (xs, _, g1) => match seqR δ' r2 with
      | some (ys, _, g2) => some (⟨zipD xs ys, g1 ++ g2⟩, δ')
      | none => none
    | none => none
  | _ => none
def iZipB (b1 b2 : Bool) (K : PySem.W.Frag) (ta : TA) : TI := fun σ H R => ta σ H fun vs H1 => ∃ a1 a2 xs ys, vs = [.ref a1, .ref a2] ∧ SqB b1 K H1 a1 xs ∧ SqB b2 K H1 a2 ys ∧ R (ItzB b1 b2 K a1 a2) H1
section
variable {X : Cx} {e e2 : Expr} {ta : TA} {p pos tpos : Pos} {elts : List Expr} {kk : Nat} {q : Bool} {ml : DE → Option (List R × DE)}
theorem zs2_new {n a1 a2 : Nat} (h1 : a1 < n) (h2 : a2 < n) : Zs2 (n + 4) (n + 2) (n + 3) n (n + 1) a1 a2 where
  s := by
    constructor
    all_goals try simp only [List.mem_cons, List.not_mem_nil, or_false, ne_eq, true_or]
    all_goals first
      | (intro h; have h : @Eq Nat _ _ := h; omega)
      | (rintro (h | h) <;> (have h : @Eq Nat _ _ := h; omega))
  n1 := fun h => by have h : @Eq Nat _ _ := h; omega
  n2 := fun h => by have h : @Eq Nat _ _ := h; omega
theorem pi_zipB (b1 b2 : Bool) (hg : Gl X "zip") (hm : X.mg "zip" = none) (ha : PA X [e, e2] ta)
    (hs : starEach [e, e2] X.env = (false, eval e X.env) :: starEach [e2] X.env := by rfl) (hpl : (backTo pos (starEach [e2] X.env)).any (·.1) = false := by rfl) :
    PI X (.Tuple elts kk tpos) (.Call (.Name "zip" p) [e, e2] [] pos) (iZipB b1 b2 X.K ta) := by
  refine ⟨fun pins s σ H R I h => ?_⟩
  refine Call_ (ld_blt I hg hm PyProof.Rows.boot_zip (PyProof.Rows.callWith_type1 (thn (ha.run pos pins s σ H _ I h) fun us s1 ⟨vs, H1, I1, r1, q1⟩ => ?_) hs hpl))
  obtain ⟨a1, a2, xs, ys, ex, hqx, hqy, q⟩ := q1
  subst ex
  cases r1 with
  | cons r rr =>
    cases rr with
    | cons r' rr =>
      cases rr
      cases r
      cases r'
      obtain ⟨its, rv, p1, _⟩ := inv_b I1 hqx
      obtain ⟨its2, rv2, p2, _⟩ := inv_b I1 hqy
      have f1 := lt_of_isB p1
      have f2 := lt_of_isB p2
      refine zip_begins2 (begins_b b1 a1 its.toArray) (begins_b b2 a2 its2.toArray) p1 p2 fun h' hz hTI hTO hi1 hi2 hsz hk => wpAny_pyIter_zip hz ?_
      have I2 : Inv X pins σ H1 { s1 with heap := h' } := I1.kept (t' := s1.toks) hk
      refine ⟨s1.heap.objs.size + 4, [s1.heap.objs.size + 4, s1.heap.objs.size + 2, s1.heap.objs.size + 3, s1.heap.objs.size, s1.heap.objs.size + 1], _, _, H1, rfl, I2, turn_zipB b1 b2 (zs2_new f1 f2), ⟨hz, hTI, ⟨_, _, hTO⟩, isBI_new hi1, isBI_new hi2⟩, fun c hc => ?_, q⟩
      have hle : s1.heap.objs.size ≤ c := by
        simp only [List.mem_cons, List.not_mem_nil, or_false] at hc
        rcases hc with h | h | h | h | h <;> (have h : @Eq Nat _ _ := h; rw [h]; show @LE.le Nat _ _ _; omega)
      exact I1.fpOk hle (I1.hok.fresh hle)
theorem src_zip {K : Fw} {H : Hp} {σ : L2.St} {ov : List Addr} {xs ys : List D} {g1 g2 : List (Nat × D)} {a1 a2 : Addr} {b1 b2 : Bool}
    (h1 : ∀ H', (∀ a ∈ ov, H' a = H a) → (∀ a u, H a = some u → Sh u → H' a = some u) → (∀ p ∈ g1, ∃ v o, σ[p.1]? = some (some v) ∧ Rep K H' p.2 v o) → ∃ vs, SqB b1 K H' a1 vs ∧ Reps K H' xs vs [])
    (h2 : ∀ H', (∀ a ∈ ov, H' a = H a) → (∀ a u, H a = some u → Sh u → H' a = some u) → (∀ p ∈ g2, ∃ v o, σ[p.1]? = some (some v) ∧ Rep K H' p.2 v o) → ∃ vs, SqB b2 K H' a2 vs ∧ Reps K H' ys vs []) :
    SrcOk K σ ⟨zipD xs ys, g1 ++ g2⟩ (ItzB b1 b2 K a1 a2) H ov := fun i H' k1 k2 k3 => by
  obtain ⟨vs, hq, r⟩ := h1 H' k1 k2 fun p hp => k3 p (List.mem_append_left _ hp)
  obtain ⟨ws, hq2, r2⟩ := h2 H' k1 k2 fun p hp => k3 p (List.mem_append_right _ hp)
  refine ⟨fun z hz => ?_, fun hl => ⟨vs, ws, hq, hq2, by
    simp only [zipD_len] at hl
    rw [r.length, r2.length]
    omega⟩⟩
  obtain ⟨x, y, hx, hy, rfl⟩ := zipD_get _ _ _ _ hz
  obtain ⟨v, hv, rv⟩ := item_of r hx
  obtain ⟨w, hw, rw2⟩ := item_of r2 hy
  refine ⟨⟨vs, ws, v, w, hq, hq2, hv, hw⟩, fun u H'' hu => ?_⟩
  obtain ⟨T, x', y', rfl, hT, rfl, hx', hy'⟩ := hu
  have ex := hx' vs hq
  rw [hv] at ex; cases ex
  have ey := hy' ws hq2
  rw [hw] at ey; cases ey
  have keep : ∀ c u, H' c = some u → upd H' T (.tup [v, w]) c = some u := fun c u e => by
    rw [upd_ne (ne_of_none e hT)]; exact e
  have fr : Fr0 H' (upd H' T (.tup [v, w])) [] := fr_of (fun a ha => nomatch ha) fun c u e _ => keep c u e
  exact ⟨keep, T, [v, w], rfl, .inl (.inl upd_same), v, [w], [], [], rfl, rv.fr fr, ⟨w, [], [], [], rfl, rw2.fr fr, ⟨rfl, rfl⟩, rfl⟩, rfl⟩
theorem z_zip2 (hg : Gl X "zip") (hm : X.mg "zip" = none) (hl : PA X [e, e2] (TAr (kx X) q ml)) (hs : starEach [e, e2] X.env = (false, eval e X.env) :: starEach [e2] X.env := by rfl) (hpl : (backTo pos (starEach [e2] X.env)).any (·.1) = false := by rfl) :
    PI X (.Tuple elts kk tpos) (.Call (.Name "zip" p) [e, e2] [] pos) (TIm (kx X) q (sZip2 ml)) := ⟨fun pins s σ H R I hw => by
  obtain ⟨δ, o, src, δ', E, n, h, k⟩ := hw
  unfold sZip2 at h
  split at h
  · rename_i r1 r2 δ1 hm1
    split at h
    · rename_i xs b1 g1 hr1
      split at h
      · rename_i ys b2 g2 hr2
        simp only [Option.some.injEq, Prod.mk.injEq] at h
        obtain ⟨rfl, rfl⟩ := h
        refine (PI.ok (pi_zipB b1 b2 hg hm hl hs hpl)).run pins s σ H R I ⟨δ, o, _, _, E, n, hm1, fun vs H1 o1 ov st en hd ow => ?_⟩
        obtain ⟨v1, vr, ov1, ovr, rfl, hd1, hd2, rfl⟩ := hd
        obtain ⟨v2, vr2, ov2, ovr2, rfl, hd2, hd3, rfl⟩ := hd2
        obtain ⟨rfl, rfl⟩ := hd3
        obtain ⟨a1, rfl, l1, ⟨vs1, q1, r1⟩, f1⟩ := seqR_ok en hd1 hr1
        obtain ⟨a2, rfl, l2, ⟨vs2, q2, r2⟩, f2⟩ := seqR_ok en hd2 hr2
        rw [List.append_nil] at ow
        refine ⟨a1, a2, vs1, vs2, rfl, q1, q2, fun hz => k _ H1 o1 (ov1 ++ ov2) st en ow (fun c hc => ?_) (src_zip (fun H' h1 h2 h3 => f1 H' (fun c hc => h1 c (List.mem_append_left _ hc)) h2 h3) (fun H' h1 h2 h3 => f2 H' (fun c hc => h1 c (List.mem_append_right _ hc)) h2 h3)) ?_⟩
        · rcases List.mem_append.mp hc with hc | hc
          · exact l1 c hc
          · exact l2 c hc
        · show (zipD xs ys).length ≤ sizeLine
          rw [zipD_len]
          have : vs1.length ≤ sizeLine := by
            cases b1
            · exact hz.2 _ _ q1
            · exact hz.1 _ _ q1
          have := r1.length
          omega
      · cases h
    · cases h
  · cases h⟩
end
end Z


set_option Elab.async false
set_option linter.all false
set_option maxRecDepth 100000
/-! zip of three -/
namespace Z
open PySem PySem.Spec PyProof.Rows L2
def ItzB3 (b1 b2 b3 : Bool) (K : PySem.W.Frag) (a1 a2 a3 : Addr) : It :=
  ⟨fun i H => ∃ (xs ys zs : List V) (x y z : V), SqB b1 K H a1 xs ∧ SqB b2 K H a2 ys ∧ SqB b3 K H a3 zs ∧ xs[i]? = some x ∧ ys[i]? = some y ∧ zs[i]? = some z,
   fun i H v H' => ∃ T x y z, v = .ref T ∧ H T = none ∧ H' = upd H T (.tup [x, y, z]) ∧ (∀ xs, SqB b1 K H a1 xs → xs[i]? = some x) ∧ (∀ ys, SqB b2 K H a2 ys → ys[i]? = some y) ∧ ∀ zs, SqB b3 K H a3 zs → zs[i]? = some z,
   fun i H => ∃ xs ys zs : List V, SqB b1 K H a1 xs ∧ SqB b2 K H a2 ys ∧ SqB b3 K H a3 zs ∧ (xs.length ≤ i ∨ ys.length ≤ i ∨ zs.length ≤ i)⟩
structure Zs3 (z TI TO i1 i2 i3 a1 a2 a3 : Addr) : Prop where
  s : ZipSep3 z TI TO i1 i2 i3 [i1, a1] [i2, a2] [i3, a3]
  n1 : a1 ≠ i1
  n2 : a2 ≠ i2
  n3 : a3 ≠ i3
theorem zs3_new {n a1 a2 a3 : Nat} (h1 : a1 < n) (h2 : a2 < n) (h3 : a3 < n) : Zs3 (n + 5) (n + 3) (n + 4) n (n + 1) (n + 2) a1 a2 a3 where
  s := by
    constructor
    all_goals try simp only [List.mem_cons, List.not_mem_nil, or_false, ne_eq, true_or]
    all_goals first
      | (intro h; have h : @Eq Nat _ _ := h; omega)
      | (rintro (h | h) <;> (have h : @Eq Nat _ _ := h; omega))
  n1 := fun h => by have h : @Eq Nat _ _ := h; omega
  n2 := fun h => by have h : @Eq Nat _ _ := h; omega
  n3 := fun h => by have h : @Eq Nat _ _ := h; omega
set_option maxHeartbeats 2000000 in
theorem turn_zipB3 {P : Program} {w : World} {K : PySem.W.Frag} {elts : List Expr} {kk : Nat} {tpos : Pos} (b1 b2 b3 : Bool) {z TI TO i1 i2 i3 a1 a2 a3 : Addr} (D : Zs3 z TI TO i1 i2 i3 a1 a2 a3) :
    Turn P w K (.Tuple elts kk tpos) (ItzB3 b1 b2 b3 K a1 a2 a3) [z, TI, TO, i1, i2, i3] z (fun i h => IsZip h z TI TO .none ∧ IsTupOf3 h TI (.ref i1) (.ref i2) (.ref i3) ∧ (∃ x y u, IsTupOf3 h TO x y u) ∧ IsBI b1 h i1 a1 i ∧ IsBI b2 h i2 a2 i ∧ IsBI b3 h i3 a3 i) where
  mem := by simp
  obj := fun i h st c hc => by
    obtain ⟨hz, hTI, ⟨x, y, u, hTO⟩, h1, h2, h3⟩ := st
    have e' : c = z ∨ c = TI ∨ c = TO ∨ c = i1 ∨ c = i2 ∨ c = i3 := by simpa using hc
    rcases e' with q | q | q | q | q | q
    · rw [q]; exact ⟨_, hz, fun v q => nomatch q⟩
    · rw [q]; exact ⟨_, hTI, fun v q => nomatch q⟩
    · rw [q]; exact ⟨_, hTO, fun v q => nomatch q⟩
    · rw [q]; exact isBI_obj h1
    · rw [q]; exact isBI_obj h2
    · rw [q]; exact isBI_obj h3
  keep := fun i h h' st k => by
    obtain ⟨hz, hTI, ⟨x, y, u, hTO⟩, h1, h2, h3⟩ := st
    exact ⟨k z (by simp) _ hz, k TI (by simp) _ hTI, ⟨x, y, u, k TO (by simp) _ hTO⟩, isBI_at h1 fun o q => k i1 (by simp) o q, isBI_at h2 fun o q => k i2 (by simp) o q, isBI_at h3 fun o q => k i3 (by simp) o q⟩
  item := by
    intro X hP hw hK hc i pins s σ H E I hf st hg
    subst hP hw hK
    obtain ⟨hz, hTI, hTO, h1, h2, h3⟩ := st
    obtain ⟨xs, ys, zs, x, y, v3, hqx, hqy, hqz, hx, hy, hv3⟩ := hg
    obtain ⟨its, rv, p, _⟩ := inv_b I hqx
    obtain ⟨its2, rv2, p2, _⟩ := inv_b I hqy
    obtain ⟨its3, rv3, p3, _⟩ := inv_b I hqz
    obtain ⟨u, hu, ru⟩ := rv.get hx
    obtain ⟨u2, hu2, ru2⟩ := rv2.get hy
    obtain ⟨u3, hu3, ru3⟩ := rv3.get hv3
    have l1 := rv.length
    have l2 := rv2.length
    have l3 := rv3.length
    have g1 := (List.getElem?_eq_some_iff.mp hx).1
    have g2 := (List.getElem?_eq_some_iff.mp hy).1
    have g3 := (List.getElem?_eq_some_iff.mp hv3).1
    have hh : X.A.in1.handled = none := I.ok.hd hc
    have G := GoesN.zip3 (elts := elts) (x1 := kk) (pos := tpos) D.s (draws_b (P := X.prog) (w := X.w) (A := X.A.in1) b1 hh i1 a1 D.n1 its.toArray) (draws_b (P := X.prog) (w := X.w) (A := X.A.in1) b2 hh i2 a2 D.n2 its2.toArray) (draws_b (P := X.prog) (w := X.w) (A := X.A.in1) b3 hh i3 a3 D.n3 its3.toArray)
    refine G.goes i s _ E (by simp; omega) ⟨hz, hTI, hTO, ⟨h1, p⟩, ⟨h2, p2⟩, h3, p3⟩ fun v h' tk ⟨T, x', y', z', ev, hT, hx', hy', hz', hIs⟩ st' hk htk => ?_
    subst ev
    have ex : x' = u := by
      have q : its.toArray[i]? = some u := by simpa using hu
      rw [q] at hx'; exact (Option.some.inj hx').symm
    have ey : y' = u2 := by
      have q : its2.toArray[i]? = some u2 := by simpa using hu2
      rw [q] at hy'; exact (Option.some.inj hy').symm
    have ez : z' = u3 := by
      have q : its3.toArray[i]? = some u3 := by simpa using hu3
      rw [q] at hz'; exact (Option.some.inj hz').symm
    subst ex ey ez
    obtain ⟨hz1, hTI', hTO', ⟨h1', _⟩, ⟨h2', _⟩, h3', _⟩ := st'
    obtain ⟨o, ho, hcl, n, hd⟩ := hIs
    have new : ObjOk X.prog X.w (upd H T (.tup [x, y, v3])) h' T (.tup [x, y, v3]) := ⟨by show 3 ≤ sizeLine; decide, [x', y', z'], .cons ru (.cons ru2 (.cons ru3 .nil)), ⟨o, ho, hcl, n, hd⟩⟩
    have I1 : Inv X pins σ (upd H T (.tup [x, y, v3])) { s with heap := h', toks := tk } := I.turnedNew (ch := [z, TI, TO, i1, i2, i3]) (fun c o hb q => hk c o (fun q' => hb (by
      simp only [List.mem_cons, List.not_mem_nil, or_false] at q' ⊢
      rcases q' with q' | q' | q' | q' | q' <;> simp [q'])) q) hf hT new
    have lts : ∀ c ∈ [z, TI, TO, i1, i2, i3], c < s.heap.objs.size := fun c hcm => by
      have e' : c = z ∨ c = TI ∨ c = TO ∨ c = i1 ∨ c = i2 ∨ c = i3 := by simpa using hcm
      rcases e' with q | q | q | q | q | q
      · rw [q]; exact Heap.lt_size hz
      · rw [q]; exact Heap.lt_size hTI
      · rw [q]; obtain ⟨_, _, _, hTO⟩ := hTO; exact Heap.lt_size hTO
      · rw [q]; obtain ⟨_, e, _⟩ := isBI_obj h1; exact Heap.lt_size e
      · rw [q]; obtain ⟨_, e, _⟩ := isBI_obj h2; exact Heap.lt_size e
      · rw [q]; obtain ⟨_, e, _⟩ := isBI_obj h3; exact Heap.lt_size e
    refine ⟨.ref T, _, I1, rfl, ⟨T, x, y, v3, rfl, I.hok.fresh hT, rfl, fun l hl => by rw [inv_b_inj I hl hqx]; exact hx, fun l hl => by rw [inv_b_inj I hl hqy]; exact hy, fun l hl => by rw [inv_b_inj I hl hqz]; exact hv3⟩, ⟨hz1, hTI', hTO', h1', h2', h3'⟩, fun c hcm => ?_⟩
    rw [upd_ne (Nat.ne_of_lt (Nat.lt_of_lt_of_le (lts c hcm) hT))]
    exact (hf c hcm).1
  done := by
    intro X hP hw hK hc i pins s σ H E I hf st hg
    subst hP hw hK
    obtain ⟨hz, hTI, ⟨x0, y0, z0, hTO⟩, h1, h2, h3⟩ := st
    obtain ⟨xs, ys, zs, hqx, hqy, hqz, hend⟩ := hg
    obtain ⟨its, rv, p, _⟩ := inv_b I hqx
    obtain ⟨its2, rv2, p2, _⟩ := inv_b I hqy
    obtain ⟨its3, rv3, p3, _⟩ := inv_b I hqz
    have l1 := rv.length
    have l2 := rv2.length
    have l3 := rv3.length
    have hh : X.A.in1.handled = none := I.ok.hd hc
    obtain ⟨n1, P1, S1, D1, le1, en1, st1⟩ := draws_at (P := X.prog) (w := X.w) (A := X.A.in1) b1 hh i1 a1 D.n1 its.toArray i
    obtain ⟨n2, P2, S2, D2, le2, en2, st2⟩ := draws_at (P := X.prog) (w := X.w) (A := X.A.in1) b2 hh i2 a2 D.n2 its2.toArray i
    obtain ⟨n3, P3, S3, D3, le3, en3, st3⟩ := draws_at (P := X.prog) (w := X.w) (A := X.A.in1) b3 hh i3 a3 D.n3 its3.toArray i
    refine wpAny_pyNext_zipD3_end D.s D1 D2 D3 hz hTI hTO (st1 _ h1 p) (st2 _ h2 p2) (st3 _ h3 p3) le1 le2 le3 ?_ fun h' tk hk => ⟨rfl, I.turnedL (ch := [z, TI, TO, i1, i2, i3]) (fun c o hb q => hk c o (fun q' => hb (by simp [q'])) (fun q' => hb (by simp [q'])) (fun q' => hb (by simp [q'])) (fun q' => hb (by simp [q'])) (fun q' => hb (by simp [q'])) q) hf⟩
    rcases hend with q | q | q
    · exact .inl (en1 (by simp; omega)).symm
    · exact .inr (.inl (en2 (by simp; omega)).symm)
    · exact .inr (.inr (en3 (by simp; omega)).symm)
  self := fun A i s Q E st h => wpAny_pyIter_zip st.1 h
def zipD3 : List D → List D → List D → List D
  | x :: xs, y :: ys, z :: zs => .tup [x, y, z] :: zipD3 xs ys zs
  | _, _, _ => []
theorem zipD3_len : ∀ xs ys zs : List D, (zipD3 xs ys zs).length = min xs.length (min ys.length zs.length)
  | [], ys, zs => by simp [zipD3]
  | _ :: _, [], zs => by simp [zipD3]
  | _ :: _, _ :: _, [] => by simp [zipD3]
  | x :: xs, y :: ys, z :: zs => by simp only [zipD3, List.length_cons, zipD3_len xs ys zs]; omega
theorem zipD3_get : ∀ (xs ys zs : List D) (i : Nat) (w : D), (zipD3 xs ys zs)[i]? = some w → ∃ x y z, xs[i]? = some x ∧ ys[i]? = some y ∧ zs[i]? = some z ∧ w = .tup [x, y, z]
  | [], ys, zs, i, w, h => by simp [zipD3] at h
  | _ :: _, [], zs, i, w, h => by simp [zipD3] at h
  | _ :: _, _ :: _, [], i, w, h => by simp [zipD3] at h
  | x :: xs, y :: ys, z :: zs, 0, w, h => by simp [zipD3] at h; exact ⟨x, y, z, rfl, rfl, rfl, h.symm⟩
  | x :: xs, y :: ys, z :: zs, i + 1, w, h => by
    simp only [zipD3, List.getElem?_cons_succ] at h ⊢
    exact zipD3_get xs ys zs i w h
def sZip3 (m : DE → Option (List R × DE)) : DenS := fun δ => match m δ with
  | some ([r1, r2, r3], δ') => match seqR δ' r1 with
    | some (xs, _, g1) => match seqR δ' r2 with
      | some (ys, _, g2) => match seqR δ' r3 with
        | some (zs, _, g3) => some (⟨zipD3 xs ys zs, g1 ++ (g2 ++ g3)⟩, δ')
        | none => none
      | none => none
    | none => none
  | _ => none
def iZipB3 (b1 b2 b3 : Bool) (K : PySem.W.Frag) (ta : TA) : TI := fun σ H R => ta σ H fun vs H1 => ∃ a1 a2 a3 xs ys zs, vs = [.ref a1, .ref a2, .ref a3] ∧ SqB b1 K H1 a1 xs ∧ SqB b2 K H1 a2 ys ∧ SqB b3 K H1 a3 zs ∧ R (ItzB3 b1 b2 b3 K a1 a2 a3) H1
section
variable {X : Cx} {e e2 e3 : Expr} {ta : TA} {p pos tpos : Pos} {elts : List Expr} {kk : Nat} {q : Bool} {ml : DE → Option (List R × DE)}
theorem pi_zipB3 (b1 b2 b3 : Bool) (hg : Gl X "zip") (hm : X.mg "zip" = none) (ha : PA X [e, e2, e3] ta)
    (hs : starEach [e, e2, e3] X.env = (false, eval e X.env) :: starEach [e2, e3] X.env := by rfl) (hpl : (backTo pos (starEach [e2, e3] X.env)).any (·.1) = false := by rfl) :
    PI X (.Tuple elts kk tpos) (.Call (.Name "zip" p) [e, e2, e3] [] pos) (iZipB3 b1 b2 b3 X.K ta) := by
  refine ⟨fun pins s σ H R I h => ?_⟩
  refine Call_ (ld_blt I hg hm PyProof.Rows.boot_zip (PyProof.Rows.callWith_type1 (thn (ha.run pos pins s σ H _ I h) fun us s1 ⟨vs, H1, I1, r1, q1⟩ => ?_) hs hpl))
  obtain ⟨a1, a2, a3, xs, ys, zs, ex, hqx, hqy, hqz, q⟩ := q1
  subst ex
  cases r1 with
  | cons r rr =>
    cases rr with
    | cons r' rr =>
      cases rr with
      | cons r'' rr =>
        cases rr
        cases r
        cases r'
        cases r''
        obtain ⟨its, rv, p1, _⟩ := inv_b I1 hqx
        obtain ⟨its2, rv2, p2, _⟩ := inv_b I1 hqy
        obtain ⟨its3, rv3, p3, _⟩ := inv_b I1 hqz
        have f1 := lt_of_isB p1
        have f2 := lt_of_isB p2
        have f3 := lt_of_isB p3
        refine zip_begins3 (begins_b b1 a1 its.toArray) (begins_b b2 a2 its2.toArray) (begins_b b3 a3 its3.toArray) p1 p2 p3 fun h' hz hTI hTO hi1 hi2 hi3 hsz hk => wpAny_pyIter_zip hz ?_
        have I2 : Inv X pins σ H1 { s1 with heap := h' } := I1.kept (t' := s1.toks) hk
        refine ⟨s1.heap.objs.size + 5, [s1.heap.objs.size + 5, s1.heap.objs.size + 3, s1.heap.objs.size + 4, s1.heap.objs.size, s1.heap.objs.size + 1, s1.heap.objs.size + 2], _, _, H1, rfl, I2, turn_zipB3 b1 b2 b3 (zs3_new f1 f2 f3), ⟨hz, hTI, ⟨_, _, _, hTO⟩, isBI_new hi1, isBI_new hi2, isBI_new hi3⟩, fun c hc => ?_, q⟩
        have hle : s1.heap.objs.size ≤ c := by
          simp only [List.mem_cons, List.not_mem_nil, or_false] at hc
          rcases hc with h | h | h | h | h | h <;> (have h : @Eq Nat _ _ := h; rw [h]; show @LE.le Nat _ _ _; omega)
        exact I1.fpOk hle (I1.hok.fresh hle)
theorem src_zip3 {K : Fw} {H : Hp} {σ : L2.St} {ov : List Addr} {xs ys zs : List D} {g1 g2 g3 : List (Nat × D)} {a1 a2 a3 : Addr} {b1 b2 b3 : Bool}
    (h1 : ∀ H', (∀ a ∈ ov, H' a = H a) → (∀ a u, H a = some u → Sh u → H' a = some u) → (∀ p ∈ g1, ∃ v o, σ[p.1]? = some (some v) ∧ Rep K H' p.2 v o) → ∃ vs, SqB b1 K H' a1 vs ∧ Reps K H' xs vs [])
    (h2 : ∀ H', (∀ a ∈ ov, H' a = H a) → (∀ a u, H a = some u → Sh u → H' a = some u) → (∀ p ∈ g2, ∃ v o, σ[p.1]? = some (some v) ∧ Rep K H' p.2 v o) → ∃ vs, SqB b2 K H' a2 vs ∧ Reps K H' ys vs [])
    (h3 : ∀ H', (∀ a ∈ ov, H' a = H a) → (∀ a u, H a = some u → Sh u → H' a = some u) → (∀ p ∈ g3, ∃ v o, σ[p.1]? = some (some v) ∧ Rep K H' p.2 v o) → ∃ vs, SqB b3 K H' a3 vs ∧ Reps K H' zs vs []) :
    SrcOk K σ ⟨zipD3 xs ys zs, g1 ++ (g2 ++ g3)⟩ (ItzB3 b1 b2 b3 K a1 a2 a3) H ov := fun i H' k1 k2 k3 => by
  obtain ⟨vs, hq, r⟩ := h1 H' k1 k2 fun p hp => k3 p (List.mem_append_left _ hp)
  obtain ⟨ws, hq2, r2⟩ := h2 H' k1 k2 fun p hp => k3 p (List.mem_append_right _ (List.mem_append_left _ hp))
  obtain ⟨us, hq3, r3⟩ := h3 H' k1 k2 fun p hp => k3 p (List.mem_append_right _ (List.mem_append_right _ hp))
  refine ⟨fun z hz => ?_, fun hl => ⟨vs, ws, us, hq, hq2, hq3, by
    simp only [zipD3_len] at hl
    rw [r.length, r2.length, r3.length]
    omega⟩⟩
  obtain ⟨x, y, z, hx, hy, hz2, rfl⟩ := zipD3_get _ _ _ _ _ hz
  obtain ⟨v, hv, rv⟩ := item_of r hx
  obtain ⟨w, hw, rw2⟩ := item_of r2 hy
  obtain ⟨u, hu, rw3⟩ := item_of r3 hz2
  refine ⟨⟨vs, ws, us, v, w, u, hq, hq2, hq3, hv, hw, hu⟩, fun uu H'' huu => ?_⟩
  obtain ⟨T, x', y', z', rfl, hT, rfl, hx', hy', hz'⟩ := huu
  have ex := hx' vs hq
  rw [hv] at ex; cases ex
  have ey := hy' ws hq2
  rw [hw] at ey; cases ey
  have ez := hz' us hq3
  rw [hu] at ez; cases ez
  have keep : ∀ c q, H' c = some q → upd H' T (.tup [v, w, u]) c = some q := fun c q e => by
    rw [upd_ne (ne_of_none e hT)]; exact e
  have fr : Fr0 H' (upd H' T (.tup [v, w, u])) [] := fr_of (fun a ha => nomatch ha) fun c u e _ => keep c u e
  exact ⟨keep, T, [v, w, u], rfl, .inl (.inl upd_same), v, [w, u], [], [], rfl, rv.fr fr, ⟨w, [u], [], [], rfl, rw2.fr fr, ⟨u, [], [], [], rfl, rw3.fr fr, ⟨rfl, rfl⟩, rfl⟩, rfl⟩, rfl⟩
theorem z_zip3 (hg : Gl X "zip") (hm : X.mg "zip" = none) (hl : PA X [e, e2, e3] (TAr (kx X) q ml)) (hs : starEach [e, e2, e3] X.env = (false, eval e X.env) :: starEach [e2, e3] X.env := by rfl) (hpl : (backTo pos (starEach [e2, e3] X.env)).any (·.1) = false := by rfl) :
    PI X (.Tuple elts kk tpos) (.Call (.Name "zip" p) [e, e2, e3] [] pos) (TIm (kx X) q (sZip3 ml)) := ⟨fun pins s σ H R I hw => by
  obtain ⟨δ, o, src, δ', E, n, h, k⟩ := hw
  unfold sZip3 at h
  split at h
  · rename_i r1 r2 r3 δ1 hm1
    split at h
    · rename_i xs b1 g1 hr1
      split at h
      · rename_i ys b2 g2 hr2
        split at h
        · rename_i zs b3 g3 hr3
          simp only [Option.some.injEq, Prod.mk.injEq] at h
          obtain ⟨rfl, rfl⟩ := h
          refine (PI.ok (pi_zipB3 b1 b2 b3 hg hm hl hs hpl)).run pins s σ H R I ⟨δ, o, _, _, E, n, hm1, fun vs H1 o1 ov st en hd ow => ?_⟩
          obtain ⟨v1, vr, ov1, ovr, rfl, hd1, hd2, rfl⟩ := hd
          obtain ⟨v2, vr2, ov2, ovr2, rfl, hd2, hd3, rfl⟩ := hd2
          obtain ⟨v3, vr3, ov3, ovr3, rfl, hd3, hd4, rfl⟩ := hd3
          obtain ⟨rfl, rfl⟩ := hd4
          obtain ⟨a1, rfl, l1, ⟨vs1, q1, r1⟩, f1⟩ := seqR_ok en hd1 hr1
          obtain ⟨a2, rfl, l2, ⟨vs2, q2, r2⟩, f2⟩ := seqR_ok en hd2 hr2
          obtain ⟨a3, rfl, l3, ⟨vs3, q3, r3⟩, f3⟩ := seqR_ok en hd3 hr3
          rw [List.append_nil] at ow
          refine ⟨a1, a2, a3, vs1, vs2, vs3, rfl, q1, q2, q3, fun hz => k _ H1 o1 (ov1 ++ (ov2 ++ ov3)) st en ow (fun c hc => ?_) (src_zip3 (fun H' h1 h2 h3 => f1 H' (fun c hc => h1 c (List.mem_append_left _ hc)) h2 h3) (fun H' h1 h2 h3 => f2 H' (fun c hc => h1 c (List.mem_append_right _ (List.mem_append_left _ hc))) h2 h3) (fun H' h1 h2 h3 => f3 H' (fun c hc => h1 c (List.mem_append_right _ (List.mem_append_right _ hc))) h2 h3)) ?_⟩
          · rcases List.mem_append.mp hc with hc | hc
            · exact l1 c hc
            · rcases List.mem_append.mp hc with hc | hc
              · exact l2 c hc
              · exact l3 c hc
          · show (zipD3 xs ys zs).length ≤ sizeLine
            rw [zipD3_len]
            have : vs1.length ≤ sizeLine := by
              cases b1
              · exact hz.2 _ _ q1
              · exact hz.1 _ _ q1
            have := r1.length
            omega
        · cases h
      · cases h
    · cases h
  · cases h⟩
end
end Z


set_option Elab.async false
set_option linter.all false
set_option maxRecDepth 100000
/-! methods that change a list of data that cannot be changed -/
namespace Z
open PySem PySem.Spec PyProof.Rows L2
/-- what a method makes of a list and its arguments: the list behind it, the answer -/
abbrev MethD := List D → List D → Option (List D × D)
def mutV (g : MethD) (ds : List D) (δ : DE) (r : R) : Option (D × DE) := match r with
  | .at s p => match δ[s]? with
    | some (some d0) => match getP p d0 with
      | some (.lst xs) => match g xs ds with
        | some (xs', d) => if D.imms xs && D.imms xs' && d.imm then match setP p d0 (.lst xs') with
            | some d' => some (d, δ.set s (some d'))
            | none => none
          else none
        | none => none
      | _ => none
    | _ => none
  | _ => none
theorem mutV_inv {g : MethD} {ds : List D} {δ δ' : DE} {r : R} {d : D} (h : mutV g ds δ r = some (d, δ')) : ∃ s p d0 xs xs' d', r = .at s p ∧ δ[s]? = some (some d0) ∧ getP p d0 = some (.lst xs) ∧ g xs ds = some (xs', d) ∧ D.imms xs = true ∧ D.imms xs' = true ∧ d.imm = true ∧ setP p d0 (.lst xs') = some d' ∧ δ' = δ.set s (some d') := by
  unfold mutV at h
  split at h
  · split at h
    · split at h
      · split at h
        · split at h
          · rename_i hi
            simp only [Bool.and_eq_true] at hi
            split at h
            · simp only [Option.some.injEq, Prod.mk.injEq] at h
              obtain ⟨rfl, rfl⟩ := h
              exact ⟨_, _, _, _, _, _, rfl, by assumption, by assumption, by assumption, hi.1.1, hi.1.2, hi.2, by assumption, rfl⟩
            · cases h
          · cases h
        · cases h
      · cases h
    · cases h
  · cases h
def dMeth (qe : Bool) (g : MethD) (mo : Den) (ma : DE → Option (List R × DE)) : Den := fun δ => match mo δ with
  | some (ro, δ1) => match ma δ1 with
    | some (rs, δ2) => match owns rs with
      | some ds => if (ro.short || qe) && isLst δ1 ro && D.imms ds then match mutV g ds δ2 ro with
          | some (d, δ3) => some (.own d, δ3)
          | none => none
        else none
      | none => none
    | none => none
  | none => none
structure MethR (K : Fw) (r : V → List V → Hp → VK → Prop) (g : MethD) : Prop where
  run : ∀ (l : Addr) (vs us : List V) (H : Hp) (Q : VK) (xs ds xs' : List D) (d : D), D.imms xs = true → D.imms ds = true → g xs ds = some (xs', d) → Reps K H xs vs [] → Reps K H ds us [] → H l = some (.lst vs) →
    (∀ vs' w, Reps K H xs' vs' [] → Rep K H d w [] → Q w (upd H l (.lst vs'))) → r (.ref l) us H Q
section
variable {X : Cx} {eo e : Expr} {es : List Expr} {qo qe : Bool} {mo : Den} {ma : DE → Option (List R × DE)} {g : MethD} {r : V → List V → Hp → VK → Prop} {apos cpos : Pos}
theorem t_meth {σ : L2.St} {H : Hp} {Q : VK} (M : MethR X.F r g) (h : T (kx X) false (dMeth qe g mo ma) σ H Q) : tBM X.K "list" r (T (kx X) qo mo) (TAr (kx X) qe ma) σ H Q := by
  obtain ⟨δ, o, rr, δ', E, n, hm, k⟩ := h
  simp only [dMeth] at hm
  cases h1 : mo δ with
  | none => rw [h1] at hm; simp at hm
  | some p1 =>
    obtain ⟨ro, δ1⟩ := p1
    rw [h1] at hm; dsimp only at hm
    cases h2 : ma δ1 with
    | none => rw [h2] at hm; simp at hm
    | some p2 =>
      obtain ⟨rs, δ2⟩ := p2
      rw [h2] at hm; dsimp only at hm
      cases h2b : owns rs with
      | none => rw [h2b] at hm; simp at hm
      | some ds =>
        rw [h2b] at hm; dsimp only at hm
        by_cases hc0 : ((ro.short || qe) && isLst δ1 ro && D.imms ds) = true
        · rw [if_pos hc0] at hm
          simp only [Bool.and_eq_true] at hc0
          obtain ⟨⟨hc, hil⟩, hid⟩ := hc0
          cases h3 : mutV g ds δ2 ro with
          | none => rw [h3] at hm; simp at hm
          | some p3 =>
            obtain ⟨d, δ3⟩ := p3
            rw [h3] at hm
            simp only [Option.some.injEq, Prod.mk.injEq] at hm
            obtain ⟨rfl, rfl⟩ := hm
            obtain ⟨s, p, d0, xs, xs', d', rfl, hd, hg, hf, hix, hix', hdi, hs, rfl⟩ := mutV_inv h3
            refine ⟨δ, o, _, δ1, E, n, h1, fun v H1 o1 ov1 P1 => ⟨isLst_ty P1.env P1.held hil, ?_⟩⟩
            refine ⟨δ1, o1, rs, δ2, P1.env, nd_of P1.own n, h2, fun us H2 o2 ov2 s2 E2 hl w2 => ?_⟩
            have hh : Held X.F H2 σ (.at s p) v ov1 := P1.held.step s2 (Wq_ok P1.env) (fun a ha hw => apart_of P1.own n a ha (Wq_sub a hw)) (by
              simp only [Bool.or_eq_true] at hc
              rcases hc with hc | hc
              · exact .inl hc
              · right; subst hc; rfl)
            have hargs := hl.owns h2b
            have hov2 := hargs.imm hid
            subst hov2
            rw [List.nil_append] at w2
            have w12 := own_app (ovb := []) P1.own P1.step P1.held.dom (by simpa using w2)
            have s12 : Step H H2 o := ((P1.step.seq (own_right P1.own) s2).mono Wq_sub)
            obtain ⟨a, vs, oxs, rfl, haa, rsx, _, km⟩ := mut_end (ovr := []) n s12 E2 (own_right (ov := ov1) (by simpa using w12)) hh hd hg
            have := rsx.imm hix
            subst this
            refine M.run a vs us H2 Q xs ds xs' d hix hid hf rsx hargs haa fun vs' w rx' rd => ?_
            obtain ⟨o5, s5, E5, w5⟩ := km xs' vs' [] d' rx' (fun b => by simp) hs
            refine k w _ o5 [] ⟨s5, E5, ?_, by simpa using w5⟩
            exact rd.fr (fr_of (fun a ha => nomatch ha) fun c u e hu => by
              rw [upd_ne (fun z => by subst z; rw [haa] at e; cases e; exact hu)]; exact e)
        · rw [if_neg hc0] at hm; cases hm
theorem z_meth {name : Str} {id : String} (pa : PlainAttrs "list") (slot : Slot "list" name id) (hty : typeOf (.builtin id) = pure (.type "method_descriptor")) (hmt : MtR X id r) (M : MethR X.F r g) (ho : PE X eo (T (kx X) qo mo)) (ha : PA X (e :: es) (TAr (kx X) qe ma))
    (hs : starEach (e :: es) X.env = (false, eval e X.env) :: starEach es X.env := by rfl)
    (hbase : attributeBase eo name X.env (eval eo X.env) = eval eo X.env := by rfl)
    (hfew : ((backTo cpos (starEach (e :: es) X.env)).all (fun x => !x.1) && (backToKw cpos (keywordEach [] X.env)).all (fun x => x.1.isSome)
      && decide ((e :: es).length + ([] : List Keyword).length + (if ([] : List Keyword).isEmpty then 0 else 1) < 30)) = true := by rfl)
    (hline : (apos.endLine == cpos.line) = true := by rfl) (hplain : (backTo cpos (starEach es X.env)).any (·.1) = false := by rfl) :
    PE X (.Call (.Attribute eo name apos) (e :: es) [] cpos) (T (kx X) false (dMeth qe g mo ma)) :=
  PE.imp (pe_bm pa slot hty hmt ho ha hbase hfew hline hs hplain) fun σ H Q h => t_meth M h
end
/-! ### pop, remove -/
def gPopAt : MethD
  | xs, [.int i] => match ixN xs.length i with
    | some k => match xs[k]? with
      | some d => some (xs.eraseIdx k, d)
      | none => none
    | none => none
  | _, _ => none
theorem Reps.erase {K : Fw} {H : Hp} : ∀ {xs : List D} {vs : List V} (k : Nat), Reps K H xs vs [] → Reps K H (xs.eraseIdx k) (vs.eraseIdx k) []
  | [], vs, k, h => by rw [h.1]; exact ⟨rfl, rfl⟩
  | x :: xs, vs, k, h => by
    obtain ⟨v, vr, o1, o2, rfl, h1, h2, e⟩ := h
    have e1 : o1 = [] := (List.append_eq_nil_iff.mp e.symm).1
    have e2 : o2 = [] := (List.append_eq_nil_iff.mp e.symm).2
    subst e1 e2
    cases k with
    | zero => exact h2
    | succ k => exact ⟨v, _, [], [], rfl, h1, Reps.erase k h2, rfl⟩
theorem m_popAt' {K : Fw} : MethR K rPopAt fun xs ds => if xs.length ≤ 1000000 then gPopAt xs ds else none := ⟨fun l vs us H Q xs ds xs' d hx hd e r1 r2 hl k => by
  split at e
  · rename_i hlen
    unfold gPopAt at e
    split at e
    · rename_i i
      split at e
      · rename_i j hj
        split at e
        · rename_i hq
          simp only [Option.some.injEq, Prod.mk.injEq] at e
          obtain ⟨rfl, rfl⟩ := e
          obtain ⟨v, hv, rv⟩ := item_of r1 hq
          obtain ⟨u, ur, o1, o2, rfl, ⟨rfl, _⟩, ⟨rfl, _⟩, _⟩ := r2
          obtain ⟨z1, z2, z3, z4⟩ := ixN_seq hj
          exact ⟨l, vs, i, j, v, rfl, rfl, hl, by omega, by omega, by rw [r1.length]; exact z1, hv, k _ _ (r1.erase _) rv⟩
        · cases e
      · cases e
    · cases e
  · cases e⟩
section
variable {X : Cx} {eo e : Expr} {qo qe : Bool} {mo : Den} {ma : DE → Option (List R × DE)} {apos cpos : Pos}
abbrev gPopI : MethD := fun xs ds => if xs.length ≤ 1000000 then gPopAt xs ds else none
theorem z_popAt (ho : PE X eo (T (kx X) qo mo)) (ha : PA X [e] (TAr (kx X) qe ma)) (hs : starEach [e] X.env = (false, eval e X.env) :: starEach [] X.env := by rfl)
    (hbase : attributeBase eo "pop" X.env (eval eo X.env) = eval eo X.env := by rfl)
    (hfew : ((backTo cpos (starEach [e] X.env)).all (fun x => !x.1) && (backToKw cpos (keywordEach [] X.env)).all (fun x => x.1.isSome)
      && decide ([e].length + ([] : List Keyword).length + (if ([] : List Keyword).isEmpty then 0 else 1) < 30)) = true := by rfl)
    (hline : (apos.endLine == cpos.line) = true := by rfl) (hplain : (backTo cpos (starEach [] X.env)).any (·.1) = false := by rfl) :
    PE X (.Call (.Attribute eo "pop" apos) [e] [] cpos) (T (kx X) false (dMeth qe gPopI mo ma)) :=
  z_meth PySem.F.plainAttrs_list PySem.F.slot_list_pop PySem.F.type_list_pop mt_popAt m_popAt' ho ha hs hbase hfew hline hplain
end
end Z


set_option Elab.async false
set_option linter.all false
set_option maxRecDepth 100000
/-! a < b < c -/
namespace Z
open PySem PySem.Spec PyProof.Rows L2
section
variable {κ : Kx} {σ : L2.St} {H : Hp} {Q : VK} {f1 f2 : List D → Option D} {ma mb mc : Den}
end
section
variable {X : Cx} {a b c : Expr} {pos : Pos} {f1 f2 : List D → Option D} {ma mb mc : Den} {op op' : CmpOp}
end
end Z


set_option Elab.async false
set_option linter.all false
set_option maxRecDepth 100000
/-! list.index, list.remove -/
namespace Z
open PySem PySem.Spec PyProof.Rows L2
section
variable {X : Cx} {eo e : Expr} {qo qe : Bool} {mo : Den} {ma : DE → Option (List R × DE)} {apos cpos : Pos}
end
/-! remove: numbers alone -/
theorem map_erase {α β : Type} (f : α → β) : ∀ (l : List α) (k : Nat), (l.eraseIdx k).map f = (l.map f).eraseIdx k
  | [], _ => rfl
  | _ :: _, 0 => rfl
  | x :: l, k + 1 => by simp only [List.eraseIdx_cons_succ, List.map_cons, map_erase f l k]
section
variable {X : Cx} {eo e : Expr} {qo qe : Bool} {mo : Den} {ma : DE → Option (List R × DE)} {apos cpos : Pos}
end
end Z


set_option Elab.async false
set_option linter.all false
set_option maxRecDepth 100000
/-! len(set(..)) -/
namespace Z
open PySem PySem.Spec PyProof.Rows L2
section
variable {X : Cx} {e : Expr} {q : Bool} {m : Den} {p p2 pos pos2 : Pos}
end
end Z


set_option Elab.async false
set_option linter.all false
set_option maxRecDepth 100000
set_option maxHeartbeats 1000000
/-! sets whose members are rows: the table -/
namespace Z
open PySem PySem.Spec PyProof.Rows L2
/-- v is the row k -/
structure NK (h : Heap) (k : NestedKey) (v : Value) : Prop where
  is : NestedIs h k v
  dp : k.depth ≤ 8
  ref : ∃ a, v = .ref a
section
variable {P : Program} {w : World} {A : Around} {E : Value → Shared → Prop} {s : Shared}
/-- what is stored of a member -/
def cellOf (w : World) (p : NestedKey × Value) : Int × Value := (p.1.hash w, p.2)
/-- the set at a has the members L, in the order of its table -/
structure NSet (w : World) (h : Heap) (a : Addr) (L : List (NestedKey × Value)) (es : Array (Int × Value)) (ep : Nat) (t : SetTable) : Prop where
  obj : ∃ o, h.get? a = some o ∧ o.ExactSet ∧ o.data = .set es ep t
  cells : es.toList = L.map (cellOf w)
  tab : TabOk t (L.map fun p => p.1.hash w)
  nodup : (L.map (·.1)).Nodup
  mem : ∀ p ∈ L, NK h p.1 p.2
  led : w.params.followText "set-order" = true ∨ t.led = true
  room : L.length * 5 < t.mask * 3
  few : L.length < 64
variable {a : Addr} {L : List (NestedKey × Value)} {es : Array (Int × Value)} {ep : Nat} {t : SetTable}
theorem NSet.size (S : NSet w s.heap a L es ep t) : es.size = L.length := by rw [← Array.length_toList, S.cells, List.length_map]
theorem fits_of_tab {t : SetTable} {hs : List Int} {n : Nat} (T : TabOk t hs) (hn : n = hs.length) (hl : n ≤ t.mask) : t.fits n = true := by
  have h1 := T.sz
  simp only [SetTable.fits, SetTable.fill, T.dm, Bool.and_eq_true, beq_iff_eq, decide_eq_true_eq, Array.size_empty, Nat.add_zero]
  omega
theorem NSet.fits (S : NSet w s.heap a L es ep t) : t.fits es.size = true := fits_of_tab S.tab (by rw [S.size, List.length_map]) (by rw [S.size]; have := S.room; omega)
theorem NSet.at_ (S : NSet w s.heap a L es ep t) {i : Nat} {p : NestedKey × Value} (h : L[i]? = some p) : es[i]? = some (cellOf w p) := by
  rw [← Array.getElem?_toList, S.cells, List.getElem?_map, h]; rfl
end
end Z


set_option Elab.async false
set_option linter.all false
set_option maxRecDepth 100000
set_option maxHeartbeats 1000000
/-! sets whose members are rows: adding -/
namespace Z
open PySem PySem.Spec PyProof.Rows L2
section
variable {P : Program} {w : World} {A : Around} {E : Value → Shared → Prop} {s : Shared} {a : Addr} {L : List (NestedKey × Value)} {es : Array (Int × Value)} {ep : Nat} {t : SetTable}
end
end Z


set_option Elab.async false
set_option linter.all false
set_option maxRecDepth 100000
set_option maxHeartbeats 4000000
/-! set(..) of a sequence of rows -/
namespace Z
open PySem PySem.Spec PyProof.Rows L2
mutual
theorem dNK_inj : ∀ (a b : D), a.nol = true → b.nol = true → a.cl = true → b.cl = true → dNK a = dNK b → a = b
  | .non, b, _, hb, _, cb, e => by cases b <;> simp_all [dNK, D.nol, D.cl]
  | .int i, b, _, hb, _, cb, e => by cases b <;> simp_all [dNK, D.nol, D.cl]
  | .str i, b, _, hb, _, cb, e => by cases b <;> simp_all [dNK, D.nol, D.cl]
  | .bl i, b, _, hb, ca, cb, e => by simp [D.cl] at ca
  | .tup xs, b, ha, hb, ca, cb, e => by
    cases b with
    | tup ys =>
      simp only [dNK, NestedKey.tup.injEq] at e
      rw [dNKs_inj xs ys ha hb ca cb e]
    | _ => simp_all [dNK, D.nol, D.cl]
  | .lst _, _, ha, _, _, _, _ => by cases ha
  | .frz _, _, ha, _, _, _, _ => by cases ha
  | .dic _ _, _, ha, _, _, _, _ => by cases ha
  | .obj _ _ _, _, ha, _, _, _, _ => by cases ha
theorem dNKs_inj : ∀ (a b : List D), D.nols a = true → D.nols b = true → D.cls a = true → D.cls b = true → dNKs a = dNKs b → a = b
  | [], [], _, _, _, _, _ => rfl
  | [], _ :: _, _, _, _, _, e => by simp [dNKs] at e
  | _ :: _, [], _, _, _, _, e => by simp [dNKs] at e
  | x :: xs, y :: ys, ha, hb, ca, cb, e => by
    simp only [D.nols, Bool.and_eq_true] at ha hb
    simp only [D.cls, Bool.and_eq_true] at ca cb
    simp only [dNKs, List.cons.injEq] at e
    rw [dNK_inj x y ha.1 hb.1 ca.1 cb.1 e.1, dNKs_inj xs ys ha.2 hb.2 ca.2 cb.2 e.2]
end
mutual
theorem dNK_depth : ∀ (a : D), (dNK a).depth ≤ a.dp
  | .non => by simp [dNK, NestedKey.depth]
  | .int i => by simp [dNK, NestedKey.depth]
  | .str i => by simp [dNK, NestedKey.depth]
  | .bl i => by simp [dNK, NestedKey.depth]
  | .tup xs => by simp only [dNK, NestedKey.depth, D.dp]; have := dNKs_depth xs; omega
  | .lst _ => by simp [dNK, NestedKey.depth]
  | .frz _ => by simp [dNK, NestedKey.depth]
  | .dic _ _ => by simp [dNK, NestedKey.depth]
  | .obj _ _ _ => by simp [dNK, NestedKey.depth]
theorem dNKs_depth : ∀ (a : List D), NestedKey.depthAll (dNKs a) ≤ D.dps a
  | [] => by simp [dNKs, NestedKey.depthAll]
  | x :: xs => by simp only [dNKs, NestedKey.depthAll, D.dps]; have := dNK_depth x; have := dNKs_depth xs; omega
end
mutual
theorem nested_reads {h : Heap} : ∀ (d : D) (u : Value) (as : List Addr), d.nol = true → Reads h u (toPy d) as → NestedIs h (dNK d) u
  | .non, u, as, _, r => by simp only [toPy] at r; cases r; exact .none
  | .int i, u, as, _, r => by simp only [toPy] at r; cases r; exact .int _ _
  | .str i, u, as, _, r => by simp only [toPy] at r; cases r; exact .text _ _
  | .bl i, u, as, _, r => by simp only [toPy] at r; cases r; exact .bool rfl
  | .tup xs, u, as, n, r => by
    simp only [toPy] at r
    cases r with
    | tuple h1 h2 h3 h4 => exact .tup h1 h2 h3 (nested_readsAll xs _ _ n h4)
  | .lst _, _, _, n, _ => by cases n
  | .frz _, _, _, n, _ => by cases n
  | .dic _ _, _, _, n, _ => by cases n
  | .obj _ _ _, _, _, n, _ => by cases n
theorem nested_readsAll {h : Heap} : ∀ (ds : List D) (us : List Value) (as : List Addr), D.nols ds = true → ReadsAll h us (toPys ds) as → NestedAll h (dNKs ds) us
  | [], us, as, _, r => by simp only [toPys] at r; cases r; exact .nil
  | x :: xs, us, as, n, r => by
    simp only [toPys] at r
    simp only [D.nols, Bool.and_eq_true] at n
    cases r with
    | cons h1 h2 => exact .cons (nested_reads x _ _ n.1 h1) (nested_readsAll xs _ _ n.2 h2)
end
/-- of the first i items all are members, and nothing else is -/
structure GotN (ks : List NestedKey) (vs : List Value) (i : Nat) (L : List (NestedKey × Value)) : Prop where
  few : L.length ≤ i
  mem : ∀ k, k ∈ L.map (·.1) ↔ k ∈ ks.take i
  val : ∀ p ∈ L, ∃ j : Nat, ks[j]? = some p.1 ∧ vs[j]? = some p.2
section
variable {P : Program} {w : World} {A : Around} {E : Value → Shared → Prop} {s : Shared}
end
end Z


set_option Elab.async false
set_option linter.all false
set_option maxRecDepth 100000
set_option maxHeartbeats 1000000
/-! sorted(set(..)), len(set(..)) of rows -/
namespace Z
open PySem PySem.Spec PyProof.Rows L2
def isTup : D → Bool
  | .tup _ => true
  | _ => false
def keyT (d : D) : Bool := isTup d && d.nol && d.cl && decide (d.dp ≤ 8)
section
variable {X : Cx} {e : Expr} {q : Bool} {m : Den} {p p2 pos pos2 : Pos}
end
end Z


set_option Elab.async false
set_option linter.all false
set_option maxRecDepth 100000
/-! sorted(set(..)), len(set(..)) of numbers, texts or rows -/
namespace Z
open PySem PySem.Spec PyProof.Rows L2
section
variable {X : Cx} {e : Expr} {q : Bool} {m : Den} {p p2 pos pos2 : Pos}
end
end Z


set_option Elab.async false
set_option linter.all false
set_option maxRecDepth 100000
/-! min, max of two data of any kind -/
namespace PySem
open PyProof.Rows
section
variable {prog : Program} {w : World} {A : Around} {E : Value → Shared → Prop} {s : Shared}

end
end PySem
namespace Z
open PySem PySem.Spec PyProof.Rows L2

end Z


set_option Elab.async false
set_option linter.all false
set_option maxRecDepth 100000
set_option maxHeartbeats 1000000
/-! comprehensions with two clauses -/
namespace Z
open PySem PySem.Spec PyProof.Rows L2
/-- a list under making at L, and all that is owned -/
structure BS (κ : Kx) (H1 : Hp) (ow : List Addr) (L : Addr) (σ : L2.St) (H' : Hp) (accV : List V) (accD : List D) (oacc : List Addr) (δ : DE) (o : List Addr) : Prop where
  list : H' L = some (.lst accV)
  reps : Reps κ.K H' accD accV oacc
  env : Envs κ H' σ δ o
  step : Step H1 H' ow
  own : Own H1 ow (L :: (oacc ++ o))
section
variable {κ : Kx} {H1 H3 H5 : Hp} {ow : List Addr} {L : Addr} {σ : L2.St} {accV : List V} {accD : List D} {oacc : List Addr} {δ : DE} {o3 : List Addr}
theorem BS.nd (B : BS κ H1 ow L σ H3 accV accD oacc δ o3) (n : Nd ow) : Nd (L :: (oacc ++ o3)) := B.own.nd n
theorem nd_cons {a : Addr} {l : List Addr} (n : Nd (a :: l)) : a ∉ l ∧ Nd l :=
  ⟨fun h => by have := n a; rw [List.count_cons_self] at this; have := List.count_pos_iff.mpr h; omega, fun b => by have := n b; have : l.count b ≤ (a :: l).count b := List.count_le_count_cons; omega⟩
/-- a step of the names' own -/
theorem BS.stay (B : BS κ H1 ow L σ H3 accV accD oacc δ o3) (n : Nd ow) {ov5 o5 : List Addr} (st : Step H3 H5 o3) (w : Own H3 o3 (ov5 ++ o5)) :
    H5 L = some (.lst accV) ∧ Reps κ.K H5 accD accV oacc ∧ Step H1 H5 ow ∧ Own H1 ow (L :: (oacc ++ (ov5 ++ o5))) := by
  obtain ⟨hL, nn⟩ := nd_cons (B.nd n)
  have hLo : L ∉ o3 := fun h => hL (List.mem_append_right _ h)
  refine ⟨st.keep L _ B.list hLo (fun _ z => nomatch z), B.reps.step st B.env.ok (nd_split nn), B.step.trans (B.own.sub fun a => ?_) st, fun a => ?_⟩
  · rw [List.count_cons, List.count_append]; omega
  · have g1 := B.own a
    have g2 := w a
    simp only [List.count_cons, List.count_append] at g1 g2 ⊢
    rcases g2 with g2 | ⟨z, g2⟩
    · rcases g1 with g1 | ⟨z1, g1⟩
      · left; omega
      · right; exact ⟨z1, by omega⟩
    · have h1 : oacc.count a = 0 := List.count_eq_zero.mpr fun hm => by
        obtain ⟨vs, e, how⟩ := B.reps.own a hm
        rw [z] at e; cases e
      have h2 : (L == a) = false := by
        rw [beq_eq_false_iff_ne]
        intro e
        have e : @Eq Nat L a := e
        rw [← e, B.list] at z; cases z
      rw [h2]
      right; exact ⟨B.step.dom a z, by simp; omega⟩
/-- one more at its end -/
theorem BS.push {y : V} {d : D} {oy o5 : List Addr} {δ5 : DE} (n : Nd ow) (g1 : H5 L = some (.lst accV)) (g2 : Reps κ.K H5 accD accV oacc) (g3 : Step H1 H5 ow) (g4 : Own H1 ow (L :: (oacc ++ (oy ++ o5)))) (rd : Rep κ.K H5 d y oy) (E : Envs κ H5 σ δ5 o5) (hL : H1 L = none ∨ L ∈ ow) :
    BS κ H1 ow L σ (upd H5 L (.lst (accV ++ [y]))) (accV ++ [y]) (accD ++ [d]) (oacc ++ oy) δ5 o5 := by
  obtain ⟨hLn, nn⟩ := nd_cons (g4.nd n)
  have wr : Step H5 (upd H5 L (.lst (accV ++ [y]))) [L] := Step.write g1 List.mem_cons_self
  have fr6 : ∀ (l : List Addr), L ∉ l → Fr H5 (upd H5 L (.lst (accV ++ [y]))) l := fun l hl => ⟨fun a ha => upd_ne (fun e => hl (e ▸ ha)), fun a w e hw => by
    have : a ≠ L := fun z => by rw [z, g1] at e; cases e; exact hw
    rw [upd_ne this]; exact e, wr.tab⟩
  have hDo : L ∉ oacc ++ oy := fun hm => hLn (by
    rcases List.mem_append.mp hm with z | z
    · exact List.mem_append_left _ z
    · exact List.mem_append_right _ (List.mem_append_left _ z))
  have hD6 : L ∉ o5 := fun z => hLn (List.mem_append_right _ (List.mem_append_right _ z))
  refine ⟨upd_same, (g2.append (Reps.one rd)).fr (fr6 _ hDo), E.fr (fr6 _ hD6), ⟨fun a u e hn hu => ?_, fun a e => ?_, fun P g => wr.tab P (g3.tab P g)⟩, g4.sub fun a => ?_⟩
  · have : a ≠ L := fun z => by
      rcases hL with hL | hL
      · rw [z, hL] at e; cases e
      · rw [z] at hn; exact hn hL
    rw [upd_ne this]; exact g3.keep a u e hn hu
  · by_cases z : a = L
    · rw [z, upd_same] at e; cases e
    · rw [upd_ne z] at e; exact g3.dom a e
  · simp only [List.count_cons, List.count_append]; omega
/-- the names' own in another stead -/
theorem BS.wipe (B : BS κ H1 ow L σ H3 accV accD oacc δ o3) (vs : List Nat) : ∃ o4, BS κ H1 ow L (L2.wipe σ vs) H3 accV accD oacc (wipeD δ vs) o4 := by
  obtain ⟨o4, E, c⟩ := B.env.wipe vs
  exact ⟨o4, B.list, B.reps, E, B.step, B.own.sub fun a => by have := c a; simp only [List.count_cons, List.count_append]; omega⟩
/-- told from further back -/
theorem BS.back {Hb : Hp} {ob : List Addr} (B : BS κ Hb ob L σ H3 accV accD oacc δ o3) (s : Step H1 Hb ow) (w : Own H1 ow ob) : BS κ H1 ow L σ H3 accV accD oacc δ o3 :=
  ⟨B.list, B.reps, B.env, s.trans w B.step, w.trans s B.own⟩
end
/-! the innermost -/
/-! a loop in it -/
/-! the whole -/
section
variable {X : Cx} {elt tg iter tg1 iter1 : Expr} {ifs ifs1 : List Expr} {q qt q1 qt1 qe : Bool} {ms ms1 : DenS} {b b1 : Bnd} {mt mt1 : DenT} {me : Den} {vs vs1 : List Nat}
end
end Z


set_option Elab.async false
set_option linter.all false
set_option maxRecDepth 100000
/-! a name's list, taken away from it -/
namespace Z
open PySem PySem.Spec PyProof.Rows L2
def dTake (i : Nat) : Den := fun δ => match δ[i]? with
  | some (some d) => if d.imm then some (.own d, δ) else some (.own d, δ.set i none)
  | _ => none
theorem z_take {X : Cx} (i : Nat) {x : Str} {pos : Pos} (hN : X.N[i]? = some x := by rfl) (hv : Vis X.env.scope x := by first | exact Or.inl rfl | exact Or.inr (Or.inl rfl) | exact Or.inr (Or.inr rfl)) (hd : (x == ("__debug__" : Str)) = false := by decide)
    (hcd : (x == ("__classdict__" : Str)) = false := by decide) : PE X (.Name x pos) (T (kx X) false (dTake i)) := by
  refine PE.imp (pe_var hN hv hd hcd) fun σ H Q h => ?_
  obtain ⟨δ, o, r, δ', E, n, hm, q⟩ := h
  simp only [dTake] at hm
  cases hi : δ[i]? with
  | none => rw [hi] at hm; simp at hm
  | some x =>
    cases x with
    | none => rw [hi] at hm; simp at hm
    | some d =>
      rw [hi] at hm
      obtain ⟨v, oa, o1, ob, e1, r1, rfl, _, kn⟩ := E.at hi
      refine ⟨v, e1, ?_⟩
      by_cases hd : d.imm = true
      · simp only [hd, if_true, Option.some.injEq, Prod.mk.injEq] at hm
        obtain ⟨rfl, rfl⟩ := hm
        have := r1.imm hd
        subst this
        exact q v H _ [] ⟨Step.refl _ _, E, r1, own_nil⟩
      · simp only [hd, if_false, Option.some.injEq, Prod.mk.injEq, Bool.false_eq_true] at hm
        obtain ⟨rfl, rfl⟩ := hm
        exact q v H (oa ++ ob) o1 ⟨Step.refl _ _, kn H Fr.rfl, r1, fun a => .inl (by simp only [List.count_append]; omega)⟩
end Z


set_option Elab.async false
set_option linter.all false
set_option maxRecDepth 100000
set_option maxHeartbeats 1000000
/-! x[::-1] -/
namespace PyProof.Rows
open PySem
section
variable {prog : Program} {w : World} {A : Around} {E : Value → Shared → Prop} {s : Shared}
end
end PyProof.Rows
namespace Z
open PySem PySem.Spec PyProof.Rows L2
def RevR (X : Cx) (r : V → Hp → VK → Prop) : Prop :=
  ∀ (pins : List (Addr × Obj)) (s : Shared) (σ : L2.St) (H : Hp) (x : V) (v vk : Value) (sl : Addr) (Q : VK), Inv X pins σ H s → L2.RelV x v → s.heap.IsSliceOf sl .none .none vk → IsPart vk (some (-1)) → r x H Q →
    ∃ T id, typeLookup (.type T) "__getitem__" = pure (some (.builtin id)) ∧ s.TypeIs v T ∧ wpAny (model X.prog X.w) X.A (getItem v (.ref sl)) (EP X pins σ Q) X.xe s
section
variable {X : Cx} {e st : Expr} {te : TE} {p2 pos : Pos}
theorem RevR.or {r r' : V → Hp → VK → Prop} (h : RevR X r) (h' : RevR X r') : RevR X (fun x H Q => r x H Q ∨ r' x H Q) := by
  intro pins s σ H x v vk sl Q I rx hs pk q
  rcases q with q | q
  · exact h pins s σ H x v vk sl Q I rx hs pk q
  · exact h' pins s σ H x v vk sl Q I rx hs pk q
end
end Z


set_option Elab.async false
set_option linter.all false
set_option maxRecDepth 100000
/-! lambdas as keys: the code object, the function, its call -/
namespace Z
open PySem PySem.Spec PyProof.Rows L2

section
variable {X : Cx} {pins : List (Addr × Obj)} {σ : L2.St} {H : Hp} {s : Shared}
/-- a new code object, laid into its maker's table -/
theorem code_new {δ : DE} {o : List Addr} {P c1 P1 : Addr} {ps : Array Value} {gpos : Pos} {h' : Heap} {tk : Nat} (I : Inv X pins σ H s) (En : Envs (kx X) H σ δ o) (e : H P = some (.tbl ps))
    (hx : Heap.ExtBut P s.heap h') (hge : s.heap.objs.size ≤ c1) (hlt : c1 < h'.objs.size) (hP1 : s.heap.objs.size ≤ P1)
    (htab' : h'.get? P = some { cls := .none, data := .fields (ps ++ #[rawInt gpos.line, rawInt gpos.col, .ref c1]) }) (hcd1 : PySem.W.CodeHd h' c1 P1) (hP1' : h'.get? P1 = some { cls := .none, data := .fields #[] }) :
    ∃ H', Inv X pins σ H' { s with heap := h', toks := tk } ∧ Step H H' [] ∧ Fr H H' o ∧ H' c1 = some (.ext fun h => PySem.W.CodeHd h c1 P1) ∧ (∀ b u, H b = some u → Nt u → H' b = some u) := by
  have ne1 : c1 ≠ P1 := by
    obtain ⟨_, _, _, _, _, _, _, _, _, _, _, _, _, _, _, _, _, _, z⟩ := hcd1
    exact z
  have nf1 : H c1 = none := I.hok.fresh hge
  have nf2 : H P1 = none := I.hok.fresh hP1
  have nP1 : P ≠ c1 := ne_of_none e nf1
  have nP2 : P ≠ P1 := ne_of_none e nf2
  let H' : Hp := upd (upd (upd H P (.tbl (ps ++ #[rawInt gpos.line, rawInt gpos.col, .ref c1]))) c1 (.ext fun h => PySem.W.CodeHd h c1 P1)) P1 (.tbl #[])
  have eP : H' P = some (.tbl (ps ++ #[rawInt gpos.line, rawInt gpos.col, .ref c1])) := by
    show upd _ _ _ _ = _
    rw [upd_ne nP2, upd_ne nP1, upd_same]
  have ec : H' c1 = some (.ext fun h => PySem.W.CodeHd h c1 P1) := by
    show upd _ _ _ _ = _
    rw [upd_ne ne1, upd_same]
  have e1 : H' P1 = some (.tbl #[]) := upd_same
  have eo : ∀ b, b ≠ P → b ≠ c1 → b ≠ P1 → H' b = H b := fun b n1 n2 n3 => by
    show upd _ _ _ _ = _
    rw [upd_ne n3, upd_ne n2, upd_ne n1]
  have keep : ∀ a u, H a = some u → a ≠ P → H' a = some u := fun a u ea n => by
    rw [eo a n (ne_of_none ea nf1) (ne_of_none ea nf2)]; exact ea
  have old : ∀ b o, s.heap.get? b = some o → b ≠ c1 ∧ b ≠ P1 := fun b o eb => by
    have := Heap.lt_size eb
    exact ⟨fun z => by subst z; exact absurd (Nat.lt_of_lt_of_le this hge) (Nat.lt_irrefl _), fun z => by subst z; exact absurd (Nat.lt_of_lt_of_le this hP1) (Nat.lt_irrefl _)⟩
  have nP : ∀ b u, H b = some u → (∀ qs, u ≠ .tbl qs) → b ≠ P := fun b u eb hn z => by
    rw [z, e] at eb; cases eb; exact hn _ rfl
  have nN : ∀ b, H b = none → b ≠ P := fun b eb z => by rw [z, e] at eb; cases eb
  have un : Un X.fs [] H H' s.heap h' := by
    refine ⟨fun b o eb hb _ _ => hx b o (nN b hb) eb, fun b o eb hb _ _ => ⟨o.slots, hx b o (nN b hb) eb⟩, fun b o eb hb _ => ?_, fun b o eb _ => ?_, fun b xs eb => keep b _ eb (nP b _ eb fun _ z => nomatch z), fun b o u eb => keep b _ eb (nP b _ eb fun _ z => nomatch z), fun b qs eb => ?_⟩
    · rw [eo b (nN b hb) (old b o eb).1 (old b o eb).2]; exact hb
    · by_cases hb : b = P
      · rw [hb]; exact ⟨_, htab'⟩
      · exact ⟨o, hx b o hb eb⟩
    · by_cases hb : b = P
      · rw [hb, e] at eb; cases eb
        exact ⟨_, by rw [hb]; exact eP⟩
      · exact ⟨#[], by rw [keep b _ eb hb]; simp⟩
  have hok : HOk X.prog X.w H' h' := fun a u ea => by
    by_cases ha : a = P
    · rw [ha, eP] at ea; cases ea; rw [ha]; exact htab'
    · by_cases ha1 : a = c1
      · rw [ha1, ec] at ea; cases ea
        rw [ha1]
        obtain ⟨ob, vs, file, tf, flags, tg, inF, text, tt, eo1, r⟩ := id hcd1
        exact ⟨hcd1, ⟨ob, eo1⟩, hd_stable⟩
      · by_cases ha2 : a = P1
        · rw [ha2, e1] at ea; cases ea; rw [ha2]; exact hP1'
        · rw [eo a ha ha1 ha2] at ea
          refine (I.hok a u ea).stay (fun b v hb eb => hx b v ?_ eb) (fun b eb => keep b _ eb (nP b _ eb fun _ z => nomatch z)) fun b xs eb => keep b _ eb (nP b _ eb fun _ z => nomatch z)
          rcases hb with rfl | hb
          · exact ha
          · exact nP b _ hb fun _ z => nomatch z
  have gr : ∀ Q, GoodT H Q → GoodT H' Q := fun Q g => g.grow e eP ec e1 keep
  refine ⟨H', I.un (t' := tk) un hok, ⟨fun a u ea _ hn => keep a u ea (nP a u ea hn), fun a ea => ?_, gr⟩, ⟨fun a ha => ?_, fun a u ea hs => keep a u ea (nP a u ea hs.nt), gr⟩, ec, fun b u eb hn => keep b u eb (nP b u eb hn)⟩
  · cases q : H a with
    | none => rfl
    | some u =>
      by_cases ha : a = P
      · rw [ha, eP] at ea; cases ea
      · rw [keep a u q ha] at ea; cases ea
  · obtain ⟨vs, ea, how⟩ := En.own a ha
    rw [ea]; exact keep a _ ea (nP a _ ea how.2)
/-- a lambda as a value: the function's object f, whose code object has a name -/
structure LamAt (X : Cx) (params : Arguments) (body : Expr) (scope : Scope) (f : Addr) (h : Heap) : Prop where
  ex : ∃ (fd : FuncData) (pm ctv : Value) (c' : Addr) (oc : Obj) (vs : Array Value), h.get? f = some { cls := .type "function", data := .func fd } ∧ fd = PySem.W.kla_fn "<lambda>" (X.env.qual ++ "<lambda>") params body scope (cloFrom X.env.cells scope.names []) pm (.ref c') ctv ∧
    h.get? c' = some oc ∧ oc.data = .fields vs ∧ 1 < vs.size
theorem LamAt.keeps {params : Arguments} {body : Expr} {scope : Scope} {f : Addr} {h h' : Heap} (l : LamAt X params body scope f h) (k : ∀ b o, h.get? b = some o → h'.get? b = some o) : LamAt X params body scope f h' := by
  obtain ⟨fd, pm, ctv, c', oc, vs, e1, e2, e3, e4, e5⟩ := l
  exact ⟨fd, pm, ctv, c', oc, vs, k _ _ e1, e2, k _ _ e3, e4, e5⟩
theorem codeHd_fields {h : Heap} {c P : Addr} (hd : PySem.W.CodeHd h c P) : ∃ oc vs, h.get? c = some oc ∧ oc.data = .fields vs ∧ 1 < vs.size := by
  obtain ⟨o, vs, _, _, _, _, _, _, _, e1, _, e3, e4, _⟩ := hd
  refine ⟨o, vs, e1, e3, ?_⟩
  have : 11 < vs.size := by
    rcases Nat.lt_or_ge 11 vs.size with h | h
    · exact h
    · rw [Array.getElem?_eq_none h] at e4; cases e4
  omega
theorem _root_.L2.Cx.glob_eq (X : Cx) {pins : List (Addr × Obj)} {σ : L2.St} {H : Hp} {s : Shared} (I : Inv X pins σ H s) : X.env.globals = mainGlobals := I.ok.glob
theorem z_lam_make {cc : Addr} {δ : DE} {o : List Addr} {params : Arguments} {body : Expr} {scope : Scope} {lpos : Pos} {E : Value → Shared → Prop} {Q : Value → Shared → Prop} (hcode : X.env.code = .ref cc) (I : Inv X pins σ H s) (En : Envs (kx X) H σ δ o) (hBM : BMod X.base X.mg)
    (hdef : defaultsOf params X.env = ([], [])) (hfree : ∀ y ∈ scope.names, y.2 = .free → ∃ c, X.env.cells.lookup y.1 = some c)
    (hQ : ∀ (f : Addr) (H' : Hp) (s' : Shared), Inv X pins σ H' s' → Step H H' [] → Fr H H' o → (∀ b u, H b = some u → Nt u → H' b = some u) → LamAt X params body scope f s'.heap → Q (.ref f) s') :
    wpAny (model X.prog X.w) X.A (eval (.Lambda params body scope lpos) X.env) Q E s := by
  refine PySem.W.kla_eval hdef ?_
  rw [makeFunction_eq]
  simp only [List.zip_nil_right, List.filterMap_nil, List.isEmpty_nil, if_true, pure_bind]
  obtain ⟨bm, ob, b1, b2, b3, b4, b5, b6⟩ := hBM
  have hcl := closure_ok (env := X.env) hfree
  have fin : ∀ (H1 : Hp) (s1 : Shared) (ctv : Value) (c' : Addr), Inv X pins σ H1 s1 → Step H H1 [] → Fr H H1 o → (∀ b u, H b = some u → Nt u → H1 b = some u) → (∃ oc vs, s1.heap.get? c' = some oc ∧ oc.data = .fields vs ∧ 1 < vs.size) →
      Q (.ref s1.heap.objs.size) { s1 with heap := s1.heap.push { cls := .type "function", data := .func (PySem.W.kla_fn "<lambda>" (X.env.qual ++ "<lambda>") params body scope (cloFrom X.env.cells scope.names []) ((X.mg "__name__").getD .none) (.ref c') ctv) } } := by
    intro H1 s1 ctv c' I1 st fr kn ⟨oc, vs, e1, e2, e3⟩
    exact hQ _ H1 _ (I1.kept (t' := s1.toks) fun b o e => Heap.get?_push_of_some _ e) st fr kn ⟨_, (X.mg "__name__").getD .none, ctv, c', oc, vs, Heap.get?_push_size _ rfl, rfl, Heap.get?_push_of_some _ e1, e2, e3⟩
  have nsG : ∀ {H1 : Hp} {s1 : Shared}, Inv X pins σ H1 s1 → s1.heap.Ns X.env.globals X.mg := fun I1 => by rw [I1.ok.glob]; exact I1.mod.glob.keeps I1.bk
  obtain ⟨P, hhd, gP⟩ := En.tabs.2 cc hcode
  -- the code object, at a state that has no more than a new tuple
  have code : ∀ (s0 : Shared) (fl : Nat) (Qc : Value → Shared → Prop), Inv X pins σ H s0 → (∀ (H1 : Hp) (s1 : Shared) (c' : Addr), Inv X pins σ H1 s1 → Step H H1 [] → Fr H H1 o → (∀ b u, H b = some u → Nt u → H1 b = some u) → (∃ oc vs, s1.heap.get? c' = some oc ∧ oc.data = .fields vs ∧ 1 < vs.size) → Qc (.ref c') s1) →
      wpAny (model X.prog X.w) X.A (functionCode X.env lpos fl "<lambda>" (X.env.qual ++ "<lambda>") params scope (.expr body)) Qc E s0 := by
    intro s0 fl Qc I0 hc
    have hd : PySem.W.CodeHd s0.heap cc P := by
      rcases hhd with z | z
      · exact PySem.W.codeHd_of_K I0.kIn z
      · exact (I0.hok cc _ z).1
    cases id gP with
    | mk _ ps cf pf e t kk gg =>
    have hPs : s0.heap.get? P = some { cls := .none, data := .fields ps } := I0.hok P _ e
    cases hf : codeAmong lpos ps.toList with
    | some cv =>
      obtain ⟨rfl, hcc⟩ := kk _ _ hf
      exact wpAny_functionCode_hit hcode (hd.code hPs t) hf (hc H s0 _ I0 (.refl _ _) .rfl (fun _ _ e _ => e) (codeHd_fields (I0.hok _ _ hcc).1))
    | none =>
      refine wpAny_functionCodeX hcode (hd.code hPs t) (hd.tab hPs) hf fun c1 h' tk hx hge hlt hco' _ htab' ⟨P1, hP1, hco1, htab1⟩ => ?_
      have hcd1 : PySem.W.CodeHd h' c1 P1 := .of hco1 htab1
      obtain ⟨H1, I1, st, fr, _, kn⟩ := code_new (tk := tk) I0 En e hx hge hlt hP1 htab'.2 hcd1 htab1.2
      exact hc H1 _ c1 I1 st fr kn (codeHd_fields hcd1)
  unfold makeTail
  rw [hcl]
  refine wpAny_bind (wpAny_pure ?_)
  cases hcs : (cloFrom X.env.cells scope.names []).isEmpty with
  | true =>
    simp only [if_true]
    refine wpAny_bind (wpAny_pure ?_)
    refine wpAny_bind (code s _ _ I fun H1 s1 c' I1 st fr kn hc => ?_)
    refine wpAny_bind (wpAny_builtinsFor (nsG I1) b1 b2 (I1.bk _ _ b3) b4 b5 b6 ?_)
    refine wpAny_bind (wpAny_nsGet (nsG I1) (wpAny_bind (wpAny_pure (wpAny_newObj_type ?_ (by size_fits)))))
    have := fin H1 s1 .none c' I1 st fr kn hc
    rw [X.glob_eq I1]
    exact this
  | false =>
    simp only [Bool.false_eq_true, if_false]
    refine wpAny_bind (wpAny_newTextTuple ?_)
    refine wpAny_bind (code _ _ _ (I.kept (t' := s.toks) fun b o e => Heap.get?_push_of_some _ e) fun H1 s1 c' I1 st fr kn hc => ?_)
    refine wpAny_bind (wpAny_builtinsFor (nsG I1) b1 b2 (I1.bk _ _ b3) b4 b5 b6 ?_)
    refine wpAny_bind (wpAny_nsGet (nsG I1) (wpAny_bind (wpAny_pure (wpAny_newObj_type ?_ (by size_fits)))))
    have := fin H1 s1 (.ref s.heap.objs.size) c' I1 st fr kn hc
    rw [X.glob_eq I1]
    exact this
end
end Z
namespace Z
open PySem PySem.Spec PyProof.Rows L2

/-- a lambda's frame, called with u -/
structure LF (X : Cx) (scope : Scope) (s0 s : Shared) (env : Env) (v : Str) (u : Value) : Prop where
  sc : env.scope = scope
  kind : scope.kind = .function
  vl : scope.names.lookup v = some .local
  ns : ∃ m, s.heap.Ns env.locals m ∧ m v = some u
  glob : env.globals = mainGlobals
  blt : env.builtins = builtinsNs
  cells : env.cells = cloFrom X.env.cells scope.names []
  keep : ∀ b o, s0.heap.get? b = some o → s.heap.get? b = some o
theorem LF.keeps {X : Cx} {scope : Scope} {s0 s : Shared} {env : Env} {v : Str} {u : Value} {h' : Heap} {tk : Nat} (l : LF X scope s0 s env v u) (k : ∀ b o, s.heap.get? b = some o → h'.get? b = some o) : LF X scope s0 { s with heap := h', toks := tk } env v u :=
  ⟨l.sc, l.kind, l.vl, let ⟨m, a, b⟩ := l.ns; ⟨m, a.keeps k, b⟩, l.glob, l.blt, l.cells, fun b o e => k b o (l.keep b o e)⟩
/-- what an expression of a lambda's body gives, from the names outside and the datum that it is called with -/
def PLm (X : Cx) (scope : Scope) (v : Str) (e : Expr) (f : DE → PyData → Option PyData) : Prop :=
  ∀ (pins : List (Addr × Obj)) (σ : L2.St) (H : Hp) (δ : DE) (o : List Addr) (s0 : Shared), Inv X pins σ H s0 → Envs (kx X) H σ δ o →
  ∀ (A : Around) (env : Env) (s : Shared) (u : Value) (d k : PyData) (Q : Value → Shared → Prop), LF X scope s0 s env v u → Reads s.heap u d [] → f δ d = some k →
    (∀ w h' tk, (∀ b o, s.heap.get? b = some o → h'.get? b = some o) → Reads h' w k [] → Q w { s with heap := h', toks := tk }) → wpAny (model X.prog X.w) A (eval e env) Q (fun _ _ => False) s
section
variable {X : Cx} {scope : Scope} {v : Str}
theorem pl_name {pos : Pos} (hd : (v == ("__debug__" : Str)) = false := by decide) : PLm X scope v (.Name v pos) (fun _ d => some d) := by
  intro pins σ H δ o s0 I E A env s u d k Q l r hf hQ
  cases (Option.some.inj hf : d = k)
  obtain ⟨m, n1, n2⟩ := l.ns
  refine wpAny_Name (wpAny_loadName_local (by rw [l.sc]; exact l.kind) (show env.scope.names.lookup v = _ by rw [l.sc]; exact l.vl) n1 n2 ?_) hd
  exact hQ u s.heap s.toks (fun _ _ e => e) r
def lenP : PyData → Option PyData
  | .tuple xs => if xs.length ≤ sizeLine then some (.int xs.length) else none
  | .str x => if x.length ≤ sizeLine then some (.int x.length) else none
  | _ => none
theorem pl_len {e : Expr} {p pos : Pos} {f : DE → PyData → Option PyData} (he : PLm X scope v e f) (hg : scope.names.lookup ("len" : Str) = some .globalImplicit) (hm : X.mg "len" = none)
    (hst : ∀ env, starEach [e] env = (false, eval e env) :: starEach [] env := by intro _; rfl) : PLm X scope v (.Call (.Name "len" p) [e] [] pos) (fun δ d => (f δ d).bind lenP) := by
  intro pins σ H δ o s0 I E A env s u d k Q l r hf hQ
  dsimp only at hf
  cases hd : f δ d with
  | none => rw [hd] at hf; cases hf
  | some d1 =>
  rw [hd] at hf
  replace hf : lenP d1 = some k := hf
  obtain ⟨mb, h1, h2⟩ := I.mod.blt
  have kb : ∀ b o, X.base.get? b = some o → s.heap.get? b = some o := fun b o e => l.keep b o (I.bk b o e)
  refine wpAny_Call_Name_kw (Calls.Name_function_global (by rw [l.sc]; exact l.kind) (show env.scope.names.lookup ("len" : Str) = _ by rw [l.sc]; exact hg)
    (Calls.loadGlobal_builtin (by rw [l.glob]; exact I.mod.glob.keeps kb) hm (by rw [l.blt]; exact h1.keeps kb) ((h2 "len" (by decide)).trans (show bootBuiltins "len" = some (.builtin "len") by decide +kernel)) ?_))
  refine PyProof.Rows.callWith_builtin1 ?_ (hst env) (by rfl)
  rw [hst]
  refine Calls.spliced_cons (he pins σ H δ o s0 I E A env s u d d1 _ l r hd fun w h' tk kp rw1 => Calls.spliced_nil ?_)
  have hn := line63
  clear hd
  revert rw1
  revert hf
  cases d1 <;> intro hf rw1 <;> first | (simp only [lenP, reduceCtorEq] at hf; done) | skip
  · rename_i x
    simp only [lenP] at hf
    by_cases hz : x.length ≤ sizeLine
    case neg => rw [if_neg hz] at hf; cases hf
    rw [if_pos hz] at hf
    cases (Option.some.inj hf)
    cases rw1
    exact len_str (by omega) (hQ _ h' _ kp (.int _ _))
  · rename_i xs
    simp only [lenP] at hf
    by_cases hz : xs.length ≤ sizeLine
    case neg => rw [if_neg hz] at hf; cases hf
    rw [if_pos hz] at hf
    cases (Option.some.inj hf)
    cases rw1 with
    | @tuple a ob vs n _ _ e1 e2 e3 e4 =>
      have hsz : vs.size = xs.length := by simpa using PySem.SeqAt.ReadsAll.length _ _ _ e4
      have pl : IsTup h' a vs := ⟨ob, e1, e2, n, e3⟩
      refine len_tuple pl (by rw [hsz]; omega) ?_
      rw [hsz]
      exact hQ _ h' _ kp (.int _ _)
theorem pl_tup2 {e1 e2 : Expr} {x1 : Nat} {pos : Pos} {f1 f2 : DE → PyData → Option PyData} (h1 : PLm X scope v e1 f1) (h2 : PLm X scope v e2 f2)
    (hst : ∀ env, starEach [e1, e2] env = (false, eval e1 env) :: (false, eval e2 env) :: starEach [] env := by intro _; rfl) :
    PLm X scope v (.Tuple [e1, e2] x1 pos) (fun δ d => (f1 δ d).bind fun a => (f2 δ d).bind fun b => some (.tuple [a, b])) := by
  intro pins σ H δ o s0 I E A env s u d k Q l r hf hQ
  dsimp only at hf
  cases g1 : f1 δ d with
  | none => rw [g1] at hf; cases hf
  | some d1 =>
  cases g2 : f2 δ d with
  | none => rw [g1, g2] at hf; cases hf
  | some d2 =>
  rw [g1, g2] at hf
  cases (Option.some.inj hf : PyData.tuple [d1, d2] = k)
  refine wpAny_Tuple_spliced ?_
  rw [hst]
  show wpAny _ _ (spliced ((false, eval e1 env) :: (false, eval e2 env) :: [])) _ _ s
  refine Calls.spliced_cons (h1 pins σ H δ o s0 I E A env s u d d1 _ l r g1 fun w1 g tk1 kp1 r1 => ?_)
  refine Calls.spliced_cons (h2 pins σ H δ o s0 I E A env _ u d d2 _ (l.keeps kp1) (Reads.keeps kp1 r) g2 fun w2 g' tk2 kp2 r2 => Calls.spliced_nil ⟨by rw [sizeLine_eq]; show 2 ≤ _; omega, ?_⟩)
  have kp3 : ∀ b ob, g'.get? b = some ob → (g'.push { cls := .type "tuple", data := .seq ([w1, w2] : List Value).toArray }).get? b = some ob := fun b ob e => Heap.get?_push_of_some _ e
  refine hQ _ _ _ (fun b ob e => kp3 b ob (kp2 b ob (kp1 b ob e))) ?_
  have r1' := Reads.keeps (fun b ob e => kp3 b ob (kp2 b ob e)) r1
  have r2' := Reads.keeps kp3 r2
  exact Reads.tuple (as := [] ++ ([] ++ [])) (Heap.get?_push_size _ rfl) rfl rfl (.cons r1' (.cons r2' .nil))
end
end Z

namespace Z
open PySem PySem.Spec PyProof.Rows L2
section
variable {prog : Program} {w : World} {A : Around} {R : Result → Shared → Prop} {s : Shared}
theorem lam_callE {a : Addr} {args : Args} {o : Obj} {fd : FuncData} {body : Expr} {c : Addr} {oc : Obj} {vs : Array Value} (hroom : A.depth < recursionLimit)
    (ho : s.heap.get? a = some o) (hd : o.data = .func fd) (hco : fd.scope.isCoroutine = false) (hgen : fd.scope.isGenerator = false) (hb : fd.body = .expr body)
    (hc : fd.code = .ref c) (hoc : s.heap.get? c = some oc) (hdc : oc.data = .fields vs) (hv : 1 < vs.size)
    (h : ∀ q : Str, wpAny (model prog w) A.in1 (bindArgs fd args) (fun bs s1 => wpAny (model prog w) A.in1 (newFunctionEnv fd.scope fd.globals fd.closure bs (q ++ ".<locals>.") (some a) fd.code none fd.builtins)
        (fun env s2 => s2.heap.NoLimit ∧ codeAny (model prog w) A (.expr body env) R s2) (fun e s' => R (.error e) s') s1) (fun e s' => R (.error e) s') s) :
    codeAny (model prog w) A (.call (.ref a) args) R s := by
  refine codeAny_of_tree ?_
  show wpAny _ A.in1 (callAny (.ref a) args) _ _ s
  simp only [callAny]
  refine wpAny_bind (wpAny_load ho ?_)
  simp only [hd, callFunction, hco, hgen, hb, hc]
  have hq : vs[1]? = some vs[1] := Array.getElem?_eq_getElem hv
  have go : ∀ q : Str, wpAny (model prog w) A.in1 (do
      let env ← newFunctionEnv fd.scope fd.globals fd.closure (← bindArgs fd args) (q ++ ".<locals>.") (some a) (.ref c) none fd.builtins
      enterFrame
      again (.expr body env)) (fun fin s' => match fin with | .done f => R (.ok f) s' | .again c' => c'.quiet = true ∧ codeAny (model prog w) A c' R s') (fun e s' => R (.error e) s') s := by
    intro q
    have h' := h q
    rw [hc] at h'
    exact wpAny_bind (wpAny_mono h' (fun bs s1 h1 => wpAny_bind (wpAny_mono h1 (fun env s2 h2 => wpAny_bind (wpAny_enterFrame h2.1 hroom (wpAny_pure ⟨rfl, h2.2⟩))) fun _ _ h' => h')) fun _ _ h' => h')
  refine wpAny_bind (m := field (.ref c) 1) (wpAny_field hoc hdc hq ?_)
  cases vs[1] <;> exact wpAny_bind (wpAny_pure (go _))
end
/-- the names of a lambda with one parameter -/
structure LamSc (X : Cx) (scope : Scope) (v : Str) : Prop where
  kind : scope.kind = .function
  co : scope.isCoroutine = false
  gen : scope.isGenerator = false
  cell : ∀ y ∈ scope.names, y.2 ≠ .cell
  vl : scope.names.lookup v = some .local
  free : ∀ y ∈ scope.names, y.2 = .free → X.env.scope.names.lookup y.1 = some .cell ∨ X.env.scope.names.lookup y.1 = some .free
theorem LamSc.has {X : Cx} {scope : Scope} {v : Str} (L : LamSc X scope v) (ok : X.Ok) : ∀ y ∈ scope.names, y.2 = .free → ∃ c, X.env.cells.lookup y.1 = some c := fun y hy e => by
  rcases L.free y hy e with k | k
  · exact ok.has _ (.inl k)
  · exact ok.has _ (.inr k)
def lamScB (sc scope : Scope) (v : Str) : Bool :=
  decide (scope.kind = .function) && !scope.isCoroutine && !scope.isGenerator && decide (scope.names.lookup v = some .local) && scope.names.all fun y => !decide (y.2 = .cell) && (!decide (y.2 = .free) || decide (sc.names.lookup y.1 = some .cell) || decide (sc.names.lookup y.1 = some .free))
theorem lamSc_by {X : Cx} {scope : Scope} {v : Str} (h : lamScB X.env.scope scope v = true) : LamSc X scope v := by
  unfold lamScB at h
  simp only [Bool.and_eq_true, Bool.or_eq_true, Bool.not_eq_true', decide_eq_true_eq, decide_eq_false_iff_not, List.all_eq_true] at h
  obtain ⟨⟨⟨⟨h1, h2⟩, h3⟩, h4⟩, h5⟩ := h
  refine ⟨h1, h2, h3, fun y hy => (h5 y hy).1, h4, fun y hy e => ?_⟩
  rcases (h5 y hy).2 with (z | z) | z
  · exact absurd e z
  · exact .inl z
  · exact .inr z
section
variable {X : Cx} {pins : List (Addr × Obj)} {σ : L2.St} {H : Hp} {s0 s : Shared}
theorem lam_turn {δ : DE} {o : List Addr} {params : Arguments} {body : Expr} {scope : Scope} {v : Str} {f : Addr} {u : Value} {d k : PyData} {fk : DE → PyData → Option PyData} {A : Around} (I : Inv X pins σ H s0) (En : Envs (kx X) H σ δ o) (L : LamSc X scope v)
    (l : LamAt X params body scope f s.heap) (hk : ∀ b o, s0.heap.get? b = some o → s.heap.get? b = some o) (pl : PLm X scope v body fk)
    (hbind : ∀ (q : Str) (cl : List (Str × Addr)) (pm cv ctv u : Value), bindArgs (PySem.W.kla_fn "<lambda>" q params body scope cl pm cv ctv) ⟨[u], []⟩ = pure [(v, u)])
    (hroom : A.depth < recursionLimit) (r : Reads s.heap u d []) (hf : fk δ d = some k) :
    wpAny (model X.prog X.w) A (call (.ref f) [u]) (PySem.W.KeyPure k s) (fun _ _ => False) s := by
  obtain ⟨fd, pm, ctv, c', oc, vs, e1, e2, e3, e4, e5⟩ := l
  subst e2
  refine wpAny_call (lam_callE hroom e1 rfl L.co L.gen rfl rfl e3 e4 e5 fun q => ?_)
  rw [hbind]
  refine wpAny_pure (wpAny_newFunctionEnv L.cell (fun y hy => by rw [List.mem_singleton.mp hy]; exact L.vl) (fun h₁ hns hsb => ⟨(I.nolimit.keeps hk).fresh _ hsb, ?_⟩) L.kind)
  have kp : ∀ b ob, s.heap.get? b = some ob → h₁.get? b = some ob := fun b ob e => hsb.extBut b ob (Nat.ne_of_lt (Heap.lt_size e)) (Heap.get?_push_of_some _ e)
  refine PySem.W.kla_codeExpr (wpAny_mono (pl pins σ H δ o s0 I En _ _ _ u d k _ ⟨rfl, L.kind, L.vl, ⟨_, hns, by simp⟩, rfl, rfl, rfl, fun b ob e => kp b ob (hk b ob e)⟩ (Reads.keeps kp r) hf fun w h' tk kp2 rw2 => ?_) (fun _ _ h => h) fun _ _ h => h.elim)
  exact ⟨h', tk, rfl, fun b ob e => kp2 b ob (kp b ob e), rw2⟩
end
end Z


set_option Elab.async false
set_option linter.all false
set_option maxRecDepth 100000
/-! sorted(xs, key=lambda v: ..) of a list -/
namespace Z
open PySem PySem.Spec PyProof.Rows L2

def isTupP : PyData → Bool
  | .tuple (_ :: _) => true
  | _ => false
def isPlainP : PyData → Bool
  | .none => false
  | .tuple _ => false
  | _ => true
def sortPOk (ks : List PyData) : Bool := (ks.all fun k => decide (k.depth ≤ 60)) && ((ks.all fun x => ks.all fun y => PySem.W.alike x y) && (ks.all isTupP || ks.all isPlainP))
def keysP (f : PyData → Option PyData) : List D → Option (List PyData)
  | [] => some []
  | x :: xs => match f (toPy x), keysP f xs with
    | some k, some ks => some (k :: ks)
    | _, _ => none
/-- x's key -/
def keyP (f : PyData → Option PyData) (x : D) : PyData := (f (toPy x)).getD .none
theorem keysP_eq {f : PyData → Option PyData} : ∀ {xs : List D} {ks : List PyData}, keysP f xs = some ks → ks = xs.map (keyP f) ∧ ∀ x ∈ xs, f (toPy x) = some (keyP f x)
  | [], ks, h => by cases (Option.some.inj h : [] = ks); exact ⟨rfl, fun x hx => nomatch hx⟩
  | x :: xs, ks, h => by
    simp only [keysP] at h
    cases h1 : f (toPy x) with
    | none => rw [h1] at h; simp at h
    | some k =>
      cases h2 : keysP f xs with
      | none => rw [h1, h2] at h; simp at h
      | some kr =>
        rw [h1, h2] at h
        cases (Option.some.inj h : k :: kr = ks)
        obtain ⟨e1, e2⟩ := keysP_eq h2
        have ek : keyP f x = k := by simp [keyP, h1]
        refine ⟨by rw [List.map_cons, ek, e1], fun y hy => ?_⟩
        rcases List.mem_cons.mp hy with rfl | hy
        · rw [ek]; exact h1
        · exact e2 y hy
section
variable {X : Cx}
end
def kName : DE → PyData → Option PyData := fun _ d => some d
def kLen (f : DE → PyData → Option PyData) : DE → PyData → Option PyData := fun δ d => (f δ d).bind lenP
def kTup2 (f g : DE → PyData → Option PyData) : DE → PyData → Option PyData := fun δ d => (f δ d).bind fun a => (g δ d).bind fun b => some (.tuple [a, b])
section
variable {X : Cx} {scope : Scope} {v : Str}
theorem k_name {pos : Pos} (hd : (v == ("__debug__" : Str)) = false := by decide) : PLm X scope v (.Name v pos) kName := pl_name hd
theorem k_len {e : Expr} {p pos : Pos} {f : DE → PyData → Option PyData} (he : PLm X scope v e f) (hg : scope.names.lookup ("len" : Str) = some .globalImplicit) (hm : X.mg "len" = none)
    (hst : ∀ env, starEach [e] env = (false, eval e env) :: starEach [] env := by intro _; rfl) : PLm X scope v (.Call (.Name "len" p) [e] [] pos) (kLen f) := pl_len he hg hm hst
theorem k_tup2 {e1 e2 : Expr} {x1 : Nat} {pos : Pos} {f1 f2 : DE → PyData → Option PyData} (h1 : PLm X scope v e1 f1) (h2 : PLm X scope v e2 f2)
    (hst : ∀ env, starEach [e1, e2] env = (false, eval e1 env) :: (false, eval e2 env) :: starEach [] env := by intro _; rfl) : PLm X scope v (.Tuple [e1, e2] x1 pos) (kTup2 f1 f2) := pl_tup2 h1 h2 hst
end
end Z


set_option Elab.async false
set_option linter.all false
set_option maxRecDepth 100000
/-! sum of a list, of a tuple, of a generator expression -/
namespace Z
open PySem PySem.Spec PyProof.Rows L2

section
variable {prog : Program} {w : World} {A : Around} {E : Value → Shared → Prop} {s : Shared} {l : Addr}
end
section
variable {X : Cx}
end
section
variable {X : Cx} {pins : List (Addr × Obj)} {σ : L2.St} {δ : DE} {o : List Addr} {Hx : Hp} {A : Around} {a : Addr}
end
end Z


set_option Elab.async false
set_option linter.all false
set_option maxRecDepth 100000
/-! sum of a generator expression -/
namespace Z
open PySem PySem.Spec PyProof.Rows L2
section
variable {X : Cx} {k : Nat}
end
end Z


set_option Elab.async false
set_option linter.all false
set_option maxRecDepth 100000
/-! a < b < c as a test; x, y = a, b -/
namespace Z
open PySem PySem.Spec PyProof.Rows L2
section
variable {X : Cx} {a b c : Expr} {pos : Pos} {f1 f2 : List D → Option D} {ma mb mc : Den} {op op' : CmpOp}
end
section
variable {X : Cx} {kp : Nat → Bool} {pos : Pos} {q : Bool} {m : DE → Option (List R × DE)}
end
end Z


set_option Elab.async false
set_option linter.all false
set_option maxRecDepth 100000
/-! min, max of a generator expression that hands out ints -/
namespace Z
open PySem PySem.Spec PyProof.Rows L2
section
variable {X : Cx} {pins : List (Addr × Obj)} {σ : L2.St} {δ : DE} {o : List Addr} {Hx : Hp} {A : Around} {a : Addr}
end
section
variable {X : Cx} {k : Nat}
end

section
variable {X : Cx} {pins : List (Addr × Obj)} {σ : L2.St} {δ : DE} {o : List Addr} {Hx : Hp} {A : Around} {a : Addr}
end
section
variable {X : Cx} {k : Nat}
end
end Z


set_option Elab.async false
set_option linter.all false
set_option maxRecDepth 100000
/-! lambdas as keys: names from outside, subscripts -/
namespace Z
open PySem PySem.Spec PyProof.Rows L2
section
variable {X : Cx} {scope : Scope} {v : Str}
end
end Z


set_option Elab.async false
set_option linter.all false
set_option maxRecDepth 100000
/-! sorted(range(n), key=lambda v: ..) -/
namespace Z
open PySem PySem.Spec PyProof.Rows L2
section
variable {prog : Program} {w : World} {A : Around} {s : Shared} {E : Value → Shared → Prop}
end
section
variable {X : Cx}
end
end Z


set_option Elab.async false
set_option linter.all false
set_option maxRecDepth 100000
/-! list.count of ints -/
namespace Z
open PySem PySem.Spec PyProof.Rows L2
section
variable {X : Cx} {eo e : Expr} {qo qe : Bool} {mo : Den} {ma : DE → Option (List R × DE)} {apos cpos : Pos}
end
end Z


set_option Elab.async false
set_option linter.all false
set_option maxRecDepth 100000
/-! generator expressions with two clauses: phases, the consumer's side -/
namespace Z
open PySem PySem.Spec PyProof.Rows L2
/-- where a generator's frame stands: its names, its data, its iterators' objects and how these are -/
structure Ph where
  σ : L2.St
  δ : DE
  fp : List Addr
  tn : Heap → Prop
  ex : Hp → Prop
structure PhOk (σw : L2.St) (δw : DE) (vs : List Nat) (P : Ph) : Prop where
  wσ : L2.wipe P.σ vs = σw
  wδ : wipeD P.δ vs = δw
  len : P.σ.length = σw.length
  keep : ∀ h h', P.tn h → (∀ b ∈ P.fp, ∀ o, h.get? b = some o → h'.get? b = some o) → P.tn h'
structure GInvP (Xg : Cx) (σw : L2.St) (δw : DE) (vs : List Nat) (P : Ph) (H1 : Hp) (ow : List Addr) (L : List Addr) (S : List Addr) (gd : List D) (pins : List (Addr × Obj)) (H : Hp) (s : Shared) : Prop where
  ok : PhOk σw δw vs P
  inv : Inv Xg pins P.σ H s
  trn : P.tn s.heap
  xt : P.ex H
  nof : ∀ b ∈ P.fp, H b = none
  env : ∃ o', Envs (kx Xg) H P.σ P.δ o' ∧ Own H1 ow o'
  step : Step H1 H ow
  live : ∀ b ∈ L, ∃ o, s.heap.get? b = some o
  apart : ∀ p ∈ pins, p.1 ∉ P.fp
  held : Keeps Xg.F S gd H s
theorem GInvP.fin {Xg : Cx} {σw : L2.St} {δw : DE} {vs : List Nat} {P : Ph} {H1 : Hp} {ow L S : List Addr} {gd : List D} {pins : List (Addr × Obj)} {H : Hp} {s : Shared} (G : GInvP Xg σw δw vs P H1 ow L S gd pins H s) : GEnd Xg σw δw H1 ow S gd pins H s := by
  refine ⟨G.inv.weak G.ok.len.symm fun j v e => ?_, ?_, G.step, G.held⟩
  · rw [← G.ok.wσ] at e
    exact (wipe_some e).1
  · obtain ⟨o', E', w'⟩ := G.env
    obtain ⟨o6, E6, c6⟩ := E'.wipe vs
    rw [G.ok.wσ, G.ok.wδ] at E6
    exact ⟨o6, E6, w'.sub c6⟩
section
variable {Xg : Cx} {σw : L2.St} {δw : DE} {P : Ph} {H1 : Hp} {ow L Sc : List Addr} {vs : List Nat} {cd : Nat → List D} {gd : List D} {stop : D → Bool} {R0 : List D}

theorem GInvP.gens {pins : List (Addr × Obj)} {H : Hp} {s : Shared} (G : GInvP Xg σw δw vs P H1 ow L Sc gd pins H s) {g : Array GenState} (h : AllBare g) : GInvP Xg σw δw vs P H1 ow L Sc gd pins H { s with gens := g } :=
  ⟨G.ok, G.inv.gens h, G.trn, G.xt, G.nof, G.env, G.step, G.live, G.apart, G.held⟩
theorem GInvP.pin {H : Hp} {s₀ s : Shared} (G : GInvP Xg σw δw vs P H1 ow L Sc gd (pinsAt L s₀.heap) H s) (hL : ∀ b ∈ L, ∃ o, s₀.heap.get? b = some o) : pinsAt L s.heap = pinsAt L s₀.heap := pinsAt_eq fun b hb => by
  obtain ⟨o, e⟩ := hL b hb
  exact ⟨o, e, (G.inv.pin (b, o) (List.mem_append_right _ (mem_pinsAt hb e))).1⟩
theorem GInvP.at {H : Hp} {s₀ s : Shared} {b : Addr} {o : Obj} (G : GInvP Xg σw δw vs P H1 ow L Sc gd (pinsAt L s₀.heap) H s) (hb : b ∈ L) (e : s₀.heap.get? b = some o) : s.heap.get? b = some o := (G.inv.pin (b, o) (List.mem_append_right _ (mem_pinsAt hb e))).1
end
end Z


set_option Elab.async false
set_option linter.all false
set_option maxRecDepth 100000
/-! generator expressions with two clauses: what a consumer sees -/
namespace Z
open PySem PySem.Spec PyProof.Rows L2
section
variable {X : Cx} {pins : List (Addr × Obj)} {σ : L2.St} {δ1 : DE} {o1 ow od : List Addr} {Hx : Hp} {sB : Shared} {vs : List Nat} {scope : Scope} {cenv : Env} {fp : List Addr} {stop : D → Bool} {S : List Addr} {cd : Nat → List D} {gd : List D} {A Ag : Around} {a g : Addr}
end
end Z


set_option Elab.async false
set_option linter.all false
set_option maxRecDepth 100000
/-! generator expressions with two clauses: the code, where it runs -/
namespace Z
open PySem PySem.Spec PyProof.Rows L2
end Z


set_option Elab.async false
set_option linter.all false
set_option maxRecDepth 100000
/-! generator expressions with two clauses: the inner loop's turns -/
namespace Z
open PySem PySem.Spec PyProof.Rows L2
section
variable {Xg : Cx} {σw σ8 : L2.St} {δw δi : DE} {fpO fp1 : List Addr} {tnO : Heap → Prop} {tn1 : Nat → Heap → Prop} {H1 Hb : Hp} {ow ob L Sc : List Addr} {vs vs1 : List Nat} {cd : Nat → List D} {stop : D → Bool} {R0 : List D} {Ac : Around} {cenv : Env} {elt t0 i0 t1 i1 : Expr} {ifs0 ifs1 : List Expr} {scope : Scope} {pos : Pos} {it it1 : Addr} {J1 : It} {xs1 : List D} {b1 : Bnd} {mt1 : DenT} {me : Den} {qt qe : Bool} {k0 : Result → Sem PySem.Fin} {lv : List Value} {p0 : Pos}
end
end Z


set_option Elab.async false
set_option linter.all false
set_option maxRecDepth 100000
/-! generator expressions with two clauses: the outer loop, begun -/
namespace Z
open PySem PySem.Spec PyProof.Rows L2
/-- the names let go: the outer loop's phase -/
theorem GInvP.wiped {Xg : Cx} {σw : L2.St} {δw : DE} {vs : List Nat} {P : Ph} {H1 : Hp} {ow L S : List Addr} {gd : List D} {pins : List (Addr × Obj)} {H : Hp} {s : Shared} (G : GInvP Xg σw δw vs P H1 ow L S gd pins H s) (hw : L2.wipe σw vs = σw) (hd : wipeD δw vs = δw) : GInvP Xg σw δw vs ⟨σw, δw, P.fp, P.tn, fun _ => True⟩ H1 ow L S gd pins H s := by
  have F := G.fin
  exact ⟨⟨hw, hd, rfl, G.ok.keep⟩, F.inv, G.trn, trivial, G.nof, F.env, F.step, G.live, G.apart, F.held⟩
end Z


set_option Elab.async false
set_option linter.all false
set_option maxRecDepth 100000
/-! generator expressions with two clauses: the outer loop's turns -/
namespace Z
open PySem PySem.Spec PyProof.Rows L2
section
variable {Xg : Cx} {σ : L2.St} {δw : DE} {fp : List Addr} {tn : Nat → Heap → Prop} {H1 : Hp} {ow L Sc : List Addr} {vs vs1 : List Nat} {cd : Nat → List D} {stop : D → Bool} {R0 : List D} {Ac : Around} {cenv : Env} {elt t0 i0 t1 i1 : Expr} {ifs0 ifs1 : List Expr} {scope : Scope} {pos : Pos} {it : Addr} {J : It} {xs : List D} {b b1 : Bnd} {mt mt1 : DenT} {ms1 : DenS} {me : Den} {qt q1 qt1 qe : Bool}
end
end Z


set_option Elab.async false
set_option linter.all false
set_option maxRecDepth 100000
/-! generator expressions with two clauses: begun, made -/
namespace Z
open PySem PySem.Spec PyProof.Rows L2
section
variable {Xg : Cx} {σ : L2.St} {δw : DE} {fp : List Addr} {tn : Nat → Heap → Prop} {H1 : Hp} {ow L Sc : List Addr} {vs vs1 : List Nat} {cd : Nat → List D} {stop : D → Bool} {R0 : List D} {Ac : Around} {cenv : Env} {elt t0 i0 t1 i1 : Expr} {ifs0 ifs1 : List Expr} {scope : Scope} {pos : Pos} {it : Addr} {J : It} {xs : List D} {b b1 : Bnd} {mt mt1 : DenT} {ms1 : DenS} {me : Den} {qt q1 qt1 qe : Bool}
end
section
variable {X : Cx} {pins : List (Addr × Obj)} {σ : L2.St} {H : Hp} {s : Shared} {elt tg iter t1 i1 : Expr} {ifs ifs1 : List Expr} {scope : Scope} {own : List (Str × Nat)} {pos : Pos} {ms ms1 : DenS} {b b1 : Bnd} {mt mt1 : DenT} {me : Den} {q qt q1 qt1 qe : Bool} {vs1 : List Nat} {k : Nat} {stop : D → Bool}
end
end Z


set_option Elab.async false
set_option linter.all false
set_option maxRecDepth 100000
/-! all, any, and others of a generator expression with two clauses -/
namespace Z
open PySem PySem.Spec PyProof.Rows L2
/-- a judgement of a generator expression that a consumer will walk; nothing is told of its length -/
structure PGy (X : Cx) (k : Nat) (e : Expr) (stop : D → Bool) (m : DE → Option (List D × DE)) : Prop where
  run : ∀ (pins : List (Addr × Obj)) (s : Shared) (σ : L2.St) (H : Hp) (δ : DE) (o : List Addr) (R0 : List D) (δ1 : DE) (Q : Value → Shared → Prop), Inv X pins σ H s → Envs (kx X) H σ δ o → Nd o → m δ = some (R0, δ1) →
    (∀ a s5 Hx o1, Step H Hx o → Envs (kx X) Hx σ δ1 o1 → Own H o o1 → GMk X pins σ δ1 o1 Hx k a stop R0 s5 → Q (.ref a) s5) → wpAny (model X.prog X.w) X.A (eval e X.env) Q X.xe s
section
variable {X : Cx} {elt tg iter t1 i1 : Expr} {ifs ifs1 : List Expr} {scope : Scope} {own : List (Str × Nat)} {pos : Pos} {ms ms1 : DenS} {b b1 : Bnd} {mt mt1 : DenT} {me : Den} {q qt q1 qt1 qe : Bool} {vs1 : List Nat} {k : Nat} {stop : D → Bool}
end
end Z


set_option Elab.async false
set_option linter.all false
set_option maxRecDepth 100000
/-! dicts: what stands at an address -/
namespace Z
open PySem PySem.Spec PyProof.Rows L2
def keyA : D → Bool
  | .int _ => true
  | .str _ => true
  | _ => false
def kA : D → L2.Key
  | .int i => .inl i
  | .str x => .inr x
  | _ => .inl 0
/-- keys of one kind -/
def famOk (ks : List D) : Bool := ks.all keyT || ks.all keyA
def lookD : List D → List D → D → Option D
  | k' :: ks, v :: vs, k => if k' = k then some v else lookD ks vs k
  | _, _, _ => none
def setD : List D → List D → D → D → List D
  | k' :: ks, v' :: vs, k, v => (if k' = k then v else v') :: setD ks vs k v
  | _, _, _, _ => []
theorem kA_inj {a b : D} (ha : keyA a = true) (hb : keyA b = true) (h : kA a = kA b) : a = b := by
  cases a <;> cases b <;> simp_all [keyA, kA]
theorem keyA_hash {w : World} {a : D} (ha : keyA a = true) : keyH w (kA a) = (dNK a).hash w := by
  cases a <;> simp_all [keyA, kA, keyH, dNK, NestedKey.hash]
theorem keyT_inj {a b : D} (ha : keyT a = true) (hb : keyT b = true) (h : dNK a = dNK b) : a = b := by
  simp only [keyT, Bool.and_eq_true] at ha hb
  exact dNK_inj a b ha.1.1.2 hb.1.1.2 ha.1.2 hb.1.2 h
section
variable {κ : Type} [DecidableEq κ] {K : Fw} {H : Hp}
/-- a look, by whatever stands for keys -/
theorem val_look (f : D → κ) {k : D} : ∀ (ks vs : List D) (vvs : List V) (kvs : List (κ × Value)), kvs.map (·.1) = ks.map f → Vals vvs (kvs.map (·.2)) → Reps K H vs vvs [] → ks.length = vs.length → (∀ k' ∈ ks, f k' = f k → k' = k) →
    (∀ v, lookD ks vs k = some v → ∃ vv u, valueAt kvs (f k) = some u ∧ RelV vv u ∧ Rep K H v vv []) ∧ (lookD ks vs k = none → valueAt kvs (f k) = none)
  | [], [], vvs, kvs, hk, _, _, _, _ => by
    cases kvs with
    | nil => exact ⟨fun v h => by simp [lookD] at h, fun _ => rfl⟩
    | cons _ _ => simp at hk
  | [], _ :: _, _, _, _, _, _, h, _ => by simp at h
  | _ :: _, [], _, _, _, _, _, h, _ => by simp at h
  | k' :: ks, v' :: vs, vvs, kvs, hk, hv, hr, hl, hi => by
    cases kvs with
    | nil => simp at hk
    | cons kv kvs =>
      simp only [List.map_cons, List.cons.injEq] at hk
      obtain ⟨w, wr, o1, o2, rfl, h1, h2, he⟩ := hr
      obtain ⟨rfl, rfl⟩ := List.append_eq_nil_iff.mp he.symm
      cases hv with
      | cons r1 r2 =>
        have ih := val_look f ks vs wr kvs hk.2 r2 h2 (by simpa using hl) (fun k2 h3 => hi k2 (List.mem_cons_of_mem _ h3))
        by_cases e : k' = k
        · subst e
          have : valueAt (kv :: kvs) (f k') = some kv.2 := by simp [valueAt, List.find?_cons, hk.1]
          exact ⟨fun v h => by simp only [lookD, if_true, Option.some.injEq] at h; subst h; exact ⟨w, kv.2, this, r1, h1⟩, fun h => by simp [lookD] at h⟩
        · have ne : ¬ kv.1 = f k := fun z => e (hi k' List.mem_cons_self (by rw [← hk.1]; exact z))
          have : valueAt (kv :: kvs) (f k) = valueAt kvs (f k) := by simp [valueAt, List.find?_cons, ne]
          rw [this]
          simp only [lookD, e, if_false]
          exact ih
theorem look_some : ∀ {ks vs : List D} {k : D}, ks.length = vs.length → ((lookD ks vs k).isSome = true ↔ k ∈ ks)
  | [], [], k, _ => by simp [lookD]
  | [], _ :: _, _, h => by simp at h
  | _ :: _, [], _, h => by simp at h
  | k' :: ks, v :: vs, k, h => by
    simp only [lookD]
    by_cases e : k' = k
    · simp [e]
    · rw [if_neg e, look_some (by simpa using h), List.mem_cons]
      exact ⟨.inr, fun z => z.resolve_left fun z => e z.symm⟩
theorem val_put (f : D → κ) {k v : D} {vv : V} {u : Value} (ru : RelV vv u) (rr : Rep K H v vv []) : ∀ (ks vs : List D) (vvs : List V) (kvs : List (κ × Value)), kvs.map (·.1) = ks.map f → Vals vvs (kvs.map (·.2)) → Reps K H vs vvs [] → ks.length = vs.length → (∀ k' ∈ ks, f k' = f k → k' = k) →
    (kvs.map fun kv => if kv.1 = f k then (kv.1, u) else kv).map (·.1) = ks.map f ∧ ∃ vvs', Vals vvs' ((kvs.map fun kv => if kv.1 = f k then (kv.1, u) else kv).map (·.2)) ∧ Reps K H (setD ks vs k v) vvs' []
  | [], [], vvs, kvs, hk, _, _, _, _ => by
    cases kvs with
    | nil => exact ⟨rfl, [], .nil, ⟨rfl, rfl⟩⟩
    | cons _ _ => simp at hk
  | [], _ :: _, _, _, _, _, _, h, _ => by simp at h
  | _ :: _, [], _, _, _, _, _, h, _ => by simp at h
  | k' :: ks, v' :: vs, vvs, kvs, hk, hv, hr, hl, hi => by
    cases kvs with
    | nil => simp at hk
    | cons kv kvs =>
      simp only [List.map_cons, List.cons.injEq] at hk
      obtain ⟨w, wr, o1, o2, rfl, h1, h2, he⟩ := hr
      obtain ⟨rfl, rfl⟩ := List.append_eq_nil_iff.mp he.symm
      cases hv with
      | cons r1 r2 =>
        obtain ⟨ih1, vvs', ih2, ih3⟩ := val_put f ru rr ks vs wr kvs hk.2 r2 h2 (by simpa using hl) (fun k2 h3 => hi k2 (List.mem_cons_of_mem _ h3))
        by_cases e : k' = k
        · subst e
          simp only [List.map_cons, hk.1, if_true, setD]
          exact ⟨by rw [ih1], vv :: vvs', .cons ru ih2, ⟨vv, vvs', [], [], rfl, rr, ih3, rfl⟩⟩
        · have ne : ¬ kv.1 = f k := fun z => e (hi k' List.mem_cons_self (by rw [← hk.1]; exact z))
          simp only [List.map_cons, if_neg ne, setD, if_neg e]
          exact ⟨by rw [ih1, hk.1], w :: vvs', .cons r1 ih2, ⟨w, vvs', [], [], rfl, h1, ih3, rfl⟩⟩
end
/-- k gets the value v -/
def putD (ks vs : List D) (k v : D) : List D × List D := if k ∈ ks then (ks, setD ks vs k v) else (ks ++ [k], vs ++ [v])
section
variable {X : Cx} {pins : List (Addr × Obj)} {σ : L2.St} {H : Hp} {s : Shared}
/-- a key that is a tuple, in the heap -/
theorem key_heap (I : Inv X pins σ H s) {k : D} {y : V} {oy : List Addr} {u : Value} (hk : keyT k = true) (r : Rep X.F H k y oy) (ru : RelV y u) : ∃ b, y = .ref b ∧ u = .ref b ∧ (nestedKind X.prog X.w).is s.heap (dNK k) b := by
  simp only [keyT, Bool.and_eq_true] at hk
  obtain ⟨⟨⟨h1, h2⟩, h3⟩, h4⟩ := hk
  obtain ⟨as, rd⟩ := Rep.reads I r ru (r.roI (D.nol_imm _ h2))
  have nk := nested_reads k u as h2 rd
  have h4 := of_decide_eq_true h4
  have dk := dNK_depth k
  cases k <;> simp only [isTup, Bool.false_eq_true] at h1
  obtain ⟨b, vs, rfl, _⟩ := r
  cases ru
  exact ⟨b, rfl, rfl, nk, by omega⟩
theorem key_val {K : Fw} {H : Hp} {k : D} {y : V} {oy : List Addr} {u : Value} (hk : keyA k = true) (r : Rep K H k y oy) (ru : RelV y u) : y = kV (kA k) ∧ (mixKind X.prog X.w).is (kA k) u = true := by
  cases k <;> simp only [keyA, Bool.false_eq_true] at hk
  · obtain ⟨rfl, _⟩ := r
    exact ⟨rfl, kV_is (P := X.prog) (w := X.w) (k := .inl _) ru⟩
  · obtain ⟨rfl, _⟩ := r
    exact ⟨rfl, kV_is (P := X.prog) (w := X.w) (k := .inr _) ru⟩
/-- keys that are tuples -/
theorem ents_heap (I : Inv X pins σ H s) : ∀ {ks : List D} {kvs vvs : List V} {es : List DictEntry}, Ents X.w ks kvs vvs es → Reps X.F H ks kvs [] → (∀ k ∈ ks, keyT k = true) →
    ∃ xs : List (NestedKey × Addr × Value), es = xs.map (entryOfKey (nestedKind X.prog X.w)) ∧ xs.map (·.1) = ks.map dNK ∧ kvs = xs.map (fun x => V.ref x.2.1) ∧ Vals vvs (xs.map (·.2.2)) ∧ ∀ x ∈ xs, (nestedKind X.prog X.w).is s.heap x.1 x.2.1
  | [], [], [], [], _, _, _ => ⟨[], rfl, rfl, rfl, .nil, (fun x hx => nomatch hx)⟩
  | k :: ks, kv :: kvs, vv :: vvs, e :: es, en, rk, hk => by
    obtain ⟨v, vr, o1, o2, e1, h1, h2, he⟩ := rk
    obtain ⟨rfl, rfl⟩ := List.append_eq_nil_iff.mp he.symm
    cases e1
    obtain ⟨en1, en2, en3, en4⟩ := en
    obtain ⟨b, rfl, eb, nk⟩ := key_heap I (hk k List.mem_cons_self) h1 en2
    obtain ⟨xs, x1, x2, x3, x4, x5⟩ := ents_heap I en4 h2 fun k2 h => hk k2 (List.mem_cons_of_mem _ h)
    refine ⟨(dNK k, b, e.val) :: xs, ?_, ?_, ?_, .cons en3 x4, fun x hx => ?_⟩
    · rw [List.map_cons, ← x1]
      congr 1
      obtain ⟨e1, e2, e3⟩ := e
      simp only at en1 eb
      rw [en1, eb]; rfl
    · rw [List.map_cons, List.map_cons, x2]
    · rw [List.map_cons, ← x3]
    · rcases List.mem_cons.mp hx with rfl | hx
      · exact nk
      · exact x5 x hx
  | [], [], [], _ :: _, h, _, _ => h.elim
  | [], [], _ :: _, _, h, _, _ => h.elim
  | [], _ :: _, _, _, h, _, _ => h.elim
  | _ :: _, [], _, _, h, _, _ => h.elim
  | _ :: _, _ :: _, [], _, h, _, _ => h.elim
  | _ :: _, _ :: _, _ :: _, [], h, _, _ => h.elim
/-- keys that are whole numbers and texts -/
theorem ents_val {H : Hp} : ∀ {ks : List D} {kvs vvs : List V} {es : List DictEntry}, Ents X.w ks kvs vvs es → Reps X.F H ks kvs [] → (∀ k ∈ ks, keyA k = true) →
    ∃ ps : List (L2.Key × Value), (∀ e ∈ es, ∃ k, keyIs k e.key = true ∧ e.hash = keyH X.w k) ∧ Pairs (mixKind X.prog X.w) es ps ∧ ps.map (·.1) = ks.map kA ∧ Vals vvs (ps.map (·.2))
  | [], [], [], [], _, _, _ => ⟨[], (fun _ h => nomatch h), .nil, rfl, .nil⟩
  | k :: ks, kv :: kvs, vv :: vvs, e :: es, en, rk, hk => by
    obtain ⟨v, vr, o1, o2, e1, h1, h2, he⟩ := rk
    obtain ⟨rfl, rfl⟩ := List.append_eq_nil_iff.mp he.symm
    cases e1
    obtain ⟨en1, en2, en3, en4⟩ := en
    have hk1 := hk k List.mem_cons_self
    obtain ⟨rfl, eb⟩ := key_val (X := X) hk1 h1 en2
    obtain ⟨ps, x1, x2, x3, x4⟩ := ents_val en4 h2 fun k2 h => hk k2 (List.mem_cons_of_mem _ h)
    refine ⟨(kA k, e.val) :: ps, fun e' he' => ?_, .cons eb rfl x2, by rw [List.map_cons, List.map_cons, x3], .cons en3 x4⟩
    rcases List.mem_cons.mp he' with rfl | he'
    · exact ⟨kA k, eb, by rw [en1, keyA_hash hk1]⟩
    · exact x1 e' he'
  | [], [], [], _ :: _, h, _, _ => h.elim
  | [], [], _ :: _, _, h, _, _ => h.elim
  | [], _ :: _, _, _, h, _, _ => h.elim
  | _ :: _, [], _, _, h, _, _ => h.elim
  | _ :: _, _ :: _, [], _, h, _, _ => h.elim
  | _ :: _, _ :: _, _ :: _, [], h, _, _ => h.elim
theorem nodup_map {α β : Type} {f : α → β} : ∀ {l : List α}, l.Nodup → (∀ a ∈ l, ∀ b ∈ l, f a = f b → a = b) → (l.map f).Nodup
  | [], _, _ => List.nodup_nil
  | a :: l, n, h => by
    rw [List.nodup_cons] at n
    rw [List.map_cons, List.nodup_cons]
    refine ⟨fun hm => ?_, nodup_map n.2 fun x hx y hy => h x (List.mem_cons_of_mem _ hx) y (List.mem_cons_of_mem _ hy)⟩
    obtain ⟨b, hb, e⟩ := List.mem_map.mp hm
    have := h a List.mem_cons_self b (List.mem_cons_of_mem _ hb) e.symm
    exact n.1 (this ▸ hb)
/-- the dict at a, in the heap, of one or the other kind; the key k is of that kind -/
inductive DV (X : Cx) (s : Shared) (a : Addr) (k : D) (ks : List D) (kvs vvs : List V) : Prop
  | t (xs : List (NestedKey × Addr × Value)) (hk : ∀ x ∈ k :: ks, keyT x = true) (d : s.heap.DictOfH (nestedKind X.prog X.w) a xs) (k1 : xs.map (·.1) = ks.map dNK) (k2 : kvs = xs.map (fun x => V.ref x.2.1)) (v : Vals vvs (xs.map (·.2.2)))
  | a (ps : List (L2.Key × Value)) (hk : ∀ x ∈ k :: ks, keyA x = true) (d : s.heap.DictOf (mixKind X.prog X.w) a ps) (k1 : ps.map (·.1) = ks.map kA) (v : Vals vvs (ps.map (·.2)))
theorem dv_of (I : Inv X pins σ H s) {a : Addr} {k : D} {ks : List D} {kvs vvs : List V} {es : Array DictEntry} (hq : H a = some (.ext (DicP a es))) (hn : ks.Nodup) (rk : Reps X.F H ks kvs []) (en : Ents X.w ks kvs vvs es.toList) (hf : famOk (k :: ks) = true) : DV X s a k ks kvs vvs := by
  obtain ⟨o, ep, e1, e2, e3⟩ := (I.hok a _ hq).1
  simp only [famOk, Bool.or_eq_true, List.all_eq_true] at hf
  rcases hf with hf | hf
  · have hf' : ∀ x ∈ ks, keyT x = true := fun x hx => hf x (List.mem_cons_of_mem _ hx)
    obtain ⟨xs, x1, x2, x3, x4, x5⟩ := ents_heap I en rk hf'
    exact .t xs hf ⟨o, es, ep, e1, e2, e3, x1, x5, by rw [x2]; exact nodup_map hn fun a ha b hb e => keyT_inj (hf' a ha) (hf' b hb) e⟩ x2 x3 x4
  · have hf' : ∀ x ∈ ks, keyA x = true := fun x hx => hf x (List.mem_cons_of_mem _ hx)
    obtain ⟨ps, x1, x2, x3, x4⟩ := ents_val (X := X) en rk hf'
    exact .a ps hf ⟨o, es, ep, e1, e2, e3, fun e he => x1 e (by simpa using he), x2, by rw [x3]; exact nodup_map hn fun a ha b hb e => kA_inj (hf' a ha) (hf' b hb) e⟩ x3 x4
theorem look_is {κ : Type} [DecidableEq κ] {K : Fw} {H : Hp} (f : D → κ) {k : D} {ks vs : List D} {vvs : List V} {kvs : List (κ × Value)} (h1 : kvs.map (·.1) = ks.map f) (h2 : Vals vvs (kvs.map (·.2))) (h3 : Reps K H vs vvs []) (h4 : ks.length = vs.length) (h5 : ∀ k' ∈ ks, f k' = f k → k' = k) : (valueAt kvs (f k)).isSome = decide (k ∈ ks) := by
  obtain ⟨a1, a2⟩ := val_look f ks vs vvs kvs h1 h2 h3 h4 h5
  have q := look_some (ks := ks) (vs := vs) (k := k) h4
  cases hl : lookD ks vs k with
  | some v =>
    obtain ⟨_, u, e, _⟩ := a1 v hl
    have : k ∈ ks := q.mp (by rw [hl]; rfl)
    rw [e]; simp [this]
  | none =>
    rw [a2 hl]
    rw [hl] at q
    have : k ∉ ks := fun z => by have := q.mpr z; simp at this
    simp [this]
end
end Z


set_option Elab.async false
set_option linter.all false
set_option maxRecDepth 100000
/-! dicts: d[k], k in d, len(d) -/
namespace Z
open PySem PySem.Spec PyProof.Rows L2
def fDGet : List D → Option D
  | [.dic ks vs, k] => if famOk (k :: ks) then lookD ks vs k else none
  | _ => none
def fDNotIn : List D → Option D
  | [k, .dic ks _] => if famOk (k :: ks) then some (.bl (!decide (k ∈ ks))) else none
  | _ => none
def fDLen : List D → Option D
  | [.dic ks _] => if famOk ks then some (.int ks.length) else none
  | _ => none
theorem pairsH_fst {K : Type} (xs : List (K × Addr × Value)) : (pairsH xs).map (·.1) = xs.map (·.1) := by simp [pairsH, List.map_map, Function.comp_def]
theorem pairsH_snd {K : Type} (xs : List (K × Addr × Value)) : (pairsH xs).map (·.2) = xs.map (·.2.2) := by simp [pairsH, List.map_map, Function.comp_def]
section
variable {X : Cx}
theorem ents_len {w : World} {ks vs : List D} {kvs vvs : List V} {es : List DictEntry} {K : Fw} {H : Hp} (en : Ents w ks kvs vvs es) (rv : Reps K H vs vvs []) : ks.length = vs.length := by
  rw [← rv.length]; exact (ents_length en).2.1.symm
theorem room_in1 {A : Around} (hu : A.units + 65 < cLine) : (nestedKind X.prog X.w).room A.in1 := by
  show A.units + 1 + 8 < cLine
  omega
theorem o_dnotin (hu : X.A.units + 65 < cLine) : OpR X (compareOp .NotIn) fun x y => Pr X.F fDNotIn [x, y] := by
  intro pins s σ H x y v u Q I rx ry h
  obtain ⟨ds, o, d, r, e, k0, _⟩ := pr_end h
  obtain ⟨k, b, oa, ob, rfl, ra, rb⟩ := reps2 r
  unfold fDNotIn at e
  split at e
  · rename_i k' ks vs he
    injection he with he1 he2
    injection he2 with he2 he3
    subst he1 he2
    obtain ⟨a, kvs, vvs, es, rfl, hq, hd, hs, ⟨hn, hl⟩, rk, rv, en, rfl⟩ := rb
    cases (show u = Value.ref a from ry)
    split at e
    · rename_i hf
      cases (Option.some.inj e)
      have hlen := ents_len en rv
      cases dv_of I hq hn rk en hf with
      | t xs hk dd k1 k2 vv =>
        obtain ⟨c, rfl, rfl, nk⟩ := key_heap I (hk _ List.mem_cons_self) ra rx
        refine wpAny_notIn_heap (room_in1 hu) nk hs dd ?_
        have q := look_is (k := k) dNK (ks := ks) (vs := vs) (kvs := pairsH xs) (by rw [pairsH_fst, k1]) (by rw [pairsH_snd]; exact vv) rv hlen (fun k' h e => keyT_inj (hk _ (List.mem_cons_of_mem _ h)) (hk _ List.mem_cons_self) e)
        rw [valueAt_pairsH, Option.isSome_map] at q
        rw [q]
        exact ⟨.bl _, H, I.tok _, rfl, k0 _ ⟨rfl, rfl⟩⟩
      | a ps hk dd k1 vv =>
        obtain ⟨rfl, ku⟩ := key_val (X := X) (hk _ List.mem_cons_self) ra rx
        refine wpAny_notIn_of (knd := mixKind X.prog X.w) ku hs dd.mapOf ?_
        have q := look_is (k := k) kA (ks := ks) (vs := vs) (kvs := ps) k1 vv rv hlen (fun k' h e => kA_inj (hk _ (List.mem_cons_of_mem _ h)) (hk _ List.mem_cons_self) e)
        rw [q]
        exact ⟨.bl _, H, I.tok _, rfl, k0 _ ⟨rfl, rfl⟩⟩
    · cases e
  · cases e
/-- the value of a key -/
theorem dic_get {pins : List (Addr × Obj)} {σ : L2.St} {H : Hp} {s : Shared} {A : Around} {E : Value → Shared → Prop} {a : Addr} {o oy : List Addr} {k v : D} {ks vs : List D} {y : V} {u : Value} {Q : Value → Shared → Prop} (hu : A.units + 65 < cLine) (I : Inv X pins σ H s) (rd : Rep X.F H (.dic ks vs) (.ref a) o) (rk : Rep X.F H k y oy) (ry : RelV y u) (hf : famOk (k :: ks) = true) (hl : lookD ks vs k = some v)
    (h : ∀ w vv tk, RelV vv w → Rep X.F H v vv [] → Q w { s with toks := tk }) : wpAny (model X.prog X.w) A (getItem (.ref a) u) Q E s := by
  obtain ⟨a', kvs, vvs, es, e0, hq, hd, hs, ⟨hn, _⟩, rks, rv, en, _⟩ := rd
  cases e0
  have hlen := ents_len en rv
  cases dv_of I hq hn rks en hf with
  | t xs hk dd k1 k2 vv =>
    obtain ⟨c, rfl, rfl, nk⟩ := key_heap I (hk _ List.mem_cons_self) rk ry
    obtain ⟨w, z, e, rz, rep⟩ := (val_look dNK ks vs vvs (pairsH xs) (by rw [pairsH_fst, k1]) (by rw [pairsH_snd]; exact vv) rv hlen (fun k' h e => keyT_inj (hk _ (List.mem_cons_of_mem _ h)) (hk _ List.mem_cons_self) e)).1 v hl
    rw [valueAt_pairsH] at e
    obtain ⟨p, hp, hp2⟩ := Option.map_eq_some_iff.mp e
    refine wpAny_getItem_heap (room_in1 hu) nk dd hp ?_
    rw [hp2]
    exact h _ _ _ rz rep
  | a ps hk dd k1 vv =>
    obtain ⟨rfl, ku⟩ := key_val (X := X) (hk _ List.mem_cons_self) rk ry
    obtain ⟨w, z, e, rz, rep⟩ := (val_look kA ks vs vvs ps k1 vv rv hlen (fun k' h e => kA_inj (hk _ (List.mem_cons_of_mem _ h)) (hk _ List.mem_cons_self) e)).1 v hl
    exact wpAny_getItem_of (knd := mixKind X.prog X.w) ku dd.mapOf e (h _ _ _ rz rep)
theorem dic_type {pins : List (Addr × Obj)} {σ : L2.St} {H : Hp} {s : Shared} {a : Addr} {ks vs : List D} {o : List Addr} (I : Inv X pins σ H s) (rd : Rep X.F H (.dic ks vs) (.ref a) o) : s.TypeIs (.ref a) "dict" := by
  obtain ⟨a', kvs, vvs, es, e0, hq, _⟩ := rd
  cases e0
  obtain ⟨ob, ep, e1, e2, e3⟩ := (I.hok a _ hq).1
  exact ⟨ob, e1, e2.1⟩
theorem ix_dic (hu : X.A.units + 65 < cLine) : IxR X fun x y => Pr X.F fDGet [x, y] := by
  intro value slice pins s σ H x y v u Q I rx ry h hsu
  obtain ⟨ds, o, d, r, e, k0, _⟩ := pr_end h
  obtain ⟨b, k, oa, ob, rfl, rb, ra⟩ := reps2 r
  unfold fDGet at e
  split at e
  · rename_i ks vs k' he
    cases he
    split at e
    · rename_i hf
      obtain ⟨a, _, _, _, rfl, _⟩ := id rb
      cases (show v = Value.ref a from rx)
      exact tail_any (dic_type I rb) slot_dict_getitem.lookup (dic_get hu I rb ra ry hf e fun w vv tk rz rep => ⟨vv, H, I.tok tk, rz, k0 _ rep⟩) hsu
    · cases e
  · cases e
theorem z_dget {a b : Expr} {qa qb : Bool} {ma mb : Den} {pos : Pos} (hu : X.A.units + 65 < cLine) (ha : PE X a (T (kx X) qa ma)) (hb : PE X b (T (kx X) qb mb)) (hs : PlainIx b := by exact fun _ _ => rfl) : PE X (.Subscript a b pos) (T (kx X) (qa && (qb && true)) (dCall fDGet (d2 qb ma mb))) :=
  PE.imp (pe_ix (ix_dic hu) ha hb hs) fun σ H Q h => t_two (Q := fun x y H2 => Pr X.F fDGet [x, y] H2 Q) ((t_call h).imp fun vs H1 p x y e => by rw [← e]; exact p)
theorem fam_head {ks : List D} (h : famOk ks = true) : ∃ k, famOk (k :: ks) = true := by
  cases ks with
  | nil => exact ⟨.tup [], by decide⟩
  | cons k ks =>
    refine ⟨k, ?_⟩
    simp only [famOk, List.all_cons, Bool.or_eq_true, Bool.and_eq_true] at h ⊢
    rcases h with h | h
    · exact .inl ⟨h.1, h⟩
    · exact .inr ⟨h.1, h⟩
theorem c_dlen : CallR X (.builtin "len") fun xs H Q => Pr X.F fDLen xs H Q := by
  intro pins s σ H xs us Q I r h
  obtain ⟨ds, o, d, rr, e, k0, k⟩ := pr_end h
  unfold fDLen at e
  split at e
  · rename_i ks vs
    split at e
    · rename_i hf
      cases (Option.some.inj e)
      obtain ⟨x, xr, o1, o2, rfl, rd, ⟨rfl, _⟩, _⟩ := rr
      cases r with
      | cons r1 r2 =>
        cases r2
        obtain ⟨a, kvs, vvs, es, rfl, hq, hd, hs, ⟨hn, hl⟩, rk, rv, en, rfl⟩ := rd
        cases r1
        have hl2 : ks.length < 2 ^ 63 := by have h2 : sizeLine < 2 ^ 63 := by decide
                                            omega
        obtain ⟨k1, hf1⟩ := fam_head hf
        cases dv_of I hq hn rk en hf1 with
        | t xs hk dd k1 k2 vv =>
          have hx : xs.length = ks.length := by have := congrArg List.length k1; simpa using this
          refine call_len_dictH hs dd (by omega) ?_
          rw [hx]
          exact ⟨.int _, H, I.tok _, ⟨_, rfl⟩, k0 _ ⟨rfl, rfl⟩⟩
        | a ps hk dd k1 vv =>
          have hx : ps.length = ks.length := by have := congrArg List.length k1; simpa using this
          refine call_len_dict (knd := mixKind X.prog X.w) hs dd (by omega) ?_
          rw [hx]
          exact ⟨.int _, H, I.tok _, ⟨_, rfl⟩, k0 _ ⟨rfl, rfl⟩⟩
    · cases e
  · cases e
end
end Z


set_option Elab.async false
set_option linter.all false
set_option maxRecDepth 100000
/-! dicts: {}, {k: v}, d[k] = v -/
namespace Z
open PySem PySem.Spec PyProof.Rows L2
/-- the entries, told by pairs of keys by value -/
theorem ents_ofA {w : World} : ∀ {ks : List D} {vvs : List V} {es : List DictEntry} {ps : List (L2.Key × Value)} {prog : Program}, (∀ e ∈ es, ∃ k, keyIs k e.key = true ∧ e.hash = keyH w k) → Pairs (mixKind prog w) es ps → ps.map (·.1) = ks.map kA → (∀ k ∈ ks, keyA k = true) → Vals vvs (ps.map (·.2)) →
    Ents w ks (ks.map fun k => kV (kA k)) vvs es
  | [], vvs, es, ps, prog, _, hp, hk, _, hv => by
    cases ps with
    | nil => cases hp; cases hv; trivial
    | cons _ _ => simp at hk
  | k :: ks, vvs, es, ps, prog, h1, hp, hk, ha, hv => by
    cases ps with
    | nil => simp at hk
    | cons p ps =>
      simp only [List.map_cons, List.cons.injEq] at hk
      cases hp with
      | cons g1 g2 g3 =>
        rename_i e es
        cases hv with
        | cons r1 r2 =>
          have g1 : keyIs p.1 e.key = true := g1
          rw [hk.1] at g1
          have hak := ha k List.mem_cons_self
          refine ⟨?_, ?_, by rw [g2]; exact r1, ents_ofA (fun e he => h1 e (List.mem_cons_of_mem _ he)) g3 hk.2 (fun k2 h => ha k2 (List.mem_cons_of_mem _ h)) r2⟩
          · obtain ⟨k2, e1, e2⟩ := h1 e List.mem_cons_self
            have := (mixKind prog w).inj e.key k2 (kA k) e1 g1
            rw [e2, this, keyA_hash hak]
          · cases k <;> simp only [keyA, Bool.false_eq_true] at hak
            · rcases keyIs_shape g1 with ⟨i, t, e1, e2⟩ | ⟨x, t, e1, e2⟩
              · cases e1; exact ⟨t, e2⟩
              · cases e1
            · rcases keyIs_shape g1 with ⟨i, t, e1, e2⟩ | ⟨x, t, e1, e2⟩
              · cases e1
              · cases e1; exact ⟨t, e2⟩
theorem ents_ofH {w : World} {prog : Program} : ∀ {ks : List D} {vvs : List V} {xs : List (NestedKey × Addr × Value)}, xs.map (·.1) = ks.map dNK → Vals vvs (xs.map (·.2.2)) → Ents w ks (xs.map fun x => V.ref x.2.1) vvs (xs.map (entryOfKey (nestedKind prog w)))
  | [], vvs, xs, hk, hv => by
    cases xs with
    | nil => cases hv; trivial
    | cons _ _ => simp at hk
  | k :: ks, vvs, xs, hk, hv => by
    cases xs with
    | nil => simp at hk
    | cons x xs =>
      simp only [List.map_cons, List.cons.injEq] at hk
      cases hv with
      | cons r1 r2 => exact ⟨by rw [← hk.1]; rfl, rfl, r1, ents_ofH hk.2 r2⟩
theorem repsA {K : Fw} {H : Hp} : ∀ {ks : List D} {kvs : List V} {o : List Addr}, Reps K H ks kvs o → (∀ k ∈ ks, keyA k = true) → kvs = ks.map fun k => kV (kA k)
  | [], _, _, h, _ => h.1
  | k :: ks, _, _, h, ha => by
    obtain ⟨v, vr, o1, o2, rfl, h1, h2, _⟩ := h
    have hk := ha k List.mem_cons_self
    rw [List.map_cons, ← repsA h2 fun k2 h => ha k2 (List.mem_cons_of_mem _ h)]
    cases k <;> simp only [keyA, Bool.false_eq_true] at hk
    · obtain ⟨rfl, _⟩ := h1; rfl
    · obtain ⟨rfl, _⟩ := h1; rfl
theorem nodup_snoc {ks : List D} {k : D} (h : ks.Nodup) (hk : k ∉ ks) : (ks ++ [k]).Nodup := by
  rw [List.nodup_append]
  exact ⟨h, by simp, fun a ha b hb e => by rw [List.mem_singleton.mp hb] at e; exact hk (e ▸ ha)⟩
section
variable {X : Cx} {pins : List (Addr × Obj)} {σ : L2.St} {H : Hp} {s : Shared}
/-- d[k] = v, at the level of the heap -/
theorem dic_set {A : Around} {E : Value → Shared → Prop} {a : Addr} {o : List Addr} {k v : D} {ks vs : List D} {y vv : V} {u w : Value} {Q : Unit → Shared → Prop} (hu : A.units + 65 < cLine) (I : Inv X pins σ H s) (rd : Rep X.F H (.dic ks vs) (.ref a) o) (rk : Rep X.F H k y []) (ry : RelV y u) (rv : Rep X.F H v vv []) (rw' : RelV vv w)
    (hf : famOk (k :: ks) = true) (hlen : ks.length < sizeLine)
    (h : ∀ es s', Inv X pins σ (upd H a (.ext (DicP a es))) s' → IsDic (DicP a es) → Rep X.F (upd H a (.ext (DicP a es))) (.dic (putD ks vs k v).1 (putD ks vs k v).2) (.ref a) [a] → Q () s') :
    wpAny (model X.prog X.w) A (setItem (.ref a) u w) Q E s := by
  obtain ⟨a', kvs, vvs, es, e0, hq, hd, hs, ⟨hn, hl⟩, rks, rvs, en, _⟩ := rd
  cases e0
  have hlen2 := ents_len en rvs
  have mu : Mut (H a) := by rw [hq]; exact True.intro
  -- what is not the dict is kept
  have fr : ∀ es', Fr0 H (upd H a (.ext (DicP a es'))) [] := fun es' => ⟨(fun b hb => nomatch hb), fun b u' e hsu => by
    rw [upd_ne (fun z => by subst z; rw [hq] at e; cases e; exact hsu hd)]; exact e⟩
  -- the end, for any way of entries
  have fin : ∀ (h' : Heap) (tk : Nat) (es' : Array DictEntry) (kvs' vvs' : List V), DicP a es' h' → Heap.SameBut a s.heap h' → Reps X.F H (putD ks vs k v).1 kvs' [] → Reps X.F H (putD ks vs k v).2 vvs' [] → Ents X.w (putD ks vs k v).1 kvs' vvs' es'.toList → Q () { s with heap := h', toks := tk } := fun h' tk es' kvs' vvs' dp hsb r1 r2 en' => by
    have hq' : ∃ q, h'.get? a = some q := by obtain ⟨o, ep, e, _⟩ := dp; exact ⟨o, e⟩
    refine h es' _ (d_write I mu hsb hq' ⟨dp, hq', fun h1 h2 ⟨o1, ep1, e1, e2, e3⟩ k1 => ⟨o1, ep1, k1 _ e1, e2, e3⟩⟩) (isDic_of dp) ⟨a, kvs', vvs', es', rfl, upd_same, isDic_of dp, hs, ⟨?_, ?_⟩, r1.fr (fr es'), r2.fr (fr es'), en', rfl⟩
    · unfold putD
      split
      · exact hn
      · rename_i hk; exact nodup_snoc hn hk
    · unfold putD
      split
      · exact hl
      · simp; omega
  have inj : ∀ k' ∈ ks, ∀ (f : D → Prop), True := fun _ _ _ => trivial
  cases dv_of I hq hn rks en hf with
  | t xs hk dd k1 k2 vw =>
    obtain ⟨c, rfl, rfl, nk⟩ := key_heap I (hk _ List.mem_cons_self) rk ry
    have hi : ∀ k' ∈ ks, dNK k' = dNK k → k' = k := fun k' h e => keyT_inj (hk _ (List.mem_cons_of_mem _ h)) (hk _ List.mem_cons_self) e
    have hx : xs.length = ks.length := by have := congrArg List.length k1; simpa using this
    refine wpAny_setItem_heap (hsz := by omega) (room_in1 hu) nk dd fun h' dd' hsb => ?_
    obtain ⟨ob, es', ep', e1, e2, e3, e4, e5, e6⟩ := dd'
    have q := look_is (k := k) dNK (ks := ks) (vs := vs) (kvs := pairsH xs) (by rw [pairsH_fst, k1]) (by rw [pairsH_snd]; exact vw) rvs hlen2 hi
    rw [valueAt_pairsH, Option.isSome_map] at q
    by_cases hm : k ∈ ks
    · have hp : putD ks vs k v = (ks, setD ks vs k v) := by unfold putD; rw [if_pos hm]
      obtain ⟨p, hat⟩ : ∃ p, atKey xs (dNK k) = some p := by
        cases hat : atKey xs (dNK k) with
        | none => rw [hat] at q; simp [hm] at q
        | some p => exact ⟨p, rfl⟩
      rw [storedH_old hat] at e4
      obtain ⟨p1, vvs', p2, p3⟩ := val_put dNK rw' rv ks vs vvs (pairsH xs) (by rw [pairsH_fst, k1]) (by rw [pairsH_snd]; exact vw) rvs hlen2 hi
      have e7 : (pairsH xs).map (fun kv => if kv.1 = dNK k then (kv.1, w) else kv) = pairsH (xs.map (putAt (dNK k) w)) := by
        simp only [pairsH, List.map_map]
        apply List.map_congr_left
        intro x _
        simp only [Function.comp, putAt]
        split <;> rfl
      rw [e7, pairsH_fst] at p1
      rw [e7, pairsH_snd] at p2
      refine fin h' _ es' (xs.map fun x => V.ref x.2.1) vvs' ⟨ob, ep', e1, e2, e3⟩ hsb ?_ ?_ ?_
      · rw [hp, ← k2]; exact rks
      · rw [hp]; exact p3
      · rw [hp, e4]
        have e8 : (xs.map fun x => V.ref x.2.1) = (xs.map (putAt (dNK k) w)).map fun x => V.ref x.2.1 := by
          rw [List.map_map]
          apply List.map_congr_left
          intro x _
          simp only [Function.comp, putAt]
          split <;> rfl
        rw [e8]
        exact ents_ofH p1 p2
    · have hp : putD ks vs k v = (ks ++ [k], vs ++ [v]) := by unfold putD; rw [if_neg hm]
      have hat : atKey xs (dNK k) = none := by
        cases hat : atKey xs (dNK k) with
        | none => rfl
        | some p => rw [hat] at q; simp [hm] at q
      rw [storedH_new hat] at e4
      refine fin h' _ es' ((xs ++ [(dNK k, c, w)]).map fun x => V.ref x.2.1) (vvs ++ [vv]) ⟨ob, ep', e1, e2, e3⟩ hsb ?_ ?_ ?_
      · rw [hp, List.map_append, ← k2]; exact (rks.append (Reps.one rk))
      · rw [hp]; exact (rvs.append (Reps.one rv))
      · rw [hp, e4]
        exact ents_ofH (by simp [k1]) (by rw [List.map_append]; exact vw.append (.cons rw' .nil))
  | a ps hk dd k1 vw =>
    obtain ⟨rfl, ku⟩ := key_val (X := X) (hk _ List.mem_cons_self) rk ry
    have hi : ∀ k' ∈ ks, kA k' = kA k → k' = k := fun k' h e => kA_inj (hk _ (List.mem_cons_of_mem _ h)) (hk _ List.mem_cons_self) e
    have hx : ps.length = ks.length := by have := congrArg List.length k1; simpa using this
    refine wpAny_setItem_pairs (knd := mixKind X.prog X.w) (hsz := by omega) ku dd fun h' dd' hsb => ?_
    obtain ⟨ob, es', ep', e1, e2, e3, e4, e5, e6⟩ := dd'
    have q := look_is (k := k) kA (ks := ks) (vs := vs) (kvs := ps) k1 vw rvs hlen2 hi
    have qa : (ps.any fun kv => decide (kv.1 = kA k)) = decide (k ∈ ks) := by
      rw [← q]
      simp only [valueAt, Option.isSome_map, List.find?_isSome]
      rw [Bool.eq_iff_iff]
      simp
    have hks : ∀ x ∈ ks, keyA x = true := fun x hx => hk x (List.mem_cons_of_mem _ hx)
    by_cases hm : k ∈ ks
    · have hp : putD ks vs k v = (ks, setD ks vs k v) := by unfold putD; rw [if_pos hm]
      obtain ⟨p1, vvs', p2, p3⟩ := val_put kA rw' rv ks vs vvs ps k1 vw rvs hlen2 hi
      have e7 : stored ps (kA k) w = ps.map fun kv => if kv.1 = kA k then (kv.1, w) else kv := by unfold stored; rw [if_pos (by rw [qa]; simp [hm])]
      rw [e7] at e5
      refine fin h' _ es' (ks.map fun k => kV (kA k)) vvs' ⟨ob, ep', e1, e2, e3⟩ hsb ?_ ?_ ?_
      · rw [hp, ← repsA rks hks]; exact rks
      · rw [hp]; exact p3
      · rw [hp]; exact ents_ofA (fun e he => e4 e (by simpa using he)) e5 p1 hks p2
    · have hp : putD ks vs k v = (ks ++ [k], vs ++ [v]) := by unfold putD; rw [if_neg hm]
      have e7 : stored ps (kA k) w = ps ++ [(kA k, w)] := by unfold stored; rw [if_neg (by rw [qa]; simp [hm])]
      rw [e7] at e5
      have hks' : ∀ x ∈ ks ++ [k], keyA x = true := fun x hx => (List.mem_append.mp hx).elim (hks x) fun hx => by rw [List.mem_singleton.mp hx]; exact hk _ List.mem_cons_self
      refine fin h' _ es' ((ks ++ [k]).map fun k => kV (kA k)) (vvs ++ [vv]) ⟨ob, ep', e1, e2, e3⟩ hsb ?_ ?_ ?_
      · have r3 : Reps X.F H (ks ++ [k]) (kvs ++ [kV (kA k)]) [] := rks.append (Reps.one rk)
        rw [hp, ← repsA r3 hks']
        exact r3
      · rw [hp]; exact (rvs.append (Reps.one rv))
      · rw [hp]; exact ents_ofA (fun e he => e4 e (by simpa using he)) e5 (by simp [k1]) hks' (by rw [List.map_append]; exact vw.append (.cons rw' .nil))
end
end Z


set_option Elab.async false
set_option linter.all false
set_option maxRecDepth 100000
/-! dicts: the rules for what makes and changes them -/
namespace Z
open PySem PySem.Spec PyProof.Rows L2
def dDisp1 (mk mv : Den) : Den := fun δ => match mk δ with
  | some (.own k, δ1) => match mv δ1 with
    | some (.own v, δ2) => if famOk [k] && k.imm && v.imm then some (.own (.dic [k] [v]), δ2) else none
    | _ => none
  | _ => none
def dDSet (mo mi me : Den) : Blk := fun δ => match me δ with
  | some (.own d, δ1) => match mo δ1 with
    | some (.at s [], δ2) => match mi δ2 with
      | some (.own k, δ3) => match δ3[s]? with
        | some (some (.dic ks vs)) => if famOk (k :: ks) && k.imm && d.imm && decide (ks.length < 1000000) then some (.nx (δ3.set s (some (.dic (putD ks vs k d).1 (putD ks vs k d).2)))) else none
        | _ => none
      | _ => none
    | _ => none
  | _ => none
theorem dDSet_inv {mo mi me : Den} {δ : DE} {out : Out} (h : dDSet mo mi me δ = some out) : ∃ d δ1 s δ2 k δ3 ks vs, me δ = some (.own d, δ1) ∧ mo δ1 = some (.at s [], δ2) ∧ mi δ2 = some (.own k, δ3) ∧ δ3[s]? = some (some (.dic ks vs)) ∧
    famOk (k :: ks) = true ∧ k.imm = true ∧ d.imm = true ∧ ks.length < 1000000 ∧ out = .nx (δ3.set s (some (.dic (putD ks vs k d).1 (putD ks vs k d).2))) := by
  unfold dDSet at h
  split at h
  · split at h
    · split at h
      · split at h
        · split at h
          · rename_i hc
            simp only [Bool.and_eq_true, decide_eq_true_eq] at hc
            exact ⟨_, _, _, _, _, _, _, _, by assumption, by assumption, by assumption, by assumption, hc.1.1.1, hc.1.1.2, hc.1.2, hc.2, (Option.some.inj h).symm⟩
          · cases h
        · cases h
      · cases h
    · cases h
  · cases h
def rDSet (X : Cx) : TSet := fun o i v H Q => ∃ a ks vs k d oa, o = .ref a ∧ Rep X.F H (.dic ks vs) (.ref a) oa ∧ Rep X.F H k i [] ∧ Rep X.F H d v [] ∧ famOk (k :: ks) = true ∧ ks.length < sizeLine ∧
  ∀ es, IsDic (DicP a es) → Rep X.F (upd H a (.ext (DicP a es))) (.dic (putD ks vs k d).1 (putD ks vs k d).2) (.ref a) [a] → Q (upd H a (.ext (DicP a es)))
section
variable {X : Cx}
theorem set_dic (hu : X.A.units + 65 < cLine) : PSet X (rDSet X) := by
  intro pins s σ H o i v ov iv u Q I ro ri rv h
  obtain ⟨a, ks, vs, k, d, oa, rfl, rd, rk, rdv, hf, hl, q⟩ := h
  cases (show ov = Value.ref a from ro)
  exact dic_set hu I rd rk ri rdv rv hf hl fun es s' I' hd r' => ⟨_, I', q es hd r'⟩
theorem z_dset {eo ei e : Expr} {qo qi q : Bool} {mo mi me : Den} {kp : Nat → Bool} {pos pos' : Pos} (hu : X.A.units + 65 < cLine) (he : PE X e (T (kx X) q me)) (ho : PE X eo (T (kx X) qo mo)) (hi : PE X ei (T (kx X) qi mi))
    (ha : ∀ v, assign (.Subscript eo ei pos') X.env v = (do
      let ov ← holding [v] (eval eo X.env)
      let iv ← holding [v, ov] (eval ei X.env)
      standAt pos'
      holding [v, ov, iv] (setItem ov iv v)
      release [v, ov, iv] []) := by intro _; rfl)
    (hs : swapsWithSole [.Subscript eo ei pos'] e pos.line X.env = pure false := by rfl) (hw : swappedStores [.Subscript eo ei pos'] e X.env = pure none := by rfl)
    (h1 : (assignEach [.Subscript eo ei pos'] X.env).map (·.2) = [assign (.Subscript eo ei pos') X.env] := by rfl) : PS X (.Assign [.Subscript eo ei pos'] e pos) (TSm (kx X) kp (dDSet mo mi me)) :=
  PS.imp (ps_asg he (pg_sub ho hi (set_dic hu) ha) hs hw h1) fun D' σ H ⟨δ, o, out, E, n, hm, f⟩ => by
    obtain ⟨d, δ1, s, δ2, k, δ3, ks, vs, g1, g2, g3, hd, hf, hki, hdi, hlen, rfl⟩ := dDSet_inv hm
    refine (Stk.start E).push n g1 (by simp [allShort]) fun y H1 S1 => ?_
    refine S1.push n g2 (by simp [allShort, R.short]) fun x H2 S2 => ?_
    refine S2.push n g3 (by simp [allShort, R.short]) fun w H3 S3 => ?_
    obtain ⟨o3, ov, s3, E3, ⟨w', vr, ow, ox1, e1, hw1, ⟨x', vr2, ox, oy1, e2, hx, ⟨y', vr3, oy, on, e3, hy, ⟨e4, e5⟩, e6⟩, e7⟩, e8⟩, w3⟩ := S3
    subst e5 e6 e7 e8 e4
    cases e3; cases e2; cases e1
    obtain ⟨hx0, u, hu1, hu2⟩ := hx
    have hu2 : x = u := hu2
    subst hx0 hu2
    have how : ow = [] := Rep.imm hw1 hki
    have hoy : oy = [] := Rep.imm hy hdi
    subst how hoy
    have w4 : Own H o o3 := by simpa using w3
    obtain ⟨v, oa, o1, ob, hv, rd, rfl, kr, _⟩ := E3.at hd
    rw [hu1] at hv; cases hv
    obtain ⟨a, kvs, vvs, es0, rfl, hq, hdd, hsm, hn, rks, rvs, en, rfl⟩ := id rd
    refine ⟨a, ks, vs, k, d, [a], rfl, rd, hw1, hy, hf, Nat.lt_trans hlen (by decide), fun es hes r' => ?_⟩
    have nd := w4.nd n
    have na : a ∉ oa ++ ob := fun hm => by
      have h1 := nd a
      have h2 := List.count_pos_iff.mpr hm
      simp only [List.count_append, List.count_cons_self] at h1 h2; omega
    have ow0 : Ow (.ext (DicP a es0)) := ow_dic hdd
    have hao : a ∈ oa ++ [a] ++ ob := by simp
    have fr : Fr (H3) (upd H3 a (.ext (DicP a es))) (oa ++ ob) := ⟨fun b hb => upd_ne fun e => na (e ▸ hb), fun b w e hw => by
      have : b ≠ a := fun z => by rw [z, hq] at e; cases e; exact hw hdd
      rw [upd_ne this]; exact e, (Step.writeO (W := [a]) hq ow0 List.mem_cons_self).tab⟩
    have E4 := kr _ _ [a] r' fr
    refine f σ _ _ ⟨⟨fun b u e hn2 hu3 => ?_, fun b e => ?_, fun P g => (Step.writeO (W := [a]) hq ow0 List.mem_cons_self).tab P (s3.tab P g)⟩, E4, w4, fun _ _ => rfl⟩
    · have e2 := s3.keep b u e (fun hm => hn2 (Wq_sub b hm)) hu3
      have : b ≠ a := fun z => by
        subst z
        rcases w4 b with w | ⟨w, _⟩
        · have h5 : 0 < (oa ++ [b] ++ ob).count b := List.count_pos_iff.mpr hao
          exact hn2 (List.count_pos_iff.mp (by omega))
        · rw [e] at w; cases w
      rw [upd_ne this]; exact e2
    · by_cases z : b = a
      · subst z; rw [upd_same] at e; cases e
      · rw [upd_ne z] at e; exact s3.dom b e
/-- an empty dict's object -/
theorem dic_new0 {P : Program} {w : World} {H : Hp} (h : Heap) : ObjOk P w H (h.push { cls := .type "dict", data := .dict #[] }) h.objs.size (.ext (DicP h.objs.size #[])) := by
  have e : (h.push { cls := .type "dict", data := .dict #[] }).get? h.objs.size = some { cls := .type "dict", data := .dict #[] } := Heap.get?_push_size _ rfl
  exact ⟨⟨_, _, e, ⟨rfl, rfl, rfl⟩, rfl⟩, ⟨_, e⟩, fun h1 h2 ⟨o1, ep1, e1, e2, e3⟩ k1 => ⟨o1, ep1, k1 _ e1, e2, e3⟩⟩
theorem dic_is0 (h : Heap) : IsDic (DicP h.objs.size #[]) := isDic_of (h := h.push { cls := .type "dict", data := .dict #[] }) ⟨_, _, Heap.get?_push_size _ rfl, ⟨rfl, rfl, rfl⟩, rfl⟩
theorem sys_ne {h : Heap} (hb : sysModules < h.objs.size) : (h.objs.size == sysModules) = false := beq_eq_false_iff_ne.mpr fun z => by
  have z : @Eq Nat h.objs.size sysModules := z
  have : @LT.lt Nat _ sysModules h.objs.size := hb
  omega
end
end Z


set_option Elab.async false
set_option linter.all false
set_option maxRecDepth 100000
/-! dicts: {k: v} -/
namespace Z
open PySem PySem.Spec PyProof.Rows L2
theorem dict_pairsX {prog : Program} {w : World} {K : Type} [DecidableEq K] {knd : HeapKind prog w K} {A : Around} {E : Value → Shared → Prop} {s : Shared} {env : Env} {keys : List (Option Expr)} {values : List Expr} {pos : Pos} {pairs : List (Sem Value × Sem Value)} {Q : Value → Shared → Prop} (hu : knd.room A)
    (hshape : (evalEachOpt keys env).zip ((evalEach values env).map fun v => do let x ← v; standAt pos; pure x) = pairs.map fun p => (some p.1, p.2)) (h0 : pairs ≠ []) (hlen : pairs.length ≤ 15)
    (h : wpAny (model prog w) A (evalPairs pairs) (fun vs s₁ => ∃ ps, CarriesH knd s₁.heap vs ps ∧ s₁.heap.DictOfH knd s.heap.objs.size [] ∧
      ∀ h' tk, h'.DictOfH knd s.heap.objs.size (storedAllH [] ps) → Heap.SameBut s.heap.objs.size s₁.heap h' → Q (.ref s.heap.objs.size) { s₁ with heap := h', toks := tk }) E
      { s with heap := s.heap.push { cls := .type "dict", data := .dict #[] } }) :
    wpAny (model prog w) A (eval (.Dict keys values pos) env) Q E s := by
  rw [arm_eval_Dict, hshape, dictDisplay_pairs pairs h0 (by omega)]
  exact wpAny_bind (wpAny_standAt (wpAny_bind (wpAny_subDictH (knd := knd) (Q := fun d s' => wpAny (model prog w) A (pure (Value.ref d)) Q E s') hu hlen
    (wpAny_mono h (fun vs s₁ h₁ => by obtain ⟨ps, hc, hm, hq⟩ := h₁; exact ⟨ps, hc, hm, fun h' tk a b => wpAny_pure (hq h' tk a b)⟩) fun _ _ e => e))))
theorem vv_one {x y : V} {ws : List (Value × Value)} (h : VV [(x, y)] ws) : ∃ u w, ws = [(u, w)] ∧ RelV x u ∧ RelV y w := by
  cases h with
  | @cons _ b _ _ r1 r2 =>
    cases r2
    exact ⟨b.1, b.2, rfl, r1.1, r1.2⟩
section
variable {X : Cx}
theorem z_disp1 {ek ev : Expr} {qk qv : Bool} {mk mv : Den} {pos : Pos} (hu : X.A.units + 65 < cLine) (hk : PE X ek (T (kx X) qk mk)) (hv : PE X ev (T (kx X) qv mv)) : PE X (.Dict [some ek] [ev] pos) (T (kx X) false (dDisp1 mk mv)) := ⟨fun pins s σ H Q I h => by
  obtain ⟨δ, o, r, δ', E, n, hm, kq⟩ := h
  unfold dDisp1 at hm
  split at hm
  case h_2 => cases hm
  rename_i k δ1 g1
  split at hm
  case h_2 => cases hm
  rename_i v δ2 g2
  split at hm
  case isFalse => cases hm
  rename_i hc
  simp only [Option.some.injEq, Prod.mk.injEq] at hm
  obtain ⟨rfl, rfl⟩ := hm
  simp only [Bool.and_eq_true] at hc
  obtain ⟨⟨hf, hki⟩, hvi⟩ := hc
  have hp := I.hok.fresh (Nat.le_refl s.heap.objs.size)
  have I1 := I.laid (a := s.heap.objs.size) (o := .ext (DicP s.heap.objs.size #[])) (h' := s.heap.push { cls := .type "dict", data := .dict #[] }) (t' := s.toks) (fun _ _ q => Heap.get?_push_of_some _ q) (Nat.le_refl _) (dic_new0 s.heap)
  generalize hpp : s.heap.objs.size = p at *
  have hpo : p ∉ o := fun hm => E.dom _ hm hp
  have sm := new_same (u := .ext (DicP p #[])) hp
  have hp1 : upd H p (.ext (DicP p #[])) p = some (.ext (DicP p #[])) := upd_same
  have owp : Ow (.ext (DicP p #[])) := ow_dic (by rw [← hpp]; exact dic_is0 s.heap)
  have run := (pps_cons (pos := pos) hk hv pps_nil).run pins _ σ _ (fun ps H3 => ∃ x y o3, ps = [(x, y)] ∧ Step (upd H p (.ext (DicP p #[]))) H3 o ∧ Envs (kx X) H3 σ δ2 o3 ∧ Own (upd H p (.ext (DicP p #[]))) o o3 ∧ Rep X.F H3 k x [] ∧ Rep X.F H3 v y []) I1
    ⟨δ, o, .own k, δ1, E.same sm, n, g1, fun x H2 o2 ov P2 => ⟨δ1, o2, .own v, δ2, P2.env, (own_right P2.own).nd n, g2, fun y H3 o3 ov3 P3 => by
      have h1 : ov = [] := Rep.imm P2.held hki
      have h2 : ov3 = [] := Rep.imm P3.held hvi
      subst h1 h2
      have s2 := P2.step.mono Wq_sub
      have w2 := own_right P2.own
      have s3 := P3.step.mono Wq_sub
      exact ⟨x, y, o3, rfl, s2.trans w2 s3, P3.env, w2.trans s2 (own_right P3.own), Rep.step P2.held s3 P2.env.ok (fun a ha => nomatch ha), P3.held⟩⟩⟩
  -- the end
  have fin : ∀ (s2 : Shared) (x y : V) (H3 : Hp) (o3 : List Addr) (h' : Heap) (tk : Nat) (es : Array DictEntry), Inv X pins σ H3 s2 → Step (upd H p (.ext (DicP p #[]))) H3 o → Envs (kx X) H3 σ δ2 o3 → Own (upd H p (.ext (DicP p #[]))) o o3 → Rep X.F H3 k x [] → Rep X.F H3 v y [] →
      DicP p es h' → Heap.SameBut p s2.heap h' → Ents X.w [k] [x] [y] es.toList → EP X pins σ Q (.ref p) { s2 with heap := h', toks := tk } := fun s2 x y H3 o3 h' tk es I3 st E3 w3 rk rv dp hsb en => by
    have hq3 := st.keep p _ hp1 hpo owp.2
    have hq' : ∃ q, h'.get? p = some q := by obtain ⟨o, ep, e, _⟩ := dp; exact ⟨o, e⟩
    have I4 := d_write (ob := .ext (DicP p es)) (t' := tk) I3 (by rw [hq3]; exact True.intro) hsb hq' ⟨dp, hq', fun h1 h2 ⟨o1, ep1, e1, e2, e3⟩ k1 => ⟨o1, ep1, k1 _ e1, e2, e3⟩⟩
    have hpn : p ∉ o3 := fun hm => by
      have h2 := List.count_pos_iff.mpr hm
      rcases w3 p with w | ⟨w, _⟩
      · exact hpo (List.count_pos_iff.mp (by omega))
      · rw [hp1] at w; cases w
    have fr : ∀ (l : List Addr), p ∉ l → Fr H3 (upd H3 p (.ext (DicP p es))) l := fun l hl => ⟨fun b hb => upd_ne fun e => hl (e ▸ hb), fun b w e hw => by
      have : b ≠ p := fun z => by rw [z, hq3] at e; cases e; exact owp.1 hw
      rw [upd_ne this]; exact e, (Step.writeO (W := [p]) hq3 owp List.mem_cons_self).tab⟩
    refine ⟨.ref p, _, I4, rfl, kq _ _ o3 [p] ⟨⟨fun b u e hn hu2 => ?_, fun b e => ?_, fun P g => (Step.writeO (W := [p]) hq3 owp List.mem_cons_self).tab P (st.tab P ((Step.of_same [] sm).tab P g))⟩, E3.fr (fr _ hpn), ⟨p, [x], [y], es, rfl, upd_same, isDic_of dp, by rw [← hpp]; exact sys_ne I.big, ⟨by simp, by simp; decide⟩, ?_, ?_, en, rfl⟩, fun a => ?_⟩⟩
    · have hb : b ≠ p := fun z => by rw [z, hp] at e; cases e
      rw [upd_ne hb]
      exact st.keep b u (sm b u e) (fun z => hn z) hu2
    · by_cases z : b = p
      · subst z; rw [upd_same] at e; cases e
      · rw [upd_ne z] at e; exact (Step.of_same [] sm).dom b (st.dom b e)
    · exact (Reps.one rk).fr (fr [] (by simp))
    · exact (Reps.one rv).fr (fr [] (by simp))
    · by_cases ha : a = p
      · subst ha
        rw [List.singleton_append, List.count_cons_self, List.count_eq_zero.mpr hpn]
        exact .inr ⟨hp, Nat.le_refl _⟩
      · rw [List.singleton_append, List.count_cons_of_ne (fun z => ha z.symm)]
        rcases w3 a with w | ⟨z, w⟩
        · exact .inl w
        · exact .inr ⟨(Step.of_same [] sm).dom a z, w⟩
  simp only [famOk, List.all_cons, List.all_nil, Bool.and_true, Bool.or_eq_true] at hf
  rcases hf with hf | hf
  · refine dict_pairsX (knd := nestedKind X.prog X.w) (pairs := pairTrees [some ek] [ev] X.env pos) (by show X.A.units + 8 < cLine; omega) (zip_pairTrees _ _ _ _ rfl rfl) (by rw [ne_eq, ← List.length_eq_zero_iff, pairTrees_length _ _ _ _ rfl rfl]; simp) (by rw [pairTrees_length _ _ _ _ rfl rfl]; simp) ?_
    rw [hpp]
    refine thn run fun ws s2 ⟨ps, H3, I3, rel, x, y, o3, e, st, E3, w3, rk, rv⟩ => ?_
    subst e
    obtain ⟨u, w, rfl, ru, rw'⟩ := vv_one rel
    obtain ⟨b, e1, e2, nk⟩ := key_heap I3 hf rk ru
    have e1 : x = .ref b := e1
    have e2 : u = .ref b := e2
    subst e1 e2
    have hq3 := st.keep p _ hp1 hpo owp.2
    obtain ⟨ob, ep, f1, f2, f3⟩ := (I3.hok p _ hq3).1
    refine ⟨[(dNK k, b, w)], ⟨rfl, rfl, nk, trivial⟩, ⟨ob, #[], ep, f1, f2, f3, rfl, (fun x hx => nomatch hx), List.nodup_nil⟩, fun h' tk dd hsb => ?_⟩
    have e7 : storedAllH ([] : List (NestedKey × Addr × Value)) [(dNK k, b, w)] = [(dNK k, b, w)] := rfl
    rw [e7] at dd
    obtain ⟨ob', es', ep', g1, g2, g3, g4, _⟩ := dd
    exact fin s2 (.ref b) y H3 o3 h' tk es' I3 st E3 w3 rk rv ⟨ob', ep', g1, g2, g3⟩ hsb (by rw [g4]; exact ents_ofH (ks := [k]) (xs := [(dNK k, b, w)]) rfl (.cons rw' .nil))
  · refine wpAny_Dict_walk (knd := mixKind X.prog X.w) rfl rfl (by simp) (by simp) ?_
    rw [hpp]
    refine thn run fun ws s2 ⟨ps, H3, I3, rel, x, y, o3, e, st, E3, w3, rk, rv⟩ => ?_
    subst e
    obtain ⟨u, w, rfl, ru, rw'⟩ := vv_one rel
    obtain ⟨e1, ku⟩ := key_val (X := X) hf rk ru
    have e1 : x = kV (kA k) := e1
    subst e1
    have hq3 := st.keep p _ hp1 hpo owp.2
    obtain ⟨ob, ep, f1, f2, f3⟩ := (I3.hok p _ hq3).1
    refine ⟨[(kA k, w)], ?_, ⟨ob, #[], ep, f1, f2, f3, (fun e he => by simp at he), .nil, List.nodup_nil⟩, fun h' dd hsb => ?_⟩
    · exact ⟨ku, rfl, trivial⟩
    have e7 : merged ([] : List (L2.Key × Value)) [(kA k, w)] = [(kA k, w)] := rfl
    rw [e7] at dd
    obtain ⟨ob', es', ep', g1, g2, g3, g4, g5, _⟩ := dd
    exact fin s2 (kV (kA k)) y H3 o3 h' _ es' I3 st E3 w3 rk rv ⟨ob', ep', g1, g2, g3⟩ hsb (ents_ofA (ks := [k]) (ps := [(kA k, w)]) (fun e he => g4 e (by simpa using he)) g5 rfl (by simp [hf]) (.cons rw' .nil))⟩
end
end Z


set_option Elab.async false
set_option linter.all false
set_option maxRecDepth 100000
/-! dicts: sorted(d) -/
namespace Z
open PySem PySem.Spec PyProof.Rows L2
section
variable {X : Cx}
end
theorem z_defF {P : Program} {w : World} {K : PySem.W.Frag} {mg : Str → Option Value} {base : Heap} {qual : Str} {params : Arguments} {body : List Stmt} {scope : Scope} {f : Addr} {fd : FuncData} {N ps : List Str} {k : Nat} {kp : Nat → Bool} {m : Blk} (F : FunZ K qual params body scope f fd) (S : FnScope N ps scope)
    (hb : ∀ (cc : Addr) (A : Around) (outer : List Env) (s : Shared) (H : Hp) (E : XK), Room k (A.deeper (envOfC qual scope s.heap.objs.size f (.ref cc))) → PSs (cxOf CX0 P w K mg base N qual scope f (.ref cc) A outer s H E).nox body (TSm ⟨⟨K, w⟩, .ref cc⟩ kp m)) :
    FnOk P w K mg base CX0 (k + 1) f fd ps (spD ⟨K, w⟩ (dFn N.length ps.length kp m)) := z_def (K := ⟨K, w⟩) F S hb
end Z


set_option Elab.async false
set_option linter.all false
set_option maxRecDepth 100000
set_option maxHeartbeats 4000000
/-! row * number -/
namespace Z
open PySem PySem.Spec PyProof.Rows L2
section
variable {X : Cx}
end
end Z


set_option Elab.async false
set_option linter.all false
set_option maxRecDepth 100000
/-! list.count of data -/
namespace Z
open PySem PySem.Spec PyProof.Rows L2
section
variable {X : Cx} {eo e : Expr} {qo qe : Bool} {mo : Den} {ma : DE → Option (List R × DE)} {apos cpos : Pos}
end
end Z


set_option Elab.async false
set_option linter.all false
set_option maxRecDepth 100000
/-! a new list that nobody will change -/
namespace Z
open PySem PySem.Spec PyProof.Rows L2
section
variable {X : Cx} {e : Expr} {q : Bool} {m : Den}
end
end Z


set_option Elab.async false
set_option linter.all false
set_option maxRecDepth 100000
set_option maxHeartbeats 4000000
/-! lists of both kinds, one behind the other; not of any value -/
namespace Z
open PySem PySem.Spec PyProof.Rows L2
section
variable {X : Cx}
end
section
variable {X : Cx} {a : Expr} {q : Bool} {m : Den} {pos : Pos}
end
end Z


set_option Elab.async false
set_option linter.all false
set_option maxRecDepth 100000
/-! list(range(n)) -/
namespace Z
open PySem PySem.Spec PyProof.Rows L2
def dListRg (m : Den) : Den := fun δ => match m δ with
  | some (.own (.int n), δ') => if -1000000 ≤ n ∧ n ≤ 1000000 then some (.own (.lst (rangeD 0 n.toNat)), δ') else none
  | _ => none
theorem dListRg_inv {m : Den} {δ δ' : DE} {r : R} (h : dListRg m δ = some (r, δ')) : ∃ n, m δ = some (.own (.int n), δ') ∧ (-1000000 ≤ n ∧ n ≤ 1000000) ∧ r = .own (.lst (rangeD 0 n.toNat)) := by
  unfold dListRg at h
  split at h
  · split at h
    · cases h; exact ⟨_, by assumption, by assumption, rfl⟩
    · cases h
  · cases h
theorem reps_of_ints {K : Fw} {H : Hp} : ∀ is : List Int, Reps K H (is.map .int) (is.map .int) []
  | [] => ⟨rfl, rfl⟩
  | i :: is => ⟨.int i, is.map .int, [], [], rfl, ⟨rfl, rfl⟩, reps_of_ints is, rfl⟩
theorem reps_rg {K : Fw} {H : Hp} (n : Int) : Reps K H (rangeD 0 n.toNat) (rgV 0 n) [] := by
  have e1 : rangeD 0 n.toNat = ((List.range n.toNat).map fun k : Nat => (0 + (k : Int))).map .int := by simp [rangeD]
  have e2 : rgV 0 n = ((List.range n.toNat).map fun k : Nat => (0 + (k : Int))).map .int := by simp [rgV]
  rw [e1, e2]
  exact reps_of_ints _
section
variable {X : Cx} {a : Expr} {q : Bool} {m : Den} {p p2 pos pos2 : Pos}
theorem z_listRg (hc : X.calm = true) (hg : Gl X "list") (hm : X.mg "list" = none) (hg2 : Gl X "range") (hm2 : X.mg "range" = none) (ha : PE X a (T (kx X) q m)) (na : starEach [a] X.env = (false, eval a X.env) :: starEach [] X.env := by rfl)
    (na2 : starEach [.Call (.Name "range" p2) [a] [] pos2] X.env = (false, eval (.Call (.Name "range" p2) [a] [] pos2) X.env) :: starEach [] X.env := by rfl) : PE X (.Call (.Name "list" p) [.Call (.Name "range" p2) [a] [] pos2] [] pos) (T (kx X) q (dListRg m)) :=
  PE.imp (pe_listRg hc hg hm (prg_1 hg2 hm2 ha na) na2) fun σ H Q h => by
    obtain ⟨δ, o, r, δ', E, n, hm, f⟩ := h
    obtain ⟨k, h1, h2, rfl⟩ := dListRg_inv hm
    refine ⟨δ, o, _, δ', E, n, h1, fun v H1 o1 ov P => ?_⟩
    obtain ⟨rfl, rfl⟩ := P.held
    refine ⟨k, rfl, ⟨by omega, by omega, by omega, by omega, by omega⟩, fun b hb => ?_⟩
    exact f _ _ o1 [b] (post_pure P.step P.env P.own (new_same hb) ⟨b, rgV 0 k, [], rfl, upd_same, reps_rg k, rfl⟩ (fresh_one hb))
end
end Z


set_option Elab.async false
set_option linter.all false
set_option maxRecDepth 100000
/-! a statement that is not reached; and, or by the truth of values -/
namespace Z
open PySem PySem.Spec PyProof.Rows L2
section
variable {X : Cx} {a b c : Expr} {rest : List Expr} {q qa qb qc : Bool} {m ma' mb' : Den} {pos : Pos}
end
end Z


set_option Elab.async false
set_option linter.all false
set_option maxRecDepth 100000
/-! min, max of a generator expression that hands out data of one kind -/
namespace Z
open PySem PySem.Spec PyProof.Rows L2

section
variable {X : Cx} {pins : List (Addr × Obj)} {σ : L2.St} {δ : DE} {o : List Addr} {Hx : Hp} {A : Around} {a : Addr}
end
section
variable {X : Cx} {k : Nat}
end

section
variable {X : Cx} {pins : List (Addr × Obj)} {σ : L2.St} {δ : DE} {o : List Addr} {Hx : Hp} {A : Around} {a : Addr}
end
section
variable {X : Cx} {k : Nat}
end
end Z


set_option Elab.async false
set_option linter.all false
set_option maxRecDepth 100000
/-! list.remove of data -/
namespace Z
open PySem PySem.Spec PyProof.Rows L2
section
variable {X : Cx} {eo e : Expr} {qo qe : Bool} {mo : Den} {ma : DE → Option (List R × DE)} {apos cpos : Pos}
end
end Z


set_option Elab.async false
set_option linter.all false
set_option maxRecDepth 100000
/-! names at the top that stand for a text or a number -/
namespace Z
open PySem PySem.Spec PyProof.Rows L2
section
variable {X : Cx} {x z : Str} {i : Int} {pos : Pos}
end
end Z


set_option Elab.async false
set_option linter.all false
set_option maxRecDepth 100000
/-! ranges that go down by one -/
namespace Z
open PySem PySem.Spec PyProof.Rows L2
section
variable {X : Cx} {tg a b c : Expr} {q : Bool} {m : DE → Option (List R × DE)} {p pos : Pos}
end
end Z


set_option Elab.async false
set_option linter.all false
set_option maxRecDepth 100000
/-! ''.join of a list of texts -/
namespace Z
open PySem PySem.Spec PyProof.Rows L2
section
variable {X : Cx} {e : Expr} {q : Bool} {m : Den} {s : Str} {j : Option Str} {p2 apos pos : Pos}
end
end Z


set_option Elab.async false
set_option linter.all false
set_option maxRecDepth 100000
/-! index, count of texts -/
namespace Z
open PySem PySem.Spec PyProof.Rows L2
section
variable {X : Cx} {eo e : Expr} {qo qe : Bool} {mo me : Den} {f : Str → Str → Option D}
end
end Z


set_option Elab.async false
set_option linter.all false
set_option maxRecDepth 100000
/-! enumerate of a text -/
namespace Z
open PySem PySem.Spec PyProof.Rows L2
section
variable {X : Cx} {e l : Expr} {ta : TA} {p pos tpos : Pos} {elts : List Expr} {kk : Nat} {q : Bool} {ml : Den}
end
end Z


set_option Elab.async false
set_option linter.all false
set_option maxRecDepth 100000
/-! ''.join of a generator expression -/
namespace Z
open PySem PySem.Spec PyProof.Rows L2
open PySem.Builtin PySem.Builtin.Str
section
variable {X : Cx} {pins : List (Addr × Obj)} {σ : L2.St} {δ : DE} {o : List Addr} {Hx : Hp} {A : Around} {a : Addr}
end
section
variable {X : Cx} {k : Nat}
end
end Z


set_option Elab.async false
set_option linter.all false
set_option maxRecDepth 100000
/-! x += a text -/
namespace Z
open PySem PySem.Spec PyProof.Rows L2
section
variable {X : Cx} {kp : Nat → Bool} {e : Expr} {q : Bool} {m : Den} {pos : Pos}
end
end Z


set_option Elab.async false
set_option linter.all false
set_option maxRecDepth 100000
set_option maxHeartbeats 4000000
/-! set of a text -/
namespace Z
open PySem PySem.Spec PyProof.Rows L2
section
variable {P : Program} {w : World} {A : Around} {E : Value → Shared → Prop} {s : Shared}
end
end Z


set_option Elab.async false
set_option linter.all false
set_option maxRecDepth 100000
set_option maxHeartbeats 1000000
/-! sorted(set(a text)) -/
namespace Z
open PySem PySem.Spec PyProof.Rows L2
section
variable {X : Cx} {e : Expr} {q : Bool} {m : Den} {p p2 pos pos2 : Pos}
end
end Z


set_option Elab.async false
set_option linter.all false
set_option maxRecDepth 100000
/-! dicts: list(d) -/
namespace Z
open PySem PySem.Spec PyProof.Rows L2
section
variable {X : Cx}
end
end Z


set_option Elab.async false
set_option linter.all false
set_option maxRecDepth 100000
/-! dicts: d.get(k) of a name -/
namespace Z
open PySem PySem.Spec PyProof.Rows L2
section
variable {X : Cx} {pins : List (Addr × Obj)} {σ : L2.St} {H : Hp}
end
end Z


set_option Elab.async false
set_option linter.all false
set_option maxRecDepth 100000
/-! list of a text -/
namespace Z
open PySem PySem.Spec PyProof.Rows L2
section
variable {X : Cx}
end
end Z


set_option Elab.async false
set_option linter.all false
set_option maxRecDepth 100000
/-! a text, so many times -/
namespace Z
open PySem PySem.Spec PyProof.Rows L2
def repS (x : Str) (j : Nat) : Str := ⟨(List.replicate j x.cps.toList).flatten.toArray⟩
theorem rep_ok {x : Str} (h : PyData.strOk x = true) (j : Nat) : PyData.strOk (repS x j) = true := strOk_of fun c hc => by
  obtain ⟨l, hl, hc⟩ := List.mem_flatten.mp hc
  rw [List.eq_of_mem_replicate hl] at hc
  exact strOk_mem h hc
section
variable {X : Cx}
end
end Z


set_option Elab.async false
set_option linter.all false
set_option maxRecDepth 100000
/-! objects of classes: fields read and set -/
namespace Z
open PySem PySem.Spec PyProof.Rows L2
section
variable {X : Cx} {e : Expr} {q : Bool} {m : Den} {pos : Pos} {cn f : Str}
end
section
variable {κ : Kx} {H : Hp} {σ : L2.St}
end
section
variable {X : Cx} {o value : Expr} {qo q : Bool} {mo me : Den} {pos pos' : Pos} {cn f : Str} {kp : Nat → Bool}
end
end Z


set_option Elab.async false
set_option linter.all false
set_option maxRecDepth 100000
/-! objects of classes: methods, new ones -/
namespace Z
open PySem PySem.Spec PyProof.Rows L2
section
variable {X : Cx} {o e : Expr} {es : List Expr} {qo q : Bool} {mo : Den} {mr : DE → Option (List R × DE)} {m : Fn} {k : Nat} {f : Addr} {fd : FuncData} {ps : List Str} {cn mn x : Str} {p pos apos : Pos}
end
end Z


set_option Elab.async false
set_option linter.all false
set_option maxRecDepth 100000
/-! d[k] = v where the dict stands some items down -/
namespace Z
open PySem PySem.Spec PyProof.Rows L2
section
variable {X : Cx}
end
end Z


set_option Elab.async false
set_option linter.all false
set_option maxRecDepth 100000
/-! the head: methods -/
namespace Z
open PySem PySem.Spec PyProof.Rows L2
/-- a method, as the others see it -/
structure MDef (K : PySem.W.Frag) (C m q : Str) (st : Stmt) (ps : List Str) (f : Addr) (fd : FuncData) : Prop where
  fz : FunZ K q (L2.defArgs st) (L2.defBody st) (L2.defScope st) f fd
  mt : Meth K (He.ga K C) m f
  b : Binds K fd ps []
abbrev mOf (C m q : Str) (st : Stmt) : He.DefD := ⟨(C, some m), m, q, L2.defArgs st, L2.defBody st, L2.defScope st, [], []⟩
section
variable {fa : List He.Fa} {fn : List He.DefD} {ts : List He.Tab} {tf : List He.Defn} {w : World} {h : Heap} {K : PySem.W.Frag}
theorem MDef.of (X : K.In h) (c : He.SaysX fa fn ts tf (exTabs tf) w h K) {C m q : Str} {st : Stmt} {ps : List Str} (hd : mOf C m q st ∈ fn) (ht : (C, some m) ∈ tf) (hg : He.Fa.meth C m ∈ fa)
    (hb : ∀ (kV doc pm : Value) (an : Option Addr) (cdv ct : Value) (us : List Value), us.length = ps.length → bindArgs (PySem.W.fnOf m q (L2.defArgs st) (L2.defBody st) (L2.defScope st) .none kV doc pm an cdv ct) ⟨us, []⟩ = pure (ps.zip us)) :
    ∃ fd, MDef K C m q st ps (He.ma K (He.ga K C) m) fd := by
  obtain ⟨fd, F⟩ := He.SaysD.defs (fa := fa) (fn := fn) c.t.d hd
  exact ⟨fd, ⟨funZ_of F (c.hd _ ht), He.meth_ok (He.SaysD.facts c.t.d hg), F.bindsN hb⟩⟩
end
end Z


set_option Elab.async false
set_option linter.all false
set_option maxRecDepth 100000
/-! min(list, key=lambda ..): the loop -/
namespace Z
open PySem PySem.Spec PyProof.Rows L2
mutual
/-- a datum without lists and dicts stays while the tuples stay -/
theorem reads_cls {h h' : Heap} (k : ∀ b o, h.get? b = some o → o.cls = .type "tuple" → h'.get? b = some o) : ∀ {v : Value} {d : PyData} {as : List Addr}, Reads h v d as → as = [] → Reads h' v d as
  | _, _, _, .none, _ => .none
  | _, _, _, .bool b, _ => .bool b
  | _, _, _, .int i t, _ => .int i t
  | _, _, _, .str x t, _ => .str x t
  | _, _, _, .list _ _ _ _, e => nomatch e
  | _, _, _, .tuple h1 h2 h3 h4, e => .tuple (k _ _ h1 h2) h2 h3 (readsAll_cls k h4 e)
  | _, _, _, .dict _ _ _ _ _, e => nomatch e
theorem readsAll_cls {h h' : Heap} (k : ∀ b o, h.get? b = some o → o.cls = .type "tuple" → h'.get? b = some o) : ∀ {v : List Value} {d : List PyData} {as : List Addr}, ReadsAll h v d as → as = [] → ReadsAll h' v d as
  | _, _, _, .nil, _ => .nil
  | _, _, _, .cons r1 r2, e => by
    obtain ⟨e1, e2⟩ := List.append_eq_nil_iff.mp e
    exact .cons (reads_cls k r1 e1) (readsAll_cls k r2 e2)
end
/-- s has all that s0 has -/
structure Lk (s0 s : Shared) : Prop where
  keep : ∀ b o, s0.heap.get? b = some o → s.heap.get? b = some o
  gens : s.gens = s0.gens
  drawn : s.drawn = s0.drawn
  os : s.os = s0.os
theorem Lk.eq {s0 s : Shared} (h : Lk s0 s) : s = { s0 with heap := s.heap, toks := s.toks } := by
  obtain ⟨_, g, d, o⟩ := h
  obtain ⟨hp, gg, dd, tk, oo⟩ := s
  simp only at g d o
  subst g d o
  rfl
theorem Lk.heap {s0 s : Shared} (h : Lk s0 s) {g : Heap} {tk : Nat} (k : ∀ b o, s0.heap.get? b = some o → g.get? b = some o) : Lk s0 { s with heap := g, toks := tk } := ⟨k, h.gens, h.drawn, h.os⟩
def bK (K : Nat → PyData) (i j : Nat) : Bool := PySem.W.dataLt (K i) (K j)
theorem argB_le (bt : Nat → Nat → Bool) : ∀ j, argBest bt j ≤ j
  | 0 => Nat.le_refl _
  | j + 1 => by
    unfold argBest
    split
    · exact Nat.le_refl _
    · exact Nat.le_succ_of_le (argB_le bt j)
section
variable {P : Program} {w : World} {A : Around} {R : Result → Shared → Prop} {s0 : Shared} {f l it SL : Addr} {vs : Array Value} {K : Nat → PyData}
structure KOk (P : Program) (w : World) (A : Around) (s0 : Shared) (f l it SL : Addr) (vs : Array Value) (K : Nat → PyData) : Prop where
  hh : A.handled = none
  ne1 : l ≠ it
  ne2 : it ≠ SL
  ne3 : l ≠ SL
  hold : ∀ b o, s0.heap.get? b = some o → b ≠ it ∧ b ≠ SL
  turn : ∀ i v s, vs[i]? = some v → Lk s0 s → wpAny (model P w) A (call (.ref f) [v]) (PySem.W.KeyPure (K i) s) (fun _ _ => False) s
  al : ∀ i j, i < vs.size → j < vs.size → PySem.W.alike (K i) (K j) = true
  nn : ∀ i, i < vs.size → K i ≠ .none
  dp : ∀ i, i < vs.size → (K i).depth ≤ 60
  hu : A.units + 61 < cLine
theorem minK_loop (O : KOk P w A.in1 s0 f l it SL vs K) (kw : List (Str × Value)) : ∀ (k j : Nat) (s : Shared) (vb kb : Value) (c : Nat), vs.size - (j + 1) = k → j + 1 ≤ vs.size → Lk s0 s → s.heap.IsListIter it l (j + 1) → s.heap.IsList l vs → vs[argBest (bK K) j]? = some vb → Reads s.heap kb (K (argBest (bK K) j)) [] →
    s.heap.get? SL = some { cls := .type "list", dict := none, data := .seq #[vb, kb] c, slots := #[] } → (∀ v s', vs[argBest (bK K) (vs.size - 1)]? = some v → Lk s0 s' → R (.ok (.ret v)) s') →
    codeAny (model P w) A (.builtin "min.loop" ⟨[.ref it, .ref f, .ref SL], kw⟩) R s := by
  have hname : (toString "min" ++ toString ".loop" : String) = "min.loop" := by decide
  intro k
  induction k with
  | zero =>
    intro j s vb kb c hk hj L hI hl hv hr hS hR
    have hin : j + 1 = vs.size := by omega
    refine codeAny_builtin F.entry_min_loop ?_
    rw [Around.under_plainId F.plain_min_loop _]
    refine wpAny_bind (m := seqItems? (.ref SL)) (wpAny_seqItems hS rfl ?_)
    refine wpAny_bind (wpAny_tryCatch (m := pyNext (.ref it)) (wpAny_pyNext_list_end O.hh hI hl (by rw [hin]; exact Array.getElem?_eq_none (Nat.le_refl _)) fun h' he => ?_))
    have hS' := he SL _ O.ne2.symm hS
    refine wpAny_bind (m := updateSeq SL (fun _ => #[])) (wpAny_updateSeq hS' rfl (wpAny_bind (wpAny_letGo (wpAny_pure ?_))))
    refine hR vb _ (by rw [← hin]; exact hv) (L.heap (tk := s.toks) fun b o e => ?_)
    obtain ⟨n1, n2⟩ := O.hold b o e
    exact (Heap.get?_update_other _ _ n2.symm).trans (he b o n1 (L.keep b o e))
  | succ k ih =>
    intro j s vb kb c hk hj L hI hl hv hr hS hR
    have hlt : j + 1 < vs.size := by omega
    have hbj : argBest (bK K) j < vs.size := by have := argB_le (bK K) j; omega
    refine codeAny_builtin F.entry_min_loop ?_
    rw [Around.under_plainId F.plain_min_loop _]
    refine wpAny_bind (m := seqItems? (.ref SL)) (wpAny_seqItems hS rfl ?_)
    have hx : vs[j + 1]? = some vs[j + 1] := Array.getElem?_eq_getElem hlt
    refine wpAny_bind (wpAny_tryCatch (m := pyNext (.ref it)) (wpAny_pyNext_list_item hI hl hx fun h' hI' hs' => ?_))
    have hS' := hs'.extBut SL _ O.ne2.symm hS
    have L1 : Lk s0 { s with heap := h' } := L.heap (tk := s.toks) fun b o e => hs'.extBut b o (O.hold b o e).1 (L.keep b o e)
    have hl1 := hl.extBut hs'.extBut O.ne1
    obtain ⟨oi, hoi, hci, _⟩ := id hI
    have hr1 : Reads h' kb (K (argBest (bK K) j)) [] := reads_cls (fun b o e ec => hs'.extBut b o (fun z => by rw [z, hoi] at e; cases e; rw [hci] at ec; exact absurd ec (by decide)) e) hr rfl
    refine wpAny_bind (wpAny_tryCatch (wpAny_holding (wpAny_mono (O.turn (j + 1) vs[j + 1] _ hx L1) (fun kx s2 hkp => ?_) fun _ _ z => z.elim)))
    obtain ⟨h2, tk2, rfl, k2, r2⟩ := hkp
    have L2' : Lk s0 { s with heap := h2, toks := tk2 } := L1.heap fun b o e => k2 b o (L1.keep b o e)
    have hI2 : h2.IsListIter it l (j + 1 + 1) := by obtain ⟨o, e, r⟩ := hI'; exact ⟨o, k2 _ _ e, r⟩
    have hl2 : h2.IsList l vs := by obtain ⟨o, e, r⟩ := hl1; exact ⟨o, k2 _ _ e, r⟩
    have hS2 := k2 _ _ hS'
    have hrb := Reads.keeps k2 hr1
    refine wpAny_bind (wpAny_tryCatch (wpAny_holding (wpAny_bind (PySem.W.rcLt_alike _ _ A.in1 _ kx kb _ _ r2 hrb (O.al _ _ hlt hbj) (O.nn _ hlt) (by have := O.dp _ hlt; have := O.hu; have := Nat.min_le_left (K (j + 1)).depth (K (argBest (bK K) j)).depth; omega) _ _ _ _ ?_))))
    refine wpAny_bind (wpAny_holding (wpAny_truthy_bool ?_))
    refine wpAny_bind (wpAny_letGo (wpAny_pure ?_))
    cases hb : PySem.W.dataLt (K (j + 1)) (K (argBest (bK K) j)) with
    | true =>
      have ea : argBest (bK K) (j + 1) = j + 1 := by unfold argBest; rw [if_pos (by exact hb)]
      simp only [if_true]
      refine wpAny_bind (wpAny_updateSeq hS2 rfl (wpAny_bind (wpAny_letGo ?_)))
      rw [hname]
      have kp3 : ∀ b o, b ≠ SL → h2.get? b = some o → (h2.update SL (Obj.mapSeq fun _ => #[vs[j + 1], kx])).get? b = some o := fun b o n e => (Heap.get?_update_other _ _ n.symm).trans e
      refine wpAny_pure ⟨plainId_quiet F.plain_min_loop _, ih (j + 1) _ vs[j + 1] kx _ (by omega) hlt (L2'.heap (tk := tk2) fun b o e => kp3 b o (O.hold b o e).2 (L2'.keep b o e)) ?_ ?_ (by rw [ea]; exact hx) ?_ (Heap.get?_update_self _ hS2 rfl) hR⟩
      · obtain ⟨o, e, r⟩ := hI2; exact ⟨o, kp3 _ _ O.ne2 e, r⟩
      · obtain ⟨o, e, r⟩ := hl2; exact ⟨o, kp3 _ _ O.ne3 e, r⟩
      · rw [ea]
        exact reads_cls (fun b o e ec => kp3 b o (fun z => by rw [z, hS2] at e; cases e; exact absurd (show (Value.type "list") = Value.type "tuple" from ec) (by decide)) e) r2 rfl
    | false =>
      have ea : argBest (bK K) (j + 1) = argBest (bK K) j := by
        unfold argBest
        rw [if_neg]
        · cases j <;> rfl
        · show ¬ PySem.W.dataLt (K (j + 1)) (K (argBest (bK K) j)) = true
          rw [hb]; decide
      simp only [Bool.false_eq_true, if_false]
      refine wpAny_bind (wpAny_letGo ?_)
      rw [hname]
      exact wpAny_pure ⟨plainId_quiet F.plain_min_loop _, ih (j + 1) _ vb kb c (by omega) hlt L2' hI2 hl2 (by rw [ea]; exact hv) (by rw [ea]; exact hrb) hS2 hR⟩
/-- min(list, key=f) -/
theorem minK_call {Q E : Value → Shared → Prop} (hh : A.in1.handled = none) (hl : s0.heap.IsList l vs) (hn : 0 < vs.size) (turn : ∀ i v s, vs[i]? = some v → Lk s0 s → wpAny (model P w) A.in1 (call (.ref f) [v]) (PySem.W.KeyPure (K i) s) (fun _ _ => False) s)
    (al : ∀ i j, i < vs.size → j < vs.size → PySem.W.alike (K i) (K j) = true) (nn : ∀ i, i < vs.size → K i ≠ .none) (dp : ∀ i, i < vs.size → (K i).depth ≤ 60) (hu : A.in1.units + 61 < cLine) (hQ : ∀ v s', vs[argBest (bK K) (vs.size - 1)]? = some v → Lk s0 s' → Q v s') :
    wpAny (model P w) A (call (.builtin "min") [.ref l] [(Str.ofString "key", .ref f)]) Q E s0 := by
  have hname : (toString "min" ++ toString ".loop" : String) = "min.loop" := by decide
  refine PyProof.Rows.kmk_tree F.kind_min F.plain_min F.entry_min (PyProof.Rows.kmk_min_key _ _) ?_
  refine wpAny_bind (wpAny_of_eq (show Builtin.Builtins.bindParams "min" ["key", "default"] 0 ⟨[], [(Str.ofString "key", .ref f)]⟩ = pure [some (.ref f), none] from rfl) ?_)
  refine wpAny_bind (wpAny_pure ?_)
  refine wpAny_bind (PySem.W.iter_listW (A := A.in1) hh hl fun s₂ e W st hfp hw hk => ?_)
  subst e
  refine wpAny_bind (wpAny_newObj_type ?_)
  rw [hname]
  have hlt : l < s0.heap.objs.size := by obtain ⟨_, e, _⟩ := hl; exact Heap.lt_size e
  have sz : (s0.heap.push { cls := .type "list_iterator", data := .fields #[.ref l, .int 0 0] }).objs.size = s0.heap.objs.size + 1 := Heap.size_push _ _
  have O : KOk P w A.in1 s0 f l s0.heap.objs.size (s0.heap.push { cls := .type "list_iterator", data := .fields #[.ref l, .int 0 0] }).objs.size vs K :=
    ⟨hh, Nat.ne_of_lt hlt, by rw [sz]; exact Nat.ne_of_lt (Nat.lt_succ_self _), by rw [sz]; exact Nat.ne_of_lt (Nat.lt_succ_of_lt hlt), fun b o e => by
      have := Heap.lt_size e
      exact ⟨Nat.ne_of_lt this, by rw [sz]; exact Nat.ne_of_lt (Nat.lt_succ_of_lt this)⟩, turn, al, nn, dp, hu⟩
  have L0 : Lk s0 { s0 with heap := (s0.heap.push { cls := .type "list_iterator", data := .fields #[.ref l, .int 0 0] }).push { cls := .type "list", data := .seq #[] 0 } } := ⟨fun b o e => Heap.get?_push_of_some _ (Heap.get?_push_of_some _ e), rfl, rfl, rfl⟩
  have hI : ((s0.heap.push { cls := .type "list_iterator", data := .fields #[.ref l, .int 0 0] }).push { cls := .type "list", data := .seq #[] 0 }).IsListIter s0.heap.objs.size l 0 := by obtain ⟨o, e, r⟩ := st.1; exact ⟨o, Heap.get?_push_of_some _ e, r⟩
  have hl0 : ((s0.heap.push { cls := .type "list_iterator", data := .fields #[.ref l, .int 0 0] }).push { cls := .type "list", data := .seq #[] 0 }).IsList l vs := by obtain ⟨o, e, r⟩ := st.2; exact ⟨o, Heap.get?_push_of_some _ e, r⟩
  have hS := Heap.get?_push_size (s0.heap.push { cls := .type "list_iterator", data := .fields #[.ref l, .int 0 0] }) (o := { cls := .type "list", data := .seq #[] 0 }) rfl
  refine wpAny_pure ⟨plainId_quiet F.plain_min_loop _, ?_⟩
  generalize hSL : (s0.heap.push { cls := .type "list_iterator", data := .fields #[.ref l, .int 0 0] }).objs.size = SL at O hS ⊢
  generalize hH : (s0.heap.push { cls := .type "list_iterator", data := .fields #[.ref l, .int 0 0] }).push { cls := .type "list", data := .seq #[] 0 } = h0 at L0 hI hl0 hS ⊢
  refine codeAny_builtin F.entry_min_loop ?_
  rw [Around.under_plainId F.plain_min_loop _]
  refine wpAny_bind (m := seqItems? (.ref SL)) (wpAny_seqItems hS rfl ?_)
  have hx : vs[0]? = some vs[0] := Array.getElem?_eq_getElem hn
  refine wpAny_bind (wpAny_tryCatch (m := pyNext (.ref s0.heap.objs.size)) (wpAny_pyNext_list_item hI hl0 hx fun h' hI' hs' => ?_))
  have hS' := hs'.extBut SL _ O.ne2.symm hS
  have L1 : Lk s0 { s0 with heap := h' } := L0.heap (tk := s0.toks) fun b o e => hs'.extBut b o (O.hold b o e).1 (L0.keep b o e)
  have hl1 := hl0.extBut hs'.extBut O.ne1
  refine wpAny_bind (wpAny_tryCatch (wpAny_holding (wpAny_mono (O.turn 0 vs[0] _ hx L1) (fun kx s2 hkp => ?_) fun _ _ z => z.elim)))
  obtain ⟨h2, tk2, rfl, k2, r2⟩ := hkp
  have L2' : Lk s0 { s0 with heap := h2, toks := tk2 } := L1.heap fun b o e => k2 b o (L1.keep b o e)
  have hI2 : h2.IsListIter s0.heap.objs.size l (0 + 1) := by obtain ⟨o, e, r⟩ := hI'; exact ⟨o, k2 _ _ e, r⟩
  have hl2 : h2.IsList l vs := by obtain ⟨o, e, r⟩ := hl1; exact ⟨o, k2 _ _ e, r⟩
  have hS2 := k2 _ _ hS'
  refine wpAny_bind (wpAny_updateSeq hS2 rfl ?_)
  rw [hname]
  have kp3 : ∀ b o, b ≠ SL → h2.get? b = some o → (h2.update SL (Obj.mapSeq fun _ => #[vs[0], kx])).get? b = some o := fun b o n e => (Heap.get?_update_other _ _ n.symm).trans e
  refine wpAny_pure ⟨plainId_quiet F.plain_min_loop _, minK_loop O _ _ 0 _ vs[0] kx _ rfl hn (L2'.heap (tk := tk2) fun b o e => kp3 b o (O.hold b o e).2 (L2'.keep b o e)) ?_ ?_ hx ?_ (Heap.get?_update_self _ hS2 rfl) hQ⟩
  · obtain ⟨o, e, r⟩ := hI2; exact ⟨o, kp3 _ _ O.ne2 e, r⟩
  · obtain ⟨o, e, r⟩ := hl2; exact ⟨o, kp3 _ _ O.ne3 e, r⟩
  · exact reads_cls (fun b o e ec => kp3 b o (fun z => by rw [z, hS2] at e; cases e; exact absurd (show (Value.type "list") = Value.type "tuple" from ec) (by decide)) e) r2 rfl
end
end Z


set_option Elab.async false
set_option linter.all false
set_option maxRecDepth 100000
/-! min(xs, key=lambda v: ..) of a list -/
namespace Z
open PySem PySem.Spec PyProof.Rows L2
def ltK (f : PyData → Option PyData) (y a : D) : Bool := PySem.W.dataLt (keyP f y) (keyP f a)
def minKD (f : PyData → Option PyData) : List D → Option D
  | [] => none
  | x :: xs => match keysP f (x :: xs) with
    | some ks => if (D.nols (x :: xs) && sortPOk ks) = true then some (xs.foldl (fun a y => if ltK f y a then y else a) x) else none
    | none => none
/-- min(a, key=..): an item of a list -/
def dMinK (f : DE → PyData → Option PyData) (a : Den) : Den := fun δ => match a δ with
  | some (r, δ1) => match deref δ1 r with
    | some (.lst xs) => match minKD (f δ1) xs with
      | some d => some (.own d, δ1)
      | none => none
    | _ => none
  | none => none
section
variable {X : Cx}
theorem z_minK {cc : Addr} {e : Expr} {q : Bool} {a : Den} {params : Arguments} {body : Expr} {scope : Scope} {v : Str} {fk : DE → PyData → Option PyData} {k : Nat} {p lpos kpos pos : Pos} (hr : Room (k + 1) X.A) (hc : X.calm = true) (hcode : X.env.code = .ref cc) (hBM : BMod X.base X.mg)
    (hg : Gl X "min") (hm : X.mg "min" = none) (he : PE X e (T (kx X) q a)) (L : LamSc X scope v) (pl : PLm X scope v body fk)
    (hbind : ∀ (q : Str) (cl : List (Str × Addr)) (pm cv ctv u : Value), bindArgs (PySem.W.kla_fn "<lambda>" q params body scope cl pm cv ctv) ⟨[u], []⟩ = pure [(v, u)])
    (hdef : defaultsOf params X.env = ([], [])) (hst : starEach [e] X.env = (false, eval e X.env) :: starEach [] X.env := by rfl) :
    PE X (.Call (.Name "min" p) [e] [⟨some "key", .Lambda params body scope lpos, kpos⟩] pos) (T (kx X) false (dMinK fk a)) := by
  refine ⟨fun pins s σ H Q I h => ?_⟩
  obtain ⟨δ, o, r, δ', E, n, hmm, kq⟩ := h
  simp only [dMinK] at hmm
  cases h1 : a δ with
  | none => rw [h1] at hmm; simp at hmm
  | some p1 =>
  obtain ⟨ra, δ1⟩ := p1
  rw [h1] at hmm; dsimp only at hmm
  cases h2 : deref δ1 ra with
  | none => rw [h2] at hmm; simp at hmm
  | some da =>
  rw [h2] at hmm
  cases da <;> simp only [reduceCtorEq] at hmm
  rename_i xs0
  cases h3 : minKD (fk δ1) xs0 with
  | none => rw [h3] at hmm; simp at hmm
  | some d =>
  rw [h3] at hmm
  simp only [Option.some.injEq, Prod.mk.injEq] at hmm
  obtain ⟨rfl, rfl⟩ := hmm
  cases xs0 with
  | nil => cases h3
  | cons x xs =>
  simp only [minKD] at h3
  cases h4 : keysP (fk δ1) (x :: xs) with
  | none => rw [h4] at h3; simp at h3
  | some ks =>
  rw [h4] at h3
  by_cases hok : (D.nols (x :: xs) && sortPOk ks) = true
  case neg => dsimp only at h3; rw [if_neg hok] at h3; cases h3
  dsimp only at h3
  rw [if_pos hok] at h3
  cases (Option.some.inj h3)
  simp only [sortPOk, Bool.and_eq_true] at hok
  obtain ⟨hn, hdp, hal, hso⟩ := hok
  obtain ⟨hks, hkf⟩ := keysP_eq h4
  refine wpAny_Call_Name_kw (ld_blt I hg hm bb_min ?_ (by decide))
  refine PyProof.Rows.callWith_kw ?_ (by rw [hst]; rfl) (by rw [hst]; rfl) (by rfl) (by rfl)
  rw [hst]
  show wpAny _ _ (spliced ((false, eval e X.env) :: backTo pos (starEach [] X.env))) _ _ s
  have hrd : T (kx X) q a σ H (fun x H1 => ∃ o1 ov, Post (kx X) H σ q o ra δ1 x H1 o1 ov) := ⟨δ, o, ra, δ1, E, n, h1, fun x H1 o1 ov P => ⟨o1, ov, P⟩⟩
  refine Calls.spliced_cons (thn (he.run pins s σ H _ I hrd) fun u s1 ⟨xv, H1, I1, ru, o1, ov, P⟩ => ?_)
  refine Calls.spliced_nil ?_
  show wpAny _ _ (evalAll [do let v ← eval (.Lambda params body scope lpos) X.env; standAt pos; pure v]) _ _ s1
  refine wpAny_evalAll_cons (wpAny_bind (z_lam_make hcode I1 P.env hBM hdef (L.has I1.ok) fun f H2 s2 I2 st2 fr2 _ lam => ?_))
  refine wpAny_bind (wpAny_standAt (wpAny_pure (wpAny_evalAll_nil ?_)))
  show wpAny (model X.prog X.w) X.A (call (.builtin "min") [u] [(Str.ofString "key", .ref f)]) (EP X pins σ Q) X.xe s2
  have E2 : Envs (kx X) H2 σ δ1 o1 := P.env.fr fr2
  have hold := P.held.step st2 (fun a ha => nomatch ha) (fun a _ hn => nomatch hn) (.inr rfl)
  obtain ⟨oe, rep, _⟩ := hold.deref E2 h2
  obtain ⟨l, vs, ol, rfl, hl, rs0, _⟩ := rep
  have rs : Reps X.F H2 (x :: xs) vs [] := by
    have := rs0.imm (D.nols_imms _ hn); subst this; exact rs0
  obtain rfl : u = Value.ref l := ru
  obtain ⟨its, rv, hp, hz⟩ := I2.list (.of hl)
  have hsz : its.toArray.size = xs.length + 1 := by
    have h5 := rv.length
    have h6 := rs.length
    simp at h5 h6 ⊢; omega
  subst hks
  simp only [List.all_eq_true, List.mem_map, forall_exists_index, and_imp, forall_apply_eq_imp_iff₂, decide_eq_true_eq] at hal hdp
  have gm : ∀ i, i < its.toArray.size → (x :: xs).getD i .non ∈ x :: xs := fun i hi => by
    have hi : i < (x :: xs).length := by simp at hi ⊢; simp at hsz; omega
    rw [List.getD_eq_getElem?_getD, List.getElem?_eq_getElem hi]
    exact List.getElem_mem hi
  have nk : ∀ y ∈ x :: xs, keyP (fk δ1) y ≠ .none := fun y hy e => by
    rw [Bool.or_eq_true, List.all_eq_true, List.all_eq_true] at hso
    rcases hso with hso | hso
    · have := hso _ (List.mem_map_of_mem hy)
      rw [e] at this; cases this
    · have := hso _ (List.mem_map_of_mem hy)
      rw [e] at this; cases this
  have at_ : ∀ i u, its.toArray[i]? = some u → ∃ w, RelV w u ∧ Rep X.F H2 ((x :: xs).getD i .non) w [] := fun i u hi => by
    have hi : its[i]? = some u := by simpa using hi
    obtain ⟨w, hw, rw_⟩ := vals_at rv hi
    have hil : i < (x :: xs).length := by
      have := (List.getElem?_eq_some_iff.mp hw).1
      rw [rs.length] at this; exact this
    obtain ⟨w', hw', rr⟩ := item_of rs (List.getElem?_eq_getElem hil)
    rw [hw] at hw'; cases hw'
    refine ⟨w, rw_, ?_⟩
    rw [List.getD_eq_getElem?_getD, List.getElem?_eq_getElem hil]
    exact rr
  have hu := hu_of hr
  refine minK_call (K := fun i => keyP (fk δ1) ((x :: xs).getD i .non)) (vs := its.toArray) (I2.ok.hd hc) hp.isList (by rw [hsz]; omega) (fun i u s3 hi L3 => ?_) (fun i j hi hj => hal _ (gm i hi) _ (gm j hj)) (fun i hi => nk _ (gm i hi)) (fun i hi => hdp _ (gm i hi)) (by show X.A.units + 1 + 61 < _; omega) fun u s3 hi L3 => ?_
  · obtain ⟨w, ru, rr⟩ := at_ i u hi
    obtain ⟨as, rd⟩ := Rep.reads I2 rr ru rr.ro
    have hil : i < its.toArray.size := (Array.getElem?_eq_some_iff.mp hi).1
    have := reads_nol ((D.nols_iff _).mp hn _ (gm i hil)) rd
    subst this
    exact lam_turn I2 E2 L (lam.keeps L3.keep) L3.keep pl hbind (by have := hr.dp; show X.A.depth < _; omega) (Reads.keeps L3.keep rd) (hkf _ (gm i hil))
  · obtain ⟨w, ru, rr⟩ := at_ _ u hi
    have ef := (PySem.W.argBest_fold (ltK (fk δ1)) D.non x xs xs.length (Nat.le_refl _)).2
    rw [List.take_length] at ef
    have e1 : its.toArray.size - 1 = xs.length := by omega
    rw [e1] at rr
    have rr : Rep X.F H2 (xs.foldl (fun a y => if ltK (fk δ1) y a then y else a) x) w [] := by rw [← ef]; exact rr
    have s02 : Step H H2 o := (P.step.mono Wq_sub).trans (own_right P.own) (st2.mono fun a ha => nomatch ha)
    have es := L3.eq
    rw [es]
    exact ⟨w, H2, I2.kept L3.keep, ru, kq w H2 o1 [] ⟨s02, E2, rr, own_right P.own⟩⟩
end
end Z


set_option Elab.async false
set_option linter.all false
set_option maxRecDepth 100000
/-! from denotations to typed functions: what is known of an environment -/
namespace Y
open PySem PySem.Spec PyProof.Rows L2 Z
/-- what is known of a name's place -/
inductive Sl where
  | any | is (d : D)
structure Agr (A : List Sl) (δ : DE) : Prop where
  len : δ.length = A.length
  get : ∀ (i : Nat) (d : D), A[i]? = some (.is d) → δ[i]? = some (some d)
theorem Agr.set {A : List Sl} {δ : DE} (h : Agr A δ) (i : Nat) (d : D) : Agr (A.set i (.is d)) (δ.set i (some d)) where
  len := by simp [h.len]
  get j e hj := by
    rw [List.getElem?_set] at hj ⊢
    by_cases hij : i = j
    · subst hij
      rw [if_pos rfl] at hj ⊢
      by_cases hl : i < A.length
      · rw [if_pos hl] at hj
        rw [if_pos (by rw [h.len]; exact hl)]
        injection hj with hj; injection hj with hj; rw [hj]
      · rw [if_neg hl] at hj; cases hj
    · rw [if_neg hij] at hj ⊢
      exact h.get j e hj
theorem Agr.setAny {A : List Sl} {δ : DE} (h : Agr A δ) (i : Nat) (x : Option D) : Agr (A.set i .any) (δ.set i x) where
  len := by simp [h.len]
  get j e hj := by
    rw [List.getElem?_set] at hj ⊢
    by_cases hij : i = j
    · subst hij
      rw [if_pos rfl] at hj
      by_cases hl : i < A.length
      · rw [if_pos hl] at hj; cases hj
      · rw [if_neg hl] at hj; cases hj
    · rw [if_neg hij] at hj ⊢
      exact h.get j e hj
/-- less is known -/
inductive Le : List Sl → List Sl → Prop
  | nil : Le [] []
  | any {s : Sl} {A B : List Sl} : Le A B → Le (s :: A) (.any :: B)
  | eq {s : Sl} {A B : List Sl} : Le A B → Le (s :: A) (s :: B)
theorem Le.refl : ∀ A : List Sl, Le A A
  | [] => .nil
  | _ :: A => .eq (Le.refl A)
theorem Le.len {A B : List Sl} (h : Le A B) : A.length = B.length := by induction h <;> simp_all
theorem Le.get {A B : List Sl} (h : Le A B) : ∀ (i : Nat) (d : D), B[i]? = some (.is d) → A[i]? = some (.is d) := by
  induction h with
  | nil => intro i d e; cases e
  | any h ih => intro i d e; cases i with
    | zero => simp at e
    | succ i => exact ih i d e
  | eq h ih => intro i d e; cases i with
    | zero => exact e
    | succ i => exact ih i d e
theorem Agr.le {A B : List Sl} {δ : DE} (h : Agr A δ) (l : Le A B) : Agr B δ := ⟨h.len.trans l.len, fun i d e => h.get i d (l.get i d e)⟩
def setSl (A : List Sl) : List Nat → List Sl
  | [] => A
  | v :: vs => (setSl A vs).set v .any
theorem Agr.wipe {A : List Sl} {δ : DE} (h : Agr A δ) : ∀ vs : List Nat, Agr (setSl A vs) (wipeD δ vs)
  | [] => h
  | v :: vs => (Agr.wipe h vs).setAny v none

/-! ### expressions -/
/-- whatever else stands there: x comes out, and A' is known behind; p: nothing is changed -/
def RX {α : Type} (p : Bool) (A : List Sl) (m : DE → Option (α × DE)) (x : α) (A' : List Sl) : Prop := ∀ δ, Agr A δ → ∃ δ', m δ = some (x, δ') ∧ Agr A' δ' ∧ (p = true → δ' = δ)
abbrev RV (p : Bool) (A : List Sl) (m : Den) (r : R) (A' : List Sl) : Prop := RX p A m r A'
abbrev RA (p : Bool) (A : List Sl) (m : DE → Option (List R × DE)) (rs : List R) (A' : List Sl) : Prop := RX p A m rs A'
abbrev RT (p : Bool) (A : List Sl) (m : DenT) (b : Bool) (A' : List Sl) : Prop := RX p A m b A'
abbrev RS (p : Bool) (A : List Sl) (m : DenS) (s : Src) (A' : List Sl) : Prop := RX p A m s A'
def Drf (A : List Sl) (r : R) (d : D) : Prop := ∀ δ, Agr A δ → deref δ r = some d
def Drfs (A : List Sl) (rs : List R) (ds : List D) : Prop := ∀ δ, Agr A δ → derefs δ rs = some ds
theorem pp {p1 p2 : Bool} {δ δ1 δ2 : DE} (h1 : p1 = true → δ1 = δ) (h2 : p2 = true → δ2 = δ1) (h : (p1 && p2) = true) : δ2 = δ := by
  simp only [Bool.and_eq_true] at h
  rw [h2 h.2, h1 h.1]
section
variable {p p1 p2 p3 : Bool} {A A1 A2 A3 : List Sl} {m ma mb mc : Den} {r ra rb : R} {rs : List R} {d e : D} {ds : List D} {q : Bool}
theorem drf_own : Drf A (.own d) d := fun _ _ => rfl
theorem drf_at {i : Nat} (h : A[i]? = some (.is d)) : Drf A (.at i []) d := fun δ a => by
  simp only [deref, a.get i d h, getP]
theorem drfs_nil : Drfs A [] [] := fun _ _ => rfl
theorem drfs_cons (h : Drf A r d) (t : Drfs A rs ds) : Drfs A (r :: rs) (d :: ds) := fun δ a => by
  simp only [derefs, h δ a, t δ a]
theorem r_var {i : Nat} (h : A[i]? = some (.is d)) (g : d.imm = true) : RV true A (dVar i) (.own d) A := fun δ a => ⟨δ, by simp only [dVar, a.get i d h, g, if_true], a, fun _ => rfl⟩
theorem r_varM {i : Nat} (h : A[i]? = some (.is d)) (g : d.imm = false) : RV true A (dVar i) (.at i []) A := fun δ a => ⟨δ, by simp only [dVar, a.get i d h, g]; rfl, a, fun _ => rfl⟩
theorem r_c : RV true A (dC d) (.own d) A := fun δ a => ⟨δ, rfl, a, fun _ => rfl⟩
theorem r_anil : RA true A dANil [] A := fun δ a => ⟨δ, rfl, a, fun _ => rfl⟩
theorem r_acons {mr : DE → Option (List R × DE)} (h : RV p1 A m r A1) (t : RA p2 A1 mr rs A2) (s : (r.short || q) = true) : RA (p1 && p2) A (dACons q m mr) (r :: rs) A2 := fun δ a => by
  obtain ⟨δ1, e1, a1, u1⟩ := h δ a
  obtain ⟨δ2, e2, a2, u2⟩ := t δ1 a1
  exact ⟨δ2, by simp only [dACons, e1, e2, s, if_true], a2, pp u1 u2⟩
theorem r_call {f : List D → Option D} {mr : DE → Option (List R × DE)} (t : RA p A mr rs A1) (g : Drfs A1 rs ds) (h : f ds = some d) : RV p A (dCall f mr) (.own d) A1 := fun δ a => by
  obtain ⟨δ1, e1, a1, u1⟩ := t δ a
  exact ⟨δ1, by simp only [dCall, e1, g δ1 a1, h], a1, u1⟩
theorem r_tup {mr : DE → Option (List R × DE)} (t : RA p A mr rs A1) (g : owns rs = some ds) (h : ds.length ≤ 1000) : RV p A (dTup mr) (.own (.tup ds)) A1 := fun δ a => by
  obtain ⟨δ1, e1, a1, u1⟩ := t δ a
  exact ⟨δ1, by simp only [dTup, e1, g, h, if_true], a1, u1⟩
theorem r_lst {mr : DE → Option (List R × DE)} (t : RA p A mr rs A1) (g : owns rs = some ds) (h : ds.length ≤ 1000) : RV p A (dLst mr) (.own (.lst ds)) A1 := fun δ a => by
  obtain ⟨δ1, e1, a1, u1⟩ := t δ a
  exact ⟨δ1, by simp only [dLst, e1, g, h, if_true], a1, u1⟩
theorem r_sub {i : Int} (h : RV p1 A ma ra A1) (t : RV p2 A1 mb rb A2) (s : (ra.short || q) = true) (g : Drf A2 ra d) (g2 : Drf A2 rb (.int i)) (u : subR ra d i = some r) : RV (p1 && p2) A (dSub q ma mb) r A2 := fun δ a => by
  obtain ⟨δ1, e1, a1, u1⟩ := h δ a
  obtain ⟨δ2, e2, a2, u2⟩ := t δ1 a1
  exact ⟨δ2, by simp only [dSub, e1, e2, s, g δ2 a2, g2 δ2 a2, u, if_true], a2, pp u1 u2⟩
theorem r_andV {x y : Bool} (h : RV p1 A ma (.own (.bl x)) A) (h1 : x = true → RV p2 A mb (.own (.bl y)) A) : RV (p1 && p2) A (dAndV ma mb) (.own (.bl (x && y))) A := fun δ a => by
  obtain ⟨δ1, e1, a1, u1⟩ := h δ a
  cases x with
  | true =>
    obtain ⟨δ2, e2, a2, u2⟩ := h1 rfl δ1 a1
    exact ⟨δ2, by simp only [dAndV, e1, e2, Bool.true_and], a2, pp u1 u2⟩
  | false => exact ⟨δ1, by simp only [dAndV, e1, Bool.false_and], a1, fun h => by simp only [Bool.and_eq_true] at h; exact u1 h.1⟩
/-! tests -/
theorem r_tv {b : Bool} (h : RV p A m r A1) (g : Drf A1 r d) (t : truthD d = some b) : RT p A (dTv m) b A1 := fun δ a => by
  obtain ⟨δ1, e1, a1, u1⟩ := h δ a
  exact ⟨δ1, by simp only [dTv, e1, g δ1 a1, t], a1, u1⟩
theorem r_tb {b : Bool} (h : RV p A m (.own (.bl b)) A1) : RT p A (dTb m) b A1 := fun δ a => by
  obtain ⟨δ1, e1, a1, u1⟩ := h δ a
  exact ⟨δ1, by simp only [dTb, e1], a1, u1⟩
theorem r_and {ta tb : DenT} {x y : Bool} (h : RT p1 A ta x A) (h1 : x = true → RT p2 A tb y A) : RT (p1 && p2) A (dAnd ta tb) (x && y) A := fun δ a => by
  obtain ⟨δ1, e1, a1, u1⟩ := h δ a
  cases x with
  | true =>
    obtain ⟨δ2, e2, a2, u2⟩ := h1 rfl δ1 a1
    exact ⟨δ2, by simp only [dAnd, e1, e2, Bool.true_and], a2, pp u1 u2⟩
  | false => exact ⟨δ1, by simp only [dAnd, e1, Bool.false_and], a1, fun h => by simp only [Bool.and_eq_true] at h; exact u1 h.1⟩
theorem r_not {ta : DenT} {x : Bool} (h : RT p A ta x A1) : RT p A (dNot ta) (!x) A1 := fun δ a => by
  obtain ⟨δ1, e1, a1, u1⟩ := h δ a
  exact ⟨δ1, by simp only [dNot, e1], a1, u1⟩
theorem r_yes : RT true A dYes true A := fun δ a => ⟨δ, rfl, a, fun _ => rfl⟩
/-! a call of a def -/
inductive Puts : Bool → List Sl → List R → List (Option D) → List Sl → Prop
  | nil {A : List Sl} : Puts true A [] [] A
  | own {p : Bool} {A A2 : List Sl} {d : D} {f : Option D} {rs : List R} {fs : List (Option D)} : Puts p A rs fs A2 → Puts p A (.own d :: rs) (f :: fs) A2
  | same {p : Bool} {A A2 : List Sl} {i : Nat} {d : D} {rs : List R} {fs : List (Option D)} : A[i]? = some (.is d) → Puts p (A.set i .any) rs fs A2 → Puts p A (.at i [] :: rs) (some d :: fs) (A2.set i (.is d))
  | pth {p : Bool} {A A2 : List Sl} {i : Nat} {l : List Nat} {d e d' : D} {rs : List R} {fs : List (Option D)} : A[i]? = some (.is d) → Puts p (A.set i .any) rs fs A2 → setP l d e = some d' → Puts false A (.at i l :: rs) (some e :: fs) (A2.set i (.is d'))
theorem Puts.ok {rs : List R} {fs : List (Option D)} (h : Puts p A rs fs A2) : ∀ δ, Agr A δ → ∃ δ2, puts δ rs fs = some δ2 ∧ Agr A2 δ2 ∧ (p = true → δ2 = δ) := by
  induction h with
  | nil => exact fun δ a => ⟨δ, rfl, a, fun _ => rfl⟩
  | own h ih =>
      intro δ a
      obtain ⟨δ2, e, a2, u⟩ := ih δ a
      exact ⟨δ2, by simp only [puts, e], a2, u⟩
  | @same p A A2 i d rs fs h1 h2 ih =>
      intro δ a
      obtain ⟨δ2, e, a2, u⟩ := ih (δ.set _ none) (a.setAny _ none)
      refine ⟨δ2.set i (some d), by simp only [puts, a.get _ _ h1, e, setP], a2.set _ _, fun hp => ?_⟩
      rw [u hp, List.set_set]
      have := a.get _ _ h1
      apply List.ext_getElem?
      intro j
      rw [List.getElem?_set]
      by_cases hij : i = j
      · subst hij
        have hl : i < δ.length := (List.getElem?_eq_some_iff.mp this).1
        rw [if_pos rfl, if_pos hl, this]
      · rw [if_neg hij]
  | pth h1 h2 h3 ih =>
      intro δ a
      obtain ⟨δ2, e, a2, u⟩ := ih (δ.set _ none) (a.setAny _ none)
      exact ⟨δ2.set _ (some _), by simp only [puts, a.get _ _ h1, e, h3], a2.set _ _, fun h => by cases h⟩
theorem r_user {f : Fn} {mr : DE → Option (List R × DE)} {fs : List (Option D)} (t : RA p1 A mr rs A1) (ro : rootsOk rs = true) (g : Drfs A1 rs ds) (h : f ds = some (d, fs)) (pu : Puts p2 A1 rs fs A2) : RV (p1 && p2) A (dUser f mr) (.own d) A2 := fun δ a => by
  obtain ⟨δ1, e1, a1, u1⟩ := t δ a
  obtain ⟨δ2, e2, a2, u2⟩ := pu.ok δ1 a1
  exact ⟨δ2, by simp only [dUser, e1, ro, if_true, g δ1 a1, h, e2], a2, pp u1 u2⟩
theorem RX.weak {α : Type} {m : DE → Option (α × DE)} {x : α} (h : RX p A m x A1) (l : Le A1 A2) : RX p A m x A2 := fun δ a => by
  obtain ⟨δ1, e1, a1, u⟩ := h δ a
  exact ⟨δ1, e1, a1.le l, u⟩
end
/-! ### blocks -/
/-- how a block with ends of all kinds ends -/
inductive Res (β ρ : Type) where
  | nx (b : β) | bk (b : β) | ct (b : β) | rt (r : ρ)
  deriving DecidableEq
def RB {τ : Type} (A : List Sl) (m : Blk) (n : Option τ) (S : τ → Out → Prop) : Prop := ∀ t, n = some t → ∀ δ, Agr A δ → ∃ out, m δ = some out ∧ S t out
def Nx {β : Type} (A : β → List Sl) : β → Out → Prop := fun b out => ∃ δ, out = .nx δ ∧ Agr (A b) δ
def Rt {ρ : Type} (er : ρ → D) (A : ρ → List Sl) : ρ → Out → Prop := fun r out => ∃ δ, out = .rt (er r) δ ∧ Agr (A r) δ
def Rs {β ρ : Type} (A : β → List Sl) (T : ρ → Out → Prop) : Res β ρ → Out → Prop
  | .nx b, out => ∃ δ, out = .nx δ ∧ Agr (A b) δ
  | .bk b, out => ∃ δ, out = .bk δ ∧ Agr (A b) δ
  | .ct b, out => ∃ δ, out = .ct δ ∧ Agr (A b) δ
  | .rt r, out => T r out ∧ ∃ d δ, out = .rt d δ
/-- behind a value that may not be -/
def bnd {α β : Type} : Option α → (α → Option β) → Option β
  | none, _ => none
  | some a, f => f a
@[simp] theorem bnd_some {α β : Type} (a : α) (f : α → Option β) : bnd (some a) f = f a := rfl
@[simp] theorem bnd_none {α β : Type} (f : α → Option β) : bnd none f = none := rfl
/-- a name for a value -/
def lv {α β : Type} (a : α) (f : α → β) : β := f a
section
variable {p p1 p2 p3 : Bool} {τ β ρ α : Type} {A A1 A2 A3 : List Sl} {m ma mb rest : Blk} {S : τ → Out → Prop} {t : τ} {n : Option τ} {me : Den} {d : D} {r : R}
theorem bnd_eq {x : Option α} {f : α → Option β} {y : β} (h : bnd x f = some y) : ∃ a, x = some a ∧ f a = some y := by
  cases x with
  | none => cases h
  | some a => exact ⟨a, rfl, h⟩
theorem k_bnd {x : Option α} {f : α → Option τ} (h : ∀ a, x = some a → RB A m (f a) S) : RB A m (bnd x f) S := fun t e => by
  obtain ⟨a, h1, h2⟩ := bnd_eq e
  exact h a h1 t h2
theorem dSeq_dNx (m : Blk) : dSeq m dNx = m := by
  funext δ
  unfold dSeq
  cases e : m δ with
  | none => rfl
  | some o => cases o <;> rfl
theorem k_last (h : RB A (dSeq m dNx) n S) : RB A m n S := by rwa [dSeq_dNx] at h
theorem k_nil (h : RB A rest n S) : RB A (dSeq dNx rest) n S := h
theorem dSeq_assoc (a b c : Blk) : dSeq (dSeq a b) c = dSeq a (dSeq b c) := by
  funext δ
  simp only [dSeq]
  cases e : a δ with
  | none => rfl
  | some o => cases o <;> rfl
theorem k_assoc (h : RB A (dSeq ma (dSeq mb rest)) n S) : RB A (dSeq (dSeq ma mb) rest) n S := by rwa [dSeq_assoc]
theorem k_nx (h : ∀ δ, Agr A δ → S t (.nx δ)) : RB A dNx (some t) S := fun t' e δ a => by
  cases (Option.some.inj e)
  exact ⟨_, rfl, h δ a⟩
theorem k_ret {kp : Nat → Bool} (h : RV p A me (.own d) A1) (g : ∀ δ, Agr A1 δ → S t (.rt d δ)) : RB A (dSeq (dRet kp me) rest) (some t) S := fun t' e δ a => by
  cases (Option.some.inj e)
  obtain ⟨δ1, e1, a1, _⟩ := h δ a
  exact ⟨_, by simp only [dSeq, dRet, e1], g δ1 a1⟩
theorem k_asg {i : Nat} (h : RV p A me (.own d) A1) (hi : i < A1.length) (g : RB (A1.set i (.is d)) rest n S) : RB A (dSeq (dAsg (bName i) me) rest) n S := fun t' e δ a => by
  obtain ⟨δ1, e1, a1, _⟩ := h δ a
  have hl : i < δ1.length := by rw [a1.len]; exact hi
  simp only [dSeq, dAsg, e1, bName, hl, if_true]
  exact g t' e _ (a1.set i d)
/-- names for what a target takes -/
def Bd (vs : List Nat) (A : List Sl) (b : Bnd) (d : D) (A' : List Sl) : Prop := ∀ δ, Agr A δ → ∃ δ', b d δ = some δ' ∧ Agr A' δ' ∧ δ'.length = δ.length ∧ ∀ i, i ∉ vs → δ'[i]? = δ[i]?
def Bds (vs : List Nat) (A : List Sl) (b : Bnds) (d : List D) (A' : List Sl) : Prop := ∀ δ, Agr A δ → ∃ δ', b d δ = some δ' ∧ Agr A' δ' ∧ δ'.length = δ.length ∧ ∀ i, i ∉ vs → δ'[i]? = δ[i]?
theorem b_name {i : Nat} (hi : i < A.length) : Bd [i] A (bName i) d (A.set i (.is d)) := fun δ a =>
  ⟨δ.set i (some d), by simp only [bName, (show i < δ.length by rw [a.len]; exact hi), if_true], a.set i d, by simp, fun j hj => by rw [List.getElem?_set_ne (fun e => hj (by simp [e]))]⟩
theorem b_nil : Bds [] A bNil [] A := fun δ a => ⟨δ, rfl, a, rfl, fun _ _ => rfl⟩
theorem b_cons {vs vt : List Nat} {b : Bnd} {bs : Bnds} {ds : List D} (h : Bd vs A b d A1) (g : Bds vt A1 bs ds A2) : Bds (vs ++ vt) A (bCons b bs) (d :: ds) A2 := fun δ a => by
  obtain ⟨δ1, e1, a1, l1, k1⟩ := h δ a
  obtain ⟨δ2, e2, a2, l2, k2⟩ := g δ1 a1
  exact ⟨δ2, by simp only [bCons, e1, e2], a2, l2.trans l1, fun i hi => by
    simp only [List.mem_append, not_or] at hi
    rw [k2 i hi.2, k1 i hi.1]⟩
theorem b_tup {vs : List Nat} {k : Nat} {bs : Bnds} {ds : List D} (g : Bds vs A bs ds A1) (hl : ds.length = k) : Bd vs A (bTup k bs) (.tup ds) A1 := fun δ a => by
  obtain ⟨δ1, e1, a1, l1, k1⟩ := g δ a
  exact ⟨δ1, by simp only [bTup, hl, if_true, e1], a1, l1, k1⟩
theorem k_asgT {vs : List Nat} {b : Bnd} (h : RV p A me (.own d) A1) (hb : Bd vs A1 b d A2) (g : RB A2 rest n S) : RB A (dSeq (dAsg b me) rest) n S := fun t' e δ a => by
  obtain ⟨δ1, e1, a1, _⟩ := h δ a
  obtain ⟨δ2, e2, a2, _⟩ := hb δ1 a1
  simp only [dSeq, dAsg, e1, e2]
  exact g t' e _ a2
theorem k_expr (h : RV p A me r A1) (g : RB A1 rest n S) : RB A (dSeq (dDrop me) rest) n S := fun t' e δ a => by
  obtain ⟨δ1, e1, a1, _⟩ := h δ a
  simp only [dSeq, dDrop, e1]
  exact g t' e _ a1
theorem mutD_root {δ : DE} {i : Nat} {xs xs' : List D} {f : List D → Option (List D)} (h : δ[i]? = some (some (.lst xs))) (e : f xs = some xs') : mutD δ (.at i []) f = some (δ.set i (some (.lst xs'))) := by
  simp only [mutD, h, getP, e, setP]
theorem isLst_root {δ : DE} {i : Nat} {xs : List D} (h : δ[i]? = some (some (.lst xs))) : isLst δ (.at i []) = true := by
  simp only [isLst, deref, h, getP]
/-- append to a list that a name holds -/
theorem r_append {i : Nat} {mo : Den} {xs : List D} {q : Bool} (ho : RV p1 A mo (.at i []) A1) (g1 : A1[i]? = some (.is (.lst xs))) (h : RV p2 A1 me (.own d) A2) (g : A2[i]? = some (.is (.lst xs))) (hl : xs.length < 1000000) :
    RV false A (dAppend q mo me) (.own .non) (A2.set i (.is (.lst (xs ++ [d])))) := fun δ a => by
  obtain ⟨δ1, e1, a1, _⟩ := ho δ a
  obtain ⟨δ2, e2, a2, _⟩ := h δ1 a1
  refine ⟨_, ?_, a2.set i _, fun h => by cases h⟩
  simp only [dAppend, e1, e2, R.short, Bool.true_or, isLst_root (a1.get _ _ g1), Bool.and_self, if_true]
  rw [mutD_root (a2.get _ _ g) (xs' := xs ++ [d]) (by simp only [hl, if_true])]
theorem k_setI {i : Nat} {mo mi : Den} {xs : List D} {qo qi : Bool} {k : Int} {j : Nat} (h : RV p1 A me (.own d) A1) (ho : RV p2 A1 mo (.at i []) A2) (hi : RV p3 A2 mi (.own (.int k)) A3) (g : A3[i]? = some (.is (.lst xs))) (hj : ixN xs.length k = some j)
    (c : RB (A3.set i (.is (.lst (xs.set j d)))) rest n S) : RB A (dSeq (dSetI qo qi mo mi me) rest) n S := fun t' e δ a => by
  obtain ⟨δ1, e1, a1, _⟩ := h δ a
  obtain ⟨δ2, e2, a2, _⟩ := ho δ1 a1
  obtain ⟨δ3, e3, a3, _⟩ := hi δ2 a2
  simp only [dSeq, dSetI, e1, e2, e3, R.short, Bool.true_or, if_true]
  rw [mutD_root (a3.get _ _ g) (xs' := xs.set j d) (by simp only [hj])]
  exact c t' e _ (a3.set i _)
theorem k_aug {i : Nat} {f : Int → Int → Int} {x y : Int} (g : A[i]? = some (.is (.int x))) (h : RV p A me (.own (.int y)) A1) (hi : i < A1.length) (c : RB (A1.set i (.is (.int (f x y)))) rest n S) : RB A (dSeq (dAug i f me) rest) n S := fun t' e δ a => by
  obtain ⟨δ1, e1, a1, _⟩ := h δ a
  have hl : i < δ1.length := by rw [a1.len]; exact hi
  simp only [dSeq, dAug, a.get _ _ g, e1, hl, if_true]
  exact c t' e _ (a1.set i _)
/-- both ways go on -/
theorem k_ifJ {c : DenT} {b : Bool} {na nb : Option β} {A' : β → List Sl} {k : β → Option τ} (h : RT p A c b A1) (h1 : b = true → RB A1 ma na (Nx A')) (h2 : b = false → RB A1 mb nb (Nx A')) (g : ∀ x, RB (A' x) rest (k x) S) :
    RB A (dSeq (dIf c ma mb) rest) (bnd (if b = true then na else nb) k) S := fun t' e δ a => by
  obtain ⟨δ1, e1, a1, _⟩ := h δ a
  obtain ⟨x, h3, h4⟩ := bnd_eq e
  cases b with
  | true =>
    obtain ⟨out, e2, δ2, rfl, a2⟩ := h1 rfl x h3 δ1 a1
    simp only [dSeq, dIf, e1, e2]
    exact g x t' h4 _ a2
  | false =>
    obtain ⟨out, e2, δ2, rfl, a2⟩ := h2 rfl x h3 δ1 a1
    simp only [dSeq, dIf, e1, e2]
    exact g x t' h4 _ a2
/-- both ways with what follows -/
theorem k_if {c : DenT} {b : Bool} {na nb : Option τ} (h : RT p A c b A1) (h1 : b = true → RB A1 (dSeq ma rest) na S) (h2 : b = false → RB A1 (dSeq mb rest) nb S) :
    RB A (dSeq (dIf c ma mb) rest) (if b = true then na else nb) S := fun t' e δ a => by
  obtain ⟨δ1, e1, a1, _⟩ := h δ a
  cases b with
  | true =>
    obtain ⟨out, e2, s⟩ := h1 rfl t' e δ1 a1
    refine ⟨out, ?_, s⟩
    simp only [dSeq, dIf, e1] at e2 ⊢
    exact e2
  | false =>
    obtain ⟨out, e2, s⟩ := h2 rfl t' e δ1 a1
    refine ⟨out, ?_, s⟩
    simp only [dSeq, dIf, e1] at e2 ⊢
    exact e2
end
end Y


set_option Elab.async false
set_option linter.all false
set_option maxRecDepth 100000
/-! loops, blocks in brackets -/
namespace Y
open PySem PySem.Spec PyProof.Rows L2 Z
def forN {α β : Type} (f : α → β → Option β) : List α → β → Option β
  | [], b => some b
  | x :: xs, b => match f x b with
    | some b' => forN f xs b'
    | none => none
def forR {α β ρ : Type} (f : α → β → Option (Res β ρ)) : List α → β → Option (Res β ρ)
  | [], b => some (.nx b)
  | x :: xs, b => match f x b with
    | some (.nx b') => forR f xs b'
    | some (.ct b') => forR f xs b'
    | some (.bk b') => some (.nx b')
    | some (.rt r) => some (.rt r)
    | none => none
def whileN {β : Type} (c : β → Option Bool) (f : β → Option β) : Nat → β → Option β
  | 0, _ => none
  | n + 1, b => match c b with
    | some true => match f b with
      | some b' => whileN c f n b'
      | none => none
    | some false => some b
    | none => none
def whileR {β ρ : Type} (c : β → Option Bool) (f : β → Option (Res β ρ)) : Nat → β → Option (Res β ρ)
  | 0, _ => none
  | n + 1, b => match c b with
    | some true => match f b with
      | some (.nx b') => whileR c f n b'
      | some (.ct b') => whileR c f n b'
      | some (.bk b') => some (.nx b')
      | some (.rt r) => some (.rt r)
      | none => none
    | some false => some (.nx b)
    | none => none
def onR {β ρ τ : Type} (j : ρ → Option τ) (k : β → Option τ) : Res β ρ → Option τ
  | .nx b => k b
  | .rt r => j r
  | _ => none
def lcO {α β : Type} (t : α → Option Bool) (e : α → Option β) : List α → Option (List β)
  | [] => some []
  | x :: xs => match t x with
    | some true => match e x with
      | some y => match lcO t e xs with
        | some ys => some (y :: ys)
        | none => none
      | none => none
    | some false => lcO t e xs
    | none => none
def lcS {α β σ : Type} (t : α → σ → Option (Bool × σ)) (e : α → σ → Option (β × σ)) : List α → σ → Option (List β × σ)
  | [], s => some ([], s)
  | x :: xs, s => match t x s with
    | some (true, s1) => match e x s1 with
      | some (y, s2) => match lcS t e xs s2 with
        | some (ys, s3) => some (y :: ys, s3)
        | none => none
      | none => none
    | some (false, s1) => lcS t e xs s1
    | none => none
def allO {α : Type} (t e : α → Option Bool) : List α → Option Bool
  | [] => some true
  | x :: xs => match t x with
    | some true => match e x with
      | some true => allO t e xs
      | some false => some false
      | none => none
    | some false => allO t e xs
    | none => none
def anyO {α : Type} (t e : α → Option Bool) : List α → Option Bool
  | [] => some false
  | x :: xs => match t x with
    | some true => match e x with
      | some false => anyO t e xs
      | some true => some true
      | none => none
    | some false => anyO t e xs
    | none => none
/-- the guards of a loop stand -/
def Gd (A : List Sl) (gs : List (Nat × D)) : Prop := ∀ δ, Agr A δ → gOk gs δ = true
theorem gd_nil {A : List Sl} : Gd A [] := fun _ _ => rfl
theorem gd_cons {A : List Sl} {i : Nat} {d : D} {gs : List (Nat × D)} (h : A[i]? = some (.is d)) (g : Gd A gs) : Gd A ((i, d) :: gs) := fun δ a => by
  simp only [gOk, a.get i d h, decide_true, g δ a, Bool.and_self]
section
variable {p p1 p2 p3 : Bool} {α β σ τ ρ : Type} {A A1 A2 A3 : List Sl} {m ma mb rest : Blk} {S : τ → Out → Prop} {n : Option τ} {me : Den} {mt : DenT} {ms : DenS} {bd : Bnd} {kp : Nat → Bool} {gs : List (Nat × D)} {A0 : β → List Sl}
theorem dForL_N {vs : List Nat} {e : α → D} {f : α → β → Option β} (hg : ∀ b, Gd (A0 b) gs) {B : α → β → List Sl} (hb : ∀ x b, Bd vs (A0 b) bd (e x) (B x b)) (hm : ∀ x b, RB (B x b) mb (f x b) (Nx A0)) :
    ∀ (xs : List α) (b b' : β), forN f xs b = some b' → ∀ δ, Agr (A0 b) δ → ∃ δ', dForL gs bd mb (xs.map e) δ = some (.nx δ') ∧ Agr (A0 b') δ'
  | [], b, b', h, δ, a => by
    cases (Option.some.inj h)
    exact ⟨δ, by simp only [List.map_nil, dForL, hg b δ a, if_true], a⟩
  | x :: xs, b, b', h, δ, a => by
    simp only [forN] at h
    cases h1 : f x b with
    | none => rw [h1] at h; cases h
    | some b1 =>
      rw [h1] at h
      obtain ⟨δ1, e1, a1, _⟩ := hb x b δ a
      obtain ⟨out, e2, δ2, rfl, a2⟩ := hm x b b1 h1 δ1 a1
      obtain ⟨δ3, e3, a3⟩ := dForL_N hg hb hm xs b1 b' h δ2 a2
      exact ⟨δ3, by simp only [List.map_cons, dForL, hg b δ a, if_true, e1, e2, e3], a3⟩
theorem k_forN {vs : List Nat} {xs : List α} {e : α → D} {f : α → β → Option β} {b0 : β} {B : α → β → List Sl} {k : β → Option τ} (A0 : β → List Sl) (hs : RS p A ms ⟨xs.map e, gs⟩ A1) (l : Le A1 (A0 b0)) (hk : gsIn kp gs = true) (hg : ∀ b, Gd (A0 b) gs)
    (hb : ∀ x b, Bd vs (A0 b) bd (e x) (B x b)) (hm : ∀ x b, RB (B x b) mb (f x b) (Nx A0)) (hr : ∀ b, RB (A0 b) rest (k b) S) : RB A (dSeq (dFor kp ms bd mb) rest) (bnd (forN f xs b0) k) S := fun t e δ a => by
  obtain ⟨b, h1, h2⟩ := bnd_eq e
  obtain ⟨δ1, e1, a1, _⟩ := hs δ a
  obtain ⟨δ2, e2, a2⟩ := dForL_N hg hb hm xs b0 b h1 δ1 (a1.le l)
  simp only [dSeq, dFor, e1, hk, if_true, e2]
  exact hr b t h2 δ2 a2
theorem dForL_R {vs : List Nat} {e : α → D} {f : α → β → Option (Res β ρ)} {T : ρ → Out → Prop} (hg : ∀ b, Gd (A0 b) gs) {B : α → β → List Sl} (hb : ∀ x b, Bd vs (A0 b) bd (e x) (B x b)) (hm : ∀ x b, RB (B x b) mb (f x b) (Rs A0 T)) :
    ∀ (xs : List α) (b : β) (r : Res β ρ), forR f xs b = some r → ∀ δ, Agr (A0 b) δ → ∃ out, dForL gs bd mb (xs.map e) δ = some out ∧ match r with | .nx b' => ∃ δ', out = .nx δ' ∧ Agr (A0 b') δ' | .rt r => T r out ∧ ∃ d δ, out = .rt d δ | _ => False
  | [], b, b', h, δ, a => by
    cases (Option.some.inj h)
    exact ⟨_, by simp only [List.map_nil, dForL, hg b δ a, if_true], δ, rfl, a⟩
  | x :: xs, b, b', h, δ, a => by
    simp only [forR] at h
    cases h1 : f x b with
    | none => rw [h1] at h; cases h
    | some b1 =>
      rw [h1] at h
      obtain ⟨δ1, e1, a1, _⟩ := hb x b δ a
      obtain ⟨out, e2, s⟩ := hm x b b1 h1 δ1 a1
      cases b1 with
      | nx b1 =>
        obtain ⟨δ2, rfl, a2⟩ := s
        obtain ⟨o3, e3, a3⟩ := dForL_R hg hb hm xs b1 b' h δ2 a2
        exact ⟨o3, by simp only [List.map_cons, dForL, hg b δ a, if_true, e1, e2, e3], a3⟩
      | ct b1 =>
        obtain ⟨δ2, rfl, a2⟩ := s
        obtain ⟨o3, e3, a3⟩ := dForL_R hg hb hm xs b1 b' h δ2 a2
        exact ⟨o3, by simp only [List.map_cons, dForL, hg b δ a, if_true, e1, e2, e3], a3⟩
      | bk b1 =>
        obtain ⟨δ2, rfl, a2⟩ := s
        cases (Option.some.inj h)
        exact ⟨.nx δ2, by simp only [List.map_cons, dForL, hg b δ a, if_true, e1, e2], δ2, rfl, a2⟩
      | rt r1 =>
        cases (Option.some.inj h)
        obtain ⟨s1, d, δ2, rfl⟩ := s
        exact ⟨_, by simp only [List.map_cons, dForL, hg b δ a, if_true, e1, e2], s1, d, δ2, rfl⟩
theorem k_forR {vs : List Nat} {xs : List α} {e : α → D} {f : α → β → Option (Res β ρ)} {b0 : β} {B : α → β → List Sl} {k : β → Option τ} {j : ρ → Option τ} (T : ρ → Out → Prop) (A0 : β → List Sl) (hs : RS p A ms ⟨xs.map e, gs⟩ A1) (l : Le A1 (A0 b0)) (hk : gsIn kp gs = true) (hg : ∀ b, Gd (A0 b) gs)
    (hb : ∀ x b, Bd vs (A0 b) bd (e x) (B x b)) (hm : ∀ x b, RB (B x b) mb (f x b) (Rs A0 T)) (hj : ∀ r t out, j r = some t → T r out → (∃ d δ, out = .rt d δ) → S t out) (hr : ∀ b, RB (A0 b) rest (k b) S) : RB A (dSeq (dFor kp ms bd mb) rest) (bnd (forR f xs b0) (onR j k)) S := fun t e δ a => by
  obtain ⟨b, h1, h2⟩ := bnd_eq e
  obtain ⟨δ1, e1, a1, _⟩ := hs δ a
  obtain ⟨o2, e2, a2⟩ := dForL_R hg hb hm xs b0 b h1 δ1 (a1.le l)
  simp only [dSeq, dFor, e1, hk, if_true, e2]
  cases b with
  | nx b =>
    obtain ⟨δ2, rfl, a2⟩ := a2
    exact hr b t h2 δ2 a2
  | rt r =>
    obtain ⟨s, d, δ2, rfl⟩ := a2
    exact ⟨_, rfl, hj r t _ h2 s ⟨d, δ2, rfl⟩⟩
  | bk b => exact a2.elim
  | ct b => exact a2.elim
theorem dWhile_N {c : β → Option Bool} {f : β → Option β} (hc : ∀ b v, c b = some v → RT p (A0 b) mt v (A0 b)) (hm : ∀ b, c b = some true → RB (A0 b) mb (f b) (Nx A0)) :
    ∀ (n : Nat) (b b' : β), whileN c f n b = some b' → ∀ δ, Agr (A0 b) δ → ∃ δ', dWhile mt mb n δ = some (.nx δ') ∧ Agr (A0 b') δ'
  | 0, b, b', h, δ, a => by cases h
  | n + 1, b, b', h, δ, a => by
    simp only [whileN] at h
    cases h0 : c b with
    | none => rw [h0] at h; cases h
    | some v =>
      rw [h0] at h
      obtain ⟨δ1, e1, a1, _⟩ := hc b v h0 δ a
      cases v with
      | false =>
        cases (Option.some.inj h)
        exact ⟨δ1, by simp only [dWhile, e1], a1⟩
      | true =>
        cases h1 : f b with
        | none => rw [h1] at h; cases h
        | some b1 =>
          rw [h1] at h
          obtain ⟨out, e2, δ2, rfl, a2⟩ := hm b h0 b1 h1 δ1 a1
          obtain ⟨δ3, e3, a3⟩ := dWhile_N hc hm n b1 b' h δ2 a2
          exact ⟨δ3, by simp only [dWhile, e1, e2, e3], a3⟩
theorem k_whileN {c : β → Option Bool} {f : β → Option β} {b0 : β} {k : β → Option τ} {w : Nat} (A0 : β → List Sl) (l : Le A (A0 b0)) (hc : ∀ b v, c b = some v → RT p (A0 b) mt v (A0 b)) (hm : ∀ b, c b = some true → RB (A0 b) mb (f b) (Nx A0)) (hr : ∀ b, RB (A0 b) rest (k b) S) :
    RB A (dSeq (dWhile mt mb w) rest) (bnd (whileN c f w b0) k) S := fun t e δ a => by
  obtain ⟨b, h1, h2⟩ := bnd_eq e
  obtain ⟨δ2, e2, a2⟩ := dWhile_N hc hm w b0 b h1 δ (a.le l)
  simp only [dSeq, e2]
  exact hr b t h2 δ2 a2
theorem dWhile_R {c : β → Option Bool} {f : β → Option (Res β ρ)} {T : ρ → Out → Prop} (hc : ∀ b v, c b = some v → RT p (A0 b) mt v (A0 b)) (hm : ∀ b, c b = some true → RB (A0 b) mb (f b) (Rs A0 T)) :
    ∀ (n : Nat) (b : β) (r : Res β ρ), whileR c f n b = some r → ∀ δ, Agr (A0 b) δ → ∃ out, dWhile mt mb n δ = some out ∧ match r with | .nx b' => ∃ δ', out = .nx δ' ∧ Agr (A0 b') δ' | .rt r => T r out ∧ ∃ d δ, out = .rt d δ | _ => False
  | 0, b, b', h, δ, a => by cases h
  | n + 1, b, b', h, δ, a => by
    simp only [whileR] at h
    cases h0 : c b with
    | none => rw [h0] at h; cases h
    | some v =>
      rw [h0] at h
      obtain ⟨δ1, e1, a1, _⟩ := hc b v h0 δ a
      cases v with
      | false =>
        cases (Option.some.inj h)
        exact ⟨_, by simp only [dWhile, e1], δ1, rfl, a1⟩
      | true =>
        cases h1 : f b with
        | none => rw [h1] at h; cases h
        | some b1 =>
          rw [h1] at h
          obtain ⟨out, e2, s⟩ := hm b h0 b1 h1 δ1 a1
          cases b1 with
          | nx b1 =>
            obtain ⟨δ2, rfl, a2⟩ := s
            obtain ⟨o3, e3, a3⟩ := dWhile_R hc hm n b1 b' h δ2 a2
            exact ⟨o3, by simp only [dWhile, e1, e2, e3], a3⟩
          | ct b1 =>
            obtain ⟨δ2, rfl, a2⟩ := s
            obtain ⟨o3, e3, a3⟩ := dWhile_R hc hm n b1 b' h δ2 a2
            exact ⟨o3, by simp only [dWhile, e1, e2, e3], a3⟩
          | bk b1 =>
            obtain ⟨δ2, rfl, a2⟩ := s
            cases (Option.some.inj h)
            exact ⟨.nx δ2, by simp only [dWhile, e1, e2], δ2, rfl, a2⟩
          | rt r1 =>
            cases (Option.some.inj h)
            obtain ⟨s1, d, δ2, rfl⟩ := s
            exact ⟨_, by simp only [dWhile, e1, e2], s1, d, δ2, rfl⟩
theorem k_whileR {c : β → Option Bool} {f : β → Option (Res β ρ)} {b0 : β} {k : β → Option τ} {j : ρ → Option τ} {w : Nat} (T : ρ → Out → Prop) (A0 : β → List Sl) (l : Le A (A0 b0)) (hc : ∀ b v, c b = some v → RT p (A0 b) mt v (A0 b)) (hm : ∀ b, c b = some true → RB (A0 b) mb (f b) (Rs A0 T))
    (hj : ∀ r t out, j r = some t → T r out → (∃ d δ, out = .rt d δ) → S t out) (hr : ∀ b, RB (A0 b) rest (k b) S) : RB A (dSeq (dWhile mt mb w) rest) (bnd (whileR c f w b0) (onR j k)) S := fun t e δ a => by
  obtain ⟨b, h1, h2⟩ := bnd_eq e
  obtain ⟨o2, e2, a2⟩ := dWhile_R hc hm w b0 b h1 δ (a.le l)
  simp only [dSeq, e2]
  cases b with
  | nx b =>
    obtain ⟨δ2, rfl, a2⟩ := a2
    exact hr b t h2 δ2 a2
  | rt r =>
    obtain ⟨s, d, δ2, rfl⟩ := a2
    exact ⟨_, rfl, hj r t _ h2 s ⟨d, δ2, rfl⟩⟩
  | bk b => exact a2.elim
  | ct b => exact a2.elim
/-! leaves -/
theorem nx_le {b : β} (l : Le A (A0 b)) : ∀ δ, Agr A δ → Nx A0 b (.nx δ) := fun δ a => ⟨δ, rfl, a.le l⟩
theorem rs_nx {T : ρ → Out → Prop} {b : β} (l : Le A (A0 b)) : ∀ δ, Agr A δ → Rs A0 T (.nx b) (.nx δ) := fun δ a => ⟨δ, rfl, a.le l⟩
theorem rs_rt {T : ρ → Out → Prop} {r : ρ} {d : D} (h : ∀ δ, Agr A δ → T r (.rt d δ)) : ∀ δ, Agr A δ → Rs A0 T (.rt r) (.rt d δ) := fun δ a => ⟨h δ a, d, δ, rfl⟩
theorem rt_le {er : ρ → D} {Ar : ρ → List Sl} {r : ρ} (l : Le A (Ar r)) : ∀ δ, Agr A δ → Rt er Ar r (.rt (er r) δ) := fun δ a => ⟨δ, rfl, a.le l⟩
theorem j_some {T : ρ → Out → Prop} : ∀ r t out, (some r : Option ρ) = some t → T r out → (∃ d δ, out = .rt d δ) → T t out := fun r t out e h _ => by cases e; exact h
theorem j_rs {T : ρ → Out → Prop} : ∀ r t out, (some (.rt r) : Option (Res β ρ)) = some t → T r out → (∃ d δ, out = .rt d δ) → Rs A0 T t out := fun r t out e h g => by cases e; exact ⟨h, g⟩
/-! blocks in brackets -/
theorem restD_len (δ0 : DE) : ∀ (vs : List Nat) (δ2 : DE), (restD δ0 δ2 vs).length = δ2.length
  | [], _ => rfl
  | v :: vs, δ2 => by rw [restD, restD_len δ0 vs, List.length_set]
theorem restD_get (δ0 : DE) : ∀ (vs : List Nat) (δ2 : DE) (i : Nat), i ∉ vs → (restD δ0 δ2 vs)[i]? = δ2[i]?
  | [], _, _, _ => rfl
  | v :: vs, δ2, i, h => by
    simp only [List.mem_cons, not_or] at h
    rw [restD, restD_get δ0 vs _ i h.2, List.getElem?_set_ne (Ne.symm h.1)]
theorem setSl_get {A : List Sl} : ∀ {vs : List Nat} {i : Nat} {d : D}, (setSl A vs)[i]? = some (.is d) → i ∉ vs
  | [], _, _, _ => by simp
  | v :: vs, i, d, h => by
    rw [setSl, List.getElem?_set] at h
    by_cases hv : v = i
    · rw [if_pos hv] at h
      split at h <;> cases h
    · rw [if_neg hv] at h
      simp only [List.mem_cons, not_or]
      exact ⟨Ne.symm hv, setSl_get h⟩
theorem Agr.rst {A : List Sl} {vs : List Nat} {δ2 : DE} (h : Agr (setSl A vs) δ2) (δ0 : DE) : Agr (setSl A vs) (restD δ0 δ2 vs) :=
  ⟨by rw [restD_len]; exact h.len, fun i d e => by rw [restD_get δ0 vs δ2 i (setSl_get e)]; exact h.get i d e⟩
theorem wipe_get2 : ∀ {vs : List Nat} {δ : DE} {i : Nat}, i ∈ vs → i < δ.length → (wipeD δ vs)[i]? = some none
  | v :: vs, δ, i, h, hl => by
    rw [wipeD, List.getElem?_set]
    by_cases hv : v = i
    · rw [if_pos hv, if_pos (by rw [wipeD_len]; omega)]
    · rw [if_neg hv]
      rcases List.mem_cons.mp h with h | h
      · exact absurd h.symm hv
      · exact wipe_get2 h hl
theorem wipe_get3 : ∀ {vs : List Nat} {δ : DE} {i : Nat}, i ∉ vs → (wipeD δ vs)[i]? = δ[i]?
  | [], _, _, _ => rfl
  | v :: vs, δ, i, h => by
    simp only [List.mem_cons, not_or] at h
    rw [wipeD, List.getElem?_set_ne (Ne.symm h.1), wipe_get3 h.2]
/-- what changes only the block's own names is as before when they are wiped -/
theorem wipe_eq {vs : List Nat} {δ δ' : DE} (hl : δ'.length = δ.length) (h : ∀ i, i ∉ vs → δ'[i]? = δ[i]?) : wipeD δ' vs = wipeD δ vs := by
  apply List.ext_getElem?
  intro i
  by_cases hv : i ∈ vs
  · by_cases hi : i < δ.length
    · rw [wipe_get2 hv hi, wipe_get2 hv (by omega)]
    · rw [List.getElem?_eq_none (by rw [wipeD_len]; omega), List.getElem?_eq_none (by rw [wipeD_len]; omega)]
  · rw [wipe_get3 hv, wipe_get3 hv, h i hv]
theorem dLcL_S {vs vb : List Nat} {B : α → σ → List Sl} {B1 : α → σ → List Sl} {A0 : σ → List Sl} {ex : α → D} {g : β → D} {t : α → σ → Option (Bool × σ)} {e : α → σ → Option (β × σ)} (hg : ∀ s, Gd (setSl (A0 s) vs) gs) (hb : ∀ x s, Bd vb (setSl (A0 s) vs) bd (ex x) (B x s))
    (ht : ∀ x s v s', t x s = some (v, s') → RT p1 (B x s) mt v (B1 x s')) (he : ∀ x s y s', e x s = some (y, s') → RV p2 (B1 x s) me (.own (g y)) (B1 x s')) (hw : ∀ x s, Le (setSl (B1 x s) vs) (setSl (A0 s) vs)) :
    ∀ (xs : List α) (s : σ) (ys : List β) (s' : σ), lcS t e xs s = some (ys, s') → ∀ δ, Agr (setSl (A0 s) vs) δ → ∃ δ', dLcL gs vs bd mt me (xs.map ex) δ = some (ys.map g, δ') ∧ Agr (setSl (A0 s') vs) δ'
  | [], s, ys, s', h, δ, a => by
    cases (Option.some.inj h)
    exact ⟨δ, by simp only [List.map_nil, dLcL, hg s δ a, if_true], a⟩
  | x :: xs, s, ys, s', h, δ, a => by
    simp only [lcS] at h
    obtain ⟨δ1, e1, a1, _⟩ := hb x s δ a
    cases h1 : t x s with
    | none => rw [h1] at h; cases h
    | some q =>
      obtain ⟨v, s1⟩ := q
      rw [h1] at h
      obtain ⟨δ2, e2, a2, _⟩ := ht x s v s1 h1 δ1 a1
      cases v with
      | false =>
        obtain ⟨δ3, e3, a3⟩ := dLcL_S hg hb ht he hw xs s1 ys s' h _ ((a2.wipe vs).le (hw x s1))
        exact ⟨δ3, by simp only [List.map_cons, dLcL, hg s δ a, if_true, e1, e2, e3], a3⟩
      | true =>
        simp only at h
        cases h3 : e x s1 with
        | none => rw [h3] at h; cases h
        | some q =>
          obtain ⟨y, s2⟩ := q
          rw [h3] at h
          obtain ⟨δ4, e4, a4, _⟩ := he x s1 y s2 h3 δ2 a2
          cases h5 : lcS t e xs s2 with
          | none => simp only [h5] at h; cases h
          | some q =>
            obtain ⟨zs, s3⟩ := q
            simp only [h5] at h
            cases (Option.some.inj h)
            obtain ⟨δ3, e3, a3⟩ := dLcL_S hg hb ht he hw xs s2 _ _ h5 _ ((a4.wipe vs).le (hw x s2))
            exact ⟨δ3, by simp only [List.map_cons, dLcL, hg s δ a, if_true, e1, e2, e4, e3], a3⟩
/-- with effects -/
theorem r_lcS {vs vb : List Nat} {xs : List α} {ys : List β} {s s' : σ} {ex : α → D} {g : β → D} {t : α → σ → Option (Bool × σ)} {e : α → σ → Option (β × σ)} {B B1 : α → σ → List Sl} (A0 : σ → List Sl) (hs : RS p A ms ⟨xs.map ex, gs⟩ (A0 s)) (hk : gsIn (kpOut vs) gs = true) (h : lcS t e xs s = some (ys, s')) (hg : ∀ s, Gd (setSl (A0 s) vs) gs)
    (hb : ∀ x s, Bd vb (setSl (A0 s) vs) bd (ex x) (B x s)) (ht : ∀ x s v s', t x s = some (v, s') → RT p1 (B x s) mt v (B1 x s')) (he : ∀ x s y s', e x s = some (y, s') → RV p2 (B1 x s) me (.own (g y)) (B1 x s')) (hw : ∀ x s, Le (setSl (B1 x s) vs) (setSl (A0 s) vs)) :
    RV false A (dLc vs ms bd mt me) (.own (.lst (ys.map g))) (setSl (A0 s') vs) := fun δ a => by
  obtain ⟨δ1, e1, a1, _⟩ := hs δ a
  obtain ⟨δ2, e2, a2⟩ := dLcL_S hg hb ht he hw xs s ys s' h _ (a1.wipe vs)
  exact ⟨_, by simp only [dLc, e1, hk, if_true, e2], a2.rst δ1, fun h => by cases h⟩
end
end Y


set_option Elab.async false
set_option linter.all false
set_option maxRecDepth 100000
/-! blocks in brackets without effects, generators -/
namespace Y
open PySem PySem.Spec PyProof.Rows L2 Z
section
variable {p p1 p2 p3 : Bool} {α β σ τ ρ : Type} {A A1 A2 A3 : List Sl} {me : Den} {mt : DenT} {ms : DenS} {bd : Bnd} {gs : List (Nat × D)}
theorem restD_wipe (δ0 : DE) : ∀ vs : List Nat, restD δ0 (wipeD δ0 vs) vs = δ0
  | [] => rfl
  | v :: vs => by
    rw [restD, wipeD, List.set_set]
    cases h : (wipeD δ0 vs)[v]? with
    | none =>
      have hl := List.getElem?_eq_none_iff.mp h
      simp only [h]
      rw [List.set_eq_of_length_le hl]
      exact restD_wipe δ0 vs
    | some x =>
      obtain ⟨hl, hx⟩ := List.getElem?_eq_some_iff.mp h
      simp only [h]
      have e : (wipeD δ0 vs).set v x = wipeD δ0 vs := by rw [← hx]; exact List.set_getElem_self hl
      rw [e]
      exact restD_wipe δ0 vs
theorem wipe_idem (vs : List Nat) (δ : DE) : wipeD (wipeD δ vs) vs = wipeD δ vs := wipe_eq (wipeD_len δ vs) fun i hi => wipe_get3 hi
/-- one item: what the test and the element do in the wiped environment -/
structure El {vs vb : List Nat} (A : List Sl) (bd : Bnd) (mt : DenT) (me : Den) (ex : α → D) (g : β → D) (t : α → Option Bool) (e : α → Option β) (B : α → List Sl) : Prop where
  fb : ∀ x, Bd vb (setSl A vs) bd (ex x) (B x)
  ft : ∀ x v, t x = some v → RT true (B x) mt v (B x)
  fe : ∀ x y, t x = some true → e x = some y → RV true (B x) me (.own (g y)) (B x)
  fs : ∀ i ∈ vb, i ∈ vs
theorem El.run {vs vb : List Nat} {ex : α → D} {g : β → D} {t : α → Option Bool} {e : α → Option β} {B : α → List Sl} (E : El (vs := vs) (vb := vb) A bd mt me ex g t e B) {δw : DE} (a : Agr (setSl A vs) δw) (hw : wipeD δw vs = δw) (x : α) :
    ∃ δ1, bd (ex x) δw = some δ1 ∧ wipeD δ1 vs = δw ∧ (∀ v, t x = some v → mt δ1 = some (v, δ1)) ∧ (∀ y, t x = some true → e x = some y → me δ1 = some (.own (g y), δ1)) := by
  obtain ⟨δ1, e1, a1, l1, k1⟩ := E.fb x δw a
  refine ⟨δ1, e1, ?_, fun v hv => ?_, fun y hv hy => ?_⟩
  · rw [wipe_eq (δ := δw) (vs := vs) l1 fun i hi => k1 i fun h => hi (E.fs i h), hw]
  · obtain ⟨δ2, e2, a2, u⟩ := E.ft x v hv δ1 a1
    rw [u rfl] at e2; exact e2
  · obtain ⟨δ2, e2, a2, u⟩ := E.fe x y hv hy δ1 a1
    rw [u rfl] at e2; exact e2
theorem dLcL_O {vs vb : List Nat} {ex : α → D} {g : β → D} {t : α → Option Bool} {e : α → Option β} {B : α → List Sl} (E : El (vs := vs) (vb := vb) A bd mt me ex g t e B) {δw : DE} (a : Agr (setSl A vs) δw) (hw : wipeD δw vs = δw) (hg : gOk gs δw = true) :
    ∀ (xs : List α) (ys : List β), lcO t e xs = some ys → dLcL gs vs bd mt me (xs.map ex) δw = some (ys.map g, δw)
  | [], ys, h => by
    cases (Option.some.inj h)
    simp only [List.map_nil, dLcL, hg, if_true]
  | x :: xs, ys, h => by
    obtain ⟨δ1, e1, w1, t1, m1⟩ := E.run a hw x
    simp only [lcO] at h
    cases h1 : t x with
    | none => rw [h1] at h; cases h
    | some v =>
      rw [h1] at h
      cases v with
      | false =>
        have ih := dLcL_O E a hw hg xs ys h
        simp only [List.map_cons, dLcL, hg, if_true, e1, t1 _ h1, w1, ih]
      | true =>
        cases h2 : e x with
        | none => simp only [h2] at h; cases h
        | some y =>
          simp only [h2] at h
          cases h3 : lcO t e xs with
          | none => simp only [h3] at h; cases h
          | some zs =>
            simp only [h3] at h
            cases (Option.some.inj h)
            have ih := dLcL_O E a hw hg xs zs h3
            simp only [List.map_cons, dLcL, hg, if_true, e1, t1 _ h1, m1 _ h1 h2, w1, ih]
theorem r_lcO {vs vb : List Nat} {xs : List α} {ys : List β} {ex : α → D} {g : β → D} {t : α → Option Bool} {e : α → Option β} {B : α → List Sl} (hs : RS p A ms ⟨xs.map ex, gs⟩ A1) (hk : gsIn (kpOut vs) gs = true) (hg : Gd (setSl A1 vs) gs) (E : El (vs := vs) (vb := vb) A1 bd mt me ex g t e B) (h : lcO t e xs = some ys) :
    RV p A (dLc vs ms bd mt me) (.own (.lst (ys.map g))) A1 := fun δ a => by
  obtain ⟨δ1, e1, a1, u⟩ := hs δ a
  have := dLcL_O E (a1.wipe vs) (wipe_idem vs δ1) (hg _ (a1.wipe vs)) xs ys h
  exact ⟨δ1, by simp only [dLc, e1, hk, if_true, this, restD_wipe], a1, u⟩
theorem dG_never {vs vb : List Nat} {ex : α → D} {g : β → D} {t : α → Option Bool} {e : α → Option β} {B : α → List Sl} (E : El (vs := vs) (vb := vb) A bd mt me ex g t e B) {δw : DE} (a : Agr (setSl A vs) δw) (hw : wipeD δw vs = δw) (hi : ∀ y, (g y).imm = true) :
    ∀ (xs : List α) (ys : List β), lcO t e xs = some ys → dG never (gx vs bd mt me δw) (xs.map ex) = some (ys.map g)
  | [], ys, h => by
    cases (Option.some.inj h)
    rfl
  | x :: xs, ys, h => by
    obtain ⟨δ1, e1, w1, t1, m1⟩ := E.run a hw x
    simp only [lcO] at h
    cases h1 : t x with
    | none => rw [h1] at h; cases h
    | some v =>
      rw [h1] at h
      cases v with
      | false =>
        have ih := dG_never E a hw hi xs ys h
        simp only [List.map_cons, dG, gx, e1, t1 _ h1, w1, if_true, ih]
      | true =>
        cases h2 : e x with
        | none => simp only [h2] at h; cases h
        | some y =>
          simp only [h2] at h
          cases h3 : lcO t e xs with
          | none => simp only [h3] at h; cases h
          | some zs =>
            simp only [h3] at h
            cases (Option.some.inj h)
            have ih := dG_never E a hw hi xs zs h3
            simp only [List.map_cons, dG, gx, e1, t1 _ h1, m1 _ h1 h2, w1, hi, and_self, if_true, never, ih]; rfl
theorem dG_all {vs vb : List Nat} {ex : α → D} {t e : α → Option Bool} {B : α → List Sl} (E : El (vs := vs) (vb := vb) A bd mt me ex D.bl t e B) {δw : DE} (a : Agr (setSl A vs) δw) (hw : wipeD δw vs = δw) :
    ∀ (xs : List α) (v : Bool), allO t e xs = some v → ∃ R, dG stopAll (gx vs bd mt me δw) (xs.map ex) = some R ∧ allT R = some v
  | [], v, h => by
    cases (Option.some.inj h)
    exact ⟨[], rfl, rfl⟩
  | x :: xs, w, h => by
    obtain ⟨δ1, e1, w1, t1, m1⟩ := E.run a hw x
    simp only [allO] at h
    cases h1 : t x with
    | none => rw [h1] at h; cases h
    | some v =>
      rw [h1] at h
      cases v with
      | false =>
        obtain ⟨R, ih, g⟩ := dG_all E a hw xs w h
        exact ⟨R, by simp only [List.map_cons, dG, gx, e1, t1 _ h1, w1, if_true, ih], g⟩
      | true =>
        cases h2 : e x with
        | none => simp only [h2] at h; cases h
        | some y =>
          simp only [h2] at h
          cases y with
          | false =>
            cases (Option.some.inj h)
            exact ⟨[.bl false], by simp only [List.map_cons, dG, gx, e1, t1 _ h1, m1 _ h1 h2, w1, D.imm, and_self, if_true, stopAll, truthS], rfl⟩
          | true =>
            obtain ⟨R, ih, g⟩ := dG_all E a hw xs w h
            exact ⟨.bl true :: R, by simp only [List.map_cons, dG, gx, e1, t1 _ h1, m1 _ h1 h2, w1, D.imm, and_self, if_true, stopAll, truthS, ih]; rfl, by simp only [allT, truthS, g]⟩
theorem dG_any {vs vb : List Nat} {ex : α → D} {t e : α → Option Bool} {B : α → List Sl} (E : El (vs := vs) (vb := vb) A bd mt me ex D.bl t e B) {δw : DE} (a : Agr (setSl A vs) δw) (hw : wipeD δw vs = δw) :
    ∀ (xs : List α) (v : Bool), anyO t e xs = some v → ∃ R, dG stopAny (gx vs bd mt me δw) (xs.map ex) = some R ∧ anyT R = some v
  | [], v, h => by
    cases (Option.some.inj h)
    exact ⟨[], rfl, rfl⟩
  | x :: xs, w, h => by
    obtain ⟨δ1, e1, w1, t1, m1⟩ := E.run a hw x
    simp only [anyO] at h
    cases h1 : t x with
    | none => rw [h1] at h; cases h
    | some v =>
      rw [h1] at h
      cases v with
      | false =>
        obtain ⟨R, ih, g⟩ := dG_any E a hw xs w h
        exact ⟨R, by simp only [List.map_cons, dG, gx, e1, t1 _ h1, w1, if_true, ih], g⟩
      | true =>
        cases h2 : e x with
        | none => simp only [h2] at h; cases h
        | some y =>
          simp only [h2] at h
          cases y with
          | true =>
            cases (Option.some.inj h)
            exact ⟨[.bl true], by simp only [List.map_cons, dG, gx, e1, t1 _ h1, m1 _ h1 h2, w1, D.imm, and_self, if_true, stopAny, truthS], rfl⟩
          | false =>
            obtain ⟨R, ih, g⟩ := dG_any E a hw xs w h
            exact ⟨.bl false :: R, by simp only [List.map_cons, dG, gx, e1, t1 _ h1, m1 _ h1 h2, w1, D.imm, and_self, if_true, stopAny, truthS, ih]; rfl, by simp only [anyT, truthS, g]⟩
theorem gOk_wipe {vs : List Nat} {δ : DE} : ∀ {gs : List (Nat × D)}, gOk gs (wipeD δ vs) = true → gOk gs δ = true
  | [], _ => rfl
  | (i, d) :: gs, h => by
    simp only [gOk, Bool.and_eq_true, decide_eq_true_eq] at h ⊢
    refine ⟨?_, gOk_wipe h.2⟩
    by_cases hv : i ∈ vs
    · by_cases hl : i < δ.length
      · rw [wipe_get2 hv hl] at h; cases h.1
      · rw [List.getElem?_eq_none (by rw [wipeD_len]; omega)] at h; cases h.1
    · rw [wipe_get3 hv] at h; exact h.1
/-- a generator, walked to its end -/
theorem r_fold {f : List D → Option D} {vs vb : List Nat} {xs : List α} {ys : List β} {d : D} {ex : α → D} {g : β → D} {t : α → Option Bool} {e : α → Option β} {B : α → List Sl} (hs : RS p A ms ⟨xs.map ex, gs⟩ A1) (hg : Gd (setSl A1 vs) gs) (E : El (vs := vs) (vb := vb) A1 bd mt me ex g t e B)
    (hi : ∀ y, (g y).imm = true) (h : lcO t e xs = some ys) (hf : f (ys.map g) = some d) : RV p A (dFold f (dGe vs ms bd mt me never)) (.own d) A1 := fun δ a => by
  obtain ⟨δ1, e1, a1, u⟩ := hs δ a
  have := dG_never E (a1.wipe vs) (wipe_idem vs δ1) hi xs ys h
  exact ⟨δ1, by simp only [dFold, dGe, e1, gOk_wipe (hg _ (a1.wipe vs)), if_true, this, hf], a1, u⟩
theorem r_all {vs vb : List Nat} {xs : List α} {v : Bool} {ex : α → D} {t e : α → Option Bool} {B : α → List Sl} (hs : RS p A ms ⟨xs.map ex, gs⟩ A1) (hg : Gd (setSl A1 vs) gs) (E : El (vs := vs) (vb := vb) A1 bd mt me ex D.bl t e B) (h : allO t e xs = some v) :
    RV p A (dFold fAll (dGe vs ms bd mt me stopAll)) (.own (.bl v)) A1 := fun δ a => by
  obtain ⟨δ1, e1, a1, u⟩ := hs δ a
  obtain ⟨R, e2, e3⟩ := dG_all E (a1.wipe vs) (wipe_idem vs δ1) xs v h
  exact ⟨δ1, by simp only [dFold, dGe, e1, gOk_wipe (hg _ (a1.wipe vs)), if_true, e2, fAll, e3, Option.map_some], a1, u⟩
theorem r_any {vs vb : List Nat} {xs : List α} {v : Bool} {ex : α → D} {t e : α → Option Bool} {B : α → List Sl} (hs : RS p A ms ⟨xs.map ex, gs⟩ A1) (hg : Gd (setSl A1 vs) gs) (E : El (vs := vs) (vb := vb) A1 bd mt me ex D.bl t e B) (h : anyO t e xs = some v) :
    RV p A (dFold fAny (dGe vs ms bd mt me stopAny)) (.own (.bl v)) A1 := fun δ a => by
  obtain ⟨δ1, e1, a1, u⟩ := hs δ a
  obtain ⟨R, e2, e3⟩ := dG_any E (a1.wipe vs) (wipe_idem vs δ1) xs v h
  exact ⟨δ1, by simp only [dFold, dGe, e1, gOk_wipe (hg _ (a1.wipe vs)), if_true, e2, fAny, e3, Option.map_some], a1, u⟩
end
end Y


set_option Elab.async false
set_option linter.all false
set_option maxRecDepth 100000
/-! typed values and what the operators make of them -/
namespace Y
open PySem PySem.Spec PyProof.Rows L2 Z
/-- values of a kind as data that cannot be changed -/
structure Enc (α : Type) where
  enc : α → D
  eq : ∀ a b, eqD (enc a) (enc b) = true ↔ a = b
  imm : ∀ a, (enc a).imm = true
  dp : Nat
  hdp : ∀ a, (enc a).dp ≤ dp
  nn : Bool
  hnn : nn = true → ∀ a, enc a ≠ .non
  al : Bool
  hal : al = true → ∀ a b, PySem.W.alike (toPy (enc a)) (toPy (enc b)) = true
  nol : al = true → ∀ a, (enc a).nol = true
  tk : Bool
  htk : tk = true → ∀ a, isTupN (enc a) = true
  pl : Bool
  hpl : pl = true → ∀ a, isPlainS (enc a) = true
/-- rows of values of kinds that are known -/
structure Rw (α : Type) where
  row : α → List D
  len : Nat
  hlen : ∀ a, (row a).length = len
  eq : ∀ a b, PyData.eqvAll (toPys (row a)) (toPys (row b)) = true ↔ a = b
  imm : ∀ a, D.imms (row a) = true
  dp : Nat
  hdp : ∀ a, D.dps (row a) ≤ dp
  al : Bool
  hal : al = true → ∀ a b, PySem.W.alikeAll (toPys (row a)) (toPys (row b)) = true
  nol : al = true → ∀ a, D.nols (row a) = true
  tag : Option Str := none
  htag : ∀ s, tag = some s → ∀ a, ∃ r, row a = .str s :: r := by intro s h; cases h
def Ei : Enc Int where
  enc := .int
  eq a b := by simp [eqD, toPy, PyData.eqv]
  imm _ := rfl
  nol _ _ := rfl
  dp := 0
  hdp _ := by simp [D.dp]
  nn := true
  hnn _ a h := by cases h
  al := true
  hal _ a b := by simp [toPy, PySem.W.alike]
  tk := false
  htk h := by cases h
  pl := true
  hpl _ _ := rfl
def Eb : Enc Bool where
  enc := .bl
  eq a b := by simp [eqD, toPy, PyData.eqv]
  imm _ := rfl
  nol _ _ := rfl
  dp := 0
  hdp _ := by simp [D.dp]
  nn := true
  hnn _ a h := by cases h
  al := true
  hal _ a b := by simp [toPy, PySem.W.alike]
  tk := false
  htk h := by cases h
  pl := true
  hpl _ _ := rfl
def Es : Enc Str where
  enc := .str
  eq a b := by simp [eqD, toPy, PyData.eqv]
  imm _ := rfl
  nol _ _ := rfl
  dp := 0
  hdp _ := by simp [D.dp]
  nn := true
  hnn _ a h := by cases h
  al := true
  hal _ a b := by simp [toPy, PySem.W.alike]
  tk := false
  htk h := by cases h
  pl := true
  hpl _ _ := rfl
def Eu : Enc Unit where
  enc _ := .non
  eq a b := by simp [eqD, toPy, PyData.eqv]
  imm _ := rfl
  nol _ _ := rfl
  dp := 0
  hdp _ := by simp [D.dp]
  nn := false
  hnn h := by cases h
  al := true
  hal _ a b := by simp [toPy, PySem.W.alike]
  tk := false
  htk h := by cases h
  pl := false
  hpl h := by cases h
theorem eqv_non_l {d : D} (n : d.imm = true) (h : eqD .non d = true) : d = .non := by cases d <;> simp_all [eqD, toPy, PyData.eqv, D.imm]
theorem eqv_non_r {d : D} (n : d.imm = true) (h : eqD d .non = true) : d = .non := by cases d <;> simp_all [eqD, toPy, PyData.eqv, D.imm]
/-- a value or None -/
def Eo {α : Type} (E : Enc α) (h : E.nn = true) : Enc (Option α) where
  enc o := match o with
    | some a => E.enc a
    | none => .non
  eq a b := by
    cases a with
    | none => cases b with
      | none => simp [eqD, toPy, PyData.eqv]
      | some b => simp only [reduceCtorEq, iff_false]; exact fun e => E.hnn h b (eqv_non_l (E.imm b) e)
    | some a => cases b with
      | none => simp only [reduceCtorEq, iff_false]; exact fun e => E.hnn h a (eqv_non_r (E.imm a) e)
      | some b => simp only [Option.some.injEq]; exact E.eq a b
  imm a := by cases a with
    | none => rfl
    | some a => exact E.imm a
  nol h := by cases h
  dp := E.dp
  hdp a := by cases a with
    | none => simp [D.dp]
    | some a => exact E.hdp a
  nn := false
  hnn h := by cases h
  al := false
  hal h := by cases h
  tk := false
  htk h := by cases h
  pl := false
  hpl h := by cases h
section
variable {α β : Type} (E : Enc α)
theorem map_eqv : ∀ (a b : List α), PyData.eqvAll (toPys (a.map E.enc)) (toPys (b.map E.enc)) = true ↔ a = b
  | [], [] => by simp [toPys, PyData.eqvAll]
  | [], _ :: _ => by simp [toPys, PyData.eqvAll]
  | _ :: _, [] => by simp [toPys, PyData.eqvAll]
  | x :: xs, y :: ys => by
    simp only [List.map_cons, toPys, PyData.eqvAll, Bool.and_eq_true, List.cons.injEq]
    exact and_congr (E.eq x y) (map_eqv xs ys)
theorem map_imms : ∀ (a : List α), D.imms (a.map E.enc) = true
  | [] => rfl
  | x :: xs => by simp only [List.map_cons, D.imms, E.imm x, map_imms xs, Bool.and_self]
theorem map_nols (ha : E.al = true) : ∀ (a : List α), D.nols (a.map E.enc) = true
  | [] => rfl
  | x :: xs => by simp only [List.map_cons, D.nols, E.nol ha x, map_nols ha xs, Bool.and_self]
theorem map_dps : ∀ (a : List α), D.dps (a.map E.enc) ≤ E.dp
  | [] => by simp [D.dps]
  | x :: xs => by
    simp only [List.map_cons, D.dps]
    have := E.hdp x
    have := map_dps xs
    omega
theorem map_alike (h : E.al = true) : ∀ (a b : List α), PySem.W.alikeAll (toPys (a.map E.enc)) (toPys (b.map E.enc)) = true
  | [], _ => by simp [toPys, PySem.W.alikeAll]
  | _ :: _, [] => by simp [toPys, PySem.W.alikeAll]
  | x :: xs, y :: ys => by
    simp only [List.map_cons, toPys, PySem.W.alikeAll, E.hal h x y, map_alike h xs ys, Bool.and_self]
/-- rows of any length, of one kind -/
def Et : Enc (List α) where
  enc xs := .tup (xs.map E.enc)
  eq a b := by simp only [eqD, toPy, PyData.eqv]; exact map_eqv E a b
  imm a := map_imms E a
  nol ha a := map_nols E ha a
  dp := E.dp + 1
  hdp a := by simp only [D.dp]; have := map_dps E a; omega
  nn := true
  hnn _ a h := by cases h
  al := E.al
  hal h a b := by simp only [toPy, PySem.W.alike]; exact map_alike E h a b
  tk := true
  htk _ _ := rfl
  pl := false
  hpl h := by cases h
def R1 : Rw α where
  row a := [E.enc a]
  len := 1
  hlen _ := rfl
  eq a b := by simp only [toPys, PyData.eqvAll, Bool.and_true]; exact E.eq a b
  imm a := by simp only [D.imms, E.imm a, Bool.and_self]
  nol ha a := by simp only [D.nols, E.nol ha a, Bool.and_self]
  dp := E.dp
  hdp a := by simp only [D.dps]; have := E.hdp a; omega
  al := E.al
  hal h a b := by simp only [toPys, PySem.W.alikeAll, E.hal h a b, Bool.and_self]
def Rc (F : Rw β) : Rw (α × β) where
  row a := E.enc a.1 :: F.row a.2
  len := F.len + 1
  hlen a := by simp only [List.length_cons, F.hlen]
  eq a b := by
    obtain ⟨a1, a2⟩ := a
    obtain ⟨b1, b2⟩ := b
    simp only [toPys, PyData.eqvAll, Bool.and_eq_true, Prod.mk.injEq]
    exact and_congr (E.eq a1 b1) (F.eq a2 b2)
  imm a := by simp only [D.imms, E.imm, F.imm, Bool.and_self]
  nol h a := by
    simp only [Bool.and_eq_true] at h
    simp only [D.nols, E.nol h.1, F.nol h.2, Bool.and_self]
  dp := max E.dp F.dp
  hdp a := by simp only [D.dps]; have := E.hdp a.1; have := F.hdp a.2; omega
  al := E.al && F.al
  hal h a b := by
    simp only [Bool.and_eq_true] at h
    simp only [toPys, PySem.W.alikeAll, E.hal h.1, F.hal h.2, Bool.and_self]
end
/-- a row as a tuple -/
def Er {α : Type} (F : Rw α) (h : (F.len != 0) = true := by rfl) : Enc α where
  enc a := .tup (F.row a)
  eq a b := by simp only [eqD, toPy, PyData.eqv]; exact F.eq a b
  imm a := F.imm a
  nol h a := F.nol h a
  dp := F.dp + 1
  hdp a := by simp only [D.dp]; have := F.hdp a; omega
  nn := true
  hnn _ a h := by cases h
  al := F.al
  hal h a b := by simp only [toPy, PySem.W.alike]; exact F.hal h a b
  tk := true
  htk _ a := by
    have := F.hlen a
    cases e : F.row a with
    | nil => rw [e] at this; simp at this; rw [← this] at h; simp at h
    | cons x xs => rfl
  pl := false
  hpl h := by cases h
/-! ### operators -/
section
variable {α β : Type} (E : Enc α) {n : Nat}
theorem enc_dep (a : α) (h : Nat.ble E.dp 59 = true) : dep (E.enc a) = true := dep_of (by have := E.hdp a; have := Nat.le_of_ble_eq_true h; omega)
theorem encs_dep (xs : List α) (h : Nat.ble E.dp 59 = true) : D.dps (xs.map E.enc) + 1 ≤ 60 := by have := map_dps E xs; have := Nat.le_of_ble_eq_true h; omega
theorem eqD_enc [DecidableEq α] (a b : α) : eqD (E.enc a) (E.enc b) = decide (a = b) := by
  rw [Bool.eq_iff_iff, E.eq, decide_eq_true_eq]
variable [DecidableEq α]
theorem f_eq (a b : α) (h : Nat.ble E.dp 59 = true) : fEq [E.enc a, E.enc b] = some (.bl (decide (a = b))) := by
  simp only [fEq, enc_dep E _ h, Bool.and_self, if_true, eqD_enc]
theorem f_ne (a b : α) (h : Nat.ble E.dp 59 = true) : fNe [E.enc a, E.enc b] = some (.bl (!decide (a = b))) := by
  simp only [fNe, enc_dep E _ h, Bool.and_self, if_true, eqD_enc]
theorem any_enc (xs : List α) (a : α) : anyEq (xs.map E.enc) (E.enc a) = decide (a ∈ xs) := by
  rw [Bool.eq_iff_iff, decide_eq_true_eq]
  unfold anyEq
  rw [List.any_map, List.any_eq_true]
  exact ⟨fun ⟨y, hy, e⟩ => by rw [← (E.eq y a).mp e]; exact hy, fun hm => ⟨a, hm, (E.eq a a).mpr rfl⟩⟩
theorem f_inT (a : α) (xs : List α) (h : Nat.ble E.dp 58 = true) : fIn [E.enc a, .tup (xs.map E.enc)] = some (.bl (decide (a ∈ xs))) := by
  have h2 : Nat.ble E.dp 59 = true := by have := Nat.le_of_ble_eq_true h; exact Nat.ble_eq_true_of_le (by omega)
  simp only [fIn, enc_dep E _ h2, dep_of (d := .tup (xs.map E.enc)) (by simp only [D.dp]; exact encs_dep E xs h2), Bool.and_self, if_true, any_enc]
theorem f_ninL (a : α) (xs : List α) (h : Nat.ble E.dp 58 = true) : fNotIn [E.enc a, .lst (xs.map E.enc)] = some (.bl (!decide (a ∈ xs))) := by
  have h2 : Nat.ble E.dp 59 = true := by have := Nat.le_of_ble_eq_true h; exact Nat.ble_eq_true_of_le (by omega)
  simp only [fNotIn, enc_dep E _ h2, dep_of (d := .lst (xs.map E.enc)) (by simp only [D.dp]; exact encs_dep E xs h2), Bool.and_self, if_true, any_enc]
theorem f_ninT (a : α) (xs : List α) (h : Nat.ble E.dp 58 = true) : fNotIn [E.enc a, .tup (xs.map E.enc)] = some (.bl (!decide (a ∈ xs))) := by
  have h2 : Nat.ble E.dp 59 = true := by have := Nat.le_of_ble_eq_true h; exact Nat.ble_eq_true_of_le (by omega)
  simp only [fNotIn, enc_dep E _ h2, dep_of (d := .tup (xs.map E.enc)) (by simp only [D.dp]; exact encs_dep E xs h2), Bool.and_self, if_true, any_enc]
omit [DecidableEq α]
theorem f_isN (h : E.nn = true) (a : Option α) : fIs [(Eo E h).enc a, .non] = some (.bl a.isNone) := by
  cases a with
  | none => rfl
  | some a =>
    show fIs [E.enc a, .non] = _
    have := E.hnn h a
    cases e : E.enc a <;> simp_all [fIs, isNone]
/-! numbers -/
theorem f_add (i j : Int) : fAdd [.int i, .int j] = some (.int (i + j)) := rfl
theorem f_sub (i j : Int) : fSub [.int i, .int j] = some (.int (i - j)) := rfl
def mulO (i j : Int) : Option Int := if -(2 ^ 64) < i ∧ i < 2 ^ 64 ∨ -(2 ^ 64) < j ∧ j < 2 ^ 64 then some (i * j) else none
theorem f_intB (b : Bool) : fInt [.bl b] = some (.int (if b then 1 else 0)) := rfl
theorem f_lt (i j : Int) : fLt [.int i, .int j] = some (.bl (decide (i < j))) := fLt_int i j
theorem f_gt (i j : Int) : fGt [.int i, .int j] = some (.bl (decide (j < i))) := fGt_int i j
theorem f_ge (i j : Int) : fGe [.int i, .int j] = some (.bl (decide (j ≤ i))) := fGe_int i j
/-! order of other values -/
def Enc.lt (a b : α) : Bool := ltD (E.enc a) (E.enc b)
theorem enc_cmp (a b : α) (h : Nat.ble E.dp 59 = true) (ha : E.al = true) (hn : E.nn = true) : cmpOk (E.enc a) (E.enc b) = true := by
  simp only [cmpOk, E.hal ha, enc_dep E _ h, Bool.and_self, Bool.true_and]
  have := E.nol ha a
  have := E.hnn hn a
  cases e : E.enc a <;> simp_all [D.nol]
theorem lt_irrefl (a : α) : E.lt a a = false := lex_irrefl _
theorem lt_trans {a b c : α} (h1 : E.lt a b = true) (h2 : E.lt b c = true) : E.lt a c = true := lex_trans _ _ _ h1 h2
/-! rows -/
theorem f_lenT (xs : List α) : fLen [.tup (xs.map E.enc)] = some (.int xs.length) := by simp only [fLen, lenD, List.length_map]
theorem f_lenL (xs : List α) : fLen [.lst (xs.map E.enc)] = some (.int xs.length) := by simp only [fLen, lenD, List.length_map]
theorem atI_map (xs : List α) (i : Int) : L2.atI (xs.map E.enc) i = (L2.atI xs i).map E.enc := by
  simp only [L2.atI, List.length_map]
  cases ixN xs.length i with
  | none => rfl
  | some j => simp only [Option.bind_some, List.getElem?_map]
theorem s_T {r : R} {xs : List α} {i : Int} {v : α} (h : L2.atI xs i = some v) : subR r (.tup (xs.map E.enc)) i = some (.own (E.enc v)) := by
  simp only [subR, subD, atI_map, h, Option.map_some, E.imm v, if_true]
theorem s_L {r : R} {xs : List α} {i : Int} {v : α} (h : L2.atI xs i = some v) : subR r (.lst (xs.map E.enc)) i = some (.own (E.enc v)) := by
  simp only [subR, subD, atI_map, h, Option.map_some, E.imm v, if_true]
/-- a place of a row that is known -/
theorem s_R {r : R} {ds : List D} {i : Int} {d : D} (h : L2.atI ds i = some d) (g : d.imm = true) : subR r (.tup ds) i = some (.own d) := by
  simp only [subR, subD, h, g, if_true]
theorem f_tuple (xs : List α) : fTuple [.lst (xs.map E.enc)] = some (.tup (xs.map E.enc)) := by simp only [fTuple, map_imms, if_true]
theorem t_T (xs : List α) : truthD (.tup (xs.map E.enc)) = some (!xs.isEmpty) := by cases xs <;> rfl
theorem t_L (xs : List α) : truthD (.lst (xs.map E.enc)) = some (!xs.isEmpty) := by cases xs <;> rfl
theorem t_B (b : Bool) : truthD (.bl b) = some b := rfl
/-- rows behind one another, as long as can be -/
def catO (xs ys : List α) : Option (List α) := if xs.length + ys.length ≤ 1000000 then some (xs ++ ys) else none
theorem f_catT {xs ys zs : List α} (h : catO xs ys = some zs) : fAdd [.tup (xs.map E.enc), .tup (ys.map E.enc)] = some (.tup (zs.map E.enc)) := by
  unfold catO at h
  split at h
  · cases h; simp only [fAdd, map_imms, List.length_map, Bool.and_self, Bool.true_and]; rw [if_pos (by simp; assumption), List.map_append]
  · cases h
def pushO (xs : List α) (y : α) : Option (List α) := if xs.length < 1000000 then some (xs ++ [y]) else none
theorem push_eq {xs zs : List α} {y : α} (h : pushO xs y = some zs) : xs.length < 1000000 ∧ zs = xs ++ [y] := by
  unfold pushO at h
  split at h
  · cases h; exact ⟨by assumption, rfl⟩
  · cases h
def setO (xs : List α) (i : Int) (y : α) : Option (List α) := match ixN xs.length i with
  | some j => some (xs.set j y)
  | none => none
theorem set_eq {xs zs : List α} {i : Int} {y : α} (h : setO xs i y = some zs) : ∃ j, ixN xs.length i = some j ∧ zs = xs.set j y := by
  unfold setO at h
  split at h
  · cases h; exact ⟨_, by assumption, rfl⟩
  · cases h
def repO (xs : List α) (n : Int) : Option (List α) := if -1000000 ≤ n ∧ n ≤ 1000000 ∧ xs.length * n.toNat ≤ 1000000 then some (List.replicate n.toNat xs).flatten else none
theorem f_repL {xs ys : List α} {n : Int} (h : repO xs n = some ys) : fMul [.lst (xs.map E.enc), .int n] = some (.lst (ys.map E.enc)) := by
  unfold repO at h
  split at h
  · cases h
    simp only [fMul, map_imms, List.length_map]
    rw [if_pos ⟨trivial, by assumption⟩, List.map_flatten, List.map_replicate]
  · cases h
/-! items -/
def rngN (lo : Int) (n : Nat) : List Int := (List.range n).map fun (k : Nat) => lo + (k : Int)
theorem rng_map (lo : Int) (n : Nat) : rangeD lo n = (rngN lo n).map Ei.enc := by
  simp only [rangeD, rngN, List.map_map]; rfl
def rngO (lo hi : Int) : Option (List Int) := if -1000000 ≤ lo ∧ lo ≤ 1000000 ∧ -1000000 ≤ hi ∧ hi ≤ 1000000 then some (rngN lo (hi - lo).toNat) else none
section
variable {p : Bool} {A A1 : List Sl} {m : Den} {mr : DE → Option (List R × DE)}
theorem i_rng1 {hi : Int} {zs : List Int} (h : RA p A mr [.own (.int hi)] A1) (e : rngO 0 hi = some zs) : RS p A (sRange mr) ⟨zs.map Ei.enc, []⟩ A1 := fun δ a => by
  obtain ⟨δ1, e1, a1, u⟩ := h δ a
  unfold rngO at e
  split at e
  · rename_i hh
    cases e
    refine ⟨δ1, ?_, a1, u⟩
    simp only [sRange, e1]
    rw [if_pos hh.2.2, rng_map, Int.sub_zero]
  · cases e
theorem i_T {xs : List α} (h : RV p A m (.own (.tup (xs.map E.enc))) A1) : RS p A (sSeq m) ⟨xs.map E.enc, []⟩ A1 := fun δ a => by
  obtain ⟨δ1, e1, a1, u⟩ := h δ a
  exact ⟨δ1, by simp only [sSeq, e1, map_imms, if_true], a1, u⟩
theorem i_V {xs : List α} {i : Nat} (h : RV p A m (.at i []) A1) (g : A1[i]? = some (.is (.lst (xs.map E.enc)))) : RS p A (sSeq m) ⟨xs.map E.enc, [(i, .lst (xs.map E.enc))]⟩ A1 := fun δ a => by
  obtain ⟨δ1, e1, a1, u⟩ := h δ a
  exact ⟨δ1, by simp only [sSeq, e1, a1.get _ _ g, map_imms, if_true], a1, u⟩
end
/-! sorting -/
def Enc.sort (xs : List α) : List α := xs.mergeSort fun a b => PySem.W.dataLe false toPy (E.enc a) (E.enc b)
theorem all_map (q : D → Bool) (h : ∀ a, q (E.enc a) = true) : ∀ xs : List α, (xs.map E.enc).all q = true := fun xs => by
  rw [List.all_map, List.all_eq_true]; exact fun a _ => h a
/-! least and greatest -/
def Enc.minL : List α → Option α
  | [] => none
  | x :: xs => some (xs.foldl (fun a y => if E.lt y a then y else a) x)
theorem minD_map (x : α) : ∀ xs : List α, minD (E.enc x) (xs.map E.enc) = E.enc (xs.foldl (fun a y => if E.lt y a then y else a) x) := by
  intro xs
  unfold minD
  induction xs generalizing x with
  | nil => rfl
  | cons y ys ih =>
    simp only [List.map_cons, List.foldl_cons]
    rw [← ih]
    congr 1
    unfold Enc.lt
    split <;> rfl
theorem cmpAll_map (xs : List α) (h : Nat.ble E.dp 59 = true) (ha : E.al = true) (hn : E.nn = true) : cmpAll (xs.map E.enc) = true := by
  unfold cmpAll
  simp only [map_nols E ha, Bool.true_and]
  exact all_map E _ (fun a => all_map E _ (fun b => enc_cmp E a b h ha hn) xs) xs
theorem f_min {d : D} {xs : List α} {v : α} (i : itemsD d = some (xs.map E.enc)) (e : E.minL xs = some v) (h : Nat.ble E.dp 59 = true) (ha : E.al = true) (hn : E.nn = true) : fMin1 [d] = some (E.enc v) := by
  cases xs with
  | nil => cases e
  | cons x xs =>
    cases e
    have := cmpAll_map E (x :: xs) h ha hn
    simp only [List.map_cons] at i this
    simp only [fMin1, fMin, i, this, if_true, minD_map]
end
end Y


set_option Elab.async false
set_option linter.all false
set_option maxRecDepth 100000
set_option maxHeartbeats 1000000
/-! what all laws share: the box of digits, drawing, sameness -/
namespace Y
open PySem PySem.Spec PyProof.Rows L2 Z
def m_law_cell : Blk :=
    (dSeq (dIf (dTb (dCall fLt (d2 true (dVar 1) (dCall fLen (dACons true (dVar 0) dANil)))))
    (dRet (kpL [0, 1]) (dSub true (dVar 0) (dVar 1)))
    dNx)
    (dRet (kpL [0, 1]) (dC (.int 0))))
def d_law_cell : Fn := dFn 2 2 (kpL [0, 1]) m_law_cell
def l_law_digits_1 : Blk :=
    (dIf (dTb (dCall fGt (d2 true (dVar 5) (dC (.int 0)))))
    (dSeq (dDrop (dAppend true (dVar 3) (dCall fMod (d2 true (dCall fInt (dACons true (dVar 5) dANil)) (dC (.int 1000))))))
    (dAsg (bName 5) (dCall fFdiv (d2 true (dVar 5) (dC (.int 1000))))))
    dNx)
def l_law_digits_2 : Blk :=
    (dSeq (dAsg (bName 7) (dCall fMod (d2 true (dCall fInt (dACons true (dCall fAdd (d2 true (dCall fAdd (d2 true (dCall fMul (d2 true (dVar 7) (dC (.int 16807)))) (dCall fMul (d2 true (dC (.int 7)) (dVar 6))))) (dC (.int 1)))) dANil)) (dC (.int 2147483647)))))
    (dDrop (dAppend true (dVar 3) (dCall fMod (d2 true (dCall fInt (dACons true (dCall fFdiv (d2 true (dVar 7) (dC (.int 997)))) dANil)) (dC (.int 1000)))))))
def l_law_digits_3 : Blk :=
    (dSeq (dAsg (bName 5) (dUser d_law_cell (dACons true (dVar 0) (dACons true (dVar 4) dANil))))
    (dSeq (dIf (dTb (dCall fLt (d2 true (dVar 5) (dC (.int 0)))))
    (dAsg (bName 5) (dCall fSub (d2 true (dC (.int 1)) (dCall fMul (d2 true (dC (.int 2)) (dVar 5))))))
    dNx)
    (dIf (dTb (dCall fGe (d2 true (dVar 5) (dCall fPow (d2 true (dC (.int 10)) (dC (.int 18)))))))
    (dFor (kpL [0, 1, 2, 3, 4, 7]) (sRange (dACons true (dC (.int 60)) dANil)) (bName 6)
    l_law_digits_1)
    (dSeq (dAsg (bName 7) (dCall fMod (d2 true (dCall fInt (dACons true (dCall fAdd (d2 true (dCall fAdd (d2 true (dCall fMul (d2 true (dVar 5) (dC (.int 48271)))) (dCall fMul (d2 true (dVar 4) (dC (.int 69621)))))) (dC (.int 11)))) dANil)) (dC (.int 2147483647)))))
    (dFor (kpL [0, 1, 2, 3, 4, 5]) (sRange (dACons true (dC (.int 12)) dANil)) (bName 6)
    l_law_digits_2)))))
def m_law_digits : Blk :=
    (dSeq (dAsg (bName 3) (dLst dANil))
    (dSeq (dFor (kpL [0, 1, 2, 3]) (sRange (dACons true (dVar 1) (dACons true (dVar 2) dANil))) (bName 4)
    l_law_digits_3)
    (dRet (kpL [0, 1, 2]) (dVar 3))))
def d_law_digits : Fn := dFn 8 3 (kpL [0, 1, 2]) m_law_digits
def m_law_box : Blk :=
    (dRet (kpL [0, 1, 2]) (dLst (dACons true (dUser d_law_digits (dACons true (dVar 0) (dACons true (dVar 1) (dACons true (dVar 2) dANil)))) (dACons true (dC (.int 0)) dANil))))
def d_law_box : Fn := dFn 3 3 (kpL [0, 1, 2]) m_law_box
def m_law_draw : Blk :=
    (dSeq (dAsg (bName 2) (dSub true (dVar 0) (dC (.int 1))))
    (dSeq (dSetI true true (dVar 0) (dC (.int 1)) (dCall fAdd (d2 true (dVar 2) (dC (.int 1)))))
    (dSeq (dIf (dTb (dCall fLt (d2 true (dVar 2) (dCall fLen (dACons true (dSub true (dVar 0) (dC (.int 0))) dANil)))))
    (dRet (kpL [0, 1]) (dCall fMod (d2 true (dCall fInt (dACons true (dSub true (dSub true (dVar 0) (dC (.int 0))) (dVar 2)) dANil)) (dVar 1))))
    dNx)
    (dRet (kpL [0, 1]) (dC (.int 0))))))
def d_law_draw : Fn := dFn 3 2 (kpL [0, 1]) m_law_draw
def l_law_same_1 (rec : Fn) : Blk :=
    (dIf (dNot (dTv (dUser rec (dACons true (dSub true (dVar 0) (dVar 2)) (dACons true (dSub true (dVar 1) (dVar 2)) dANil)))))
    (dRet (kpL [0, 1]) (dC (.bl false)))
    dNx)
def m_law_same (rec : Fn) : Blk :=
    (dSeq (dIf (dTv (dCall (fIsa PyData.isTuple) (dACons true (dVar 1) dANil)))
    (dSeq (dIf (dOr (dNot (dTv (dCall (fIsa PyData.isTuple) (dACons true (dVar 0) dANil)))) (dTb (dCall fNe (d2 true (dCall fLen (dACons true (dVar 0) dANil)) (dCall fLen (dACons true (dVar 1) dANil))))))
    (dRet (kpL [0, 1]) (dC (.bl false)))
    dNx)
    (dSeq (dFor (kpL [0, 1]) (sRange (dACons true (dCall fLen (dACons true (dVar 1) dANil)) dANil)) (bName 2)
    (l_law_same_1 rec))
    (dRet (kpL [0, 1]) (dC (.bl true)))))
    dNx)
    (dSeq (dIf (dTb (dCall fIs (d2 true (dVar 1) (dC .non))))
    (dRet (kpL [0, 1]) (dCall fIs (d2 true (dVar 0) (dC .non))))
    dNx)
    (dSeq (dIf (dTv (dCall (fIsa PyData.isBool) (dACons true (dVar 1) dANil)))
    (dRet (kpL [0, 1]) (dAndV (dCall (fIsa PyData.isBool) (dACons true (dVar 0) dANil)) (dCall fEq (d2 true (dVar 0) (dVar 1)))))
    dNx)
    (dSeq (dIf (dTv (dCall (fIsa PyData.isInt) (dACons true (dVar 1) dANil)))
    (dRet (kpL [0, 1]) (dAndV (dCall (fIsa PyData.isInt) (dACons true (dVar 0) dANil)) (dAndV (dNotV (dCall (fIsa PyData.isBool) (dACons true (dVar 0) dANil))) (dCall fEq (d2 true (dVar 0) (dVar 1))))))
    dNx)
    (dRet (kpL [0, 1]) (dAndV (dCall (fIsa PyData.isStr) (dACons true (dVar 0) dANil)) (dCall fEq (d2 true (dVar 0) (dVar 1)))))))))
def d_law_same : Nat → Fn
  | 0 => fun _ => none
  | n + 1 => dFn 3 2 (kpL [0, 1]) (m_law_same (d_law_same n))
theorem atI_ints (xs : List Int) (k : Nat) (h : k < xs.length) : L2.atI (xs.map D.int) (k : Int) = some (D.int xs[k]) := by
  simp [L2.atI, L2.ixN, h]
theorem rangeD_at {lo : Int} {n : Nat} {p q : List D} {x : D} (e : rangeD lo n = p ++ x :: q) : x = .int (lo + p.length) ∧ p.length < n := by
  have h : (rangeD lo n)[p.length]? = some x := by rw [e]; simp
  obtain ⟨h1, h2⟩ := rangeD_get h
  exact ⟨h2, h1⟩
theorem cell_ok (c : List D → D) (hc : c = .lst ∨ c = .frz) (xs : List Int) (k : Nat) : d_law_cell [c (xs.map .int), .int k] = some (.int (xs.getD k 0), [some (c (xs.map .int)), some (.int k)]) := by
  by_cases h : k < xs.length
  · have e := atI_ints xs k h
    rcases hc with rfl | rfl <;>
    simp [d_law_cell, m_law_cell, dFn, env0, dSeq, dNx, dBk, dCt, dIf, dTb, dTv, dAnd, dOr, dNot, dAndV, dOrV, dNotV, dIfE, dCall, dACons, dANil, dVar, dC, derefs, deref, getP, setP, dRet, dRetN, dSub, subR, subD, R.short, lenD, fLen, fInt, fTuple, dTup, dLst, owns, fI2, D.imm, D.imms, truthD, dAsg, bName, bTup, bCons, bNil, dDrop, dAppend, isLst, mutD, dSetI, dUser, rootsOk, roots, puts, fins, kpL, dAug, fAdd, fMul, fMod, fFdiv, fSub, fLt_int, fGt_int, fLe_int, fGe_int, fEq_int, fNe_int, fEq_str, h, e]
  · rcases hc with rfl | rfl <;>
    simp [d_law_cell, m_law_cell, dFn, env0, dSeq, dNx, dBk, dCt, dIf, dTb, dTv, dAnd, dOr, dNot, dAndV, dOrV, dNotV, dIfE, dCall, dACons, dANil, dVar, dC, derefs, deref, getP, setP, dRet, dRetN, dSub, subR, subD, R.short, lenD, fLen, fInt, fTuple, dTup, dLst, owns, fI2, D.imm, D.imms, truthD, dAsg, bName, bTup, bCons, bNil, dDrop, dAppend, isLst, mutD, dSetI, dUser, rootsOk, roots, puts, fins, kpL, dAug, fAdd, fMul, fMod, fFdiv, fSub, fLt_int, fGt_int, fLe_int, fGe_int, fEq_int, fNe_int, fEq_str, h]
/-- the box: its digits, the place -/
def box (ds : List Int) (n : Nat) : D := .lst [.lst (ds.map .int), .int n]
theorem big_step (s f l k z : Option D) (ds : List Int) (c t : Int) (hl : ds.length < 1000000) : ∃ (ds' : List Int) (c' : Int), l_law_digits_1 [s, f, l, some (.lst (ds.map .int)), k, some (.int c), some (.int t), z] = some (.nx [s, f, l, some (.lst (ds'.map .int)), k, some (.int c'), some (.int t), z]) ∧ ds'.length ≤ ds.length + 1 := by
  by_cases hc : 0 < c
  · exact ⟨ds ++ [c.fmod 1000], c.fdiv 1000, by simp [l_law_digits_1, dFn, env0, dSeq, dNx, dBk, dCt, dIf, dTb, dTv, dAnd, dOr, dNot, dAndV, dOrV, dNotV, dIfE, dCall, dACons, dANil, dVar, dC, derefs, deref, getP, setP, dRet, dRetN, dSub, subR, subD, R.short, lenD, fLen, fInt, fTuple, dTup, dLst, owns, fI2, D.imm, D.imms, truthD, dAsg, bName, bTup, bCons, bNil, dDrop, dAppend, isLst, mutD, dSetI, dUser, rootsOk, roots, puts, fins, kpL, dAug, fAdd, fMul, fMod, fFdiv, fSub, fLt_int, fGt_int, fLe_int, fGe_int, fEq_int, fNe_int, fEq_str, hc, hl], by simp⟩
  · exact ⟨ds, c, by simp [l_law_digits_1, dFn, env0, dSeq, dNx, dBk, dCt, dIf, dTb, dTv, dAnd, dOr, dNot, dAndV, dOrV, dNotV, dIfE, dCall, dACons, dANil, dVar, dC, derefs, deref, getP, setP, dRet, dRetN, dSub, subR, subD, R.short, lenD, fLen, fInt, fTuple, dTup, dLst, owns, fI2, D.imm, D.imms, truthD, dAsg, bName, bTup, bCons, bNil, dDrop, dAppend, isLst, mutD, dSetI, dUser, rootsOk, roots, puts, fins, kpL, dAug, fAdd, fMul, fMod, fFdiv, fSub, fLt_int, fGt_int, fLe_int, fGe_int, fEq_int, fNe_int, fEq_str, hc], by simp⟩
theorem small_step (s f l k c : Option D) (ds : List Int) (z t : Int) (hl : ds.length < 1000000) : ∃ (ds' : List Int) (z' : Int), l_law_digits_2 [s, f, l, some (.lst (ds.map .int)), k, c, some (.int t), some (.int z)] = some (.nx [s, f, l, some (.lst (ds'.map .int)), k, c, some (.int t), some (.int z')]) ∧ ds'.length ≤ ds.length + 1 :=
  ⟨ds ++ [(((z * 16807 + 7 * t + 1).fmod 2147483647).fdiv 997).fmod 1000], (z * 16807 + 7 * t + 1).fmod 2147483647, by simp [l_law_digits_2, dFn, env0, dSeq, dNx, dBk, dCt, dIf, dTb, dTv, dAnd, dOr, dNot, dAndV, dOrV, dNotV, dIfE, dCall, dACons, dANil, dVar, dC, derefs, deref, getP, setP, dRet, dRetN, dSub, subR, subD, R.short, lenD, fLen, fInt, fTuple, dTup, dLst, owns, fI2, D.imm, D.imms, truthD, dAsg, bName, bTup, bCons, bNil, dDrop, dAppend, isLst, mutD, dSetI, dUser, rootsOk, roots, puts, fins, kpL, dAug, fAdd, fMul, fMod, fFdiv, fSub, fLt_int, fGt_int, fLe_int, fGe_int, fEq_int, fNe_int, fEq_str, hl], by simp⟩
theorem big_ok (s f l k t z : Option D) (ds : List Int) (cell : Int) (hl : ds.length ≤ 100000) : ∃ (ds' : List Int) (c' t' : Option D), dForL [] (bName 6) l_law_digits_1 (rangeD 0 60) [s, f, l, some (.lst (ds.map .int)), k, some (.int cell), t, z] = some (.nx [s, f, l, some (.lst (ds'.map .int)), k, c', t', z]) ∧ ds'.length ≤ ds.length + 60 := by
  obtain ⟨δ', e, ds', c', t', rfl, hl'⟩ := dForL_inv (gs := []) (b := bName 6) (mb := l_law_digits_1)
    (fun p δ => ∃ (ds' : List Int), ∃ (c' : Int), ∃ t', δ = [s, f, l, some (.lst (ds'.map .int)), k, some (.int c'), t', z] ∧ ds'.length ≤ ds.length + p.length) (rangeD 0 60) [] _ (fun _ _ _ => rfl) (fun p x q δ he ⟨ds1, c1, t1, h1, h2⟩ => by
      subst h1
      obtain ⟨rfl, hp⟩ := rangeD_at (p := p) he
      obtain ⟨ds2, c2, e2, h3⟩ := big_step s f l k z ds1 c1 (0 + p.length) (by omega)
      exact ⟨_, _, rfl, .inl e2, ds2, c2, _, rfl, by simp; omega⟩) ⟨ds, cell, t, rfl, by simp⟩
  refine ⟨ds', _, _, e, ?_⟩
  simpa [rangeD_len] using hl'
theorem small_ok (s f l k c t : Option D) (ds : List Int) (seed : Int) (hl : ds.length ≤ 100000) : ∃ (ds' : List Int) (z' t' : Option D), dForL [] (bName 6) l_law_digits_2 (rangeD 0 12) [s, f, l, some (.lst (ds.map .int)), k, c, t, some (.int seed)] = some (.nx [s, f, l, some (.lst (ds'.map .int)), k, c, t', z']) ∧ ds'.length ≤ ds.length + 60 := by
  obtain ⟨δ', e, ds', c', t', rfl, hl'⟩ := dForL_inv (gs := []) (b := bName 6) (mb := l_law_digits_2)
    (fun p δ => ∃ (ds' : List Int), ∃ (c' : Int), ∃ t', δ = [s, f, l, some (.lst (ds'.map .int)), k, c, t', some (.int c')] ∧ ds'.length ≤ ds.length + p.length) (rangeD 0 12) [] _ (fun _ _ _ => rfl) (fun p x q δ he ⟨ds1, c1, t1, h1, h2⟩ => by
      subst h1
      obtain ⟨rfl, hp⟩ := rangeD_at (p := p) he
      obtain ⟨ds2, c2, e2, h3⟩ := small_step s f l k c ds1 c1 (0 + p.length) (by omega)
      exact ⟨_, _, rfl, .inl e2, ds2, c2, _, rfl, by simp; omega⟩) ⟨ds, seed, t, rfl, by simp⟩
  refine ⟨ds', _, _, e, ?_⟩
  have := hl'
  simp [rangeD_len] at this
  omega
theorem fPow_1018 : fPow [.int 10, .int 18] = some (.int 1000000000000000000) := by
  simp [fI2]
theorem dSeq_nx {a b : Blk} {δ δ1 : DE} (h : a δ = some (.nx δ1)) : dSeq a b δ = b δ1 := by simp only [dSeq, h]
theorem dIf_t {c : DenT} {a b : Blk} {δ δ1 : DE} (h : c δ = some (true, δ1)) : dIf c a b δ = a δ1 := by simp only [dIf, h]
theorem dIf_f {c : DenT} {a b : Blk} {δ δ1 : DE} (h : c δ = some (false, δ1)) : dIf c a b δ = b δ1 := by simp only [dIf, h]
def r_law_digits : Blk := dIf (dTb (dCall fGe (d2 true (dVar 5) (dCall fPow (d2 true (dC (.int 10)) (dC (.int 18)))))))
    (dFor (kpL [0, 1, 2, 3, 4, 7]) (sRange (dACons true (dC (.int 60)) dANil)) (bName 6)
    l_law_digits_1)
    (dSeq (dAsg (bName 7) (dCall fMod (d2 true (dCall fInt (dACons true (dCall fAdd (d2 true (dCall fAdd (d2 true (dCall fMul (d2 true (dVar 5) (dC (.int 48271)))) (dCall fMul (d2 true (dVar 4) (dC (.int 69621)))))) (dC (.int 11)))) dANil)) (dC (.int 2147483647)))))
    (dFor (kpL [0, 1, 2, 3, 4, 5]) (sRange (dACons true (dC (.int 12)) dANil)) (bName 6)
    l_law_digits_2))
theorem ge_t (a b c d e f g : Option D) (u : Int) (h : (1000000000000000000 : Int) ≤ u) : dTb (dCall fGe (d2 true (dVar 5) (dCall fPow (d2 true (dC (.int 10)) (dC (.int 18)))))) [a, b, c, d, e, some (.int u), f, g] = some (true, [a, b, c, d, e, some (.int u), f, g]) := by
  have hh : decide ((1000000000000000000 : Int) ≤ u) = true := decide_eq_true h
  simp [dTb, dCall, dVar, dACons, dANil, derefs, deref, dC, D.imm, R.short, fPow_1018, fGe_int]
  exact h
theorem ge_f (a b c d e f g : Option D) (u : Int) (h : ¬ (1000000000000000000 : Int) ≤ u) : dTb (dCall fGe (d2 true (dVar 5) (dCall fPow (d2 true (dC (.int 10)) (dC (.int 18)))))) [a, b, c, d, e, some (.int u), f, g] = some (false, [a, b, c, d, e, some (.int u), f, g]) := by
  simp [dTb, dCall, dVar, dACons, dANil, derefs, deref, dC, D.imm, R.short, fPow_1018, fGe_int]
  omega
theorem digit_step (c : List D → D) (hc : c = .lst ∨ c = .frz) (xs : List Int) (f l cell turn seed : Option D) (ds : List Int) (k v : Int) (e0 : d_law_cell [c (xs.map .int), .int k] = some (.int v, [some (c (xs.map .int)), some (.int k)])) (hl : ds.length ≤ 50000) : ∃ (ds' : List Int) (cell' turn' seed' : Option D),
    l_law_digits_3 [some (c (xs.map .int)), f, l, some (.lst (ds.map .int)), some (.int k), cell, turn, seed] = some (.nx [some (c (xs.map .int)), f, l, some (.lst (ds'.map .int)), some (.int k), cell', turn', seed']) ∧ ds'.length ≤ ds.length + 60 := by
  have hv : ∃ u : Int, l_law_digits_3 [some (c (xs.map .int)), f, l, some (.lst (ds.map .int)), some (.int k), cell, turn, seed] = r_law_digits [some (c (xs.map .int)), f, l, some (.lst (ds.map .int)), some (.int k), some (.int u), turn, seed] := by
    unfold l_law_digits_3
    rw [dSeq_nx (δ1 := [some (c (xs.map .int)), f, l, some (.lst (ds.map .int)), some (.int k), some (.int v), turn, seed]) (by rcases hc with rfl | rfl <;> simp [dFn, env0, dSeq, dNx, dBk, dCt, dIf, dTb, dTv, dAnd, dOr, dNot, dAndV, dOrV, dNotV, dIfE, dCall, dACons, dANil, dVar, dC, derefs, deref, getP, setP, dRet, dRetN, dSub, subR, subD, R.short, lenD, fLen, fInt, fTuple, dTup, dLst, owns, fI2, D.imm, D.imms, truthD, dAsg, bName, bTup, bCons, bNil, dDrop, dAppend, isLst, mutD, dSetI, dUser, rootsOk, roots, puts, fins, kpL, dAug, fAdd, fMul, fMod, fFdiv, fSub, fLt_int, fGt_int, fLe_int, fGe_int, fEq_int, fNe_int, fEq_str, e0])]
    by_cases hn : v < 0
    · refine ⟨1 - 2 * v, ?_⟩
      rw [dSeq_nx (δ1 := [some (c (xs.map .int)), f, l, some (.lst (ds.map .int)), some (.int k), some (.int (1 - 2 * v)), turn, seed]) (by rcases hc with rfl | rfl <;> simp [dFn, env0, dSeq, dNx, dBk, dCt, dIf, dTb, dTv, dAnd, dOr, dNot, dAndV, dOrV, dNotV, dIfE, dCall, dACons, dANil, dVar, dC, derefs, deref, getP, setP, dRet, dRetN, dSub, subR, subD, R.short, lenD, fLen, fInt, fTuple, dTup, dLst, owns, fI2, D.imm, D.imms, truthD, dAsg, bName, bTup, bCons, bNil, dDrop, dAppend, isLst, mutD, dSetI, dUser, rootsOk, roots, puts, fins, kpL, dAug, fAdd, fMul, fMod, fFdiv, fSub, fLt_int, fGt_int, fLe_int, fGe_int, fEq_int, fNe_int, fEq_str, hn])]
      rfl
    · refine ⟨v, ?_⟩
      rw [dSeq_nx (δ1 := [some (c (xs.map .int)), f, l, some (.lst (ds.map .int)), some (.int k), some (.int v), turn, seed]) (by rcases hc with rfl | rfl <;> simp [dFn, env0, dSeq, dNx, dBk, dCt, dIf, dTb, dTv, dAnd, dOr, dNot, dAndV, dOrV, dNotV, dIfE, dCall, dACons, dANil, dVar, dC, derefs, deref, getP, setP, dRet, dRetN, dSub, subR, subD, R.short, lenD, fLen, fInt, fTuple, dTup, dLst, owns, fI2, D.imm, D.imms, truthD, dAsg, bName, bTup, bCons, bNil, dDrop, dAppend, isLst, mutD, dSetI, dUser, rootsOk, roots, puts, fins, kpL, dAug, fAdd, fMul, fMod, fFdiv, fSub, fLt_int, fGt_int, fLe_int, fGe_int, fEq_int, fNe_int, fEq_str, hn])]
      rfl
  obtain ⟨u, hu⟩ := hv
  rw [hu]
  unfold r_law_digits
  by_cases hb : (1000000000000000000 : Int) ≤ u
  · obtain ⟨ds', c', t', e, h⟩ := big_ok (some (c (xs.map .int))) f l (some (.int k)) turn seed ds u (by omega)
    refine ⟨ds', c', t', seed, ?_, h⟩
    rw [dIf_t (ge_t _ _ _ _ _ _ _ u hb)]
    simp [dFn, env0, dSeq, dNx, dBk, dCt, dIf, dTb, dTv, dAnd, dOr, dNot, dAndV, dOrV, dNotV, dIfE, dCall, dACons, dANil, dVar, dC, derefs, deref, getP, setP, dRet, dRetN, dSub, subR, subD, R.short, lenD, fLen, fInt, fTuple, dTup, dLst, owns, fI2, D.imm, D.imms, truthD, dAsg, bName, bTup, bCons, bNil, dDrop, dAppend, isLst, mutD, dSetI, dUser, rootsOk, roots, puts, fins, kpL, dAug, fAdd, fMul, fMod, fFdiv, fSub, fLt_int, fGt_int, fLe_int, fGe_int, fEq_int, fNe_int, fEq_str, dFor, sRange, gsIn, e]
  · obtain ⟨ds', z', t', e, h⟩ := small_ok (some (c (xs.map .int))) f l (some (.int k)) (some (.int u)) turn ds ((u * 48271 + k * 69621 + 11).fmod 2147483647) (by omega)
    refine ⟨ds', some (.int u), t', z', ?_, h⟩
    rw [dIf_f (ge_f _ _ _ _ _ _ _ u hb)]
    rw [dSeq_nx (δ1 := [some (c (xs.map .int)), f, l, some (.lst (ds.map .int)), some (.int k), some (.int u), turn, some (.int ((u * 48271 + k * 69621 + 11).fmod 2147483647))]) (by simp [dFn, env0, dSeq, dNx, dBk, dCt, dIf, dTb, dTv, dAnd, dOr, dNot, dAndV, dOrV, dNotV, dIfE, dCall, dACons, dANil, dVar, dC, derefs, deref, getP, setP, dRet, dRetN, dSub, subR, subD, R.short, lenD, fLen, fInt, fTuple, dTup, dLst, owns, fI2, D.imm, D.imms, truthD, dAsg, bName, bTup, bCons, bNil, dDrop, dAppend, isLst, mutD, dSetI, dUser, rootsOk, roots, puts, fins, kpL, dAug, fAdd, fMul, fMod, fFdiv, fSub, fLt_int, fGt_int, fLe_int, fGe_int, fEq_int, fNe_int, fEq_str])]
    simp [dFn, env0, dSeq, dNx, dBk, dCt, dIf, dTb, dTv, dAnd, dOr, dNot, dAndV, dOrV, dNotV, dIfE, dCall, dACons, dANil, dVar, dC, derefs, deref, getP, setP, dRet, dRetN, dSub, subR, subD, R.short, lenD, fLen, fInt, fTuple, dTup, dLst, owns, fI2, D.imm, D.imms, truthD, dAsg, bName, bTup, bCons, bNil, dDrop, dAppend, isLst, mutD, dSetI, dUser, rootsOk, roots, puts, fins, kpL, dAug, fAdd, fMul, fMod, fFdiv, fSub, fLt_int, fGt_int, fLe_int, fGe_int, fEq_int, fNe_int, fEq_str, dFor, sRange, gsIn, e]
theorem digits_ok (c : List D → D) (hc : c = .lst ∨ c = .frz) (xs : List Int) : ∃ ds : List Int, d_law_digits [c (xs.map .int), .int 0, .int 62] = some (.lst (ds.map .int), [some (c (xs.map .int)), some (.int 0), some (.int 62)]) := by
  obtain ⟨δ', e, ds, k, cell, turn, seed, rfl, hl⟩ := dForL_inv (gs := []) (b := bName 4) (mb := l_law_digits_3)
    (fun p δ => ∃ (ds : List Int), ∃ k cell turn seed, δ = [some (c (xs.map .int)), some (.int 0), some (.int 62), some (.lst (ds.map .int)), k, cell, turn, seed] ∧ ds.length ≤ 60 * p.length)
    (rangeD 0 62) [] [some (c (xs.map .int)), some (.int 0), some (.int 62), some (.lst []), none, none, none, none] (fun _ _ _ => rfl) (fun p x q δ he ⟨ds, k, cell, turn, seed, h1, h2⟩ => by
      subst h1
      obtain ⟨rfl, hp⟩ := rangeD_at (p := p) he
      obtain ⟨ds2, c2, t2, s2, e2, h3⟩ := digit_step c hc xs (some (.int 0)) (some (.int 62)) cell turn seed ds p.length _ (cell_ok c hc xs p.length) (by omega)
      rw [Int.zero_add]
      exact ⟨_, _, rfl, .inl e2, ds2, _, c2, t2, s2, rfl, by simp; omega⟩) ⟨[], none, none, none, none, rfl, by simp⟩
  refine ⟨ds, ?_⟩
  rcases hc with rfl | rfl <;> simp [d_law_digits, m_law_digits, dFn, env0, dSeq, dNx, dBk, dCt, dIf, dTb, dTv, dAnd, dOr, dNot, dAndV, dOrV, dNotV, dIfE, dCall, dACons, dANil, dVar, dC, derefs, deref, getP, setP, dRet, dRetN, dSub, subR, subD, R.short, lenD, fLen, fInt, fTuple, dTup, dLst, owns, fI2, D.imm, D.imms, truthD, dAsg, bName, bTup, bCons, bNil, dDrop, dAppend, isLst, mutD, dSetI, dUser, rootsOk, roots, puts, fins, kpL, dAug, fAdd, fMul, fMod, fFdiv, fSub, fLt_int, fGt_int, fLe_int, fGe_int, fEq_int, fNe_int, fEq_str, dFor, sRange, gsIn, e]
theorem box_ok (c : List D → D) (hc : c = .lst ∨ c = .frz) (xs : List Int) : ∃ ds : List Int, d_law_box [c (xs.map .int), .int 0, .int 62] = some (box ds 0, [some (c (xs.map .int)), some (.int 0), some (.int 62)]) := by
  obtain ⟨ds, e⟩ := digits_ok c hc xs
  refine ⟨ds, ?_⟩
  rcases hc with rfl | rfl <;> simp [d_law_box, m_law_box, box, dFn, env0, dSeq, dNx, dBk, dCt, dIf, dTb, dTv, dAnd, dOr, dNot, dAndV, dOrV, dNotV, dIfE, dCall, dACons, dANil, dVar, dC, derefs, deref, getP, setP, dRet, dRetN, dSub, subR, subD, R.short, lenD, fLen, fInt, fTuple, dTup, dLst, owns, fI2, D.imm, D.imms, truthD, dAsg, bName, bTup, bCons, bNil, dDrop, dAppend, isLst, mutD, dSetI, dUser, rootsOk, roots, puts, fins, kpL, dAug, fAdd, fMul, fMod, fFdiv, fSub, fLt_int, fGt_int, fLe_int, fGe_int, fEq_int, fNe_int, fEq_str, e]
def Same (n : Nat) (x : D) : Prop := x.imm = true ∧ d_law_same n [x, x] = some (.bl true, [some x, some x])
theorem same_int (n : Nat) (i : Int) : Same (n + 1) (.int i) := by
  refine ⟨by simp [D.imm], ?_⟩
  simp [d_law_same, m_law_same, dFn, env0, dSeq, dNx, dBk, dCt, dIf, dTb, dTv, dAnd, dOr, dNot, dAndV, dOrV, dNotV, dIfE, dCall, dACons, dANil, dVar, dC, derefs, deref, getP, setP, dRet, dRetN, dSub, subR, subD, R.short, lenD, fLen, fInt, fTuple, dTup, dLst, owns, fI2, D.imm, D.imms, truthD, dAsg, bName, bTup, bCons, bNil, dDrop, dAppend, isLst, mutD, dSetI, dUser, rootsOk, roots, puts, fins, kpL, dAug, fAdd, fMul, fMod, fFdiv, fSub, fLt_int, fGt_int, fLe_int, fGe_int, fEq_int, fNe_int, fEq_str, fIsa, toPy, PyData.isTuple, PyData.isBool, PyData.isInt, fIs, isNone]
theorem same_str (n : Nat) (i : Str) : Same (n + 1) (.str i) := by
  refine ⟨by simp [D.imm], ?_⟩
  simp [d_law_same, m_law_same, dFn, env0, dSeq, dNx, dBk, dCt, dIf, dTb, dTv, dAnd, dOr, dNot, dAndV, dOrV, dNotV, dIfE, dCall, dACons, dANil, dVar, dC, derefs, deref, getP, setP, dRet, dRetN, dSub, subR, subD, R.short, lenD, fLen, fInt, fTuple, dTup, dLst, owns, fI2, D.imm, D.imms, truthD, dAsg, bName, bTup, bCons, bNil, dDrop, dAppend, isLst, mutD, dSetI, dUser, rootsOk, roots, puts, fins, kpL, dAug, fAdd, fMul, fMod, fFdiv, fSub, fLt_int, fGt_int, fLe_int, fGe_int, fEq_int, fNe_int, fEq_str, fIsa, toPy, PyData.isTuple, PyData.isBool, PyData.isInt, PyData.isStr, fIs, isNone]
theorem same_tup (n : Nat) (xs : List D) (hl : xs.length ≤ 1000000) (h : ∀ x ∈ xs, Same n x) : Same (n + 1) (.tup xs) := by
  have him : (D.tup xs).imm = true := by simp only [D.imm]; rw [D.imms_iff]; exact fun x hx => (h x hx).1
  refine ⟨him, ?_⟩
  obtain ⟨δ', e, k', rfl⟩ := dForL_inv (gs := []) (b := bName 2) (mb := l_law_same_1 (d_law_same n)) (fun p δ => ∃ k, δ = [some (.tup xs), some (.tup xs), k]) (rangeD 0 xs.length) [] [some (.tup xs), some (.tup xs), none] (fun _ _ _ => rfl)
    (fun p x q δ he ⟨k, h1⟩ => by
      subst h1
      obtain ⟨rfl, hp⟩ := rangeD_at (p := p) he
      rw [Int.zero_add]
      refine ⟨[some (.tup xs), some (.tup xs), some (.int p.length)], [some (.tup xs), some (.tup xs), some (.int p.length)], rfl, .inl ?_, _, rfl⟩
      have hx := h xs[p.length] (List.getElem_mem hp)
      have e1 : L2.atI xs (p.length : Int) = some xs[p.length] := by simp [L2.atI, L2.ixN, hp]
      obtain ⟨h1, h2⟩ := hx
      generalize xs[p.length] = y at *
      unfold l_law_same_1
      rw [dIf_f (δ1 := [some (.tup xs), some (.tup xs), some (.int p.length)])]
      · rfl
      · generalize hX : D.tup xs = X at *
        have e2 : subD X (p.length : Int) = some y := by subst hX; exact e1
        simp [dNot, dTv, dUser, dACons, dSub, dVar, him, deref, subR, e2, h1, R.short, dANil, D.imm, rootsOk, roots, derefs, h2, puts, truthD]) ⟨none, rfl⟩
  have hl2 : -1000000 ≤ (xs.length : Int) ∧ (xs.length : Int) ≤ 1000000 := by omega
  have him2 : D.imms xs = true := by simpa only [D.imm] using him
  have e5 : m_law_same (d_law_same n) [some (.tup xs), some (.tup xs), none] = some (.rt (.bl true) [some (.tup xs), some (.tup xs), k']) := by
    unfold m_law_same
    have : (dIf (dTv (dCall (fIsa PyData.isTuple) (dACons true (dVar 1) dANil)))
    (dSeq (dIf (dOr (dNot (dTv (dCall (fIsa PyData.isTuple) (dACons true (dVar 0) dANil)))) (dTb (dCall fNe (d2 true (dCall fLen (dACons true (dVar 0) dANil)) (dCall fLen (dACons true (dVar 1) dANil))))))
    (dRet (kpL [0, 1]) (dC (.bl false)))
    dNx)
    (dSeq (dFor (kpL [0, 1]) (sRange (dACons true (dCall fLen (dACons true (dVar 1) dANil)) dANil)) (bName 2)
    (l_law_same_1 (d_law_same n)))
    (dRet (kpL [0, 1]) (dC (.bl true)))))
    dNx) [some (.tup xs), some (.tup xs), none] = some (.rt (.bl true) [some (.tup xs), some (.tup xs), k']) := by
      rw [dIf_t (δ1 := [some (.tup xs), some (.tup xs), none]) (by simp [dFn, env0, dSeq, dNx, dBk, dCt, dIf, dTb, dTv, dAnd, dOr, dNot, dAndV, dOrV, dNotV, dIfE, dCall, dACons, dANil, dVar, dC, derefs, deref, getP, setP, dRet, dRetN, dSub, subR, subD, R.short, lenD, fLen, fInt, fTuple, dTup, dLst, owns, fI2, D.imm, D.imms, truthD, dAsg, bName, bTup, bCons, bNil, dDrop, dAppend, isLst, mutD, dSetI, dUser, rootsOk, roots, puts, fins, kpL, dAug, fAdd, fMul, fMod, fFdiv, fSub, fLt_int, fGt_int, fLe_int, fGe_int, fEq_int, fNe_int, fEq_str, fIsa, toPy, PyData.isTuple, him2])]
      rw [dSeq_nx (δ1 := [some (.tup xs), some (.tup xs), none]) (by simp [dFn, env0, dSeq, dNx, dBk, dCt, dIf, dTb, dTv, dAnd, dOr, dNot, dAndV, dOrV, dNotV, dIfE, dCall, dACons, dANil, dVar, dC, derefs, deref, getP, setP, dRet, dRetN, dSub, subR, subD, R.short, lenD, fLen, fInt, fTuple, dTup, dLst, owns, fI2, D.imm, D.imms, truthD, dAsg, bName, bTup, bCons, bNil, dDrop, dAppend, isLst, mutD, dSetI, dUser, rootsOk, roots, puts, fins, kpL, dAug, fAdd, fMul, fMod, fFdiv, fSub, fLt_int, fGt_int, fLe_int, fGe_int, fEq_int, fNe_int, fEq_str, fIsa, toPy, PyData.isTuple, him2])]
      rw [dSeq_nx (δ1 := [some (.tup xs), some (.tup xs), k']) (by simp [dFor, sRange, dFn, env0, dSeq, dNx, dBk, dCt, dIf, dTb, dTv, dAnd, dOr, dNot, dAndV, dOrV, dNotV, dIfE, dCall, dACons, dANil, dVar, dC, derefs, deref, getP, setP, dRet, dRetN, dSub, subR, subD, R.short, lenD, fLen, fInt, fTuple, dTup, dLst, owns, fI2, D.imm, D.imms, truthD, dAsg, bName, bTup, bCons, bNil, dDrop, dAppend, isLst, mutD, dSetI, dUser, rootsOk, roots, puts, fins, kpL, dAug, fAdd, fMul, fMod, fFdiv, fSub, fLt_int, fGt_int, fLe_int, fGe_int, fEq_int, fNe_int, fEq_str, him2, hl2, gsIn, e])]
      simp [dFn, env0, dSeq, dNx, dBk, dCt, dIf, dTb, dTv, dAnd, dOr, dNot, dAndV, dOrV, dNotV, dIfE, dCall, dACons, dANil, dVar, dC, derefs, deref, getP, setP, dRet, dRetN, dSub, subR, subD, R.short, lenD, fLen, fInt, fTuple, dTup, dLst, owns, fI2, D.imm, D.imms, truthD, dAsg, bName, bTup, bCons, bNil, dDrop, dAppend, isLst, mutD, dSetI, dUser, rootsOk, roots, puts, fins, kpL, dAug, fAdd, fMul, fMod, fFdiv, fSub, fLt_int, fGt_int, fLe_int, fGe_int, fEq_int, fNe_int, fEq_str]
    simp only [dSeq, this]
  simp [d_law_same, dFn, env0, e5, fins, kpL]
theorem same_bl (n : Nat) (i : Bool) : Same (n + 1) (.bl i) := by
  refine ⟨by simp [D.imm], ?_⟩
  have e : fEq [.bl i, .bl i] = some (.bl true) := by
    have h : dep (.bl i) = true := dep_of (by simp [D.dp])
    simp [fEq, h, eqD, toPy, PyData.eqv]
  simp [d_law_same, m_law_same, dFn, env0, dSeq, dNx, dBk, dCt, dIf, dTb, dTv, dAnd, dOr, dNot, dAndV, dOrV, dNotV, dIfE, dCall, dACons, dANil, dVar, dC, derefs, deref, getP, setP, dRet, dRetN, dSub, subR, subD, R.short, lenD, fLen, fInt, fTuple, dTup, dLst, owns, fI2, D.imm, D.imms, truthD, dAsg, bName, bTup, bCons, bNil, dDrop, dAppend, isLst, mutD, dSetI, dUser, rootsOk, roots, puts, fins, kpL, dAug, fAdd, fMul, fMod, fFdiv, fSub, fLt_int, fGt_int, fLe_int, fGe_int, fEq_int, fNe_int, fEq_str, fIsa, toPy, PyData.isTuple, PyData.isBool, PyData.isInt, PyData.isStr, fIs, isNone, e]
theorem same_non (n : Nat) : Same (n + 1) .non := by
  refine ⟨by simp [D.imm], ?_⟩
  simp [d_law_same, m_law_same, dFn, env0, dSeq, dNx, dBk, dCt, dIf, dTb, dTv, dAnd, dOr, dNot, dAndV, dOrV, dNotV, dIfE, dCall, dACons, dANil, dVar, dC, derefs, deref, getP, setP, dRet, dRetN, dSub, subR, subD, R.short, lenD, fLen, fInt, fTuple, dTup, dLst, owns, fI2, D.imm, D.imms, truthD, dAsg, bName, bTup, bCons, bNil, dDrop, dAppend, isLst, mutD, dSetI, dUser, rootsOk, roots, puts, fins, kpL, dAug, fAdd, fMul, fMod, fFdiv, fSub, fLt_int, fGt_int, fLe_int, fGe_int, fEq_int, fNe_int, fEq_str, fIsa, toPy, PyData.isTuple, PyData.isBool, PyData.isInt, PyData.isStr, fIs, isNone]
mutual
/-- no row in it is too long -/
def szD : D → Bool
  | .tup xs => decide (xs.length ≤ 1000000) && szDs xs
  | .lst _ => false
  | .frz _ => false
  | .dic _ _ => false
  | .obj _ _ _ => false
  | _ => true
def szDs : List D → Bool
  | [] => true
  | x :: xs => szD x && szDs xs
end
mutual
theorem same_all : ∀ (d : D) (n : Nat), szD d = true → d.dp < n → Same n d
  | _, 0, _, l => by omega
  | .non, n + 1, _, _ => same_non n
  | .bl b, n + 1, _, _ => same_bl n b
  | .int i, n + 1, _, _ => same_int n i
  | .str x, n + 1, _, _ => same_str n x
  | .tup xs, n + 1, z, l => by
    simp only [szD, Bool.and_eq_true, decide_eq_true_eq] at z
    simp only [D.dp] at l
    exact same_tup n xs z.1 fun x hx => sames_all xs n z.2 (by omega) x hx
  | .lst _, _ + 1, h, _ => by simp [szD] at h
  | .frz _, _ + 1, h, _ => by simp [szD] at h
  | .dic _ _, _ + 1, h, _ => by simp [szD] at h
  | .obj _ _ _, _ + 1, h, _ => by simp [szD] at h
theorem sames_all : ∀ (ds : List D) (n : Nat), szDs ds = true → D.dps ds < n → ∀ x ∈ ds, Same n x
  | [], _, _, _, x, hx => nomatch hx
  | y :: ds, n, z, l, x, hx => by
    simp only [szDs, Bool.and_eq_true] at z
    simp only [D.dps] at l
    rcases List.mem_cons.mp hx with e | hx
    · rw [e]; exact same_all y n z.1 (by omega)
    · exact sames_all ds n z.2 (by omega) x hx
end
section
variable {α : Type} (E : Enc α) [DecidableEq α]
/-- the same, and not too long -/
def sameO (a b : α) : Option Bool := if a = b ∧ szD (E.enc a) = true then some true else none
theorem f_same {a b : α} {v : Bool} {n : Nat} (h : sameO E a b = some v) (hd : Nat.ble (E.dp + 1) n = true) : d_law_same n [E.enc a, E.enc b] = some (.bl v, [some (E.enc a), some (E.enc b)]) := by
  unfold sameO at h
  split at h
  · rename_i hh
    cases h
    rw [← hh.1]
    exact (same_all _ n hh.2 (by have := E.hdp a; have := Nat.le_of_ble_eq_true hd; omega)).2
  · cases h
end
/-! the box as a value -/
abbrev Box := List Int × Nat
def boxE (b : Box) : D := box b.1 b.2
/-- drawing where all is well -/
def drawO (b : Box) (m : Int) : Option (Int × Box) := if 0 < m then some (if b.2 < b.1.length then (b.1.getD b.2 0).fmod m else 0, (b.1, b.2 + 1)) else none
theorem f_draw {b : Box} {m : Int} {v : Int × Box} (h : drawO b m = some v) : d_law_draw [boxE b, .int m] = some (.int v.1, [some (boxE v.2), some (.int m)]) := by
  obtain ⟨ds, n⟩ := b
  unfold drawO at h
  split at h
  · rename_i hm
    cases h
    have hm0 : m ≠ 0 := by omega
    by_cases h : n < ds.length
    · have e := atI_ints ds n h
      simp [d_law_draw, m_law_draw, boxE, box, dFn, env0, dSeq, dNx, dBk, dCt, dIf, dTb, dTv, dAnd, dOr, dNot, dAndV, dOrV, dNotV, dIfE, dCall, dACons, dANil, dVar, dC, derefs, deref, getP, setP, dRet, dRetN, dSub, subR, subD, R.short, lenD, fLen, fInt, fTuple, dTup, dLst, owns, fI2, D.imm, D.imms, truthD, dAsg, bName, bTup, bCons, bNil, dDrop, dAppend, isLst, mutD, dSetI, dUser, rootsOk, roots, puts, fins, kpL, dAug, fAdd, fMul, fMod, fFdiv, fSub, fLt_int, fGt_int, fLe_int, fGe_int, fEq_int, fNe_int, fEq_str, h, e, L2.atI, L2.ixN, hm0]
    · simp [d_law_draw, m_law_draw, boxE, box, dFn, env0, dSeq, dNx, dBk, dCt, dIf, dTb, dTv, dAnd, dOr, dNot, dAndV, dOrV, dNotV, dIfE, dCall, dACons, dANil, dVar, dC, derefs, deref, getP, setP, dRet, dRetN, dSub, subR, subD, R.short, lenD, fLen, fInt, fTuple, dTup, dLst, owns, fI2, D.imm, D.imms, truthD, dAsg, bName, bTup, bCons, bNil, dDrop, dAppend, isLst, mutD, dSetI, dUser, rootsOk, roots, puts, fins, kpL, dAug, fAdd, fMul, fMod, fFdiv, fSub, fLt_int, fGt_int, fLe_int, fGe_int, fEq_int, fNe_int, fEq_str, h, L2.atI, L2.ixN]
  · cases h
theorem draw_some (b : Box) {m : Int} (hm : 0 < m) : ∃ r, 0 ≤ r ∧ r < m ∧ drawO b m = some (r, (b.1, b.2 + 1)) := by
  unfold drawO
  rw [if_pos hm]
  refine ⟨_, ?_, ?_, rfl⟩
  · split
    · exact Int.fmod_nonneg_of_pos _ hm
    · exact Int.le_refl 0
  · split
    · exact Int.fmod_lt_of_pos _ hm
    · exact hm
theorem boxE_imm (b : Box) : (boxE b).imm = false := by simp [boxE, box, D.imm]
theorem f_box {c : List D → D} (hc : c = .lst ∨ c = .frz) (xs : List Int) : ∃ b : Box, d_law_box [c (xs.map .int), .int 0, .int 62] = some (boxE b, [some (c (xs.map .int)), some (.int 0), some (.int 62)]) := by
  obtain ⟨ds, e⟩ := box_ok c hc xs
  exact ⟨(ds, 0), e⟩
/-! rules that the printed texts use -/
@[reducible] def Lx {α : Type} (E : Enc α) (xs : List α) : D := .lst (xs.map E.enc)
section
variable {α β τ ρ : Type} {p p1 p2 p3 : Bool} {A A1 A2 A3 : List Sl} {m ma mb mn : Den} {S : τ → Out → Prop} {rest : Blk}
theorem r_draw {i : Nat} {b : Box} {k : Int} {v : Int × Box} (hb : A[i]? = some (.is (boxE b))) (hm : RV p A mn (.own (.int k)) A) (e : drawO b k = some v) : RV false A (dUser d_law_draw (dACons true (dVar i) (dACons true mn dANil))) (.own (.int v.1)) (A.set i (.is (boxE v.2))) := fun δ a => by
  obtain ⟨δ', e1, e2, _⟩ := r_user (f := d_law_draw) (r_acons (q := true) (r_varM hb (boxE_imm b)) (r_acons (q := true) hm r_anil rfl) rfl) (by simp [rootsOk, roots]) (drfs_cons (drf_at hb) (drfs_cons drf_own drfs_nil)) (f_draw e) (.pth (l := []) hb (.own .nil) rfl) δ a
  refine ⟨δ', e1, ?_, fun h => by cases h⟩
  rw [List.set_set] at e2
  exact e2
theorem k_asgF {i : Nat} {me : Den} {v : α} {f : α → Option τ} (ex : α → D) (h : RV p A me (.own (ex v)) A1) (hi : i < A1.length) (g : ∀ x, RB (A1.set i (.is (ex x))) rest (f x) S) : RB A (dSeq (dAsg (bName i) me) rest) (lv v f) S := k_asg h hi (g v)
def RVO (p : Bool) (A : List Sl) (m : Den) (ex : α → D) (n : Option α) (A' : List Sl) : Prop := ∀ v, n = some v → RV p A m (.own (ex v)) A'
def RTO (p : Bool) (A : List Sl) (m : DenT) (n : Option Bool) (A' : List Sl) : Prop := ∀ v, n = some v → RT p A m v A'
theorem o_bnd {ex : α → D} {x : Option β} {f : β → Option α} (h : ∀ a, x = some a → RVO p A m ex (f a) A1) : RVO p A m ex (bnd x f) A1 := fun v e => by
  obtain ⟨a, h1, h2⟩ := bnd_eq e
  exact h a h1 v h2
theorem o_some {ex : α → D} {v : α} (h : RV p A m (.own (ex v)) A1) : RVO p A m ex (some v) A1 := fun _ e => by cases e; exact h
theorem to_bnd {mt : DenT} {x : Option β} {f : β → Option Bool} (h : ∀ a, x = some a → RTO p A mt (f a) A1) : RTO p A mt (bnd x f) A1 := fun v e => by
  obtain ⟨a, h1, h2⟩ := bnd_eq e
  exact h a h1 v h2
theorem to_some {mt : DenT} {v : Bool} (h : RT p A mt v A1) : RTO p A mt (some v) A1 := fun _ e => by cases e; exact h
def andO (x : Bool) (n : Option Bool) : Option Bool := if x = true then n else some false
def orO (x : Bool) (n : Option Bool) : Option Bool := if x = true then some true else n
theorem o_andV {x : Bool} {n : Option Bool} {v : Bool} (h : RV p1 A ma (.own (.bl x)) A) (h1 : x = true → RVO p2 A mb D.bl n A) (e : andO x n = some v) : RV (p1 && p2) A (dAndV ma mb) (.own (.bl v)) A := by
  cases x with
  | true => have := r_andV h (fun hx => h1 hx v e); simpa using this
  | false => cases e; exact r_andV (y := false) h (fun hx => by cases hx)
theorem o_ife {c : DenT} {b : Bool} {ex : α → D} {na nb : Option α} {v : α} (h : RT p1 A c b A1) (h1 : b = true → RVO p2 A1 ma ex na A2) (h2 : b = false → RVO p3 A1 mb ex nb A2) (e : (if b = true then na else nb) = some v) : RV (p1 && (p2 && p3)) A (dIfE c ma mb) (.own (ex v)) A2 := by
  cases b with
  | true =>
    refine fun δ a => ?_
    obtain ⟨δ1, e1, a1, u1⟩ := h δ a
    obtain ⟨δ2, e2, a2, u2⟩ := h1 rfl v e δ1 a1
    exact ⟨δ2, by simp only [dIfE, e1, e2], a2, fun h => by simp only [Bool.and_eq_true] at h; rw [u2 h.2.1, u1 h.1]⟩
  | false =>
    refine fun δ a => ?_
    obtain ⟨δ1, e1, a1, u1⟩ := h δ a
    obtain ⟨δ2, e2, a2, u2⟩ := h2 rfl v e δ1 a1
    exact ⟨δ2, by simp only [dIfE, e1, e2], a2, fun h => by simp only [Bool.and_eq_true] at h; rw [u2 h.2.2, u1 h.1]⟩
theorem r_ifeE {c : DenT} {b : Bool} {ex : α → D} {x y : α} (h : RT p1 A c b A1) (h1 : b = true → RV p2 A1 ma (.own (ex x)) A2) (h2 : b = false → RV p3 A1 mb (.own (ex y)) A2) : RV (p1 && (p2 && p3)) A (dIfE c ma mb) (.own (ex (if b = true then x else y))) A2 :=
  o_ife (na := some x) (nb := some y) h (fun e => o_some (h1 e)) (fun e => o_some (h2 e)) (by cases b <;> rfl)
theorem r_push {i : Nat} {mo me : Den} {E : Enc α} {xs zs : List α} {y : α} {q : Bool} (e : pushO xs y = some zs) (ho : RV p1 A mo (.at i []) A1) (g1 : A1[i]? = some (.is (Lx E xs))) (h : RV p2 A1 me (.own (E.enc y)) A2) (g : A2[i]? = some (.is (Lx E xs))) :
    RV false A (dAppend q mo me) (.own .non) (A2.set i (.is (Lx E zs))) := by
  obtain ⟨hl, rfl⟩ := push_eq e
  have := r_append (q := q) ho g1 h g (by simpa using hl)
  simpa [Lx] using this
theorem k_set {i : Nat} {me mo mi : Den} {E : Enc α} {xs : List α} {y : α} {qo qi : Bool} {k : Int} {f : List α → Option τ} (h : RV p1 A me (.own (E.enc y)) A1) (ho : RV p2 A1 mo (.at i []) A2) (hi : RV p3 A2 mi (.own (.int k)) A3) (g : A3[i]? = some (.is (Lx E xs)))
    (c : ∀ zs, setO xs k y = some zs → RB (A3.set i (.is (Lx E zs))) rest (f zs) S) : RB A (dSeq (dSetI qo qi mo mi me) rest) (bnd (setO xs k y) f) S := fun t e => by
  obtain ⟨zs, h1, h2⟩ := bnd_eq e
  obtain ⟨j, hj, rfl⟩ := set_eq h1
  have := c _ h1 t h2
  refine k_setI (n := f (xs.set j y)) h ho hi g (j := j) (by simpa using hj) ?_ t h2
  simpa [Lx, List.map_set] using c _ h1
theorem k_augI {i : Nat} {me : Den} {f : Int → Int → Int} {x y : Int} {k : Int → Option τ} (g : A[i]? = some (.is (.int x))) (h : RV p A me (.own (.int y)) A1) (hi : i < A1.length) (c : ∀ z, RB (A1.set i (.is (Ei.enc z))) rest (k z) S) : RB A (dSeq (dAug i f me) rest) (lv (f x y) k) S := k_aug g h hi (c _)
/-- the call of a def, from its body -/
def finsS (kp : Nat → Bool) : Nat → Nat → List Sl → Option (List (Option D))
  | _, 0, _ => some []
  | i, n + 1, [] => none
  | i, n + 1, s :: A => match finsS kp (i + 1) n A with
    | some fs => if kp i = true then match s with
        | .is d => some (some d :: fs)
        | .any => none
      else some (none :: fs)
    | none => none
theorem fins_ok (kp : Nat → Bool) : ∀ (n i : Nat) (A : List Sl) (δ : DE) (fs : List (Option D)), Agr A δ → finsS kp i n A = some fs → fins kp i n δ = fs
  | 0, _, _, δ, fs, _, h => by cases h; cases δ <;> rfl
  | n + 1, i, [], _, _, _, h => by cases h
  | n + 1, i, s :: A, [], _, a, _ => by have := a.len; simp at this
  | n + 1, i, s :: A, x :: δ, fs, a, h => by
    simp only [finsS] at h
    cases h1 : finsS kp (i + 1) n A with
    | none => rw [h1] at h; cases h
    | some gs =>
      rw [h1] at h
      have a' : Agr A δ := ⟨by have := a.len; simpa using this, fun j d e => a.get (j + 1) d e⟩
      have ih := fins_ok kp n (i + 1) A δ gs a' h1
      simp only [fins, ih]
      by_cases hk : kp i = true
      · simp only [hk, if_true] at h ⊢
        cases s with
        | any => cases h
        | is d => cases h; have := a.get 0 d rfl; simp at this; rw [this]
      · simp only [hk, if_false] at h ⊢
        cases h; rfl
theorem agr_env0 (nN np : Nat) (ds : List D) : Agr (ds.map Sl.is ++ List.replicate (nN - np) Sl.any) (env0 nN np ds) where
  len := by simp [env0]
  get i d h := by
    unfold env0
    by_cases hi : i < ds.length
    · rw [List.getElem?_append_left (by simpa using hi)] at h ⊢
      rw [List.getElem?_map] at h ⊢
      cases e : ds[i]? with
      | none => rw [e] at h; cases h
      | some x => rw [e] at h; cases h; rfl
    · rw [List.getElem?_append_right (by simpa using hi), List.getElem?_replicate] at h
      split at h <;> cases h
theorem def_ok {nN np : Nat} {kp : Nat → Bool} {mb : Blk} {n : Option ρ} {er : ρ → D} {Ar : ρ → List Sl} {ds : List D} {r : ρ} {fs : List (Option D)} (h : RB (ds.map Sl.is ++ List.replicate (nN - np) Sl.any) mb n (Rt er Ar)) (e : n = some r) (hl : ds.length = np) (hf : finsS kp 0 np (Ar r) = some fs) :
    dFn nN np kp mb ds = some (er r, fs) := by
  obtain ⟨out, e1, δ, rfl, a⟩ := h r e _ (agr_env0 nN np ds)
  simp only [dFn, hl, if_true, e1, fins_ok kp np 0 _ δ fs a hf]
theorem box_step {c : List D → D} (hc : c = .lst ∨ c = .frz) (xs : List Int) : ∃ b : Box, ∀ (rest : Blk) (tl : DE), dSeq (dAsg (bName 1) (dUser d_law_box (dACons true (dVar 0) (dACons true (dC (.int 0)) (dACons true (dC (.int 62)) dANil))))) rest (some (c (xs.map .int)) :: none :: tl) =
    rest (some (c (xs.map .int)) :: some (boxE b) :: tl) := by
  obtain ⟨b, e⟩ := f_box hc xs
  refine ⟨b, fun rest tl => ?_⟩
  have hi : D.imms (xs.map D.int) = true := map_imms Ei xs
  rcases hc with rfl | rfl <;> simp [dFn, env0, dSeq, dNx, dBk, dCt, dIf, dTb, dTv, dAnd, dOr, dNot, dAndV, dOrV, dNotV, dIfE, dCall, dACons, dANil, dVar, dC, derefs, deref, getP, setP, dRet, dRetN, dSub, subR, subD, R.short, lenD, fLen, fInt, fTuple, dTup, dLst, owns, fI2, D.imm, D.imms, truthD, dAsg, bName, bTup, bCons, bNil, dDrop, dAppend, isLst, mutD, dSetI, dUser, rootsOk, roots, puts, fins, kpL, dAug, fAdd, fMul, fMod, fFdiv, fSub, fLt_int, fGt_int, fLe_int, fGe_int, fEq_int, fNe_int, fEq_str, e, hi]
end
/-! what is plain -/
section
variable {α β : Type}
theorem filter_yes (xs : List α) : xs.filter (fun _ => true) = xs := by simp
theorem lcO_pure (t : α → Bool) (e : α → β) : ∀ xs : List α, lcO (fun x => some (t x)) (fun x => some (e x)) xs = some ((xs.filter t).map e)
  | [] => rfl
  | x :: xs => by
    simp only [lcO, lcO_pure t e xs, List.filter_cons]
    cases t x <;> rfl
theorem lcO_all (e : α → β) (xs : List α) : lcO (fun _ => some true) (fun x => some (e x)) xs = some (xs.map e) := by
  rw [lcO_pure (fun _ => true) e xs, filter_yes]
theorem allO_pure (t e : α → Bool) : ∀ xs : List α, allO (fun x => some (t x)) (fun x => some (e x)) xs = some ((xs.filter t).all e)
  | [] => rfl
  | x :: xs => by
    simp only [allO, allO_pure t e xs, List.filter_cons]
    cases t x with
    | false => rfl
    | true => cases h : e x <;> simp [h]
theorem allO_all (e : α → Bool) (xs : List α) : allO (fun _ => some true) (fun x => some (e x)) xs = some (xs.all e) := by
  rw [allO_pure (fun _ => true) e xs, filter_yes]
end
end Y


set_option Elab.async false
set_option linter.all false
set_option maxRecDepth 100000
/-! plain laws of the typed functions -/
namespace Y
open PySem PySem.Spec PyProof.Rows L2 Z
section
variable {α β γ ρ τ : Type}
@[simp] theorem lv_eq (a : α) (f : α → β) : lv a f = f a := rfl
@[simp] theorem onR_nx (j : ρ → Option τ) (k : β → Option τ) (b : β) : onR j k (.nx b) = k b := rfl
@[simp] theorem onR_rt (j : ρ → Option τ) (k : β → Option τ) (r : ρ) : onR j k (.rt r) = j r := rfl
@[simp] theorem forN_nil (f : α → β → Option β) (b : β) : forN f [] b = some b := rfl
theorem forN_cons (f : α → β → Option β) (x : α) (xs : List α) (b : β) : forN f (x :: xs) b = bnd (f x b) (forN f xs) := by simp only [forN, bnd]; cases f x b <;> rfl
@[simp] theorem forR_nil (f : α → β → Option (Res β ρ)) (b : β) : forR f [] b = some (.nx b) := rfl
/-- a loop that ends, by what holds behind each part of its items -/
theorem forN_inv {f : α → β → Option β} (I : List α → β → Prop) : ∀ (xs pre : List α) (b : β), I pre b → (∀ p x q b, pre ++ xs = p ++ x :: q → I p b → ∃ b', f x b = some b' ∧ I (p ++ [x]) b') → ∃ b', forN f xs b = some b' ∧ I (pre ++ xs) b'
  | [], pre, b, h, _ => ⟨b, rfl, by rwa [List.append_nil]⟩
  | x :: xs, pre, b, h, hs => by
    obtain ⟨b1, e1, h1⟩ := hs pre x xs b rfl h
    obtain ⟨b', e, h'⟩ := forN_inv I xs (pre ++ [x]) b1 h1 fun p y q b e => hs p y q b (by rw [← e]; simp)
    exact ⟨b', by simp only [forN, e1, e], by simpa using h'⟩
/-! conditions in parts -/
@[simp] theorem andO_some (x y : Bool) : andO x (some y) = some (x && y) := by cases x <;> rfl
@[simp] theorem orO_some (x y : Bool) : orO x (some y) = some (x || y) := by cases x <;> rfl
@[simp] theorem andO_f (n : Option Bool) : andO false n = some false := rfl
@[simp] theorem andO_t (n : Option Bool) : andO true n = n := rfl
@[simp] theorem orO_t (n : Option Bool) : orO true n = some true := rfl
@[simp] theorem orO_f (n : Option Bool) : orO false n = n := rfl
@[simp] theorem bnd_ite (c : Prop) [Decidable c] (x y : Option α) (f : α → Option β) : bnd (if c then x else y) f = if c then bnd x f else bnd y f := by split <;> rfl
/-! rows -/
theorem ixN_nat (n k : Nat) : ixN n (k : Int) = if k < n then some k else none := by
  unfold ixN
  rw [if_pos (by omega)]
  by_cases h : k < n
  · rw [if_pos (by omega), if_pos h, Int.toNat_natCast]
  · rw [if_neg (by omega), if_neg h]
@[simp] theorem atI_nat (xs : List α) (k : Nat) : L2.atI xs (k : Int) = xs[k]? := by
  unfold L2.atI
  rw [ixN_nat]
  by_cases h : k < xs.length
  · rw [if_pos h]; rfl
  · rw [if_neg h, List.getElem?_eq_none (by omega)]; rfl
theorem rngO_ok {lo hi : Int} (h1 : -1000000 ≤ lo) (h2 : lo ≤ 1000000) (h3 : -1000000 ≤ hi) (h4 : hi ≤ 1000000) : rngO lo hi = some (rngN lo (hi - lo).toNat) := by
  unfold rngO; rw [if_pos ⟨h1, h2, h3, h4⟩]
theorem mem_rngN {lo i : Int} {n : Nat} : i ∈ rngN lo n ↔ lo ≤ i ∧ i < lo + n := by
  unfold rngN
  rw [List.mem_map]
  constructor
  · rintro ⟨k, hk, rfl⟩; have := List.mem_range.mp hk; omega
  · rintro ⟨h1, h2⟩; exact ⟨(i - lo).toNat, List.mem_range.mpr (by omega), by omega⟩
/-! sameness -/
theorem same_self {E : Enc α} [DecidableEq α] {a : α} (h : szD (E.enc a) = true) : sameO E a a = some true := by simp [sameO, h]
theorem szDs_map (E : Enc α) : ∀ xs : List α, (∀ x ∈ xs, szD (E.enc x) = true) → szDs (xs.map E.enc) = true
  | [], _ => rfl
  | x :: xs, h => by simp only [List.map_cons, szDs, h x (by simp), szDs_map E xs fun y hy => h y (List.mem_cons_of_mem _ hy), Bool.and_self]
theorem sz_T (E : Enc α) {xs : List α} (hl : xs.length ≤ 1000000) (h : ∀ x ∈ xs, szD (E.enc x) = true) : szD ((Et E).enc xs) = true := by
  show (decide ((xs.map E.enc).length ≤ 1000000) && szDs (xs.map E.enc)) = true
  rw [szDs_map E xs h, List.length_map, Bool.and_true, decide_eq_true_eq]
  exact hl
@[simp] theorem sz_I (i : Int) : szD (Ei.enc i) = true := rfl
@[simp] theorem sz_S (i : Str) : szD (Es.enc i) = true := rfl
@[simp] theorem sz_B (i : Bool) : szD (Eb.enc i) = true := rfl
@[simp] theorem sz_U (i : Unit) : szD (Eu.enc i) = true := rfl
theorem sz_O {E : Enc α} {h : E.nn = true} {o : Option α} (hs : ∀ a, o = some a → szD (E.enc a) = true) : szD ((Eo E h).enc o) = true := by
  cases o with
  | none => rfl
  | some a => exact hs a rfl
/-- a row's parts -/
def szR (F : Rw α) (a : α) : Bool := szDs (F.row a)
@[simp] theorem szR_1 (E : Enc α) (a : α) : szR (R1 E) a = szD (E.enc a) := by simp [szR, R1, szDs]
@[simp] theorem szR_c (E : Enc α) (F : Rw β) (a : α × β) : szR (Rc E F) a = (szD (E.enc a.1) && szR F a.2) := rfl
theorem sz_R {F : Rw α} {h : (F.len != 0) = true} {a : α} (hl : F.len ≤ 1000000) (hs : szR F a = true) : szD ((Er F h).enc a) = true := by
  show (decide ((F.row a).length ≤ 1000000) && szDs (F.row a)) = true
  rw [F.hlen, show szDs (F.row a) = true from hs, Bool.and_true, decide_eq_true_eq]
  exact hl
/-! rows that grow -/
theorem push_ok {xs : List α} {y : α} (h : xs.length < 1000000) : pushO xs y = some (xs ++ [y]) := by simp [pushO, h]
theorem cat_ok {xs ys : List α} (h : xs.length + ys.length ≤ 1000000) : catO xs ys = some (xs ++ ys) := by simp [catO, h]
end
/-! sorting numbers -/
end Y


set_option Elab.async false
set_option linter.all false
set_option maxRecDepth 100000
/-! more plain laws -/
namespace Y
open PySem PySem.Spec PyProof.Rows L2 Z
section
variable {α β γ ρ τ : Type}
end
end Y


set_option Elab.async false
set_option linter.all false
set_option maxRecDepth 100000
/-! more typed rules: zip, list methods, chains, sets of rows, tuple targets -/
namespace Y
open PySem PySem.Spec PyProof.Rows L2 Z
section
variable {p p1 p2 p3 : Bool} {A A1 A2 A3 : List Sl} {α β γ τ : Type} {rest : Blk} {S : τ → Out → Prop} {me : Den} {mr : DE → Option (List R × DE)}
theorem k_asgTF {vs : List Nat} {b : Bnd} {v : α} {f : α → Option τ} {B : α → List Sl} (ex : α → D) (h : RV p A me (.own (ex v)) A1) (hb : ∀ x, Bd vs A1 b (ex x) (B x)) (g : ∀ x, RB (B x) rest (f x) S) : RB A (dSeq (dAsg b me) rest) (lv v f) S := k_asgT h (hb v) (g v)
/-! zip -/
abbrev zipE (E : Enc α) (F : Enc β) : Enc (α × β) := Er (Rc E (R1 F))
abbrev zipE3 (E : Enc α) (F : Enc β) (G : Enc γ) : Enc (α × β × γ) := Er (Rc E (Rc F (R1 G)))
def SqOf (A : List Sl) (r : R) (xs : List D) (gs : List (Nat × D)) : Prop := ∀ δ, Agr A δ → ∃ b, seqR δ r = some (xs, b, gs)
theorem sq_T (E : Enc α) (xs : List α) : SqOf A (.own (.tup (xs.map E.enc))) (xs.map E.enc) [] := fun δ a => ⟨false, by simp only [seqR, map_imms, if_true]⟩
theorem zipD_map (E : Enc α) (F : Enc β) : ∀ (xs : List α) (ys : List β), zipD (xs.map E.enc) (ys.map F.enc) = (xs.zip ys).map (zipE E F).enc
  | [], _ => by simp [zipD]
  | _ :: _, [] => by simp [zipD]
  | x :: xs, y :: ys => by
    simp only [List.map_cons, zipD, List.zip_cons_cons, zipD_map E F xs ys]
    rfl
theorem zipD3_map (E : Enc α) (F : Enc β) (G : Enc γ) : ∀ (xs : List α) (ys : List β) (zs : List γ), zipD3 (xs.map E.enc) (ys.map F.enc) (zs.map G.enc) = (xs.zip (ys.zip zs)).map (zipE3 E F G).enc
  | [], _, _ => by simp [zipD3]
  | _ :: _, [], _ => by simp [zipD3]
  | _ :: _, _ :: _, [] => by simp [zipD3]
  | x :: xs, y :: ys, z :: zs => by
    simp only [List.map_cons, zipD3, List.zip_cons_cons, zipD3_map E F G xs ys zs]
    rfl
theorem i_zip2 {E : Enc α} {F : Enc β} {xs : List α} {ys : List β} {r1 r2 : R} {g1 g2 : List (Nat × D)} (h : RA p A mr [r1, r2] A1) (h1 : SqOf A1 r1 (xs.map E.enc) g1) (h2 : SqOf A1 r2 (ys.map F.enc) g2) : RS p A (sZip2 mr) ⟨(xs.zip ys).map (zipE E F).enc, g1 ++ g2⟩ A1 := fun δ a => by
  obtain ⟨δ1, e1, a1, u⟩ := h δ a
  obtain ⟨b1, q1⟩ := h1 δ1 a1
  obtain ⟨b2, q2⟩ := h2 δ1 a1
  exact ⟨δ1, by simp only [sZip2, e1, q1, q2, zipD_map], a1, u⟩
theorem i_zip3 {E : Enc α} {F : Enc β} {G : Enc γ} {xs : List α} {ys : List β} {zs : List γ} {r1 r2 r3 : R} {g1 g2 g3 : List (Nat × D)} (h : RA p A mr [r1, r2, r3] A1) (h1 : SqOf A1 r1 (xs.map E.enc) g1) (h2 : SqOf A1 r2 (ys.map F.enc) g2) (h3 : SqOf A1 r3 (zs.map G.enc) g3) :
    RS p A (sZip3 mr) ⟨(xs.zip (ys.zip zs)).map (zipE3 E F G).enc, g1 ++ (g2 ++ g3)⟩ A1 := fun δ a => by
  obtain ⟨δ1, e1, a1, u⟩ := h δ a
  obtain ⟨b1, q1⟩ := h1 δ1 a1
  obtain ⟨b2, q2⟩ := h2 δ1 a1
  obtain ⟨b3, q3⟩ := h3 δ1 a1
  exact ⟨δ1, by simp only [sZip3, e1, q1, q2, q3, zipD3_map], a1, u⟩
/-! methods of lists -/
theorem r_meth {i : Nat} {mo : Den} {g : MethD} {qe : Bool} {rs : List R} {ds xs xs' : List D} {d : D} (ho : RV p1 A mo (.at i []) A1) (g1 : A1[i]? = some (.is (.lst xs))) (ha : RA p2 A1 mr rs A2) (hd : owns rs = some ds) (hi : D.imms ds = true) (g2 : A2[i]? = some (.is (.lst xs)))
    (e : g xs ds = some (xs', d)) (i1 : D.imms xs = true) (i2 : D.imms xs' = true) (i3 : d.imm = true) : RV false A (dMeth qe g mo mr) (.own d) (A2.set i (.is (.lst xs'))) := fun δ a => by
  obtain ⟨δ1, e1, a1, _⟩ := ho δ a
  obtain ⟨δ2, e2, a2, _⟩ := ha δ1 a1
  refine ⟨_, ?_, a2.set i _, fun h => by cases h⟩
  simp only [dMeth, e1, e2, hd, R.short, Bool.true_or, isLst_root (a1.get _ _ g1), hi, Bool.and_self, if_true, mutV, a2.get _ _ g2, getP, e, i1, i2, i3, setP]
def popI (xs : List α) (i : Int) : Option (α × List α) := if xs.length ≤ 1000000 then match ixN xs.length i with
  | some k => match xs[k]? with
    | some d => some (d, xs.eraseIdx k)
    | none => none
  | none => none
  else none
theorem g_popI (E : Enc α) {xs : List α} {i : Int} {v : α × List α} (h : popI xs i = some v) : gPopI (xs.map E.enc) [.int i] = some (v.2.map E.enc, E.enc v.1) := by
  unfold popI at h
  split at h
  · rename_i hl
    simp only [gPopI, List.length_map, hl, if_true, gPopAt]
    split at h
    · rename_i k hk
      simp only [hk, List.getElem?_map]
      split at h
      · rename_i d hd
        cases h
        simp only [hd, Option.map_some, map_erase]
      · cases h
    · cases h
  · cases h
theorem r_popI {i : Nat} {mo : Den} {qe : Bool} (E : Enc α) {xs : List α} {k : Int} {v : α × List α} (e : popI xs k = some v) (ho : RV p1 A mo (.at i []) A1) (g1 : A1[i]? = some (.is (Lx E xs))) (h : RA p2 A1 mr [.own (.int k)] A2) (g2 : A2[i]? = some (.is (Lx E xs))) :
    RV false A (dMeth qe gPopI mo mr) (.own (E.enc v.1)) (A2.set i (.is (Lx E v.2))) :=
  r_meth ho g1 h rfl rfl g2 (g_popI E e) (map_imms E _) (map_imms E _) (E.imm _)
/-! a < b < c -/
/-! sets -/
mutual
theorem cl_nol : ∀ (d : D), d.cl = true → d.imm = true → d.nol = true
  | .non, _, _ => rfl
  | .int _, _, _ => rfl
  | .str _, _, _ => rfl
  | .bl _, h, _ => by cases h
  | .tup xs, h, i => cls_nols xs h i
  | .lst _, _, i => by cases i
  | .frz _, h, _ => by cases h
  | .dic _ _, h, _ => by cases h
  | .obj _ _ _, h, _ => by cases h
theorem cls_nols : ∀ (ds : List D), D.cls ds = true → D.imms ds = true → D.nols ds = true
  | [], _, _ => rfl
  | x :: xs, h, i => by
    simp only [D.cls, D.imms, D.nols, Bool.and_eq_true] at h i ⊢
    exact ⟨cl_nol x h.1 i.1, cls_nols xs h.2 i.2⟩
end
class ClE (E : Enc α) : Prop where
  cl : ∀ a, (E.enc a).cl = true
class ClR (E : Rw α) : Prop where
  cl : ∀ a, D.cls (E.row a) = true
class TpE (E : Enc α) : Prop where
  tp : ∀ a, isTup (E.enc a) = true
instance : ClE Ei := ⟨fun _ => rfl⟩
instance : ClE Es := ⟨fun _ => rfl⟩
instance : ClE Eu := ⟨fun _ => rfl⟩
instance {E : Enc α} {h} [ClE E] : ClE (Eo E h) := ⟨fun a => by cases a with
  | none => rfl
  | some a => exact ClE.cl a⟩
theorem cls_map (E : Enc α) [ClE E] : ∀ xs : List α, D.cls (xs.map E.enc) = true
  | [] => rfl
  | x :: xs => by simp only [List.map_cons, D.cls, ClE.cl x, cls_map E xs, Bool.and_self]
instance {E : Enc α} [ClE E] : ClE (Et E) := ⟨fun a => cls_map E a⟩
instance {E : Enc α} : TpE (Et E) := ⟨fun a => rfl⟩
instance {E : Enc α} [ClE E] : ClR (R1 E) := ⟨fun a => by simp only [R1, D.cls, ClE.cl, Bool.and_self]⟩
instance {E : Enc α} {F : Rw β} [ClE E] [ClR F] : ClR (Rc E F) := ⟨fun a => by simp only [Rc, D.cls, ClE.cl, ClR.cl, Bool.and_self]⟩
instance {F : Rw α} {h} [ClR F] : ClE (Er F h) := ⟨fun a => ClR.cl (E := F) a⟩
instance {F : Rw α} {h} : TpE (Er F h) := ⟨fun a => rfl⟩
/-- rows that can be sorted: not empty ones -/
def tkA (E : Enc α) (xs : List α) : Bool := E.tk || xs.all fun a => isTupN (E.enc a)
/-- sorting rows of any length -/
def sortU (E : Enc α) (xs : List α) : Option (List α) := if tkA E xs = true then some (E.sort xs) else none
/-! min, max of two -/
/-! a def that may end without return -/
end
end Y


set_option Elab.async false
set_option linter.all false
set_option maxRecDepth 100000
/-! comprehensions with two clauses, typed -/
namespace Y
open PySem PySem.Spec PyProof.Rows L2 Z
section
variable {p : Bool} {α β γ : Type} {A A1 : List Sl} {me : Den} {mt mt1 : DenT} {ms ms1 : DenS} {bd bd1 : Bnd} {gs : List (Nat × D)}
structure El2 {vs vb vs1 vb1 : List Nat} (A : List Sl) (bd : Bnd) (mt : DenT) (ms1 : DenS) (bd1 : Bnd) (mt1 : DenT) (me : Den) (ex : α → D) (ex1 : γ → D) (g : β → D) (t : α → Option Bool) (s : α → Option (List γ)) (t1 : α → γ → Option Bool) (e : α → γ → Option β) (B : α → List Sl) (gs1 : α → List γ → List (Nat × D)) (B1 : α → γ → List Sl) : Prop where
  fb : ∀ x, Bd vb (setSl A vs) bd (ex x) (B x)
  ft : ∀ x v, t x = some v → RT true (B x) mt v (B x)
  fi : ∀ x ys, t x = some true → s x = some ys → RS true (B x) ms1 ⟨ys.map ex1, gs1 x ys⟩ (B x) ∧ gsIn (kpOut vs1) (gs1 x ys) = true ∧ Gd (setSl (B x) vs1) (gs1 x ys)
  fe : ∀ x, El (vs := vs1) (vb := vb1) (B x) bd1 mt1 me ex1 g (t1 x) (e x) (B1 x)
  fs : ∀ i ∈ vb, i ∈ vs
  fs1 : ∀ i ∈ vs1, i ∈ vs
/-! plain -/
end
end Y


set_option Elab.async false
set_option linter.all false
set_option maxRecDepth 100000
/-! taking a list away from its name; x[::-1]; slices of rows -/
namespace Y
open PySem PySem.Spec PyProof.Rows L2 Z
section
variable {p : Bool} {A A1 : List Sl} {α : Type} {m : Den} {r : R} {d : D}
theorem Agr.none {A : List Sl} {δ : DE} (h : Agr A δ) (i : Nat) : Agr (A.set i .any) (δ.set i none) where
  len := by simp [h.len]
  get j d e := by
    rw [List.getElem?_set] at e
    by_cases hj : i = j
    · rw [if_pos hj] at e
      split at e <;> cases e
    · rw [if_neg hj] at e
      rw [List.getElem?_set_ne hj]
      exact h.get j d e
theorem r_takeI {i : Nat} (h : A[i]? = some (.is d)) (hi : d.imm = true) : RV true A (dTake i) (.own d) A := fun δ a => by
  refine ⟨δ, ?_, a, fun _ => rfl⟩
  simp only [dTake, a.get i d h, hi, if_true]
def inB [DecidableEq α] (a : α) (xs : List α) : Bool := decide (a ∈ xs)
@[simp] theorem inB_eq [DecidableEq α] (a : α) (xs : List α) : inB a xs = true ↔ a ∈ xs := by simp [inB]
theorem f_inTB [DecidableEq α] (E : Enc α) (a : α) (xs : List α) (h : Nat.ble E.dp 58 = true) : fIn [E.enc a, .tup (xs.map E.enc)] = some (.bl (inB a xs)) := f_inT E a xs h
theorem f_ninLB [DecidableEq α] (E : Enc α) (a : α) (xs : List α) (h : Nat.ble E.dp 58 = true) : fNotIn [E.enc a, .lst (xs.map E.enc)] = some (.bl (!inB a xs)) := f_ninL E a xs h
theorem f_ninTB [DecidableEq α] (E : Enc α) (a : α) (xs : List α) (h : Nat.ble E.dp 58 = true) : fNotIn [E.enc a, .tup (xs.map E.enc)] = some (.bl (!inB a xs)) := f_ninT E a xs h
/-! x[::-1] -/
/-! rows cut at known places -/
/-! t + u, the kinds brought together -/
end
end Y


set_option Elab.async false
set_option linter.all false
set_option maxRecDepth 100000
/-! rows of several kinds, told apart by their lengths; calls on data of unknown kinds -/
namespace Y
open PySem PySem.Spec PyProof.Rows L2 Z
theorem eqvAll_len : ∀ {xs ys : List PyData}, PyData.eqvAll xs ys = true → xs.length = ys.length
  | [], [], _ => rfl
  | [], _ :: _, h => by simp [PyData.eqvAll] at h
  | _ :: _, [], h => by simp [PyData.eqvAll] at h
  | x :: xs, y :: ys, h => by
    simp only [PyData.eqvAll, Bool.and_eq_true] at h
    simp only [List.length_cons, eqvAll_len h.2]
theorem toPys_len : ∀ xs : List D, (toPys xs).length = xs.length
  | [] => rfl
  | x :: xs => by simp only [toPys, List.length_cons, toPys_len xs]
structure Alt (α : Type) where
  row : α → List D
  keys : List (Nat × Option Str)
  hkey : ∀ a, ∃ k ∈ keys, (row a).length = k.1 ∧ ∀ s, k.2 = some s → ∃ r, row a = .str s :: r
  eq : ∀ a b, PyData.eqvAll (toPys (row a)) (toPys (row b)) = true ↔ a = b
  imm : ∀ a, D.imms (row a) = true
  dp : Nat
  hdp : ∀ a, D.dps (row a) ≤ dp
/-- kinds of rows that no row has in common -/
def disK (k : Nat × Option Str) (ks : List (Nat × Option Str)) : Bool := ks.all fun k' => k.1 != k'.1 || (match k.2, k'.2 with
  | some a, some b => decide (a ≠ b)
  | _, _ => false)
theorem disK_no {k k' : Nat × Option Str} {ks : List (Nat × Option Str)} (h : disK k ks = true) (hk : k' ∈ ks) {xs ys : List D} (l1 : xs.length = k.1) (l2 : ys.length = k'.1) (t1 : ∀ s, k.2 = some s → ∃ r, xs = .str s :: r) (t2 : ∀ s, k'.2 = some s → ∃ r, ys = .str s :: r) (e : PyData.eqvAll (toPys xs) (toPys ys) = true) : False := by
  have h1 := List.all_eq_true.mp h k' hk
  rw [Bool.or_eq_true] at h1
  rcases h1 with h1 | h1
  · have := eqvAll_len e
    rw [toPys_len, toPys_len, l1, l2] at this
    rw [this] at h1; simp at h1
  · obtain ⟨n, o⟩ := k
    obtain ⟨n', o'⟩ := k'
    dsimp only at h1 t1 t2
    cases o with
    | none => simp at h1
    | some s => cases o' with
      | none => simp at h1
      | some t =>
        obtain ⟨r, rfl⟩ := t1 s rfl
        obtain ⟨r', rfl⟩ := t2 t rfl
        simp only [toPys, PyData.eqvAll, Bool.and_eq_true] at e
        have : s = t := (Es.eq s t).mp e.1
        simp [this] at h1
def R0 : Rw Unit where
  row _ := []
  len := 0
  hlen _ := rfl
  eq a b := by simp [toPys, PyData.eqvAll]
  imm _ := rfl
  nol _ _ := rfl
  dp := 0
  hdp _ := by simp [D.dps]
  al := true
  hal _ a b := by simp [toPys, PySem.W.alikeAll]
section
variable {α β : Type}
def A1 (F : Rw α) : Alt α where
  row := F.row
  keys := [(F.len, F.tag)]
  hkey a := ⟨_, List.mem_cons_self, F.hlen a, fun s h => F.htag s h a⟩
  eq := F.eq
  imm := F.imm
  dp := F.dp
  hdp := F.hdp
def Ac (F : Rw α) (G : Alt β) (h : disK (F.len, F.tag) G.keys = true) : Alt (α ⊕ β) where
  row := Sum.elim F.row G.row
  keys := (F.len, F.tag) :: G.keys
  hkey a := by
    cases a with
    | inl a => exact ⟨_, List.mem_cons_self, F.hlen a, fun s h => F.htag s h a⟩
    | inr b =>
      obtain ⟨k, hk, r⟩ := G.hkey b
      exact ⟨k, List.mem_cons_of_mem _ hk, r⟩
  eq a b := by
    cases a with
    | inl a => cases b with
      | inl b => simp only [Sum.elim_inl, Sum.inl.injEq]; exact F.eq a b
      | inr b =>
        simp only [Sum.elim_inl, Sum.elim_inr, reduceCtorEq, iff_false]
        intro e
        obtain ⟨k, hk, hl, ht⟩ := G.hkey b
        exact disK_no h hk (F.hlen a) hl (fun s h => F.htag s h a) ht e
    | inr a => cases b with
      | inl b =>
        simp only [Sum.elim_inl, Sum.elim_inr, reduceCtorEq, iff_false]
        intro e
        obtain ⟨k, hk, hl, ht⟩ := G.hkey a
        rw [PySem.W.eqvAll_comm] at e
        exact disK_no h hk (F.hlen b) hl (fun s h => F.htag s h b) ht e
      | inr b => simp only [Sum.elim_inr, Sum.inr.injEq]; exact G.eq a b
  imm a := by cases a with
    | inl a => exact F.imm a
    | inr a => exact G.imm a
  dp := max F.dp G.dp
  hdp a := by cases a with
    | inl a => have := F.hdp a; simp only [Sum.elim_inl]; omega
    | inr a => have := G.hdp a; simp only [Sum.elim_inr]; omega
def Ea (G : Alt α) : Enc α where
  enc a := .tup (G.row a)
  eq a b := by simp only [eqD, toPy, PyData.eqv]; exact G.eq a b
  imm a := G.imm a
  nol h := by cases h
  dp := G.dp + 1
  hdp a := by simp only [D.dp]; have := G.hdp a; omega
  nn := true
  hnn _ a h := by cases h
  al := false
  hal h := by cases h
  tk := false
  htk h := by cases h
  pl := false
  hpl h := by cases h
end
/-! lists of data of unknown kinds -/
section
variable {p p1 p2 : Bool} {A A1 A2 : List Sl} {mr : DE → Option (List R × DE)} {rs : List R} {ds : List D}
end
end Y
namespace Y
open PySem PySem.Spec PyProof.Rows L2 Z
section
variable {α : Type}
/-- all there -/
def unO : List (Option α) → Option (List α)
  | [] => some []
  | some x :: xs => match unO xs with
    | some ys => some (x :: ys)
    | none => none
  | none :: _ => none
theorem unO_map {E : Enc α} {h : E.nn = true} : ∀ {xs : List (Option α)} {ys : List α}, unO xs = some ys → xs.map (Eo E h).enc = ys.map E.enc
  | [], ys, e => by cases (Option.some.inj e); rfl
  | some x :: xs, ys, e => by
    simp only [unO] at e
    split at e
    · rename_i zs hz
      cases (Option.some.inj e)
      simp only [List.map_cons, unO_map hz]; rfl
    · cases e
  | none :: _, _, e => by cases e
end
end Y
namespace Y
open PySem PySem.Spec PyProof.Rows L2 Z
end Y
namespace Y
open PySem PySem.Spec PyProof.Rows L2 Z
end Y


set_option Elab.async false
set_option linter.all false
set_option maxRecDepth 100000
/-! sorted by a lambda's keys, typed -/
namespace Y
open PySem PySem.Spec PyProof.Rows L2 Z
variable {α β γ : Type}
theorem keysP_map {f : PyData → Option PyData} {g : α → D} {k : α → PyData} : ∀ {xs : List α}, (∀ x ∈ xs, f (toPy (g x)) = some (k x)) → keysP f (xs.map g) = some (xs.map k)
  | [], _ => rfl
  | x :: xs, h => by simp only [List.map_cons, keysP, h x List.mem_cons_self, keysP_map fun y hy => h y (List.mem_cons_of_mem _ hy)]
theorem er_tupP {F : Rw α} {h : (F.len != 0) = true} (c : α) : isTupP (toPy ((Er F h).enc c)) = true := by
  have hl := F.hlen c
  have e : (Er F h).enc c = .tup (F.row c) := rfl
  rw [e]
  cases hr : F.row c with
  | nil => rw [hr] at hl; simp at hl; rw [← hl] at h; simp at h
  | cons x r => simp [toPy, toPys, isTupP]
def okL (xs : List α) : Bool := decide (xs.length ≤ 1000000)
theorem kl_T (F : Enc α) (xs : List α) (h : okL xs = true) : (((some (toPy ((Et F).enc xs))).bind lenP).bind fun a => (some (toPy ((Et F).enc xs))).bind fun b => some (.tuple [a, b])) = some (toPy ((Er (Rc Ei (R1 (Et F))) rfl).enc ((xs.length : Int), xs))) := by
  have h := of_decide_eq_true h
  have h2 : xs.length ≤ sizeLine := by rw [sizeLine_eq]; omega
  have e : (Et F).enc xs = .tup (xs.map F.enc) := rfl
  simp only [e, toPy, Option.bind_some, lenP]
  rw [if_pos (by simpa [toPys_map] using h2)]
  simp [toPys_map, Er, Rc, R1, Ei, toPy, e]
section
variable {p : Bool} {A A1 : List Sl} {bd : Bnd} {mt : DenT} {me : Den} {ms : DenS} {gs : List (Nat × D)}
end
section
variable {p1 p2 p3 : Bool} {A A1 A2 : List Sl} {mr : DE → Option (List R × DE)}
/-- the slots written out -/
theorem k_eqA {τ : Type} {A A' : List Sl} {m : Blk} {n : Option τ} {S : τ → Out → Prop} (e : A = A') (h : RB A' m n S) : RB A m n S := e ▸ h
/-! min, max of a generator that hands out ints -/
/-! sorted(range(n), key=lambda w: ns[w]) -/
end
section
variable {p p1 p2 : Bool} {A A1 A2 : List Sl} {m mr1 : Den} {r : R} {mr : DE → Option (List R × DE)}
end
end Y


set_option Elab.async false
set_option linter.all false
set_option maxRecDepth 100000
/-! generator expressions with two clauses, typed -/
namespace Y
open PySem PySem.Spec PyProof.Rows L2 Z
section
variable {p : Bool} {α β γ : Type} {A A1 : List Sl} {me : Den} {mt mt1 : DenT} {ms ms1 : DenS} {bd bd1 : Bnd} {gs : List (Nat × D)}
section
variable {vs vb vs1 vb1 : List Nat} {ex : α → D} {ex1 : γ → D} {g : β → D} {t : α → Option Bool} {s : α → Option (List γ)} {t1 : α → γ → Option Bool} {e : α → γ → Option β} {B : α → List Sl} {gs1 : α → List γ → List (Nat × D)} {B1 : α → γ → List Sl} {stop : D → Bool}
end
section
variable {vs vb vs1 vb1 : List Nat} {ex : α → D} {ex1 : γ → D} {t : α → Option Bool} {s : α → Option (List γ)} {t1 e : α → γ → Option Bool} {B : α → List Sl} {gs1 : α → List γ → List (Nat × D)} {B1 : α → γ → List Sl}
end
end
end Y


set_option Elab.async false
set_option linter.all false
set_option maxRecDepth 100000
/-! dicts, typed -/
namespace Y
open PySem PySem.Spec PyProof.Rows L2 Z
section
variable {α β τ : Type}
/-- a dict as a datum -/
def Dx (E : Enc α) (F : Enc β) (d : List (α × β)) : D := .dic (d.map fun p => E.enc p.1) (d.map fun p => F.enc p.2)
def dGet [DecidableEq α] : List (α × β) → α → Option β
  | [], _ => none
  | p :: r, k => if p.1 = k then some p.2 else dGet r k
def dHas [DecidableEq α] (d : List (α × β)) (k : α) : Bool := d.any fun p => decide (p.1 = k)
def dPut [DecidableEq α] (d : List (α × β)) (k : α) (v : β) : List (α × β) := if dHas d k = true then d.map (fun p => if p.1 = k then (p.1, v) else p) else d ++ [(k, v)]
def dPutO [DecidableEq α] (d : List (α × β)) (k : α) (v : β) : Option (List (α × β)) := if d.length < 1000000 then some (dPut d k v) else none
/-- all values of the kind can be keys of one dict -/
structure FamE (E : Enc α) : Prop where
  fam : ∀ xs : List α, famOk (xs.map E.enc) = true
theorem famT (E : Enc α) [ClE E] [TpE E] (hd : Nat.ble E.dp 8 = true) : FamE E := ⟨fun xs => by
  simp only [famOk, Bool.or_eq_true, List.all_eq_true]
  refine .inl fun x hx => ?_
  obtain ⟨a, _, rfl⟩ := List.mem_map.mp hx
  have h1 := E.hdp a
  have h2 := Nat.le_of_ble_eq_true hd
  simp only [keyT, TpE.tp, cl_nol _ (ClE.cl a) (E.imm a), ClE.cl, Bool.true_and, decide_eq_true_eq]
  omega⟩
theorem enc_eq (E : Enc α) {a b : α} : E.enc a = E.enc b ↔ a = b := ⟨fun h => (E.eq a b).mp (by rw [h]; exact (E.eq b b).mpr rfl), fun h => by rw [h]⟩
variable {E : Enc α} {F : Enc β}
theorem keys_enc (E : Enc α) (d : List (α × β)) : (d.map fun p => E.enc p.1) = (d.map (·.1)).map E.enc := by rw [List.map_map]; rfl
theorem fam_keys {E : Enc α} (fe : FamE E) (d : List (α × β)) (k : α) : famOk (E.enc k :: d.map fun p => E.enc p.1) = true := by
  rw [keys_enc]; exact fe.fam (k :: d.map (·.1))
theorem has_enc (E : Enc α) [DecidableEq α] (d : List (α × β)) (k : α) : decide (E.enc k ∈ d.map fun p => E.enc p.1) = dHas d k := by
  unfold dHas
  rw [Bool.eq_iff_iff]
  simp only [decide_eq_true_eq, List.mem_map, List.any_eq_true]
  exact ⟨fun ⟨p, h1, h2⟩ => ⟨p, h1, (enc_eq E).mp h2⟩, fun ⟨p, h1, h2⟩ => ⟨p, h1, (enc_eq E).mpr h2⟩⟩
theorem look_enc [DecidableEq α] : ∀ (d : List (α × β)) (k : α), lookD (d.map fun p => E.enc p.1) (d.map fun p => F.enc p.2) (E.enc k) = (dGet d k).map F.enc
  | [], _ => rfl
  | p :: d, k => by
    simp only [List.map_cons, lookD, dGet]
    by_cases h : p.1 = k
    · rw [if_pos (by rw [h]), if_pos h]; rfl
    · rw [if_neg (fun z => h ((enc_eq E).mp z)), if_neg h, look_enc d k]
theorem f_dget [DecidableEq α] (fe : FamE E) {d : List (α × β)} {k : α} {v : β} (h : dGet d k = some v) : fDGet [Dx E F d, E.enc k] = some (F.enc v) := by
  simp only [fDGet, Dx, fam_keys fe, if_true, look_enc, h, Option.map_some]
theorem f_dnin {E : Enc α} (F : Enc β) [DecidableEq α] (fe : FamE E) (d : List (α × β)) (k : α) : fDNotIn [E.enc k, Dx E F d] = some (.bl (!dHas d k)) := by
  simp only [fDNotIn, Dx, fam_keys fe, if_true, has_enc]
theorem f_dlen {E : Enc α} (F : Enc β) (fe : FamE E) (d : List (α × β)) : fDLen [Dx E F d] = some (.int d.length) := by
  have : famOk (d.map fun p => E.enc p.1) = true := by rw [keys_enc]; exact fe.fam _
  simp only [fDLen, Dx, this, if_true, List.length_map]
theorem set_enc [DecidableEq α] (k : α) (v : β) : ∀ d : List (α × β), setD (d.map fun p => E.enc p.1) (d.map fun p => F.enc p.2) (E.enc k) (F.enc v) = (d.map (fun p => if p.1 = k then (p.1, v) else p)).map fun p => F.enc p.2
  | [] => rfl
  | p :: d => by
    simp only [List.map_cons, setD, set_enc k v d]
    by_cases h : p.1 = k
    · rw [if_pos (by rw [h]), if_pos h]
    · rw [if_neg (fun z => h ((enc_eq E).mp z)), if_neg h]
theorem put_enc [DecidableEq α] (d : List (α × β)) (k : α) (v : β) : (D.dic (putD (d.map fun p => E.enc p.1) (d.map fun p => F.enc p.2) (E.enc k) (F.enc v)).1 (putD (d.map fun p => E.enc p.1) (d.map fun p => F.enc p.2) (E.enc k) (F.enc v)).2) = Dx E F (dPut d k v) := by
  have hm := has_enc E d k
  unfold putD dPut Dx
  by_cases h : dHas d k = true
  · rw [if_pos (by rw [h] at hm; exact of_decide_eq_true hm), if_pos h, set_enc]
    have e : (d.map (fun p => if p.1 = k then (p.1, v) else p)).map (fun p => E.enc p.1) = d.map fun p => E.enc p.1 := by
      rw [List.map_map]
      apply List.map_congr_left
      intro p _
      simp only [Function.comp]
      split <;> rfl
    rw [e]
  · have h2 : dHas d k = false := by cases hh : dHas d k <;> simp_all
    rw [if_neg (by rw [h2] at hm; exact of_decide_eq_false hm), if_neg h]
    simp only [List.map_append, List.map_cons, List.map_nil]
section
variable {A A1 A2 A3 : List Sl} {rest : Blk} {S : τ → Out → Prop} {p1 p2 p3 : Bool} {me mo mi mk mv : Den}
theorem r_disp1 (fe : FamE E) {k : α} {v : β} (hk : RV p1 A mk (.own (E.enc k)) A1) (hv : RV p2 A1 mv (.own (F.enc v)) A2) : RV (p1 && p2) A (dDisp1 mk mv) (.own (Dx E F [(k, v)])) A2 := fun δ a => by
  obtain ⟨δ1, e1, a1, u1⟩ := hk δ a
  obtain ⟨δ2, e2, a2, u2⟩ := hv δ1 a1
  have hf : famOk [E.enc k] = true := fe.fam [k]
  exact ⟨δ2, by simp only [dDisp1, e1, e2, hf, E.imm, F.imm, Bool.and_self, if_true]; rfl, a2, pp u1 u2⟩
theorem k_dset {i : Nat} [DecidableEq α] (fe : FamE E) {d : List (α × β)} {k : α} {v : β} {f : List (α × β) → Option τ} (h : RV p1 A me (.own (F.enc v)) A1) (ho : RV p2 A1 mo (.at i []) A2) (hi : RV p3 A2 mi (.own (E.enc k)) A3) (g : A3[i]? = some (.is (Dx E F d)))
    (c : ∀ zs, dPutO d k v = some zs → RB (A3.set i (.is (Dx E F zs))) rest (f zs) S) : RB A (dSeq (dDSet mo mi me) rest) (bnd (dPutO d k v) f) S := fun t e δ a => by
  obtain ⟨zs, h1, h2⟩ := bnd_eq e
  obtain ⟨δ1, e1, a1, _⟩ := h δ a
  obtain ⟨δ2, e2, a2, _⟩ := ho δ1 a1
  obtain ⟨δ3, e3, a3, _⟩ := hi δ2 a2
  have hd : δ3[i]? = some (some (.dic (d.map fun p => E.enc p.1) (d.map fun p => F.enc p.2))) := a3.get i _ g
  have hz := h1
  unfold dPutO at hz
  split at hz
  · rename_i hl
    cases (Option.some.inj hz)
    have := c _ h1 t h2 _ (a3.set i (Dx E F (dPut d k v)))
    simp only [dSeq, dDSet, e1, e2, e3, hd, fam_keys fe, E.imm, F.imm, List.length_map, hl, decide_true, Bool.and_self, if_true, put_enc]
    exact this
  · cases hz
end
end
end Y


set_option Elab.async false
set_option linter.all false
set_option maxRecDepth 100000
/-! row * number, list.count: typed -/
namespace Y
open PySem PySem.Spec PyProof.Rows L2 Z
section
variable {α : Type} {p1 p2 : Bool} {A A1 A2 : List Sl} {mr : DE → Option (List R × DE)}
def repTO (xs : List α) (n : Int) : Option (List α) := if -1000000 ≤ n ∧ n ≤ 1000 ∧ xs.length ≤ 1000 then some (List.replicate n.toNat xs).flatten else none
end
/-! tests of which the later part draws -/
section
variable {p p1 p2 : Bool} {A : List Sl} {ta tb : DenT} {i : Nat} {b : Box}
def andE (x : Bool) (n : Option (Bool × Box)) (b : Box) : Option (Bool × Box) := if x = true then n else some (false, b)
def RTOE (p : Bool) (A : List Sl) (i : Nat) (m : DenT) (n : Option (Bool × Box)) : Prop := ∀ s, n = some s → RT p A m s.1 (A.set i (.is (boxE s.2)))
theorem toE_bnd {β : Type} {mt : DenT} {x : Option β} {f : β → Option (Bool × Box)} (h : ∀ a, x = some a → RTOE p A i mt (f a)) : RTOE p A i mt (bnd x f) := fun v e => by
  obtain ⟨a, h1, h2⟩ := bnd_eq e
  exact h a h1 v h2
theorem toE_some {mt : DenT} {v : Bool} (h : RT p A mt v (A.set i (.is (boxE b)))) : RTOE p A i mt (some (v, b)) := fun _ e => by cases e; exact h
theorem set_self_sl {A : List Sl} {i : Nat} {x : Sl} (g : A[i]? = some x) : A.set i x = A := by
  obtain ⟨hl, hv⟩ := List.getElem?_eq_some_iff.mp g
  have := List.set_getElem_self (as := A) hl
  rw [hv] at this; exact this
theorem o_andE {x : Bool} {n : Option (Bool × Box)} {s : Bool × Box} (g : A[i]? = some (.is (boxE b))) (h : RT p1 A ta x A) (h1 : x = true → RTOE p2 A i tb n) (e : andE x n b = some s) : RT false A (dAnd ta tb) s.1 (A.set i (.is (boxE s.2))) := fun δ a => by
  obtain ⟨δ1, e1, a1, u1⟩ := h δ a
  cases x with
  | true =>
    obtain ⟨δ2, e2, a2, u2⟩ := h1 rfl s e δ1 a1
    exact ⟨δ2, by simp only [dAnd, e1, e2], a2, fun h => by cases h⟩
  | false =>
    cases e
    exact ⟨δ1, by simp only [dAnd, e1], by rw [set_self_sl g]; exact a1, fun h => by cases h⟩
end
end Y


set_option Elab.async false
set_option linter.all false
set_option maxRecDepth 100000
/-! lists that nobody changes: values like others -/
namespace Y
open PySem PySem.Spec PyProof.Rows L2 Z
section
variable {α : Type} (E : Enc α)
def Ef : Enc (List α) where
  enc xs := .frz (xs.map E.enc)
  eq a b := by simp only [eqD, toPy, PyData.eqv]; exact map_eqv E a b
  imm a := rfl
  dp := E.dp + 1
  hdp a := by simp only [D.dp]; have := map_dps E a; omega
  nn := true
  hnn _ a h := by cases h
  al := false
  hal h := by cases h
  nol h := by cases h
  tk := false
  htk h := by cases h
  pl := false
  hpl h := by cases h
variable {p : Bool} {A A1 : List Sl} {m : Den}
end
end Y


set_option Elab.async false
set_option linter.all false
set_option maxRecDepth 100000
/-! lists one behind the other, not of any value, kinds that are told apart: typed -/
namespace Y
open PySem PySem.Spec PyProof.Rows L2 Z
section
variable {α β : Type} {p : Bool} {A A1 : List Sl} {m : Den} {r : R} {d : D} {b : Bool}
/-! one of two kinds that are never alike -/
end
end Y


set_option Elab.async false
set_option linter.all false
set_option maxRecDepth 100000
/-! list(range(n)): typed -/
namespace Y
open PySem PySem.Spec PyProof.Rows L2 Z
section
variable {p : Bool} {A A1 : List Sl} {m : Den}
def lrgO (n : Int) : Option (List Int) := if -1000000 ≤ n ∧ n ≤ 1000000 then some (rngN 0 n.toNat) else none
theorem r_listRg {n : Int} {xs : List Int} (h : RV p A m (.own (.int n)) A1) (e : lrgO n = some xs) : RV p A (dListRg m) (.own (.lst (xs.map Ei.enc))) A1 := fun δ a => by
  obtain ⟨δ1, e1, a1, u⟩ := h δ a
  unfold lrgO at e
  split at e
  · rename_i hc
    cases e
    exact ⟨δ1, by simp only [dListRg, e1, hc, and_self, if_true, rng_map], a1, u⟩
  · cases e
end
end Y


set_option Elab.async false
set_option linter.all false
set_option maxRecDepth 100000
/-! what is not reached; and, or by truth -/
namespace Y
open PySem PySem.Spec PyProof.Rows L2 Z
section
variable {A : List Sl} {p1 p2 : Bool} {ma mb : Den} {α : Type} {E : Enc α} {x y : α} {t : Bool}
end
end Y


set_option Elab.async false
set_option linter.all false
set_option maxRecDepth 100000
/-! what kind a part of a row of several kinds is -/
namespace Y
open PySem PySem.Spec PyProof.Rows L2 Z
section
variable {p1 p2 q : Bool} {A A1 A2 : List Sl} {ma mb : Den} {ra rb : R} {α : Type} {G : Alt α} {g : PyData → Bool} {i : Int} {a : α} {b : Bool} {sel : α → Option Bool}
end
end Y


set_option Elab.async false
set_option linter.all false
set_option maxRecDepth 100000
/-! min, max of what a generator hands out: rows -/
namespace Y
open PySem PySem.Spec PyProof.Rows L2 Z
variable {α : Type}
end Y


set_option Elab.async false
set_option linter.all false
set_option maxRecDepth 100000
/-! list.remove of rows -/
namespace Y
open PySem PySem.Spec PyProof.Rows L2 Z
section
variable {α : Type} {A A1 A2 : List Sl} {p1 p2 : Bool} {mr : DE → Option (List R × DE)}
end
end Y




set_option Elab.async false
set_option linter.all false
set_option maxRecDepth 100000
/-! ranges that go down, typed -/
namespace Y
open PySem PySem.Spec PyProof.Rows L2 Z
end Y


set_option Elab.async false
set_option linter.all false
set_option maxRecDepth 100000
/-! two rows, one behind the other -/
namespace Y
open PySem PySem.Spec PyProof.Rows L2 Z
end Y


set_option Elab.async false
set_option linter.all false
set_option maxRecDepth 100000
/-! texts, typed: join, index, count, enumerate -/
namespace Y
open PySem PySem.Spec PyProof.Rows L2 Z
section
variable {p : Bool} {A A1 A2 : List Sl} {m m2 : Den}
end
end Y


set_option Elab.async false
set_option linter.all false
set_option maxRecDepth 100000
/-! x += a text, typed -/
namespace Y
open PySem PySem.Spec PyProof.Rows L2 Z
section
variable {p : Bool} {A A1 : List Sl} {rest : Blk} {τ : Type} {S : τ → Out → Prop}
end
end Y


set_option Elab.async false
set_option linter.all false
set_option maxRecDepth 100000
/-! sorted(set(a text)), typed -/
namespace Y
open PySem PySem.Spec PyProof.Rows L2 Z
end Y


set_option Elab.async false
set_option linter.all false
set_option maxRecDepth 100000
/-! a list that is locked: nothing else changes -/
namespace Y
open PySem PySem.Spec PyProof.Rows L2 Z
end Y


set_option Elab.async false
set_option linter.all false
set_option maxRecDepth 100000
/-! dicts, typed: d.get(k), list(d) -/
namespace Y
open PySem PySem.Spec PyProof.Rows L2 Z
section
variable {α β : Type} {E : Enc α} {F : Enc β}
end
end Y


set_option Elab.async false
set_option linter.all false
set_option maxRecDepth 100000
/-! list of a text, typed -/
namespace Y
open PySem PySem.Spec PyProof.Rows L2 Z
end Y


set_option Elab.async false
set_option linter.all false
set_option maxRecDepth 100000
/-! a text, so many times, typed -/
namespace Y
open PySem PySem.Spec PyProof.Rows L2 Z
end Y


set_option Elab.async false
set_option linter.all false
set_option maxRecDepth 100000
/-! objects of classes, typed -/
namespace Y
open PySem PySem.Spec PyProof.Rows L2 Z
section
variable {α β τ : Type} {p p0 p1 p2 p3 : Bool} {A A0 A1 A2 A3 : List Sl} {m mo mi me : Den} {mr : DE → Option (List R × DE)} {r r' ra : R} {rs : List R} {c cn f mn : Str} {ns ns' : List Str} {xs xs' : List D} {d e : D} {ds : List D} {j : Nat} {rest : Blk} {S : τ → Out → Prop} {n : Option τ}
end
end Y


set_option Elab.async false
set_option linter.all false
set_option maxRecDepth 100000
/-! a field set, with a name for the value -/
namespace Y
open PySem PySem.Spec PyProof.Rows L2 Z
section
variable {α τ : Type} {p1 p2 : Bool} {A A1 A2 : List Sl} {mo me : Den} {cn f : Str} {ns : List Str} {xs : List D} {rest : Blk} {S : τ → Out → Prop}
end
end Y


set_option Elab.async false
set_option linter.all false
set_option maxRecDepth 100000
/-! min by a key, typed -/
namespace Y
open PySem PySem.Spec PyProof.Rows L2 Z
section
variable {α γ : Type}
def minKO (G : Enc γ) (ok : α → Bool) (kf : α → γ) (xs : List α) : Option α := if xs.all ok = true then match xs with
    | [] => none
    | x :: r => some (r.foldl (fun a y => if G.lt (kf y) (kf a) then y else a) x)
  else none
theorem minK_fold (E : Enc α) (G : Enc γ) {kf : α → γ} {f : PyData → Option PyData} : ∀ (r : List α) (x : α), f (toPy (E.enc x)) = some (toPy (G.enc (kf x))) → (∀ y ∈ r, f (toPy (E.enc y)) = some (toPy (G.enc (kf y)))) →
    (r.map E.enc).foldl (fun a y => if ltK f y a then y else a) (E.enc x) = E.enc (r.foldl (fun a y => if G.lt (kf y) (kf a) then y else a) x)
  | [], x, _, _ => rfl
  | y :: r, x, hx, h => by
    have hy := h y List.mem_cons_self
    have e1 : keyP f (E.enc x) = toPy (G.enc (kf x)) := by simp [keyP, hx]
    have e2 : keyP f (E.enc y) = toPy (G.enc (kf y)) := by simp [keyP, hy]
    have e : ltK f (E.enc y) (E.enc x) = G.lt (kf y) (kf x) := by unfold ltK; rw [e1, e2]; rfl
    rw [List.map_cons, List.foldl_cons, List.foldl_cons, e]
    cases hb : G.lt (kf y) (kf x) with
    | true => exact minK_fold E G r y hy fun z hz => h z (List.mem_cons_of_mem _ hz)
    | false => exact minK_fold E G r x hx fun z hz => h z (List.mem_cons_of_mem _ hz)
theorem f_minK (E : Enc α) (G : Enc γ) {ok : α → Bool} {kf : α → γ} {f : PyData → Option PyData} {xs : List α} {y : α} (hf : ∀ x, ok x = true → f (toPy (E.enc x)) = some (toPy (G.enc (kf x)))) (e : minKO G ok kf xs = some y)
    (h : Nat.ble G.dp 59 = true) (ha : G.al = true) (hk : ∀ c, isTupP (toPy (G.enc c)) = true) (hE : E.al = true := by rfl) : minKD f (xs.map E.enc) = some (E.enc y) := by
  unfold minKO at e
  split at e
  case isFalse => cases e
  rename_i hok
  cases xs with
  | nil => cases e
  | cons x r =>
  cases e
  have hx : ∀ z ∈ x :: r, f (toPy (E.enc z)) = some (toPy (G.enc (kf z))) := fun z hz => hf z (List.all_eq_true.mp hok z hz)
  have kk := keysP_map (f := f) (g := E.enc) (k := fun z => toPy (G.enc (kf z))) hx
  have ho : sortPOk ((x :: r).map fun z => toPy (G.enc (kf z))) = true := by
    unfold sortPOk
    simp only [Bool.and_eq_true, List.all_eq_true, List.mem_map, forall_exists_index, and_imp, forall_apply_eq_imp_iff₂, Bool.or_eq_true, decide_eq_true_eq]
    refine ⟨fun z _ => ?_, fun z _ y _ => G.hal ha _ _, ?_⟩
    · have := enc_dep G (kf z) h
      exact dep_le this
    · exact .inl fun z _ => hk _
  have hnol : D.nols ((x :: r).map E.enc) = true := by rw [map_nols E hE]
  rw [List.map_cons] at kk hnol
  simp only [List.map_cons, minKD, kk]
  rw [List.map_cons] at ho
  rw [if_pos (by rw [hnol]; simpa using ho), minK_fold E G r x (hx x List.mem_cons_self) fun z hz => hx z (List.mem_cons_of_mem _ hz)]
theorem drf_un {A : List Sl} {r : R} {E : Enc α} {h : E.nn = true} {xs : List (Option α)} {ys : List α} (e : unO xs = some ys) (g : Drf A r (.lst (xs.map (Eo E h).enc))) : Drf A r (.lst (ys.map E.enc)) := by rw [← unO_map e]; exact g
theorem r_minK {p : Bool} {A A1 : List Sl} {m : Den} {r : R} {E : Enc α} {G : Enc γ} {ok : α → Bool} {kf : α → γ} {fk : DE → PyData → Option PyData} {xs : List α} {y : α} (h : RV p A m r A1) (g : Drf A1 r (.lst (xs.map E.enc)))
    (hf : ∀ δ, Agr A1 δ → ∀ x, ok x = true → fk δ (toPy (E.enc x)) = some (toPy (G.enc (kf x)))) (e : minKO G ok kf xs = some y) (hd : Nat.ble G.dp 59 = true) (ha : G.al = true) (hk : ∀ c, isTupP (toPy (G.enc c)) = true) (hE : E.al = true := by rfl) : RV p A (dMinK fk m) (.own (E.enc y)) A1 := fun δ a => by
  obtain ⟨δ1, e1, a1, u⟩ := h δ a
  exact ⟨δ1, by simp only [dMinK, e1, g δ1 a1, f_minK E G (hf δ1 a1) e hd ha hk hE], a1, u⟩
end
end Y


set_option Elab.async false
set_option linter.all false
set_option maxRecDepth 100000
set_option maxHeartbeats 20000000
set_option synthInstance.maxHeartbeats 400000
set_option synthInstance.maxSize 4000
namespace P07
open PySem PySem.Spec PyProof.Rows L2 Z Y
def top (i : Nat) : Stmt := PySem.Challenge.pw_tracehouse_k07_ends_and_life_of_nets.main.body.getD i (.Pass ⟨0, 0, 0, 0⟩)
structure Ctx (K : PySem.W.Frag) (mg : Str → Option Value) (base : Heap) where
  f_can : Addr
  g_can : FuncData
  d_can : Def K mg "can" (top 1) ["net", "marks", "step"] f_can g_can
  f_done : Addr
  g_done : FuncData
  d_done : Def K mg "done" (top 2) ["net", "marks", "step"] f_done g_done
  f_possible : Addr
  g_possible : FuncData
  d_possible : Def K mg "possible" (top 3) ["net", "marks"] f_possible g_possible
  f_reached : Addr
  g_reached : FuncData
  d_reached : Def K mg "reached" (top 5) ["net", "marks", "most"] f_reached g_reached
  f_shortest_to : Addr
  g_shortest_to : FuncData
  d_shortest_to : Def K mg "shortest_to" (top 6) ["net", "marks", "goal", "most"] f_shortest_to g_shortest_to
  f_decide_end : Addr
  g_decide_end : FuncData
  d_decide_end : Def K mg "decide_end" (top 7) ["net", "marks", "most"] f_decide_end g_decide_end
  f_live_steps : Addr
  g_live_steps : FuncData
  d_live_steps : Def K mg "live_steps" (top 8) ["net", "marks", "most"] f_live_steps g_live_steps
  f_comes_home : Addr
  g_comes_home : FuncData
  d_comes_home : Def K mg "comes_home" (top 9) ["net", "marks", "most"] f_comes_home g_comes_home
  f_law_box : Addr
  g_law_box : FuncData
  d_law_box : Def K mg "_law_box" (top 11) ["script", "first", "last"] f_law_box g_law_box
  f_law_digits : Addr
  g_law_digits : FuncData
  d_law_digits : Def K mg "_law_digits" (top 12) ["script", "first", "last"] f_law_digits g_law_digits
  f_law_cell : Addr
  g_law_cell : FuncData
  d_law_cell : Def K mg "_law_cell" (top 13) ["script", "k"] f_law_cell g_law_cell
  f_law_safe_net : Addr
  g_law_safe_net : FuncData
  d_law_safe_net : Def K mg "_law_safe_net" (top 14) ["box", "most", "wide"] f_law_safe_net g_law_safe_net
  f_law_draw : Addr
  g_law_draw : FuncData
  d_law_draw : Def K mg "_law_draw" (top 15) ["box", "many"] f_law_draw g_law_draw
  f_law_marks : Addr
  g_law_marks : FuncData
  d_law_marks : Def K mg "_law_marks" (top 16) ["box", "net", "most"] f_law_marks g_law_marks
  f_law_net_reach : Addr
  g_law_net_reach : FuncData
  d_law_net_reach : Def K mg "_law_net_reach" (top 17) ["net", "marks", "most"] f_law_net_reach g_law_net_reach
  f_law_can : Addr
  g_law_can : FuncData
  d_law_can : Def K mg "_law_can" (top 18) ["net", "marks", "step"] f_law_can g_law_can
  f_law_fired : Addr
  g_law_fired : FuncData
  d_law_fired : Def K mg "_law_fired" (top 19) ["net", "marks", "step"] f_law_fired g_law_fired
  f_law_same : Addr
  g_law_same : FuncData
  d_law_same : Def K mg "_law_same" (top 20) ["actual", "expected"] f_law_same g_law_same
  f_law : Addr
  g_law : FuncData
  d_law : Def K mg "law" (top 21) ["script"] f_law g_law
  n_range : mg "range" = none
  n_len : mg "len" = none
  n_int : mg "int" = none
  n_tuple : mg "tuple" = none
  n_all : mg "all" = none
  n_zip : mg "zip" = none
  n_any : mg "any" = none
  n_isinstance : mg "isinstance" = none
  n_bool : mg "bool" = none
  n_str : mg "str" = none
  n_min : mg "min" = none
  n_list : mg "list" = none
  bm : BMod base mg
section
variable {P : Program} {w : World} {K : PySem.W.Frag} {mg : Str → Option Value} {base : Heap}
def N_law_cell : List Str := ["script", "k"]
theorem S_law_cell : FnScope N_law_cell ["script", "k"] (defScope (top 13)) := ⟨rfl, rfl, rfl, by decide +kernel, rfl, by decide +kernel, by decide +kernel⟩
theorem ok_law_cell (C : Ctx K mg base) : FnOk P w K mg base CX0 1 C.f_law_cell C.g_law_cell ["script", "k"] (spD ⟨K, w⟩ d_law_cell) :=
  z_defF (N := N_law_cell) (ps := ["script", "k"]) (kp := (kpL [0, 1])) (m := m_law_cell) C.d_law_cell.fz S_law_cell fun cc A outer s H E hr =>
    (z_cons (z_if (z_tcmp (o_lt (h64 hr)) (z_var 1) (z_callB c_len (by rfl) C.n_len bb_len (z_acons (z_var 0) z_anil)))
    (z_sone (z_ret (z_sub (z_var 0) (z_var 1))))
    z_nil)
    (z_sone (z_ret z_int)))
def N_law_digits : List Str := ["script", "first", "last", "digits", "k", "cell", "turn", "seed"]
theorem S_law_digits : FnScope N_law_digits ["script", "first", "last"] (defScope (top 12)) := ⟨rfl, rfl, rfl, by decide +kernel, rfl, by decide +kernel, by decide +kernel⟩
theorem ok_law_digits (C : Ctx K mg base) : FnOk P w K mg base CX0 2 C.f_law_digits C.g_law_digits ["script", "first", "last"] (spD ⟨K, w⟩ d_law_digits) :=
  z_defF (N := N_law_digits) (ps := ["script", "first", "last"]) (kp := (kpL [0, 1, 2])) (m := m_law_digits) C.d_law_digits.fz S_law_digits fun cc A outer s H E hr =>
    (z_cons (z_set (i := 3) S_law_digits.nd (by rfl) (by first | exact .inl rfl | exact .inr rfl) (by rfl) (z_lst z_anil))
    (z_cons (z_for (kp' := (kpL [0, 1, 2, 3])) .never (by rfl) (z_range2 (by rfl) C.n_range (z_acons (z_var 1) (z_acons (z_var 2) z_anil)) (h2 := fun _ _ _ h => acons_len2 h)) (z_gname S_law_digits.nd (by rfl) (by first | exact .inl rfl | exact .inr rfl) (by rfl))
    (z_cons (z_set (i := 5) S_law_digits.nd (by rfl) (by first | exact .inl rfl | exact .inr rfl) (by rfl) (z_call (ok_law_cell C) (hr.mono (by decide)) (by rfl) C.d_law_cell.g C.d_law_cell.kp C.d_law_cell.b (z_acons (z_var 0) (z_acons (z_var 4) z_anil))))
    (z_cons (z_if (z_tcmp (o_lt (h64 hr)) (z_var 5) z_int)
    (z_sone (z_set (i := 5) S_law_digits.nd (by rfl) (by first | exact .inl rfl | exact .inr rfl) (by rfl) (z_bin o_sub z_int (z_bin o_mul z_int (z_var 5)))))
    z_nil)
    (z_sone (z_if (z_tcmp (o_ge (h64 hr)) (z_var 5) (z_bin o_pow z_int z_int))
    (z_sone (z_for (kp' := (kpL [0, 1, 2, 3, 4, 7])) .never (by rfl) (z_range1 (by rfl) C.n_range (z_acons z_int z_anil) (h1 := fun _ _ _ h => acons_len1 h)) (z_gname S_law_digits.nd (by rfl) (by first | exact .inl rfl | exact .inr rfl) (by rfl))
    (z_sone (z_if (z_tcmp (o_gt (h64 hr)) (z_var 5) z_int)
    (z_cons (z_expr (z_append (z_var 3) (z_bin o_mod (z_callTy c_int (by rfl) C.n_int bb_int (z_acons (z_var 5) z_anil)) z_int)))
    (z_sone (z_set (i := 5) S_law_digits.nd (by rfl) (by first | exact .inl rfl | exact .inr rfl) (by rfl) (z_bin o_fdiv (z_var 5) z_int))))
    z_nil)) (kpL_sub (by decide))))
    (z_cons (z_set (i := 7) S_law_digits.nd (by rfl) (by first | exact .inl rfl | exact .inr rfl) (by rfl) (z_bin o_mod (z_callTy c_int (by rfl) C.n_int bb_int (z_acons (z_bin o_add (z_bin o_add (z_bin o_mul (z_var 5) z_int) (z_bin o_mul (z_var 4) z_int)) z_int) z_anil)) z_int))
    (z_sone (z_for (kp' := (kpL [0, 1, 2, 3, 4, 5])) .never (by rfl) (z_range1 (by rfl) C.n_range (z_acons z_int z_anil) (h1 := fun _ _ _ h => acons_len1 h)) (z_gname S_law_digits.nd (by rfl) (by first | exact .inl rfl | exact .inr rfl) (by rfl))
    (z_cons (z_set (i := 7) S_law_digits.nd (by rfl) (by first | exact .inl rfl | exact .inr rfl) (by rfl) (z_bin o_mod (z_callTy c_int (by rfl) C.n_int bb_int (z_acons (z_bin o_add (z_bin o_add (z_bin o_mul (z_var 7) z_int) (z_bin o_mul z_int (z_var 6))) z_int) z_anil)) z_int))
    (z_sone (z_expr (z_append (z_var 3) (z_bin o_mod (z_callTy c_int (by rfl) C.n_int bb_int (z_acons (z_bin o_fdiv (z_var 7) z_int) z_anil)) z_int))))) (kpL_sub (by decide))))))))) (kpL_sub (by decide)))
    (z_sone (z_ret (z_var 3)))))
def N_law_box : List Str := ["script", "first", "last"]
theorem S_law_box : FnScope N_law_box ["script", "first", "last"] (defScope (top 11)) := ⟨rfl, rfl, rfl, by decide +kernel, rfl, by decide +kernel, by decide +kernel⟩
theorem ok_law_box (C : Ctx K mg base) : FnOk P w K mg base CX0 3 C.f_law_box C.g_law_box ["script", "first", "last"] (spD ⟨K, w⟩ d_law_box) :=
  z_defF (N := N_law_box) (ps := ["script", "first", "last"]) (kp := (kpL [0, 1, 2])) (m := m_law_box) C.d_law_box.fz S_law_box fun cc A outer s H E hr =>
    (z_sone (z_ret (z_lst (z_acons (z_call (ok_law_digits C) (hr.mono (by decide)) (by rfl) C.d_law_digits.g C.d_law_digits.kp C.d_law_digits.b (z_acons (z_var 0) (z_acons (z_var 1) (z_acons (z_var 2) z_anil)))) (z_acons z_int z_anil)))))
def N_law_draw : List Str := ["box", "many", "at"]
theorem S_law_draw : FnScope N_law_draw ["box", "many"] (defScope (top 15)) := ⟨rfl, rfl, rfl, by decide +kernel, rfl, by decide +kernel, by decide +kernel⟩
theorem ok_law_draw (C : Ctx K mg base) : FnOk P w K mg base CX0 1 C.f_law_draw C.g_law_draw ["box", "many"] (spD ⟨K, w⟩ d_law_draw) :=
  z_defF (N := N_law_draw) (ps := ["box", "many"]) (kp := (kpL [0, 1])) (m := m_law_draw) C.d_law_draw.fz S_law_draw fun cc A outer s H E hr =>
    (z_cons (z_set (i := 2) S_law_draw.nd (by rfl) (by first | exact .inl rfl | exact .inr rfl) (by rfl) (z_sub (z_var 0) z_int))
    (z_cons (z_setI (z_bin o_add (z_var 2) z_int) (z_var 0) z_int)
    (z_cons (z_if (z_tcmp (o_lt (h64 hr)) (z_var 2) (z_callB c_len (by rfl) C.n_len bb_len (z_acons (z_sub (z_var 0) z_int) z_anil)))
    (z_sone (z_ret (z_bin o_mod (z_callTy c_int (by rfl) C.n_int bb_int (z_acons (z_sub (z_sub (z_var 0) z_int) (z_var 2)) z_anil)) (z_var 1))))
    z_nil)
    (z_sone (z_ret z_int)))))
def N_law_safe_net : List Str := ["box", "most", "wide", "many", "steps", "k", "x", "y", "z", "takes", "gives"]
theorem S_law_safe_net : FnScope N_law_safe_net ["box", "most", "wide"] (defScope (top 14)) := ⟨rfl, rfl, rfl, by decide +kernel, rfl, by decide +kernel, by decide +kernel⟩
def l_law_safe_net_1 : Blk :=
    (dSeq (dAsg (bName 6) (dUser d_law_draw (dACons true (dVar 0) (dACons true (dVar 3) dANil))))
    (dSeq (dAsg (bName 7) (dUser d_law_draw (dACons true (dVar 0) (dACons true (dVar 3) dANil))))
    (dSeq (dAsg (bName 8) (dUser d_law_draw (dACons true (dVar 0) (dACons true (dVar 3) dANil))))
    (dSeq (dAsg (bName 9) (dCall fMul (d2 true (dLst (dACons true (dC (.int 0)) dANil)) (dVar 3))))
    (dSeq (dAsg (bName 10) (dCall fMul (d2 true (dLst (dACons true (dC (.int 0)) dANil)) (dVar 3))))
    (dSeq (dSetI true true (dVar 9) (dVar 6) (dC (.int 1)))
    (dSeq (dSetI true true (dVar 10) (dVar 7) (dC (.int 1)))
    (dSeq (dIf (dAnd (dTb (dCall fNe (d2 true (dVar 8) (dVar 6)))) (dAnd (dTb (dCall fNe (d2 true (dVar 8) (dVar 7)))) (dTb (dCall fEq (d2 true (dUser d_law_draw (dACons true (dVar 0) (dACons true (dC (.int 2)) dANil))) (dC (.int 0)))))))
    (dSeq (dSetI true true (dVar 9) (dVar 8) (dC (.int 1)))
    (dIf (dTb (dCall fEq (d2 true (dUser d_law_draw (dACons true (dVar 0) (dACons true (dC (.int 2)) dANil))) (dC (.int 0)))))
    (dSetI true true (dVar 10) (dVar 8) (dC (.int 1)))
    dNx))
    dNx)
    (dDrop (dAppend true (dVar 4) (dTup (dACons true (dCall fTuple (dACons true (dVar 9) dANil)) (dACons true (dCall fTuple (dACons true (dVar 10) dANil)) dANil)))))))))))))
def m_law_safe_net : Blk :=
    (dSeq (dAsg (bName 3) (dCall fAdd (d2 false (dC (.int 2)) (dUser d_law_draw (dACons true (dVar 0) (dACons true (dCall fSub (d2 true (dVar 1) (dC (.int 1)))) dANil))))))
    (dSeq (dAsg (bName 4) (dLst dANil))
    (dSeq (dFor (kpL [0, 1, 2, 3, 4]) (sRange (dACons true (dCall fAdd (d2 false (dC (.int 1)) (dUser d_law_draw (dACons true (dVar 0) (dACons true (dVar 2) dANil))))) dANil)) (bName 5)
    l_law_safe_net_1)
    (dRet (kpL [0, 1, 2]) (dTup (dACons true (dC (.str "net")) (dACons true (dVar 3) (dACons true (dCall fTuple (dACons true (dVar 4) dANil)) dANil))))))))
def d_law_safe_net : Fn := dFn 11 3 (kpL [0, 1, 2]) m_law_safe_net
theorem ok_law_safe_net (C : Ctx K mg base) : FnOk P w K mg base CX0 2 C.f_law_safe_net C.g_law_safe_net ["box", "most", "wide"] (spD ⟨K, w⟩ d_law_safe_net) :=
  z_defF (N := N_law_safe_net) (ps := ["box", "most", "wide"]) (kp := (kpL [0, 1, 2])) (m := m_law_safe_net) C.d_law_safe_net.fz S_law_safe_net fun cc A outer s H E hr =>
    (z_cons (z_set (i := 3) S_law_safe_net.nd (by rfl) (by first | exact .inl rfl | exact .inr rfl) (by rfl) (z_bin o_add z_int (z_call (ok_law_draw C) (hr.mono (by decide)) (by rfl) C.d_law_draw.g C.d_law_draw.kp C.d_law_draw.b (z_acons (z_var 0) (z_acons (z_bin o_sub (z_var 1) z_int) z_anil)))))
    (z_cons (z_set (i := 4) S_law_safe_net.nd (by rfl) (by first | exact .inl rfl | exact .inr rfl) (by rfl) (z_lst z_anil))
    (z_cons (z_for (kp' := (kpL [0, 1, 2, 3, 4])) .never (by rfl) (z_range1 (by rfl) C.n_range (z_acons (z_bin o_add z_int (z_call (ok_law_draw C) (hr.mono (by decide)) (by rfl) C.d_law_draw.g C.d_law_draw.kp C.d_law_draw.b (z_acons (z_var 0) (z_acons (z_var 2) z_anil)))) z_anil) (h1 := fun _ _ _ h => acons_len1 h)) (z_gname S_law_safe_net.nd (by rfl) (by first | exact .inl rfl | exact .inr rfl) (by rfl))
    (z_cons (z_set (i := 6) S_law_safe_net.nd (by rfl) (by first | exact .inl rfl | exact .inr rfl) (by rfl) (z_call (ok_law_draw C) (hr.mono (by decide)) (by rfl) C.d_law_draw.g C.d_law_draw.kp C.d_law_draw.b (z_acons (z_var 0) (z_acons (z_var 3) z_anil))))
    (z_cons (z_set (i := 7) S_law_safe_net.nd (by rfl) (by first | exact .inl rfl | exact .inr rfl) (by rfl) (z_call (ok_law_draw C) (hr.mono (by decide)) (by rfl) C.d_law_draw.g C.d_law_draw.kp C.d_law_draw.b (z_acons (z_var 0) (z_acons (z_var 3) z_anil))))
    (z_cons (z_set (i := 8) S_law_safe_net.nd (by rfl) (by first | exact .inl rfl | exact .inr rfl) (by rfl) (z_call (ok_law_draw C) (hr.mono (by decide)) (by rfl) C.d_law_draw.g C.d_law_draw.kp C.d_law_draw.b (z_acons (z_var 0) (z_acons (z_var 3) z_anil))))
    (z_cons (z_set (i := 9) S_law_safe_net.nd (by rfl) (by first | exact .inl rfl | exact .inr rfl) (by rfl) (z_bin o_mul (z_lst (z_acons z_int z_anil)) (z_var 3)))
    (z_cons (z_set (i := 10) S_law_safe_net.nd (by rfl) (by first | exact .inl rfl | exact .inr rfl) (by rfl) (z_bin o_mul (z_lst (z_acons z_int z_anil)) (z_var 3)))
    (z_cons (z_setI z_int (z_var 9) (z_var 6))
    (z_cons (z_setI z_int (z_var 10) (z_var 7))
    (z_cons (z_if (PW.pt (z_wand (z_tcmp (o_ne (h64 hr)) (z_var 8) (z_var 6)) (z_wand (z_tcmp (o_ne (h64 hr)) (z_var 8) (z_var 7)) (z_wand1 (z_tcmp (o_eq (h64 hr)) (z_call (ok_law_draw C) (hr.mono (by decide)) (by rfl) C.d_law_draw.g C.d_law_draw.kp C.d_law_draw.b (z_acons (z_var 0) (z_acons z_int z_anil))) z_int)))))
    (z_cons (z_setI z_int (z_var 9) (z_var 8))
    (z_sone (z_if (z_tcmp (o_eq (h64 hr)) (z_call (ok_law_draw C) (hr.mono (by decide)) (by rfl) C.d_law_draw.g C.d_law_draw.kp C.d_law_draw.b (z_acons (z_var 0) (z_acons z_int z_anil))) z_int)
    (z_sone (z_setI z_int (z_var 10) (z_var 8)))
    z_nil)))
    z_nil)
    (z_sone (z_expr (z_append (z_var 4) (z_tup (z_acons (z_callTy c_tuple (by rfl) C.n_tuple bb_tuple (z_acons (z_var 9) z_anil)) (z_acons (z_callTy c_tuple (by rfl) C.n_tuple bb_tuple (z_acons (z_var 10) z_anil)) z_anil)))))))))))))) (kpL_sub (by decide)))
    (z_sone (z_ret (z_tup (z_acons z_str (z_acons (z_var 3) (z_acons (z_callTy c_tuple (by rfl) C.n_tuple bb_tuple (z_acons (z_var 4) z_anil)) z_anil)))))))))
def N_law_marks : List Str := ["box", "net", "most", "p"]
theorem S_law_marks : FnScope N_law_marks ["box", "net", "most"] (defScope (top 16)) := ⟨rfl, rfl, rfl, by decide +kernel, rfl, by decide +kernel, by decide +kernel⟩
def m_law_marks : Blk :=
    (dRet (kpL [0, 1, 2, 3]) (dCall fTuple (dACons true (dLc [3] (sRange (dACons true (dSub true (dVar 1) (dC (.int 1))) dANil)) (bName 3) dYes (dUser d_law_draw (dACons true (dVar 0) (dACons true (dCall fAdd (d2 true (dVar 2) (dC (.int 1)))) dANil)))) dANil)))
def d_law_marks : Fn := dFn 4 3 (kpL [0, 1, 2, 3]) m_law_marks
theorem ok_law_marks (C : Ctx K mg base) : FnOk P w K mg base CX0 2 C.f_law_marks C.g_law_marks ["box", "net", "most"] (spD ⟨K, w⟩ d_law_marks) :=
  z_defF (N := N_law_marks) (ps := ["box", "net", "most"]) (kp := (kpL [0, 1, 2, 3])) (m := m_law_marks) C.d_law_marks.fz S_law_marks fun cc A outer s H E hr =>
    (z_sone (z_ret (z_callTy c_tuple (by rfl) C.n_tuple bb_tuple (z_acons (z_lc (own := [("p", 3)]) (by rfl) S_law_marks.nd (z_range1 (by rfl) C.n_range (z_acons (z_sub (z_var 1) z_int) z_anil) (h1 := fun _ _ _ h => acons_len1 h)) (blkOk_by (N := N_law_marks) (sc := defScope (top 16)) (by decide +kernel)) (fun _ _ _ _ _ => (z_gname S_law_marks.nd (by rfl) (by first | exact .inl rfl | exact .inr rfl) (by rfl))) (fun _ _ _ _ _ => z_tsnil) (fun _ _ _ _ _ => (z_call (ok_law_draw C) (hr.mono (by decide)) (by rfl) C.d_law_draw.g C.d_law_draw.kp C.d_law_draw.b (z_acons (z_var 0) (z_acons (z_bin o_add (z_var 2) z_int) z_anil))))) z_anil))))
def N_law_can : List Str := ["net", "marks", "step", "p"]
theorem S_law_can : FnScope N_law_can ["net", "marks", "step"] (defScope (top 18)) := ⟨rfl, rfl, rfl, by decide +kernel, rfl, by decide +kernel, by decide +kernel⟩
def m_law_can : Blk :=
    (dRet (kpL [0, 1, 2, 3]) (dCall fEq (d2 true (dCall fLen (dACons true (dLc [3] (sRange (dACons true (dSub true (dVar 0) (dC (.int 1))) dANil)) (bName 3) (dTb (dCall fLt (d2 true (dSub true (dVar 1) (dVar 3)) (dSub true (dSub true (dSub true (dSub true (dVar 0) (dC (.int 2))) (dVar 2)) (dC (.int 0))) (dVar 3))))) (dVar 3)) dANil)) (dC (.int 0)))))
def d_law_can : Fn := dFn 4 3 (kpL [0, 1, 2, 3]) m_law_can
theorem ok_law_can (C : Ctx K mg base) : FnOk P w K mg base CX0 1 C.f_law_can C.g_law_can ["net", "marks", "step"] (spD ⟨K, w⟩ d_law_can) :=
  z_defF (N := N_law_can) (ps := ["net", "marks", "step"]) (kp := (kpL [0, 1, 2, 3])) (m := m_law_can) C.d_law_can.fz S_law_can fun cc A outer s H E hr =>
    (z_sone (z_ret (z_cmp (o_eq (h64 hr)) (z_callB c_len (by rfl) C.n_len bb_len (z_acons (z_lc (own := [("p", 3)]) (by rfl) S_law_can.nd (z_range1 (by rfl) C.n_range (z_acons (z_sub (z_var 0) z_int) z_anil) (h1 := fun _ _ _ h => acons_len1 h)) (blkOk_by (N := N_law_can) (sc := defScope (top 18)) (by decide +kernel)) (fun _ _ _ _ _ => (z_gname S_law_can.nd (by rfl) (by first | exact .inl rfl | exact .inr rfl) (by rfl))) (fun _ _ _ _ _ => (z_tsone (z_tcmp (o_lt (h64 hr)) (z_sub (z_var 1) (z_var 3)) (z_sub (z_sub (z_sub (z_sub (z_var 0) z_int) (z_var 2)) z_int) (z_var 3))))) (fun _ _ _ _ _ => (z_var 3))) z_anil)) z_int)))
def N_law_fired : List Str := ["net", "marks", "step", "p"]
theorem S_law_fired : FnScope N_law_fired ["net", "marks", "step"] (defScope (top 19)) := ⟨rfl, rfl, rfl, by decide +kernel, rfl, by decide +kernel, by decide +kernel⟩
def m_law_fired : Blk :=
    (dRet (kpL [0, 1, 2, 3]) (dCall fTuple (dACons true (dLc [3] (sRange (dACons true (dSub true (dVar 0) (dC (.int 1))) dANil)) (bName 3) dYes (dCall fAdd (d2 true (dCall fSub (d2 true (dSub true (dVar 1) (dVar 3)) (dSub true (dSub true (dSub true (dSub true (dVar 0) (dC (.int 2))) (dVar 2)) (dC (.int 0))) (dVar 3)))) (dSub true (dSub true (dSub true (dSub true (dVar 0) (dC (.int 2))) (dVar 2)) (dC (.int 1))) (dVar 3))))) dANil)))
def d_law_fired : Fn := dFn 4 3 (kpL [0, 1, 2, 3]) m_law_fired
theorem ok_law_fired (C : Ctx K mg base) : FnOk P w K mg base CX0 1 C.f_law_fired C.g_law_fired ["net", "marks", "step"] (spD ⟨K, w⟩ d_law_fired) :=
  z_defF (N := N_law_fired) (ps := ["net", "marks", "step"]) (kp := (kpL [0, 1, 2, 3])) (m := m_law_fired) C.d_law_fired.fz S_law_fired fun cc A outer s H E hr =>
    (z_sone (z_ret (z_callTy c_tuple (by rfl) C.n_tuple bb_tuple (z_acons (z_lc (own := [("p", 3)]) (by rfl) S_law_fired.nd (z_range1 (by rfl) C.n_range (z_acons (z_sub (z_var 0) z_int) z_anil) (h1 := fun _ _ _ h => acons_len1 h)) (blkOk_by (N := N_law_fired) (sc := defScope (top 19)) (by decide +kernel)) (fun _ _ _ _ _ => (z_gname S_law_fired.nd (by rfl) (by first | exact .inl rfl | exact .inr rfl) (by rfl))) (fun _ _ _ _ _ => z_tsnil) (fun _ _ _ _ _ => (z_bin o_add (z_bin o_sub (z_sub (z_var 1) (z_var 3)) (z_sub (z_sub (z_sub (z_sub (z_var 0) z_int) (z_var 2)) z_int) (z_var 3))) (z_sub (z_sub (z_sub (z_sub (z_var 0) z_int) (z_var 2)) z_int) (z_var 3))))) z_anil))))
def N_law_net_reach : List Str := ["net", "marks", "most", "found", "k", "s", "more"]
theorem S_law_net_reach : FnScope N_law_net_reach ["net", "marks", "most"] (defScope (top 17)) := ⟨rfl, rfl, rfl, by decide +kernel, rfl, by decide +kernel, by decide +kernel⟩
def l_law_net_reach_1 : Blk :=
    (dIf (dTv (dUser d_law_can (dACons true (dVar 0) (dACons true (dSub true (dVar 3) (dVar 4)) (dACons true (dVar 5) dANil)))))
    (dSeq (dAsg (bName 6) (dUser d_law_fired (dACons true (dVar 0) (dACons true (dSub true (dVar 3) (dVar 4)) (dACons true (dVar 5) dANil)))))
    (dIf (dTb (dCall fNotIn (d2 true (dVar 6) (dVar 3))))
    (dSeq (dIf (dTb (dCall fEq (d2 true (dCall fLen (dACons true (dVar 3) dANil)) (dVar 2))))
    (dRet (kpL [0, 1, 2, 3, 4]) (dTup (dACons true (dCall fTuple (dACons true (dVar 3) dANil)) (dACons true (dC (.bl false)) dANil))))
    dNx)
    (dDrop (dAppend false (dVar 3) (dTake 6))))
    dNx))
    dNx)
def l_law_net_reach_2 : Blk :=
    (dSeq (dFor (kpL [0, 1, 2, 3, 4]) (sRange (dACons true (dCall fLen (dACons true (dSub true (dVar 0) (dC (.int 2))) dANil)) dANil)) (bName 5)
    l_law_net_reach_1)
    (dAsg (bName 4) (dCall fAdd (d2 true (dVar 4) (dC (.int 1))))))
def m_law_net_reach : Blk :=
    (dSeq (dAsg (bName 3) (dLst (dACons true (dVar 1) dANil)))
    (dSeq (dAsg (bName 4) (dC (.int 0)))
    (dSeq (dWhile (dTb (dCall fLt (d2 true (dVar 4) (dCall fLen (dACons true (dVar 3) dANil)))))
    l_law_net_reach_2 1000)
    (dRet (kpL [0, 1, 2]) (dTup (dACons true (dCall fTuple (dACons true (dVar 3) dANil)) (dACons true (dC (.bl true)) dANil)))))))
def d_law_net_reach : Fn := dFn 7 3 (kpL [0, 1, 2]) m_law_net_reach
theorem ok_law_net_reach (C : Ctx K mg base) : FnOk P w K mg base CX0 2 C.f_law_net_reach C.g_law_net_reach ["net", "marks", "most"] (spD ⟨K, w⟩ d_law_net_reach) :=
  z_defF (N := N_law_net_reach) (ps := ["net", "marks", "most"]) (kp := (kpL [0, 1, 2])) (m := m_law_net_reach) C.d_law_net_reach.fz S_law_net_reach fun cc A outer s H E hr =>
    (z_cons (z_set (i := 3) S_law_net_reach.nd (by rfl) (by first | exact .inl rfl | exact .inr rfl) (by rfl) (z_lst (z_acons (z_var 1) z_anil)))
    (z_cons (z_set (i := 4) S_law_net_reach.nd (by rfl) (by first | exact .inl rfl | exact .inr rfl) (by rfl) z_int)
    (z_cons (z_while 1000 .never (z_tcmp (o_lt (h64 hr)) (z_var 4) (z_callB c_len (by rfl) C.n_len bb_len (z_acons (z_var 3) z_anil)))
    (z_cons (z_for (kp' := (kpL [0, 1, 2, 3, 4])) .never (by rfl) (z_range1 (by rfl) C.n_range (z_acons (z_callB c_len (by rfl) C.n_len bb_len (z_acons (z_sub (z_var 0) z_int) z_anil)) z_anil) (h1 := fun _ _ _ h => acons_len1 h)) (z_gname S_law_net_reach.nd (by rfl) (by first | exact .inl rfl | exact .inr rfl) (by rfl))
    (z_sone (z_if (z_tv (z_call (ok_law_can C) (hr.mono (by decide)) (by rfl) C.d_law_can.g C.d_law_can.kp C.d_law_can.b (z_acons (z_var 0) (z_acons (z_sub (z_var 3) (z_var 4)) (z_acons (z_var 5) z_anil)))))
    (z_cons (z_set (i := 6) S_law_net_reach.nd (by rfl) (by first | exact .inl rfl | exact .inr rfl) (by rfl) (z_call (ok_law_fired C) (hr.mono (by decide)) (by rfl) C.d_law_fired.g C.d_law_fired.kp C.d_law_fired.b (z_acons (z_var 0) (z_acons (z_sub (z_var 3) (z_var 4)) (z_acons (z_var 5) z_anil)))))
    (z_sone (z_if (z_tcmp (o_notIn (h65 hr)) (z_var 6) (z_var 3))
    (z_cons (z_if (z_tcmp (o_eq (h64 hr)) (z_callB c_len (by rfl) C.n_len bb_len (z_acons (z_var 3) z_anil)) (z_var 2))
    (z_sone (z_ret (z_tup (z_acons (z_callTy c_tuple (by rfl) C.n_tuple bb_tuple (z_acons (z_var 3) z_anil)) (z_acons z_bl z_anil)))))
    z_nil)
    (z_sone (z_expr (z_append (z_var 3) (z_take 6)))))
    z_nil)))
    z_nil)) (kpL_sub (by decide)))
    (z_sone (z_set (i := 4) S_law_net_reach.nd (by rfl) (by first | exact .inl rfl | exact .inr rfl) (by rfl) (z_bin o_add (z_var 4) z_int)))))
    (z_sone (z_ret (z_tup (z_acons (z_callTy c_tuple (by rfl) C.n_tuple bb_tuple (z_acons (z_var 3) z_anil)) (z_acons z_bl z_anil))))))))
def N_can : List Str := ["net", "marks", "step", "have", "least"]
theorem S_can : FnScope N_can ["net", "marks", "step"] (defScope (top 1)) := ⟨rfl, rfl, rfl, by decide +kernel, rfl, by decide +kernel, by decide +kernel⟩
def m_can : Blk :=
    (dRet (kpL [0, 1, 2, 3, 4]) (dFold fAll (dGe [3, 4] (sZip2 (dACons true (dVar 1) (dACons true (dSub true (dSub true (dSub true (dVar 0) (dC (.int 2))) (dVar 2)) (dC (.int 0))) dANil))) (bTup 2 (bCons (bName 3) (bCons (bName 4) bNil))) dYes (dCall fGe (d2 true (dVar 3) (dVar 4))) stopAll)))
def d_can : Fn := dFn 5 3 (kpL [0, 1, 2, 3, 4]) m_can
theorem ok_can (C : Ctx K mg base) : FnOk P w K mg base CX0 2 C.f_can C.g_can ["net", "marks", "step"] (spD ⟨K, w⟩ d_can) :=
  z_defF (N := N_can) (ps := ["net", "marks", "step"]) (kp := (kpL [0, 1, 2, 3, 4])) (m := m_can) C.d_can.fz S_can fun cc A outer s H E hr =>
    (z_sone (z_ret (z_all (k := 0) (hr.mono (by decide)) (by rfl) C.n_all (z_gen (own := [("have", 3), ("least", 4)]) (k := 0) (hr.mono (by decide)) (by rfl) (by rfl) S_can.nd C.bm ⟨rfl, rfl⟩ (z_zip2 (by rfl) C.n_zip (z_acons (z_var 1) (z_acons (z_sub (z_sub (z_sub (z_var 0) z_int) (z_var 2)) z_int) z_anil))) (blkOk_by (N := N_can) (sc := defScope (top 1)) (by decide +kernel)) (fun _ _ _ _ _ _ _ hg => (z_gtup (by rfl) (z_gscons (z_gname S_can.nd (by rfl) (by first | exact .inl rfl | exact .inr rfl) (by rfl)) (z_gscons (z_gname S_can.nd (by rfl) (by first | exact .inl rfl | exact .inr rfl) (by rfl)) z_gsnil)))) (fun _ _ _ _ _ _ _ hg => z_tsnil) (fun _ _ _ _ _ _ _ hg => (z_cmp (o_ge (h64 hg)) (z_var 3) (z_var 4)))))))
def N_possible : List Str := ["net", "marks", "step"]
theorem S_possible : FnScope N_possible ["net", "marks"] (defScope (top 3)) := ⟨rfl, rfl, rfl, by decide +kernel, rfl, by decide +kernel, by decide +kernel⟩
def m_possible : Blk :=
    (dRet (kpL [0, 1, 2]) (dFold fTup (dGe [2] (sRange (dACons true (dCall fLen (dACons true (dSub true (dVar 0) (dC (.int 2))) dANil)) dANil)) (bName 2) (dTv (dUser d_can (dACons true (dVar 0) (dACons true (dVar 1) (dACons true (dVar 2) dANil))))) (dVar 2) never)))
def d_possible : Fn := dFn 3 2 (kpL [0, 1, 2]) m_possible
theorem ok_possible (C : Ctx K mg base) : FnOk P w K mg base CX0 4 C.f_possible C.g_possible ["net", "marks"] (spD ⟨K, w⟩ d_possible) :=
  z_defF (N := N_possible) (ps := ["net", "marks"]) (kp := (kpL [0, 1, 2])) (m := m_possible) C.d_possible.fz S_possible fun cc A outer s H E hr =>
    (z_sone (z_ret (z_tupleG (k := 2) (hr.mono (by decide)) (by rfl) C.n_tuple (z_gen (own := [("step", 2)]) (k := 2) (hr.mono (by decide)) (by rfl) (by rfl) S_possible.nd C.bm ⟨rfl, rfl⟩ (z_range1 (by rfl) C.n_range (z_acons (z_callB c_len (by rfl) C.n_len bb_len (z_acons (z_sub (z_var 0) z_int) z_anil)) z_anil) (h1 := fun _ _ _ h => acons_len1 h)) (blkOk_by (N := N_possible) (sc := defScope (top 3)) (by decide +kernel)) (fun _ _ _ _ _ _ _ hg => (z_gname S_possible.nd (by rfl) (by first | exact .inl rfl | exact .inr rfl) (by rfl))) (fun _ _ _ _ _ _ _ hg => (z_tsone (z_tv (z_call (ok_can C) (hg.mono (by decide)) (by rfl) C.d_can.g C.d_can.kp C.d_can.b (z_acons (z_var 0) (z_acons (z_var 1) (z_acons (z_var 2) z_anil))))))) (fun _ _ _ _ _ _ _ hg => (z_var 2))))))
def N_done : List Str := ["net", "marks", "step", "takes", "gives", "have", "less", "more"]
theorem S_done : FnScope N_done ["net", "marks", "step"] (defScope (top 2)) := ⟨rfl, rfl, rfl, by decide +kernel, rfl, by decide +kernel, by decide +kernel⟩
def m_done : Blk :=
    (dSeq (dAsg (bTup 2 (bCons (bName 3) (bCons (bName 4) bNil))) (dSub true (dSub true (dVar 0) (dC (.int 2))) (dVar 2)))
    (dRet (kpL [0, 1, 2, 5, 6, 7]) (dFold fTup (dGe [5, 6, 7] (sZip3 (dACons true (dVar 1) (dACons true (dVar 3) (dACons true (dVar 4) dANil)))) (bTup 3 (bCons (bName 5) (bCons (bName 6) (bCons (bName 7) bNil)))) dYes (dCall fAdd (d2 true (dCall fSub (d2 true (dVar 5) (dVar 6))) (dVar 7))) never))))
def d_done : Fn := dFn 8 3 (kpL [0, 1, 2, 5, 6, 7]) m_done
theorem ok_done (C : Ctx K mg base) : FnOk P w K mg base CX0 2 C.f_done C.g_done ["net", "marks", "step"] (spD ⟨K, w⟩ d_done) :=
  z_defF (N := N_done) (ps := ["net", "marks", "step"]) (kp := (kpL [0, 1, 2, 5, 6, 7])) (m := m_done) C.d_done.fz S_done fun cc A outer s H E hr =>
    (z_cons (z_asg (z_sub (z_sub (z_var 0) z_int) (z_var 2)) (z_gtup (by rfl) (z_gscons (z_gname S_done.nd (by rfl) (by first | exact .inl rfl | exact .inr rfl) (by rfl)) (z_gscons (z_gname S_done.nd (by rfl) (by first | exact .inl rfl | exact .inr rfl) (by rfl)) z_gsnil))))
    (z_sone (z_ret (z_tupleG (k := 0) (hr.mono (by decide)) (by rfl) C.n_tuple (z_gen (own := [("have", 5), ("less", 6), ("more", 7)]) (k := 0) (hr.mono (by decide)) (by rfl) (by rfl) S_done.nd C.bm ⟨rfl, rfl⟩ (z_zip3 (by rfl) C.n_zip (z_acons (z_var 1) (z_acons (z_var 3) (z_acons (z_var 4) z_anil)))) (blkOk_by (N := N_done) (sc := defScope (top 2)) (by decide +kernel)) (fun _ _ _ _ _ _ _ hg => (z_gtup (by rfl) (z_gscons (z_gname S_done.nd (by rfl) (by first | exact .inl rfl | exact .inr rfl) (by rfl)) (z_gscons (z_gname S_done.nd (by rfl) (by first | exact .inl rfl | exact .inr rfl) (by rfl)) (z_gscons (z_gname S_done.nd (by rfl) (by first | exact .inl rfl | exact .inr rfl) (by rfl)) z_gsnil))))) (fun _ _ _ _ _ _ _ hg => z_tsnil) (fun _ _ _ _ _ _ _ hg => (z_bin o_add (z_bin o_sub (z_var 5) (z_var 6)) (z_var 7))))))))
def N_reached : List Str := ["net", "marks", "most", "found", "place", "step", "following"]
theorem S_reached : FnScope N_reached ["net", "marks", "most"] (defScope (top 5)) := ⟨rfl, rfl, rfl, by decide +kernel, rfl, by decide +kernel, by decide +kernel⟩
def l_reached_1 : Blk :=
    (dSeq (dAsg (bName 6) (dUser d_done (dACons true (dVar 0) (dACons true (dSub true (dVar 3) (dVar 4)) (dACons true (dVar 5) dANil)))))
    (dIf (dTb (dCall fNotIn (d2 true (dVar 6) (dVar 3))))
    (dSeq (dIf (dTb (dCall fEq (d2 true (dCall fLen (dACons true (dVar 3) dANil)) (dVar 2))))
    (dRet (kpL [0, 1, 2, 3, 4]) (dTup (dACons true (dCall fTuple (dACons true (dVar 3) dANil)) (dACons true (dC (.bl false)) dANil))))
    dNx)
    (dDrop (dAppend false (dVar 3) (dTake 6))))
    dNx))
def l_reached_2 : Blk :=
    (dSeq (dFor (kpL [0, 1, 2, 3, 4]) (sSeq (dUser d_possible (dACons true (dVar 0) (dACons true (dSub true (dVar 3) (dVar 4)) dANil)))) (bName 5)
    l_reached_1)
    (dAug 4 (fun i j => i + j) (dC (.int 1))))
def m_reached : Blk :=
    (dSeq (dAsg (bName 3) (dLst (dACons true (dVar 1) dANil)))
    (dSeq (dAsg (bName 4) (dC (.int 0)))
    (dSeq (dWhile (dTb (dCall fLt (d2 true (dVar 4) (dCall fLen (dACons true (dVar 3) dANil)))))
    l_reached_2 1000)
    (dRet (kpL [0, 1, 2]) (dTup (dACons true (dCall fTuple (dACons true (dVar 3) dANil)) (dACons true (dC (.bl true)) dANil)))))))
def d_reached : Fn := dFn 7 3 (kpL [0, 1, 2]) m_reached
theorem ok_reached (C : Ctx K mg base) : FnOk P w K mg base CX0 5 C.f_reached C.g_reached ["net", "marks", "most"] (spD ⟨K, w⟩ d_reached) :=
  z_defF (N := N_reached) (ps := ["net", "marks", "most"]) (kp := (kpL [0, 1, 2])) (m := m_reached) C.d_reached.fz S_reached fun cc A outer s H E hr =>
    (z_cons (z_set (i := 3) S_reached.nd (by rfl) (by first | exact .inl rfl | exact .inr rfl) (by rfl) (z_lst (z_acons (z_var 1) z_anil)))
    (z_cons (z_set (i := 4) S_reached.nd (by rfl) (by first | exact .inl rfl | exact .inr rfl) (by rfl) z_int)
    (z_cons (z_while 1000 .never (z_tcmp (o_lt (h64 hr)) (z_var 4) (z_callB c_len (by rfl) C.n_len bb_len (z_acons (z_var 3) z_anil)))
    (z_cons (z_for (kp' := (kpL [0, 1, 2, 3, 4])) .never (by rfl) (z_seq (z_call (ok_possible C) (hr.mono (by decide)) (by rfl) C.d_possible.g C.d_possible.kp C.d_possible.b (z_acons (z_var 0) (z_acons (z_sub (z_var 3) (z_var 4)) z_anil)))) (z_gname S_reached.nd (by rfl) (by first | exact .inl rfl | exact .inr rfl) (by rfl))
    (z_cons (z_set (i := 6) S_reached.nd (by rfl) (by first | exact .inl rfl | exact .inr rfl) (by rfl) (z_call (ok_done C) (hr.mono (by decide)) (by rfl) C.d_done.g C.d_done.kp C.d_done.b (z_acons (z_var 0) (z_acons (z_sub (z_var 3) (z_var 4)) (z_acons (z_var 5) z_anil)))))
    (z_sone (z_if (z_tcmp (o_notIn (h65 hr)) (z_var 6) (z_var 3))
    (z_cons (z_if (z_tcmp (o_eq (h64 hr)) (z_callB c_len (by rfl) C.n_len bb_len (z_acons (z_var 3) z_anil)) (z_var 2))
    (z_sone (z_ret (z_tup (z_acons (z_callTy c_tuple (by rfl) C.n_tuple bb_tuple (z_acons (z_var 3) z_anil)) (z_acons z_bl z_anil)))))
    z_nil)
    (z_sone (z_expr (z_append (z_var 3) (z_take 6)))))
    z_nil))) (kpL_sub (by decide)))
    (z_sone (z_aug (i := 4) S_reached.nd (by rfl) (by first | exact .inl rfl | exact .inr rfl) (by rfl) z_int ip_add))))
    (z_sone (z_ret (z_tup (z_acons (z_callTy c_tuple (by rfl) C.n_tuple bb_tuple (z_acons (z_var 3) z_anil)) (z_acons z_bl z_anil))))))))
def N_live_steps : List Str := ["net", "marks", "most", "rows", "whole", "found", "step", "own", "far"]
theorem S_live_steps : FnScope N_live_steps ["net", "marks", "most"] (defScope (top 8)) := ⟨rfl, rfl, rfl, by decide +kernel, rfl, by decide +kernel, by decide +kernel⟩
def l_live_steps_1 : Blk :=
    (dIf (dTv (dFold fAll (dGe [7] (sSeq (dVar 3)) (bName 7) dYes (dFold fAny (dGe [8] (sSeq (dSub true (dUser d_reached (dACons true (dVar 0) (dACons true (dVar 7) (dACons true (dVar 2) dANil)))) (dC (.int 0)))) (bName 8) dYes (dUser d_can (dACons true (dVar 0) (dACons true (dVar 8) (dACons true (dVar 6) dANil)))) stopAny)) stopAll)))
    (dDrop (dAppend false (dVar 5) (dTake 6)))
    dNx)
def m_live_steps : Blk :=
    (dSeq (dAsg (bTup 2 (bCons (bName 3) (bCons (bName 4) bNil))) (dUser d_reached (dACons true (dVar 0) (dACons true (dVar 1) (dACons true (dVar 2) dANil)))))
    (dSeq (dIf (dNot (dTv (dVar 4)))
    (dRet (kpL [0, 1, 2, 7, 8]) (dC .non))
    dNx)
    (dSeq (dAsg (bName 5) (dLst dANil))
    (dSeq (dFor (kpL [0, 1, 2, 3, 4, 5, 7, 8]) (sRange (dACons true (dCall fLen (dACons true (dSub true (dVar 0) (dC (.int 2))) dANil)) dANil)) (bName 6)
    l_live_steps_1)
    (dRet (kpL [0, 1, 2, 7, 8]) (dCall fTuple (dACons true (dVar 5) dANil)))))))
def d_live_steps : Fn := dFn 9 3 (kpL [0, 1, 2, 7, 8]) m_live_steps
theorem ok_live_steps (C : Ctx K mg base) : FnOk P w K mg base CX0 7 C.f_live_steps C.g_live_steps ["net", "marks", "most"] (spD ⟨K, w⟩ d_live_steps) :=
  z_defF (N := N_live_steps) (ps := ["net", "marks", "most"]) (kp := (kpL [0, 1, 2, 7, 8])) (m := m_live_steps) C.d_live_steps.fz S_live_steps fun cc A outer s H E hr =>
    (z_cons (z_asg (z_call (ok_reached C) (hr.mono (by decide)) (by rfl) C.d_reached.g C.d_reached.kp C.d_reached.b (z_acons (z_var 0) (z_acons (z_var 1) (z_acons (z_var 2) z_anil)))) (z_gtup (by rfl) (z_gscons (z_gname S_live_steps.nd (by rfl) (by first | exact .inl rfl | exact .inr rfl) (by rfl)) (z_gscons (z_gname S_live_steps.nd (by rfl) (by first | exact .inl rfl | exact .inr rfl) (by rfl)) z_gsnil))))
    (z_cons (z_if (z_not (z_tv (z_var 4)))
    (z_sone (z_ret z_non))
    z_nil)
    (z_cons (z_set (i := 5) S_live_steps.nd (by rfl) (by first | exact .inl rfl | exact .inr rfl) (by rfl) (z_lst z_anil))
    (z_cons (z_for (kp' := (kpL [0, 1, 2, 3, 4, 5, 7, 8])) .never (by rfl) (z_range1 (by rfl) C.n_range (z_acons (z_callB c_len (by rfl) C.n_len bb_len (z_acons (z_sub (z_var 0) z_int) z_anil)) z_anil) (h1 := fun _ _ _ h => acons_len1 h)) (z_gname S_live_steps.nd (by rfl) (by first | exact .inl rfl | exact .inr rfl) (by rfl))
    (z_sone (z_if (z_tv (z_all (k := 5) (hr.mono (by decide)) (by rfl) C.n_all (z_gen (own := [("own", 7)]) (k := 5) (hr.mono (by decide)) (by rfl) (by rfl) S_live_steps.nd C.bm ⟨rfl, rfl⟩ (z_seq (z_var 3)) (blkOk_by (N := N_live_steps) (sc := defScope (top 8)) (by decide +kernel)) (fun _ _ _ _ _ _ _ hg => (z_gname S_live_steps.nd (by rfl) (by first | exact .inl rfl | exact .inr rfl) (by rfl))) (fun _ _ _ _ _ _ _ hg => z_tsnil) (fun _ _ _ _ _ _ _ hg => (z_any (k := 2) (hg.mono (by decide)) (by rfl) C.n_any (z_gen (own := [("far", 8)]) (k := 2) (hg.mono (by decide)) (by rfl) (by rfl) S_live_steps.nd C.bm ⟨rfl, rfl⟩ (z_seq (z_sub (z_call (ok_reached C) (hg.mono (by decide)) (by rfl) C.d_reached.g C.d_reached.kp C.d_reached.b (z_acons (z_var 0) (z_acons (z_var 7) (z_acons (z_var 2) z_anil)))) z_int)) (blkOk_by (by kernel_rfl)) (fun _ _ _ _ _ _ _ hg => (z_gname S_live_steps.nd (by rfl) (by first | exact .inl rfl | exact .inr rfl) (by rfl))) (fun _ _ _ _ _ _ _ hg => z_tsnil) (fun _ _ _ _ _ _ _ hg => (z_call (ok_can C) (hg.mono (by decide)) (by rfl) C.d_can.g C.d_can.kp C.d_can.b (z_acons (z_var 0) (z_acons (z_var 8) (z_acons (z_var 6) z_anil)))))))))))
    (z_sone (z_expr (z_append (z_var 5) (z_take 6))))
    z_nil)) (kpL_sub (by decide)))
    (z_sone (z_ret (z_callTy c_tuple (by rfl) C.n_tuple bb_tuple (z_acons (z_var 5) z_anil))))))))
def N_law_same : List Str := ["actual", "expected", "k"]
theorem S_law_same : FnScope N_law_same ["actual", "expected"] (defScope (top 20)) := ⟨rfl, rfl, rfl, by decide +kernel, rfl, by decide +kernel, by decide +kernel⟩
theorem ok_law_same (C : Ctx K mg base) : ∀ n, FnOk P w K mg base CX0 (n + 0) C.f_law_same C.g_law_same ["actual", "expected"] (spD ⟨K, w⟩ (d_law_same n))
  | 0 => fn_none
  | n + 1 => z_defF (N := N_law_same) (ps := ["actual", "expected"]) (kp := (kpL [0, 1])) (m := m_law_same (d_law_same n)) (k := n + 0) C.d_law_same.fz S_law_same fun cc A outer s H E hr =>
    (z_cons (z_if (z_tv (z_isa isa_tuple (by rfl) C.n_isinstance bb_isinstance (by rfl) C.n_tuple bb_tuple (z_var 1)))
    (z_cons (z_if (PW.pt (z_wor (z_not (z_tv (z_isa isa_tuple (by rfl) C.n_isinstance bb_isinstance (by rfl) C.n_tuple bb_tuple (z_var 0)))) (z_wor1 (z_tcmp (o_ne (h64 hr)) (z_callB c_len (by rfl) C.n_len bb_len (z_acons (z_var 0) z_anil)) (z_callB c_len (by rfl) C.n_len bb_len (z_acons (z_var 1) z_anil))))))
    (z_sone (z_ret z_bl))
    z_nil)
    (z_cons (z_for (kp' := (kpL [0, 1])) .never (by rfl) (z_range1 (by rfl) C.n_range (z_acons (z_callB c_len (by rfl) C.n_len bb_len (z_acons (z_var 1) z_anil)) z_anil) (h1 := fun _ _ _ h => acons_len1 h)) (z_gname S_law_same.nd (by rfl) (by first | exact .inl rfl | exact .inr rfl) (by rfl))
    (z_sone (z_if (z_not (z_tv (z_call (ok_law_same C n) (hr.mono (by omega)) (by rfl) C.d_law_same.g C.d_law_same.kp C.d_law_same.b (z_acons (z_sub (z_var 0) (z_var 2)) (z_acons (z_sub (z_var 1) (z_var 2)) z_anil)))))
    (z_sone (z_ret z_bl))
    z_nil)) (kpL_sub (by decide)))
    (z_sone (z_ret z_bl))))
    z_nil)
    (z_cons (z_if (z_tcmp (o_is) (z_var 1) z_non)
    (z_sone (z_ret (z_cmp (o_is) (z_var 0) z_non)))
    z_nil)
    (z_cons (z_if (z_tv (z_isa isa_bool (by rfl) C.n_isinstance bb_isinstance (by rfl) C.n_bool bb_bool (z_var 1)))
    (z_sone (z_ret (z_and (z_isa isa_bool (by rfl) C.n_isinstance bb_isinstance (by rfl) C.n_bool bb_bool (z_var 0)) (z_one (z_cmp (o_eq (h64 hr)) (z_var 0) (z_var 1))))))
    z_nil)
    (z_cons (z_if (z_tv (z_isa isa_int (by rfl) C.n_isinstance bb_isinstance (by rfl) C.n_int bb_int (z_var 1)))
    (z_sone (z_ret (z_and (z_isa isa_int (by rfl) C.n_isinstance bb_isinstance (by rfl) C.n_int bb_int (z_var 0)) (z_and (z_notV (z_isa isa_bool (by rfl) C.n_isinstance bb_isinstance (by rfl) C.n_bool bb_bool (z_var 0))) (z_one (z_cmp (o_eq (h64 hr)) (z_var 0) (z_var 1)))))))
    z_nil)
    (z_sone (z_ret (z_and (z_isa isa_str (by rfl) C.n_isinstance bb_isinstance (by rfl) C.n_str bb_str (z_var 0)) (z_one (z_cmp (o_eq (h64 hr)) (z_var 0) (z_var 1))))))))))
def N_comes_home : List Str := ["net", "marks", "most", "rows", "whole", "own"]
theorem S_comes_home : FnScope N_comes_home ["net", "marks", "most"] (defScope (top 9)) := ⟨rfl, rfl, rfl, by decide +kernel, rfl, by decide +kernel, by decide +kernel⟩
def m_comes_home : Blk :=
    (dSeq (dAsg (bTup 2 (bCons (bName 3) (bCons (bName 4) bNil))) (dUser d_reached (dACons true (dVar 0) (dACons true (dVar 1) (dACons true (dVar 2) dANil)))))
    (dRet (kpL [0, 1, 2, 5]) (dIfE (dTv (dVar 4)) (dFold fAll (dGe [5] (sSeq (dVar 3)) (bName 5) dYes (dCall fIn (d2 false (dVar 1) (dSub true (dUser d_reached (dACons true (dVar 0) (dACons true (dVar 5) (dACons true (dVar 2) dANil)))) (dC (.int 0))))) stopAll)) (dC .non))))
def d_comes_home : Fn := dFn 6 3 (kpL [0, 1, 2, 5]) m_comes_home
theorem ok_comes_home (C : Ctx K mg base) : FnOk P w K mg base CX0 7 C.f_comes_home C.g_comes_home ["net", "marks", "most"] (spD ⟨K, w⟩ d_comes_home) :=
  z_defF (N := N_comes_home) (ps := ["net", "marks", "most"]) (kp := (kpL [0, 1, 2, 5])) (m := m_comes_home) C.d_comes_home.fz S_comes_home fun cc A outer s H E hr =>
    (z_cons (z_asg (z_call (ok_reached C) (hr.mono (by decide)) (by rfl) C.d_reached.g C.d_reached.kp C.d_reached.b (z_acons (z_var 0) (z_acons (z_var 1) (z_acons (z_var 2) z_anil)))) (z_gtup (by rfl) (z_gscons (z_gname S_comes_home.nd (by rfl) (by first | exact .inl rfl | exact .inr rfl) (by rfl)) (z_gscons (z_gname S_comes_home.nd (by rfl) (by first | exact .inl rfl | exact .inr rfl) (by rfl)) z_gsnil))))
    (z_sone (z_ret (z_ife (z_tv (z_var 4)) (z_all (k := 5) (hr.mono (by decide)) (by rfl) C.n_all (z_gen (own := [("own", 5)]) (k := 5) (hr.mono (by decide)) (by rfl) (by rfl) S_comes_home.nd C.bm ⟨rfl, rfl⟩ (z_seq (z_var 3)) (blkOk_by (N := N_comes_home) (sc := defScope (top 9)) (by decide +kernel)) (fun _ _ _ _ _ _ _ hg => (z_gname S_comes_home.nd (by rfl) (by first | exact .inl rfl | exact .inr rfl) (by rfl))) (fun _ _ _ _ _ _ _ hg => z_tsnil) (fun _ _ _ _ _ _ _ hg => (z_cmp (o_in (h65 hg)) (z_var 1) (z_sub (z_call (ok_reached C) (hg.mono (by decide)) (by rfl) C.d_reached.g C.d_reached.kp C.d_reached.b (z_acons (z_var 0) (z_acons (z_var 5) (z_acons (z_var 2) z_anil)))) z_int))))) z_non))))
def N_shortest_to : List Str := ["net", "marks", "goal", "most", "words", "waiting", "own", "step", "following"]
theorem S_shortest_to : FnScope N_shortest_to ["net", "marks", "goal", "most"] (defScope (top 6)) := ⟨rfl, rfl, rfl, by decide +kernel, rfl, by decide +kernel, by decide +kernel⟩
def l_shortest_to_1 : Blk :=
    (dSeq (dAsg (bName 8) (dUser d_done (dACons true (dVar 0) (dACons true (dVar 6) (dACons true (dVar 7) dANil)))))
    (dIf (dAnd (dTb (dCall fDNotIn (d2 true (dVar 8) (dVar 4)))) (dTb (dCall fLt (d2 true (dCall fDLen (dACons true (dVar 4) dANil)) (dVar 3)))))
    (dSeq (dDSet (dVar 4) (dVar 8) (dCall fAdd (d2 true (dCall fDGet (d2 true (dVar 4) (dVar 6))) (dTup (dACons true (dVar 7) dANil)))))
    (dDrop (dAppend false (dVar 5) (dTake 8))))
    dNx))
def l_shortest_to_2 : Blk :=
    (dSeq (dAsg (bName 6) (dMeth true gPopI (dVar 5) (dACons true (dC (.int 0)) dANil)))
    (dSeq (dIf (dTb (dCall fEq (d2 true (dVar 6) (dVar 2))))
    (dRet (kpL [0, 1, 2, 3]) (dCall fDGet (d2 true (dVar 4) (dVar 6))))
    dNx)
    (dFor (kpL [0, 1, 2, 3, 4, 5, 6]) (sSeq (dUser d_possible (dACons true (dVar 0) (dACons true (dVar 6) dANil)))) (bName 7)
    l_shortest_to_1)))
def m_shortest_to : Blk :=
    (dSeq (dAsg (bName 4) (dDisp1 (dVar 1) (dTup dANil)))
    (dSeq (dAsg (bName 5) (dLst (dACons true (dVar 1) dANil)))
    (dSeq (dWhile (dTv (dVar 5))
    l_shortest_to_2 1000)
    (dRet (kpL [0, 1, 2, 3]) (dC .non)))))
def d_shortest_to : Fn := dFn 9 4 (kpL [0, 1, 2, 3]) m_shortest_to
theorem ok_shortest_to (C : Ctx K mg base) : FnOk P w K mg base CX0 5 C.f_shortest_to C.g_shortest_to ["net", "marks", "goal", "most"] (spD ⟨K, w⟩ d_shortest_to) :=
  z_defF (N := N_shortest_to) (ps := ["net", "marks", "goal", "most"]) (kp := (kpL [0, 1, 2, 3])) (m := m_shortest_to) C.d_shortest_to.fz S_shortest_to fun cc A outer s H E hr =>
    (z_cons (z_set (i := 4) S_shortest_to.nd (by rfl) (by first | exact .inl rfl | exact .inr rfl) (by rfl) (z_disp1 (h65 hr) (z_var 1) (z_tup z_anil)))
    (z_cons (z_set (i := 5) S_shortest_to.nd (by rfl) (by first | exact .inl rfl | exact .inr rfl) (by rfl) (z_lst (z_acons (z_var 1) z_anil)))
    (z_cons (z_while 1000 .never (z_tv (z_var 5))
    (z_cons (z_set (i := 6) S_shortest_to.nd (by rfl) (by first | exact .inl rfl | exact .inr rfl) (by rfl) (z_popAt (z_var 5) (z_acons z_int z_anil)))
    (z_cons (z_if (z_tcmp (o_eq (h64 hr)) (z_var 6) (z_var 2))
    (z_sone (z_ret (z_dget (h65 hr) (z_var 4) (z_var 6))))
    z_nil)
    (z_sone (z_for (kp' := (kpL [0, 1, 2, 3, 4, 5, 6])) .never (by rfl) (z_seq (z_call (ok_possible C) (hr.mono (by decide)) (by rfl) C.d_possible.g C.d_possible.kp C.d_possible.b (z_acons (z_var 0) (z_acons (z_var 6) z_anil)))) (z_gname S_shortest_to.nd (by rfl) (by first | exact .inl rfl | exact .inr rfl) (by rfl))
    (z_cons (z_set (i := 8) S_shortest_to.nd (by rfl) (by first | exact .inl rfl | exact .inr rfl) (by rfl) (z_call (ok_done C) (hr.mono (by decide)) (by rfl) C.d_done.g C.d_done.kp C.d_done.b (z_acons (z_var 0) (z_acons (z_var 6) (z_acons (z_var 7) z_anil)))))
    (z_sone (z_if (PW.pt (z_wand (z_tcmp (o_dnotin (h65 hr)) (z_var 8) (z_var 4)) (z_wand1 (z_tcmp (o_lt (h64 hr)) (z_callB c_dlen (by rfl) C.n_len bb_len (z_acons (z_var 4) z_anil)) (z_var 3)))))
    (z_cons (z_dset (h65 hr) (z_bin o_add (z_dget (h65 hr) (z_var 4) (z_var 6)) (z_tup (z_acons (z_var 7) z_anil))) (z_var 4) (z_var 8))
    (z_sone (z_expr (z_append (z_var 5) (z_take 8)))))
    z_nil))) (kpL_sub (by decide)))))))
    (z_sone (z_ret z_non)))))
def N_decide_end : List Str := ["net", "marks", "most", "rows", "whole", "words", "own"]
theorem S_decide_end : FnScope N_decide_end ["net", "marks", "most"] (defScope (top 7)) := ⟨rfl, rfl, rfl, by decide +kernel, rfl, by decide +kernel, by decide +kernel⟩
def m_decide_end : Blk :=
    (dSeq (dAsg (bTup 2 (bCons (bName 3) (bCons (bName 4) bNil))) (dUser d_reached (dACons true (dVar 0) (dACons true (dVar 1) (dACons true (dVar 2) dANil)))))
    (dSeq (dAsg (bName 5) (dLc [6] (sSeq (dVar 3)) (bName 6) (dNot (dTv (dUser d_possible (dACons true (dVar 0) (dACons true (dVar 6) dANil))))) (dUser d_shortest_to (dACons true (dVar 0) (dACons true (dVar 1) (dACons true (dVar 6) (dACons true (dVar 2) dANil)))))))
    (dSeq (dIf (dTv (dVar 5))
    (dRet (kpL [0, 1, 2, 6]) (dTup (dACons false (dC (.str "end")) (dACons true (dMinK (kTup2 (kLen kName) kName) (dVar 5)) dANil))))
    dNx)
    (dRet (kpL [0, 1, 2, 6]) (dIfE (dTv (dVar 4)) (dTup (dACons true (dC (.str "on")) dANil)) (dTup (dACons true (dC (.str "open")) dANil)))))))
def d_decide_end : Fn := dFn 7 3 (kpL [0, 1, 2, 6]) m_decide_end
theorem ok_decide_end (C : Ctx K mg base) : FnOk P w K mg base CX0 6 C.f_decide_end C.g_decide_end ["net", "marks", "most"] (spD ⟨K, w⟩ d_decide_end) :=
  z_defF (N := N_decide_end) (ps := ["net", "marks", "most"]) (kp := (kpL [0, 1, 2, 6])) (m := m_decide_end) C.d_decide_end.fz S_decide_end fun cc A outer s H E hr =>
    (z_cons (z_asg (z_call (ok_reached C) (hr.mono (by decide)) (by rfl) C.d_reached.g C.d_reached.kp C.d_reached.b (z_acons (z_var 0) (z_acons (z_var 1) (z_acons (z_var 2) z_anil)))) (z_gtup (by rfl) (z_gscons (z_gname S_decide_end.nd (by rfl) (by first | exact .inl rfl | exact .inr rfl) (by rfl)) (z_gscons (z_gname S_decide_end.nd (by rfl) (by first | exact .inl rfl | exact .inr rfl) (by rfl)) z_gsnil))))
    (z_cons (z_setLc (i := 5) (own := [("own", 6)]) (by rfl) S_decide_end.nd (by rfl) (by rfl) (by rfl) (by rfl) (z_seq (z_var 3)) (blkOk_by (N := N_decide_end) (sc := defScope (top 7)) (by decide +kernel)) (fun _ _ _ _ _ => (z_gname S_decide_end.nd (by rfl) (by first | exact .inl rfl | exact .inr rfl) (by rfl))) (fun _ _ _ _ _ => (z_tsone (z_not (z_tv (z_call (ok_possible C) (hr.mono (by decide)) (by rfl) C.d_possible.g C.d_possible.kp C.d_possible.b (z_acons (z_var 0) (z_acons (z_var 6) z_anil))))))) (fun _ _ _ _ _ => (z_call (ok_shortest_to C) (hr.mono (by decide)) (by rfl) C.d_shortest_to.g C.d_shortest_to.kp C.d_shortest_to.b (z_acons (z_var 0) (z_acons (z_var 1) (z_acons (z_var 6) (z_acons (z_var 2) z_anil)))))))
    (z_cons (z_if (z_tv (z_var 5))
    (z_sone (z_ret (z_tup (z_acons z_str (z_acons (z_minK (k := 0) (hr.mono (by decide)) (by rfl) (by rfl) C.bm (by rfl) C.n_min (z_var 5) (lamSc_by (by kernel_rfl)) (k_tup2 (k_len k_name (by rfl) C.n_len) k_name) (fun _ _ _ _ _ _ => by rfl) (by rfl)) z_anil)))))
    z_nil)
    (z_sone (z_ret (z_ife (z_tv (z_var 4)) (z_tup (z_acons z_str z_anil)) (z_tup (z_acons z_str z_anil))))))))
def N_law : List Str := ["script", "box", "net", "marks", "most", "rows", "whole", "words", "order", "k", "s", "more", "ends", "own", "due", "live", "home", "far", "x"]
theorem S_law : FnScope N_law ["script"] (defScope (top 21)) := ⟨rfl, rfl, rfl, by decide +kernel, rfl, by decide +kernel, by decide +kernel⟩
def l_law_1 : Blk :=
    (dIf (dTv (dUser d_law_can (dACons true (dVar 2) (dACons true (dSub true (dVar 8) (dVar 9)) (dACons true (dVar 10) dANil)))))
    (dSeq (dAsg (bName 11) (dUser d_law_fired (dACons true (dVar 2) (dACons true (dSub true (dVar 8) (dVar 9)) (dACons true (dVar 10) dANil)))))
    (dIf (dAnd (dTb (dCall fDNotIn (d2 true (dVar 11) (dVar 7)))) (dAnd (dTb (dCall fIn (d2 true (dVar 11) (dVar 5)))) (dTb (dCall fLt (d2 true (dCall fDLen (dACons true (dVar 7) dANil)) (dVar 4))))))
    (dSeq (dDSet (dVar 7) (dVar 11) (dCall fAdd (d2 true (dCall fDGet (d2 true (dVar 7) (dSub true (dVar 8) (dVar 9)))) (dTup (dACons true (dVar 10) dANil)))))
    (dDrop (dAppend false (dVar 8) (dTake 11))))
    dNx))
    dNx)
def l_law_2 : Blk :=
    (dSeq (dFor (kpL [0, 1, 2, 3, 4, 5, 6, 7, 8, 9, 12, 13, 14, 15, 16, 17, 18]) (sRange (dACons true (dCall fLen (dACons true (dSub true (dVar 2) (dC (.int 2))) dANil)) dANil)) (bName 10)
    l_law_1)
    (dAsg (bName 9) (dCall fAdd (d2 true (dVar 9) (dC (.int 1))))))
def l_law_3 : Blk :=
    (dIf (dTb (dCall fEq (d2 true (dCall fLen (dACons true (dLc [10] (sRange (dACons true (dCall fLen (dACons true (dSub true (dVar 2) (dC (.int 2))) dANil)) dANil)) (bName 10) (dTv (dUser d_law_can (dACons true (dVar 2) (dACons true (dVar 13) (dACons true (dVar 10) dANil))))) (dVar 10)) dANil)) (dC (.int 0)))))
    (dDrop (dAppend true (dVar 12) (dTup (dACons true (dCall fLen (dACons true (dCall fDGet (d2 true (dVar 7) (dVar 13))) dANil)) (dACons true (dCall fDGet (d2 true (dVar 7) (dVar 13))) dANil)))))
    dNx)
def l_law_4 : Blk :=
    (dSeq (dAsg (bName 17) (dSub true (dUser d_law_net_reach (dACons true (dVar 2) (dACons true (dVar 13) (dACons true (dVar 4) dANil)))) (dC (.int 0))))
    (dSeq (dAsg (bName 15) (dLc [10] (sSeq (dVar 15)) (bName 10) (dTb (dCall fGt (d2 true (dCall fLen (dACons true (dLc [18] (sSeq (dVar 17)) (bName 18) (dTv (dUser d_law_can (dACons true (dVar 2) (dACons true (dVar 18) (dACons true (dVar 10) dANil))))) (dVar 18)) dANil)) (dC (.int 0))))) (dVar 10)))
    (dIf (dTb (dCall fNotIn (d2 true (dVar 3) (dVar 17))))
    (dAsg (bName 16) (dC (.bl false)))
    dNx)))
def r_law : Blk :=
    (dSeq (dAsg (bName 2) (dUser d_law_safe_net (dACons true (dVar 1) (dACons true (dC (.int 4)) (dACons true (dC (.int 3)) dANil)))))
    (dSeq (dAsg (bName 3) (dUser d_law_marks (dACons true (dVar 1) (dACons true (dVar 2) (dACons true (dC (.int 1)) dANil)))))
    (dSeq (dAsg (bName 4) (dSub false (dLst (dACons true (dC (.int 30)) (dACons true (dC (.int 4)) dANil))) (dCall fInt (dACons true (dCall fEq (d2 true (dUser d_law_draw (dACons true (dVar 1) (dACons true (dC (.int 4)) dANil))) (dC (.int 0)))) dANil))))
    (dSeq (dAsg (bTup 2 (bCons (bName 5) (bCons (bName 6) bNil))) (dUser d_law_net_reach (dACons true (dVar 2) (dACons true (dVar 3) (dACons true (dVar 4) dANil)))))
    (dSeq (dIf (dTb (dCall fGt (d2 true (dCall fLen (dACons true (dVar 5) dANil)) (dC (.int 12)))))
    (dRet (kpL [0, 18]) (dAndV (dUser (d_law_same 8) (dACons true (dUser d_live_steps (dACons true (dVar 2) (dACons true (dVar 3) (dACons true (dC (.int 2)) dANil)))) (dACons true (dC .non) dANil))) (dCall fIs (d2 true (dUser d_comes_home (dACons true (dVar 2) (dACons true (dVar 3) (dACons true (dC (.int 2)) dANil)))) (dC .non)))))
    dNx)
    (dSeq (dAsg (bName 7) (dDisp1 (dVar 3) (dTup dANil)))
    (dSeq (dAsg (bName 8) (dLst (dACons true (dVar 3) dANil)))
    (dSeq (dAsg (bName 9) (dC (.int 0)))
    (dSeq (dWhile (dTb (dCall fLt (d2 true (dVar 9) (dCall fLen (dACons true (dVar 8) dANil)))))
    l_law_2 1000)
    (dSeq (dAsg (bName 12) (dLst dANil))
    (dSeq (dFor (kpL [0, 1, 2, 3, 4, 5, 6, 7, 8, 9, 10, 11, 12, 14, 15, 16, 17, 18]) (sSeq (dVar 5)) (bName 13)
    l_law_3)
    (dSeq (dAsg (bName 14) (dTup (dACons true (dC (.str "open")) dANil)))
    (dSeq (dIf (dTv (dVar 6))
    (dAsg (bName 14) (dTup (dACons true (dC (.str "on")) dANil)))
    dNx)
    (dSeq (dIf (dTb (dCall fGt (d2 true (dCall fLen (dACons true (dVar 12) dANil)) (dC (.int 0)))))
    (dAsg (bName 14) (dTup (dACons true (dC (.str "end")) (dACons true (dSub true (dCall fMin1 (dACons true (dVar 12) dANil)) (dC (.int 1))) dANil))))
    dNx)
    (dSeq (dIf (dNot (dTv (dUser (d_law_same 8) (dACons true (dUser d_decide_end (dACons true (dVar 2) (dACons true (dVar 3) (dACons true (dVar 4) dANil)))) (dACons true (dVar 14) dANil)))))
    (dRet (kpL [0, 18]) (dC (.bl false)))
    dNx)
    (dSeq (dIf (dNot (dTv (dVar 6)))
    (dRet (kpL [0, 18]) (dAndV (dCall fIs (d2 true (dUser d_live_steps (dACons true (dVar 2) (dACons true (dVar 3) (dACons true (dVar 4) dANil)))) (dC .non))) (dCall fIs (d2 true (dUser d_comes_home (dACons true (dVar 2) (dACons true (dVar 3) (dACons true (dVar 4) dANil)))) (dC .non)))))
    dNx)
    (dSeq (dAsg (bName 15) (dListRg (dCall fLen (dACons true (dSub true (dVar 2) (dC (.int 2))) dANil))))
    (dSeq (dAsg (bName 16) (dC (.bl true)))
    (dSeq (dFor (kpL [0, 1, 2, 3, 4, 5, 6, 7, 8, 9, 10, 11, 12, 14, 18]) (sSeq (dVar 5)) (bName 13)
    l_law_4)
    (dRet (kpL [0, 18]) (dAndV (dUser (d_law_same 8) (dACons true (dUser d_live_steps (dACons true (dVar 2) (dACons true (dVar 3) (dACons true (dVar 4) dANil)))) (dACons true (dCall fTuple (dACons true (dVar 15) dANil)) dANil))) (dUser (d_law_same 8) (dACons true (dUser d_comes_home (dACons true (dVar 2) (dACons true (dVar 3) (dACons true (dVar 4) dANil)))) (dACons true (dVar 16) dANil))))))))))))))))))))))))
def m_law : Blk :=
    (dSeq (dAsg (bName 1) (dUser d_law_box (dACons true (dVar 0) (dACons true (dC (.int 0)) (dACons true (dC (.int 62)) dANil)))))
    r_law)
def d_law : Fn := dFn 19 1 (kpL [0, 18]) m_law
theorem ok_law (C : Ctx K mg base) : FnOk P w K mg base CX0 9 C.f_law C.g_law ["script"] (spD ⟨K, w⟩ d_law) :=
  z_defF (N := N_law) (ps := ["script"]) (kp := (kpL [0, 18])) (m := m_law) C.d_law.fz S_law fun cc A outer s H E hr =>
    (z_cons (z_set (i := 1) S_law.nd (by rfl) (by first | exact .inl rfl | exact .inr rfl) (by rfl) (z_call (ok_law_box C) (hr.mono (by decide)) (by rfl) C.d_law_box.g C.d_law_box.kp C.d_law_box.b (z_acons (z_var 0) (z_acons z_int (z_acons z_int z_anil)))))
    (z_cons (z_set (i := 2) S_law.nd (by rfl) (by first | exact .inl rfl | exact .inr rfl) (by rfl) (z_call (ok_law_safe_net C) (hr.mono (by decide)) (by rfl) C.d_law_safe_net.g C.d_law_safe_net.kp C.d_law_safe_net.b (z_acons (z_var 1) (z_acons z_int (z_acons z_int z_anil)))))
    (z_cons (z_set (i := 3) S_law.nd (by rfl) (by first | exact .inl rfl | exact .inr rfl) (by rfl) (z_call (ok_law_marks C) (hr.mono (by decide)) (by rfl) C.d_law_marks.g C.d_law_marks.kp C.d_law_marks.b (z_acons (z_var 1) (z_acons (z_var 2) (z_acons z_int z_anil)))))
    (z_cons (z_set (i := 4) S_law.nd (by rfl) (by first | exact .inl rfl | exact .inr rfl) (by rfl) (z_sub (z_lst (z_acons z_int (z_acons z_int z_anil))) (z_callTy c_int (by rfl) C.n_int bb_int (z_acons (z_cmp (o_eq (h64 hr)) (z_call (ok_law_draw C) (hr.mono (by decide)) (by rfl) C.d_law_draw.g C.d_law_draw.kp C.d_law_draw.b (z_acons (z_var 1) (z_acons z_int z_anil))) z_int) z_anil))))
    (z_cons (z_asg (z_call (ok_law_net_reach C) (hr.mono (by decide)) (by rfl) C.d_law_net_reach.g C.d_law_net_reach.kp C.d_law_net_reach.b (z_acons (z_var 2) (z_acons (z_var 3) (z_acons (z_var 4) z_anil)))) (z_gtup (by rfl) (z_gscons (z_gname S_law.nd (by rfl) (by first | exact .inl rfl | exact .inr rfl) (by rfl)) (z_gscons (z_gname S_law.nd (by rfl) (by first | exact .inl rfl | exact .inr rfl) (by rfl)) z_gsnil))))
    (z_cons (z_if (z_tcmp (o_gt (h64 hr)) (z_callB c_len (by rfl) C.n_len bb_len (z_acons (z_var 5) z_anil)) z_int)
    (z_sone (z_ret (z_and (z_call (ok_law_same C 8) (hr.mono (by decide)) (by rfl) C.d_law_same.g C.d_law_same.kp C.d_law_same.b (z_acons (z_call (ok_live_steps C) (hr.mono (by decide)) (by rfl) C.d_live_steps.g C.d_live_steps.kp C.d_live_steps.b (z_acons (z_var 2) (z_acons (z_var 3) (z_acons z_int z_anil)))) (z_acons z_non z_anil))) (z_one (z_cmp (o_is) (z_call (ok_comes_home C) (hr.mono (by decide)) (by rfl) C.d_comes_home.g C.d_comes_home.kp C.d_comes_home.b (z_acons (z_var 2) (z_acons (z_var 3) (z_acons z_int z_anil)))) z_non)))))
    z_nil)
    (z_cons (z_set (i := 7) S_law.nd (by rfl) (by first | exact .inl rfl | exact .inr rfl) (by rfl) (z_disp1 (h65 hr) (z_var 3) (z_tup z_anil)))
    (z_cons (z_set (i := 8) S_law.nd (by rfl) (by first | exact .inl rfl | exact .inr rfl) (by rfl) (z_lst (z_acons (z_var 3) z_anil)))
    (z_cons (z_set (i := 9) S_law.nd (by rfl) (by first | exact .inl rfl | exact .inr rfl) (by rfl) z_int)
    (z_cons (z_while 1000 .never (z_tcmp (o_lt (h64 hr)) (z_var 9) (z_callB c_len (by rfl) C.n_len bb_len (z_acons (z_var 8) z_anil)))
    (z_cons (z_for (kp' := (kpL [0, 1, 2, 3, 4, 5, 6, 7, 8, 9, 12, 13, 14, 15, 16, 17, 18])) .never (by rfl) (z_range1 (by rfl) C.n_range (z_acons (z_callB c_len (by rfl) C.n_len bb_len (z_acons (z_sub (z_var 2) z_int) z_anil)) z_anil) (h1 := fun _ _ _ h => acons_len1 h)) (z_gname S_law.nd (by rfl) (by first | exact .inl rfl | exact .inr rfl) (by rfl))
    (z_sone (z_if (z_tv (z_call (ok_law_can C) (hr.mono (by decide)) (by rfl) C.d_law_can.g C.d_law_can.kp C.d_law_can.b (z_acons (z_var 2) (z_acons (z_sub (z_var 8) (z_var 9)) (z_acons (z_var 10) z_anil)))))
    (z_cons (z_set (i := 11) S_law.nd (by rfl) (by first | exact .inl rfl | exact .inr rfl) (by rfl) (z_call (ok_law_fired C) (hr.mono (by decide)) (by rfl) C.d_law_fired.g C.d_law_fired.kp C.d_law_fired.b (z_acons (z_var 2) (z_acons (z_sub (z_var 8) (z_var 9)) (z_acons (z_var 10) z_anil)))))
    (z_sone (z_if (PW.pt (z_wand (z_tcmp (o_dnotin (h65 hr)) (z_var 11) (z_var 7)) (z_wand (z_tcmp (o_in (h65 hr)) (z_var 11) (z_var 5)) (z_wand1 (z_tcmp (o_lt (h64 hr)) (z_callB c_dlen (by rfl) C.n_len bb_len (z_acons (z_var 7) z_anil)) (z_var 4))))))
    (z_cons (z_dset (h65 hr) (z_bin o_add (z_dget (h65 hr) (z_var 7) (z_sub (z_var 8) (z_var 9))) (z_tup (z_acons (z_var 10) z_anil))) (z_var 7) (z_var 11))
    (z_sone (z_expr (z_append (z_var 8) (z_take 11)))))
    z_nil)))
    z_nil)) (kpL_sub (by decide)))
    (z_sone (z_set (i := 9) S_law.nd (by rfl) (by first | exact .inl rfl | exact .inr rfl) (by rfl) (z_bin o_add (z_var 9) z_int)))))
    (z_cons (z_set (i := 12) S_law.nd (by rfl) (by first | exact .inl rfl | exact .inr rfl) (by rfl) (z_lst z_anil))
    (z_cons (z_for (kp' := (kpL [0, 1, 2, 3, 4, 5, 6, 7, 8, 9, 10, 11, 12, 14, 15, 16, 17, 18])) .never (by rfl) (z_seq (z_var 5)) (z_gname S_law.nd (by rfl) (by first | exact .inl rfl | exact .inr rfl) (by rfl))
    (z_sone (z_if (z_tcmp (o_eq (h64 hr)) (z_callB c_len (by rfl) C.n_len bb_len (z_acons (z_lc (own := [("s", 10)]) (by rfl) S_law.nd (z_range1 (by rfl) C.n_range (z_acons (z_callB c_len (by rfl) C.n_len bb_len (z_acons (z_sub (z_var 2) z_int) z_anil)) z_anil) (h1 := fun _ _ _ h => acons_len1 h)) (blkOk_by (N := N_law) (sc := defScope (top 21)) (by decide +kernel)) (fun _ _ _ _ _ => (z_gname S_law.nd (by rfl) (by first | exact .inl rfl | exact .inr rfl) (by rfl))) (fun _ _ _ _ _ => (z_tsone (z_tv (z_call (ok_law_can C) (hr.mono (by decide)) (by rfl) C.d_law_can.g C.d_law_can.kp C.d_law_can.b (z_acons (z_var 2) (z_acons (z_var 13) (z_acons (z_var 10) z_anil))))))) (fun _ _ _ _ _ => (z_var 10))) z_anil)) z_int)
    (z_sone (z_expr (z_append (z_var 12) (z_tup (z_acons (z_callB c_len (by rfl) C.n_len bb_len (z_acons (z_dget (h65 hr) (z_var 7) (z_var 13)) z_anil)) (z_acons (z_dget (h65 hr) (z_var 7) (z_var 13)) z_anil))))))
    z_nil)) (kpL_sub (by decide)))
    (z_cons (z_set (i := 14) S_law.nd (by rfl) (by first | exact .inl rfl | exact .inr rfl) (by rfl) (z_tup (z_acons z_str z_anil)))
    (z_cons (z_if (z_tv (z_var 6))
    (z_sone (z_set (i := 14) S_law.nd (by rfl) (by first | exact .inl rfl | exact .inr rfl) (by rfl) (z_tup (z_acons z_str z_anil))))
    z_nil)
    (z_cons (z_if (z_tcmp (o_gt (h64 hr)) (z_callB c_len (by rfl) C.n_len bb_len (z_acons (z_var 12) z_anil)) z_int)
    (z_sone (z_set (i := 14) S_law.nd (by rfl) (by first | exact .inl rfl | exact .inr rfl) (by rfl) (z_tup (z_acons z_str (z_acons (z_sub (z_callB (c_min1 rfl (h64 hr)) (by rfl) C.n_min bb_min (z_acons (z_var 12) z_anil)) z_int) z_anil)))))
    z_nil)
    (z_cons (z_if (z_not (z_tv (z_call (ok_law_same C 8) (hr.mono (by decide)) (by rfl) C.d_law_same.g C.d_law_same.kp C.d_law_same.b (z_acons (z_call (ok_decide_end C) (hr.mono (by decide)) (by rfl) C.d_decide_end.g C.d_decide_end.kp C.d_decide_end.b (z_acons (z_var 2) (z_acons (z_var 3) (z_acons (z_var 4) z_anil)))) (z_acons (z_var 14) z_anil)))))
    (z_sone (z_ret z_bl))
    z_nil)
    (z_cons (z_if (z_not (z_tv (z_var 6)))
    (z_sone (z_ret (z_and (z_cmp (o_is) (z_call (ok_live_steps C) (hr.mono (by decide)) (by rfl) C.d_live_steps.g C.d_live_steps.kp C.d_live_steps.b (z_acons (z_var 2) (z_acons (z_var 3) (z_acons (z_var 4) z_anil)))) z_non) (z_one (z_cmp (o_is) (z_call (ok_comes_home C) (hr.mono (by decide)) (by rfl) C.d_comes_home.g C.d_comes_home.kp C.d_comes_home.b (z_acons (z_var 2) (z_acons (z_var 3) (z_acons (z_var 4) z_anil)))) z_non)))))
    z_nil)
    (z_cons (z_set (i := 15) S_law.nd (by rfl) (by first | exact .inl rfl | exact .inr rfl) (by rfl) (z_listRg rfl (by rfl) C.n_list (by rfl) C.n_range (z_callB c_len (by rfl) C.n_len bb_len (z_acons (z_sub (z_var 2) z_int) z_anil))))
    (z_cons (z_set (i := 16) S_law.nd (by rfl) (by first | exact .inl rfl | exact .inr rfl) (by rfl) z_bl)
    (z_cons (z_for (kp' := (kpL [0, 1, 2, 3, 4, 5, 6, 7, 8, 9, 10, 11, 12, 14, 18])) .never (by rfl) (z_seq (z_var 5)) (z_gname S_law.nd (by rfl) (by first | exact .inl rfl | exact .inr rfl) (by rfl))
    (z_cons (z_set (i := 17) S_law.nd (by rfl) (by first | exact .inl rfl | exact .inr rfl) (by rfl) (z_sub (z_call (ok_law_net_reach C) (hr.mono (by decide)) (by rfl) C.d_law_net_reach.g C.d_law_net_reach.kp C.d_law_net_reach.b (z_acons (z_var 2) (z_acons (z_var 13) (z_acons (z_var 4) z_anil)))) z_int))
    (z_cons (z_setLc (i := 15) (own := [("s", 10)]) (by rfl) S_law.nd (by rfl) (by rfl) (by rfl) (by rfl) (z_seq (z_var 15)) (blkOk_by (N := N_law) (sc := defScope (top 21)) (by decide +kernel)) (fun _ _ _ _ _ => (z_gname S_law.nd (by rfl) (by first | exact .inl rfl | exact .inr rfl) (by rfl))) (fun _ _ _ _ _ => (z_tsone (z_tcmp (o_gt (h64 hr)) (z_callB c_len (by rfl) C.n_len bb_len (z_acons (z_lc (own := [("x", 18)]) (by rfl) S_law.nd (z_seq (z_var 17)) (blkOk_by (by kernel_rfl)) (fun _ _ _ _ _ => (z_gname S_law.nd (by rfl) (by first | exact .inl rfl | exact .inr rfl) (by rfl))) (fun _ _ _ _ _ => (z_tsone (z_tv (z_call (ok_law_can C) (hr.mono (by decide)) (by rfl) C.d_law_can.g C.d_law_can.kp C.d_law_can.b (z_acons (z_var 2) (z_acons (z_var 18) (z_acons (z_var 10) z_anil))))))) (fun _ _ _ _ _ => (z_var 18))) z_anil)) z_int))) (fun _ _ _ _ _ => (z_var 10)))
    (z_sone (z_if (z_tcmp (o_notIn (h65 hr)) (z_var 3) (z_var 17))
    (z_sone (z_set (i := 16) S_law.nd (by rfl) (by first | exact .inl rfl | exact .inr rfl) (by rfl) z_bl))
    z_nil)))) (kpL_sub (by decide)))
    (z_sone (z_ret (z_and (z_call (ok_law_same C 8) (hr.mono (by decide)) (by rfl) C.d_law_same.g C.d_law_same.kp C.d_law_same.b (z_acons (z_call (ok_live_steps C) (hr.mono (by decide)) (by rfl) C.d_live_steps.g C.d_live_steps.kp C.d_live_steps.b (z_acons (z_var 2) (z_acons (z_var 3) (z_acons (z_var 4) z_anil)))) (z_acons (z_callTy c_tuple (by rfl) C.n_tuple bb_tuple (z_acons (z_var 15) z_anil)) z_anil))) (z_one (z_call (ok_law_same C 8) (hr.mono (by decide)) (by rfl) C.d_law_same.g C.d_law_same.kp C.d_law_same.b (z_acons (z_call (ok_comes_home C) (hr.mono (by decide)) (by rfl) C.d_comes_home.g C.d_comes_home.kp C.d_comes_home.b (z_acons (z_var 2) (z_acons (z_var 3) (z_acons (z_var 4) z_anil)))) (z_acons (z_var 16) z_anil)))))))))))))))))))))))))))
end
end P07


set_option Elab.async false
set_option linter.all false
set_option maxRecDepth 100000
set_option maxHeartbeats 20000000
set_option synthInstance.maxHeartbeats 400000
set_option synthInstance.maxSize 4000
namespace P07
open PySem PySem.Spec PyProof.Rows L2 Z Y
def n_law_safe_net_b1 (many : Int) : Int → (Box × (List ((List Int) × (List Int)))) → Option (Box × (List ((List Int) × (List Int)))) :=
  fun (t8' : Int) (s7' : Box × (List ((List Int) × (List Int)))) =>
  bnd (drawO s7'.1 many) fun v9' =>
  lv v9'.1 fun (x : Int) =>
  bnd (drawO v9'.2 many) fun v11' =>
  lv v11'.1 fun (y : Int) =>
  bnd (drawO v11'.2 many) fun v13' =>
  lv v13'.1 fun (z : Int) =>
  bnd (repO [(0 : Int)] many) fun a15' =>
  lv a15' fun (takes : (List Int)) =>
  bnd (repO [(0 : Int)] many) fun a17' =>
  lv a17' fun (gives : (List Int)) =>
  bnd (setO takes x (1 : Int)) fun takes19' =>
  bnd (setO gives y (1 : Int)) fun gives20' =>
  bnd (andE (!decide (z = x)) (bnd (andE (!decide (z = y)) (bnd (drawO v13'.2 (2 : Int)) fun v21' => some ((decide (v21'.1 = (0 : Int))), v21'.2)) v13'.2) fun s23' => some (s23'.1, s23'.2)) v13'.2) fun s25' =>
  bnd (if s25'.1 = true then (bnd (setO takes19' z (1 : Int)) fun takes27' =>
  bnd (drawO s25'.2 (2 : Int)) fun v28' =>
  bnd (if (decide (v28'.1 = (0 : Int))) = true then (bnd (setO gives20' z (1 : Int)) fun gives30' =>
  some gives30') else (some gives20')) fun (gives : (List Int)) =>
  some (v28'.2, takes27', gives)) else (some (s25'.2, takes19', gives20'))) fun (s33' : Box × (List Int) × (List Int)) =>
  bnd (pushO s7'.2 (s33'.2.1, s33'.2.2)) fun steps34' =>
  some (s33'.1, steps34')
def n_law_safe_net (box_ : Box) (most : Int) (wide : Int) : Option ((Str × Int × (List ((List Int) × (List Int)))) × Box) :=
  bnd (drawO box_ (most - (1 : Int))) fun v1' =>
  lv ((2 : Int) + v1'.1) fun (many : Int) =>
  lv [] fun (steps : (List ((List Int) × (List Int)))) =>
  bnd (drawO v1'.2 wide) fun v3' =>
  bnd (rngO (0 : Int) ((1 : Int) + v3'.1)) fun r5' =>
  bnd (forN (n_law_safe_net_b1 many) r5' (v3'.2, steps)) fun (s7' : Box × (List ((List Int) × (List Int)))) =>
  some (((("net" : String) : Str), many, s7'.2), s7'.1)
def n_law_marks (box_ : Box) (net : (Str × Int × (List ((List Int) × (List Int))))) (most : Int) : Option ((List Int) × Box) :=
  bnd (rngO (0 : Int) net.2.1) fun r1' =>
  bnd (lcS (fun t3' s4' => some (true, s4')) (fun t3' s4' => bnd (drawO s4' (most + (1 : Int))) fun v5' => some (v5'.1, v5'.2)) r1' box_) fun a7' =>
  some (a7'.1, a7'.2)
def n_law_can (net : (Str × Int × (List ((List Int) × (List Int))))) (marks : (List Int)) (step : Int) : Option Bool :=
  bnd (rngO (0 : Int) net.2.1) fun r1' =>
  bnd (lcO (fun t3' => (bnd (L2.atI marks t3') fun a4' => bnd (L2.atI net.2.2 step) fun a6' => bnd (L2.atI a6'.1 t3') fun a8' => some ((decide (a4' < a8'))))) (fun t3' => (some (t3'))) r1') fun a10' =>
  some (decide ((List.length a10' : Int) = (0 : Int)))
def n_law_fired (net : (Str × Int × (List ((List Int) × (List Int))))) (marks : (List Int)) (step : Int) : Option (List Int) :=
  bnd (rngO (0 : Int) net.2.1) fun r1' =>
  bnd (lcO (fun t3' => some true) (fun t3' => (bnd (L2.atI marks t3') fun a4' => bnd (L2.atI net.2.2 step) fun a6' => bnd (L2.atI a6'.1 t3') fun a8' => bnd (L2.atI net.2.2 step) fun a10' => bnd (L2.atI a10'.2 t3') fun a12' => some (((a4' - a8') + a12')))) r1') fun a14' =>
  some a14'
def n_law_net_reach_b1 (net : (Str × Int × (List ((List Int) × (List Int))))) (most : Int) (s1' : ((List (List Int)) × Int)) : Int → ((List (List Int))) → Option (Res ((List (List Int))) ((List (List Int)) × Bool)) :=
  fun (t4' : Int) (found' : (List (List Int))) =>
  bnd (L2.atI found' s1'.2) fun a7' =>
  bnd (n_law_can net a7' t4') fun a9' =>
  if a9' = true then (bnd (L2.atI found' s1'.2) fun a13' =>
  bnd (n_law_fired net a13' t4') fun a15' =>
  lv a15' fun (more : (List Int)) =>
  if (!inB more found') = true then (if (decide ((List.length found' : Int) = most)) = true then (some (.rt (found', false))) else
  bnd (pushO found' more) fun found17' =>
  some (.nx found17')) else
  some (.nx found')) else
  some (.nx found')
def n_law_net_reach_b2 (net : (Str × Int × (List ((List Int) × (List Int))))) (most : Int) (k : Int) : ((List (List Int)) × Int) → Option (Res ((List (List Int)) × Int) ((List (List Int)) × Bool)) :=
  fun (s1' : (List (List Int)) × Int) =>
  bnd (rngO (0 : Int) (List.length net.2.2 : Int)) fun r2' =>
  bnd (forR (ρ := ((List (List Int)) × Bool)) (n_law_net_reach_b1 net most s1') r2' s1'.1) (onR (fun r => some (.rt r)) fun (found' : (List (List Int))) =>
  lv (s1'.2 + (1 : Int)) fun (k : Int) =>
  some (.nx (found', k)))
def n_law_net_reach (net : (Str × Int × (List ((List Int) × (List Int))))) (marks : (List Int)) (most : Int) : Option ((List (List Int)) × Bool) :=
  lv [marks] fun (found : (List (List Int))) =>
  lv (0 : Int) fun (k : Int) =>
  bnd (whileR (ρ := ((List (List Int)) × Bool)) (fun (s1' : (List (List Int)) × Int) => (some ((decide (s1'.2 < (List.length s1'.1 : Int)))))) (n_law_net_reach_b2 net most k) 1000 (found, k)) (onR some fun (s1' : (List (List Int)) × Int) =>
  some (s1'.1, true))
def n_can (net : (Str × Int × (List ((List Int) × (List Int))))) (marks : (List Int)) (step : Int) : Option Bool :=
  bnd (L2.atI net.2.2 step) fun a1' =>
  bnd (allO (fun t3' => some true) (fun t3' => (some ((decide (t3'.2 ≤ t3'.1))))) (List.zip marks a1'.1)) fun a4' =>
  some a4'
def n_possible (net : (Str × Int × (List ((List Int) × (List Int))))) (marks : (List Int)) : Option (List Int) :=
  bnd (rngO (0 : Int) (List.length net.2.2 : Int)) fun r1' =>
  bnd (lcO (fun t3' => (bnd (n_can net marks t3') fun a4' => some (a4'))) (fun t3' => (some (t3'))) r1') fun a6' =>
  some a6'
def n_done (net : (Str × Int × (List ((List Int) × (List Int))))) (marks : (List Int)) (step : Int) : Option (List Int) :=
  bnd (L2.atI net.2.2 step) fun a1' =>
  lv a1' fun t3' =>
  bnd (lcO (fun t4' => some true) (fun t4' => (some (((t4'.1 - t4'.2.1) + t4'.2.2)))) (List.zip marks (List.zip t3'.1 t3'.2))) fun a5' =>
  some a5'
def n_reached_b1 (net : (Str × Int × (List ((List Int) × (List Int))))) (most : Int) (s1' : ((List (List Int)) × Int)) : Int → ((List (List Int))) → Option (Res ((List (List Int))) ((List (List Int)) × Bool)) :=
  fun (t8' : Int) (found' : (List (List Int))) =>
  bnd (L2.atI found' s1'.2) fun a11' =>
  bnd (n_done net a11' t8') fun a13' =>
  lv a13' fun (following : (List Int)) =>
  if (!inB following found') = true then (if (decide ((List.length found' : Int) = most)) = true then (some (.rt (found', false))) else
  bnd (pushO found' following) fun found15' =>
  some (.nx found15')) else
  some (.nx found')
def n_reached_b2 (net : (Str × Int × (List ((List Int) × (List Int))))) (most : Int) (place : Int) : ((List (List Int)) × Int) → Option (Res ((List (List Int)) × Int) ((List (List Int)) × Bool)) :=
  fun (s1' : (List (List Int)) × Int) =>
  bnd (L2.atI s1'.1 s1'.2) fun a4' =>
  bnd (n_possible net a4') fun a6' =>
  bnd (forR (ρ := ((List (List Int)) × Bool)) (n_reached_b1 net most s1') a6' s1'.1) (onR (fun r => some (.rt r)) fun (found' : (List (List Int))) =>
  lv (s1'.2 + (1 : Int)) fun (place : Int) =>
  some (.nx (found', place)))
def n_reached (net : (Str × Int × (List ((List Int) × (List Int))))) (marks : (List Int)) (most : Int) : Option ((List (List Int)) × Bool) :=
  lv [marks] fun (found : (List (List Int))) =>
  lv (0 : Int) fun (place : Int) =>
  bnd (whileR (ρ := ((List (List Int)) × Bool)) (fun (s1' : (List (List Int)) × Int) => (some ((decide (s1'.2 < (List.length s1'.1 : Int)))))) (n_reached_b2 net most place) 1000 (found, place)) (onR some fun (s1' : (List (List Int)) × Int) =>
  some (s1'.1, true))
def n_live_steps_b1 (net : (Str × Int × (List ((List Int) × (List Int))))) (most : Int) (t3' : ((List (List Int)) × Bool)) (found : (List Int)) : Int → ((List Int)) → Option ((List Int)) :=
  fun (t6' : Int) (found' : (List Int)) =>
  bnd (allO (fun t7' => some true) (fun t7' => (bnd (n_reached net t7' most) fun a8' => bnd (anyO (fun t10' => some true) (fun t10' => (bnd (n_can net t10' t6') fun a11' => some (a11'))) a8'.1) fun a13' => some (a13'))) t3'.1) fun a15' =>
  bnd (if a15' = true then (bnd (pushO found' t6') fun found17' =>
  some found17') else (some found')) fun (found : (List Int)) =>
  some found
def n_live_steps (net : (Str × Int × (List ((List Int) × (List Int))))) (marks : (List Int)) (most : Int) : Option (Option (List Int)) :=
  bnd (n_reached net marks most) fun a1' =>
  lv a1' fun t3' =>
  if (!t3'.2) = true then (some (none : (Option (List Int)))) else
  lv [] fun (found : (List Int)) =>
  bnd (rngO (0 : Int) (List.length net.2.2 : Int)) fun r4' =>
  bnd (forN (n_live_steps_b1 net most t3' found) r4' found) fun (found' : (List Int)) =>
  some (some found')
def n_comes_home (net : (Str × Int × (List ((List Int) × (List Int))))) (marks : (List Int)) (most : Int) : Option (Option Bool) :=
  bnd (n_reached net marks most) fun a1' =>
  lv a1' fun t3' =>
  bnd (if t3'.2 = true then (bnd (allO (fun t9' => some true) (fun t9' => (bnd (n_reached net t9' most) fun a10' => some ((inB marks a10'.1)))) t3'.1) fun a12' => some ((some a12'))) else (some ((none : (Option Bool))))) fun a14' =>
  some a14'
def n_shortest_to_b1 (net : (Str × Int × (List ((List Int) × (List Int))))) (most : Int) (own : (List Int)) : Int → ((List ((List Int) × (List Int))) × (List (List Int))) → Option ((List ((List Int) × (List Int))) × (List (List Int))) :=
  fun (t9' : Int) (s8' : (List ((List Int) × (List Int))) × (List (List Int))) =>
  bnd (n_done net own t9') fun a10' =>
  lv a10' fun (following : (List Int)) =>
  bnd (if ((!dHas s8'.1 following) && (decide (((List.length s8'.1 : Nat) : Int) < most))) = true then (bnd (dGet s8'.1 own) fun a12' =>
  bnd (catO a12' [t9']) fun a14' =>
  bnd (dPutO s8'.1 following a14') fun words16' =>
  bnd (pushO s8'.2 following) fun waiting17' =>
  some (words16', waiting17')) else (some (s8'.1, s8'.2))) fun (s20' : (List ((List Int) × (List Int))) × (List (List Int))) =>
  some (s20'.1, s20'.2)
def n_shortest_to_b2 (net : (Str × Int × (List ((List Int) × (List Int))))) (goal : (List Int)) (most : Int) : ((List ((List Int) × (List Int))) × (List (List Int))) → Option (Res ((List ((List Int) × (List Int))) × (List (List Int))) (Option (List Int))) :=
  fun (s1' : (List ((List Int) × (List Int))) × (List (List Int))) =>
  bnd (popI s1'.2 (0 : Int)) fun q2' =>
  lv q2'.1 fun (own : (List Int)) =>
  if (decide (own = goal)) = true then (bnd (dGet s1'.1 own) fun a4' =>
  some (.rt (some a4'))) else
  bnd (n_possible net own) fun a6' =>
  bnd (forN (n_shortest_to_b1 net most own) a6' (s1'.1, q2'.2)) fun (s8' : (List ((List Int) × (List Int))) × (List (List Int))) =>
  some (.nx (s8'.1, s8'.2))
def n_shortest_to (net : (Str × Int × (List ((List Int) × (List Int))))) (marks : (List Int)) (goal : (List Int)) (most : Int) : Option (Option (List Int)) :=
  lv [(marks, [])] fun (words : (List ((List Int) × (List Int)))) =>
  lv [marks] fun (waiting : (List (List Int))) =>
  bnd (whileR (ρ := (Option (List Int))) (fun (s1' : (List ((List Int) × (List Int))) × (List (List Int))) => (some ((!List.isEmpty s1'.2)))) (n_shortest_to_b2 net goal most) 1000 (words, waiting)) (onR some fun (s1' : (List ((List Int) × (List Int))) × (List (List Int))) =>
  some (none : (Option (List Int))))
def n_decide_end (net : (Str × Int × (List ((List Int) × (List Int))))) (marks : (List Int)) (most : Int) : Option ((Str) ⊕ (Str × (List Int))) :=
  bnd (n_reached net marks most) fun a1' =>
  lv a1' fun t3' =>
  bnd (lcO (fun t4' => (bnd (n_possible net t4') fun a5' => some ((!(!List.isEmpty a5'))))) (fun t4' => (bnd (n_shortest_to net marks t4' most) fun a7' => some (a7'))) t3'.1) fun a9' =>
  lv a9' fun (words : (List (Option (List Int)))) =>
  if (!List.isEmpty words) = true then (bnd (unO words) fun a11' =>
  bnd (minKO (Er (Rc Ei (R1 (Et Ei))) rfl) okL (fun z => ((List.length z : Int), z)) a11') fun a13' =>
  some (Sum.inr ((("end" : String) : Str), a13'))) else
  some (if t3'.2 = true then (Sum.inl (("on" : String) : Str)) else (Sum.inl (("open" : String) : Str)))
def n_law_b1 (net : (Str × Int × (List ((List Int) × (List Int))))) (most : Int) (t11' : ((List (List Int)) × Bool)) (s24' : ((List ((List Int) × (List Int))) × (List (List Int)) × Int)) : Int → ((List ((List Int) × (List Int))) × (List (List Int))) → Option ((List ((List Int) × (List Int))) × (List (List Int))) :=
  fun (t28' : Int) (s27' : (List ((List Int) × (List Int))) × (List (List Int))) =>
  bnd (L2.atI s27'.2 s24'.2.2) fun a31' =>
  bnd (n_law_can net a31' t28') fun a33' =>
  bnd (if a33' = true then (bnd (L2.atI s27'.2 s24'.2.2) fun a37' =>
  bnd (n_law_fired net a37' t28') fun a39' =>
  lv a39' fun (more : (List Int)) =>
  bnd (if ((!dHas s27'.1 more) && ((inB more t11'.1) && (decide (((List.length s27'.1 : Nat) : Int) < most)))) = true then (bnd (L2.atI s27'.2 s24'.2.2) fun a41' =>
  bnd (dGet s27'.1 a41') fun a43' =>
  bnd (catO a43' [t28']) fun a45' =>
  bnd (dPutO s27'.1 more a45') fun words47' =>
  bnd (pushO s27'.2 more) fun order48' =>
  some (words47', order48')) else (some (s27'.1, s27'.2))) fun (s51' : (List ((List Int) × (List Int))) × (List (List Int))) =>
  some (s51'.1, s51'.2)) else (some (s27'.1, s27'.2))) fun (s52' : (List ((List Int) × (List Int))) × (List (List Int))) =>
  some (s52'.1, s52'.2)
def n_law_b2 (net : (Str × Int × (List ((List Int) × (List Int))))) (marks : (List Int)) (most : Int) (live : (List Int)) (home : Bool) : (List Int) → ((List Int) × Bool) → Option ((List Int) × Bool) :=
  fun (t84' : (List Int)) (s83' : (List Int) × Bool) =>
  bnd (n_law_net_reach net t84' most) fun a85' =>
  lv a85'.1 fun (far : (List (List Int))) =>
  bnd (lcO (fun t87' => (bnd (lcO (fun t88' => (bnd (n_law_can net t88' t87') fun a89' => some (a89'))) (fun t88' => (some (t88'))) far) fun a91' => some ((decide ((0 : Int) < (List.length a91' : Int)))))) (fun t87' => (some (t87'))) s83'.1) fun a93' =>
  lv a93' fun (live : (List Int)) =>
  bnd (if (!inB marks far) = true then (lv false fun (home : Bool) =>
  some home) else (some s83'.2)) fun (home : Bool) =>
  some (live, home)
def n_law_b3 (net : (Str × Int × (List ((List Int) × (List Int))))) (s24' : ((List ((List Int) × (List Int))) × (List (List Int)) × Int)) (ends : (List (Int × (List Int)))) : (List Int) → ((List (Int × (List Int)))) → Option ((List (Int × (List Int)))) :=
  fun (t53' : (List Int)) (ends' : (List (Int × (List Int)))) =>
  bnd (rngO (0 : Int) (List.length net.2.2 : Int)) fun r54' =>
  bnd (lcO (fun t56' => (bnd (n_law_can net t53' t56') fun a57' => some (a57'))) (fun t56' => (some (t56'))) r54') fun a59' =>
  bnd (if (decide ((List.length a59' : Int) = (0 : Int))) = true then (bnd (dGet s24'.1 t53') fun a61' =>
  bnd (dGet s24'.1 t53') fun a63' =>
  bnd (pushO ends' ((List.length a61' : Int), a63')) fun ends65' =>
  some ends65') else (some ends')) fun (ends : (List (Int × (List Int)))) =>
  some ends
def n_law_b4 (net : (Str × Int × (List ((List Int) × (List Int))))) (most : Int) (t11' : ((List (List Int)) × Bool)) (k : Int) : ((List ((List Int) × (List Int))) × (List (List Int)) × Int) → Option ((List ((List Int) × (List Int))) × (List (List Int)) × Int) :=
  fun (s24' : (List ((List Int) × (List Int))) × (List (List Int)) × Int) =>
  bnd (rngO (0 : Int) (List.length net.2.2 : Int)) fun r25' =>
  bnd (forN (n_law_b1 net most t11' s24') r25' (s24'.1, s24'.2.1)) fun (s27' : (List ((List Int) × (List Int))) × (List (List Int))) =>
  lv (s24'.2.2 + (1 : Int)) fun (k : Int) =>
  some (s27'.1, s27'.2, k)
def n_law (box : Box) : Option Bool :=
  bnd (n_law_safe_net box (4 : Int) (3 : Int)) fun a1' =>
  lv a1'.1 fun (net : (Str × Int × (List ((List Int) × (List Int))))) =>
  bnd (n_law_marks a1'.2 net (1 : Int)) fun a3' =>
  lv a3'.1 fun (marks : (List Int)) =>
  bnd (drawO a3'.2 (4 : Int)) fun v5' =>
  bnd (L2.atI [(30 : Int), (4 : Int)] (if (decide (v5'.1 = (0 : Int))) = true then (1 : Int) else 0)) fun a7' =>
  lv a7' fun (most : Int) =>
  bnd (n_law_net_reach net marks most) fun a9' =>
  lv a9' fun t11' =>
  if (decide ((12 : Int) < (List.length t11'.1 : Int))) = true then (bnd (n_live_steps net marks (2 : Int)) fun a16' =>
  bnd (sameO (Eo (Et Ei) rfl) a16' (none : (Option (List Int)))) fun a18' =>
  bnd (andO a18' (bnd (n_comes_home net marks (2 : Int)) fun a20' => some ((Option.isNone a20')))) fun a22' =>
  some a22') else
  lv [(marks, [])] fun (words : (List ((List Int) × (List Int)))) =>
  lv [marks] fun (order : (List (List Int))) =>
  lv (0 : Int) fun (k : Int) =>
  bnd (whileN (fun (s24' : (List ((List Int) × (List Int))) × (List (List Int)) × Int) => (some ((decide (s24'.2.2 < (List.length s24'.2.1 : Int)))))) (n_law_b4 net most t11' k) 1000 (words, order, k)) fun (s24' : (List ((List Int) × (List Int))) × (List (List Int)) × Int) =>
  lv [] fun (ends : (List (Int × (List Int)))) =>
  bnd (forN (n_law_b3 net s24' ends) t11'.1 ends) fun (ends' : (List (Int × (List Int)))) =>
  lv (Sum.inl (("open" : String) : Str)) fun (due : ((Str) ⊕ (Str × (List Int)))) =>
  bnd (if t11'.2 = true then (lv (Sum.inl (("on" : String) : Str)) fun (due : ((Str) ⊕ (Str × (List Int)))) =>
  some due) else (some due)) fun (due : ((Str) ⊕ (Str × (List Int)))) =>
  bnd (if (decide ((0 : Int) < (List.length ends' : Int))) = true then (bnd ((Er (Rc Ei (R1 (Et Ei)))).minL ends') fun a67' =>
  lv (Sum.inr ((("end" : String) : Str), a67'.2)) fun (due : ((Str) ⊕ (Str × (List Int)))) =>
  some due) else (some due)) fun (due : ((Str) ⊕ (Str × (List Int)))) =>
  bnd (n_decide_end net marks most) fun a69' =>
  bnd (sameO (Ea (Ac (R1 Es) (A1 (Rc Es (R1 (Et Ei)))) rfl)) a69' due) fun a71' =>
  if (!a71') = true then (some false) else
  if (!t11'.2) = true then (bnd (n_live_steps net marks most) fun a75' =>
  bnd (andO (Option.isNone a75') (bnd (n_comes_home net marks most) fun a77' => some ((Option.isNone a77')))) fun a79' =>
  some a79') else
  bnd (lrgO (List.length net.2.2 : Int)) fun a81' =>
  lv a81' fun (live : (List Int)) =>
  lv true fun (home : Bool) =>
  bnd (forN (n_law_b2 net marks most live home) t11'.1 (live, home)) fun (s83' : (List Int) × Bool) =>
  bnd (n_live_steps net marks most) fun a99' =>
  bnd (sameO (Eo (Et Ei) rfl) a99' (some s83'.1)) fun a101' =>
  bnd (andO a101' (bnd (n_comes_home net marks most) fun a103' => bnd (sameO (Eo Eb rfl) a103' (some s83'.2)) fun a105' => some (a105'))) fun a107' =>
  some a107'
end P07


set_option Elab.async false
set_option linter.all false
set_option maxRecDepth 100000
set_option maxHeartbeats 20000000
set_option synthInstance.maxHeartbeats 400000
set_option synthInstance.maxSize 4000
namespace P07
open PySem PySem.Spec PyProof.Rows L2 Z Y
def T_law_safe_net (box_ : Box) (most : Int) (wide : Int) : ((Str × Int × (List ((List Int) × (List Int)))) × Box) → Out → Prop := Rt (fun (r : ((Str × Int × (List ((List Int) × (List Int)))) × Box)) => (Er (Rc Es (Rc Ei (R1 (Et (Er (Rc (Et Ei) (R1 (Et Ei))))))))).enc r.1) (fun (r : ((Str × Int × (List ((List Int) × (List Int)))) × Box)) => [.is (boxE r.2), .is (Ei.enc most), .is (Ei.enc wide), .any, .any, .any, .any, .any, .any, .any, .any])
theorem ref_law_safe_net {box_ : Box} {most : Int} {wide : Int} {r : ((Str × Int × (List ((List Int) × (List Int)))) × Box)} (h : n_law_safe_net box_ most wide = some r) : d_law_safe_net [boxE box_, Ei.enc most, Ei.enc wide] = some ((fun (r : ((Str × Int × (List ((List Int) × (List Int)))) × Box)) => (Er (Rc Es (Rc Ei (R1 (Et (Er (Rc (Et Ei) (R1 (Et Ei))))))))).enc r.1) r, [some (boxE r.2), some (Ei.enc most), some (Ei.enc wide)]) :=
  def_ok (Ar := fun (r : ((Str × Int × (List ((List Int) × (List Int)))) × Box)) => [.is (boxE r.2), .is (Ei.enc most), .is (Ei.enc wide), .any, .any, .any, .any, .any, .any, .any, .any]) (show RB _ m_law_safe_net (n_law_safe_net box_ most wide) (T_law_safe_net box_ most wide) from
  (k_bnd fun v1' h2' => (k_asgF Ei.enc (r_call (r_acons r_c (r_acons (r_draw rfl (r_call (r_acons (r_var (d := Ei.enc most) rfl (Ei.imm _)) (r_acons r_c r_anil rfl) rfl) (drfs_cons drf_own (drfs_cons drf_own drfs_nil)) (f_sub _ _)) h2') r_anil rfl) rfl) (drfs_cons drf_own (drfs_cons drf_own drfs_nil)) (f_add _ _)) (by exact Nat.le_of_ble_eq_true rfl) fun many => (k_asgF (Lx (Er (Rc (Et Ei) (R1 (Et Ei))))) (r_lst r_anil rfl (Nat.le_of_ble_eq_true rfl)) (by exact Nat.le_of_ble_eq_true rfl) fun steps => (k_bnd fun v3' h4' => k_bnd fun r5' h6' => (k_forN (fun s7' => [.is (boxE s7'.1), .is (Ei.enc most), .is (Ei.enc wide), .is (Ei.enc many), .is ((Lx (Er (Rc (Et Ei) (R1 (Et Ei))))) s7'.2), .any, .any, .any, .any, .any, .any]) (i_rng1 (r_acons (r_call (r_acons r_c (r_acons (r_draw rfl (r_var (d := Ei.enc wide) rfl (Ei.imm _)) h4') r_anil rfl) rfl) (drfs_cons drf_own (drfs_cons drf_own drfs_nil)) (f_add _ _)) r_anil rfl) h6') (by exact (.eq (.eq (.eq (.eq (.eq (.any (.any (.any (.any (.any (.any .nil)))))))))))) rfl (fun _ => gd_nil) (fun t8' s7' => (b_name (by exact Nat.le_of_ble_eq_true rfl))) (fun t8' s7' => (k_bnd fun v9' h10' => (k_asgF Ei.enc (r_draw rfl (r_var (d := Ei.enc many) rfl (Ei.imm _)) h10') (by exact Nat.le_of_ble_eq_true rfl) fun x => (k_bnd fun v11' h12' => (k_asgF Ei.enc (r_draw rfl (r_var (d := Ei.enc many) rfl (Ei.imm _)) h12') (by exact Nat.le_of_ble_eq_true rfl) fun y => (k_bnd fun v13' h14' => (k_asgF Ei.enc (r_draw rfl (r_var (d := Ei.enc many) rfl (Ei.imm _)) h14') (by exact Nat.le_of_ble_eq_true rfl) fun z => (k_bnd fun a15' h16' => (k_asgF (Lx Ei) (r_call (r_acons (r_lst (r_acons r_c r_anil rfl) rfl (Nat.le_of_ble_eq_true rfl)) (r_acons (r_var (d := Ei.enc many) rfl (Ei.imm _)) r_anil rfl) rfl) (drfs_cons drf_own (drfs_cons drf_own drfs_nil)) (f_repL Ei h16')) (by exact Nat.le_of_ble_eq_true rfl) fun takes => (k_bnd fun a17' h18' => (k_asgF (Lx Ei) (r_call (r_acons (r_lst (r_acons r_c r_anil rfl) rfl (Nat.le_of_ble_eq_true rfl)) (r_acons (r_var (d := Ei.enc many) rfl (Ei.imm _)) r_anil rfl) rfl) (drfs_cons drf_own (drfs_cons drf_own drfs_nil)) (f_repL Ei h18')) (by exact Nat.le_of_ble_eq_true rfl) fun gives => (k_set (E := Ei) r_c (r_varM (d := (Lx Ei) takes) rfl rfl) (r_var (d := Ei.enc x) rfl (Ei.imm _)) rfl fun takes19' h37' => (k_set (E := Ei) r_c (r_varM (d := (Lx Ei) gives) rfl rfl) (r_var (d := Ei.enc y) rfl (Ei.imm _)) rfl fun gives20' h36' => (k_bnd fun s25' h26' => (k_ifJ (A' := (fun s33' => [.is (boxE s33'.1), .is (Ei.enc most), .is (Ei.enc wide), .is (Ei.enc many), .is ((Lx (Er (Rc (Et Ei) (R1 (Et Ei))))) s7'.2), .is (Ei.enc t8'), .is (Ei.enc x), .is (Ei.enc y), .is (Ei.enc z), .is ((Lx Ei) s33'.2.1), .is ((Lx Ei) s33'.2.2)])) (o_andE (i := 0) (b := v13'.2) rfl (r_tb (r_call (r_acons (r_var (d := Ei.enc z) rfl (Ei.imm _)) (r_acons (r_var (d := Ei.enc x) rfl (Ei.imm _)) r_anil rfl) rfl) (drfs_cons drf_own (drfs_cons drf_own drfs_nil)) (f_ne Ei z x rfl))) (fun _ => toE_bnd fun s23' h24' => toE_some (o_andE (i := 0) (b := v13'.2) rfl (r_tb (r_call (r_acons (r_var (d := Ei.enc z) rfl (Ei.imm _)) (r_acons (r_var (d := Ei.enc y) rfl (Ei.imm _)) r_anil rfl) rfl) (drfs_cons drf_own (drfs_cons drf_own drfs_nil)) (f_ne Ei z y rfl))) (fun _ => toE_bnd fun v21' h22' => toE_some (r_tb (r_call (r_acons (r_draw rfl r_c h22') (r_acons r_c r_anil rfl) rfl) (drfs_cons drf_own (drfs_cons drf_own drfs_nil)) (f_eq Ei v21'.1 (0 : Int) rfl)))) h24')) h26') (fun _ => (k_set (E := Ei) r_c (r_varM (d := (Lx Ei) takes19') rfl rfl) (r_var (d := Ei.enc z) rfl (Ei.imm _)) rfl fun takes27' h32' => (k_last (k_bnd fun v28' h29' => (k_ifJ (A' := (fun gives => [.is (boxE v28'.2), .is (Ei.enc most), .is (Ei.enc wide), .is (Ei.enc many), .is ((Lx (Er (Rc (Et Ei) (R1 (Et Ei))))) s7'.2), .is (Ei.enc t8'), .is (Ei.enc x), .is (Ei.enc y), .is (Ei.enc z), .is ((Lx Ei) takes27'), .is ((Lx Ei) gives)])) (r_tb (r_call (r_acons (r_draw rfl r_c h29') (r_acons r_c r_anil rfl) rfl) (drfs_cons drf_own (drfs_cons drf_own drfs_nil)) (f_eq Ei v28'.1 (0 : Int) rfl))) (fun _ => (k_last (k_set (E := Ei) r_c (r_varM (d := (Lx Ei) gives20') rfl rfl) (r_var (d := Ei.enc z) rfl (Ei.imm _)) rfl fun gives30' h31' => (k_nx (nx_le (by exact (.eq (.eq (.eq (.eq (.eq (.eq (.eq (.eq (.eq (.eq (.eq .nil))))))))))))))))) (fun _ => (k_nx (nx_le (by exact (.eq (.eq (.eq (.eq (.eq (.eq (.eq (.eq (.eq (.eq (.eq .nil))))))))))))))) fun gives => (k_nx (nx_le (by exact (.eq (.eq (.eq (.eq (.eq (.eq (.eq (.eq (.eq (.eq (.eq .nil))))))))))))))))))) (fun _ => (k_nx (nx_le (by exact (.eq (.eq (.eq (.eq (.eq (.eq (.eq (.eq (.eq (.eq (.eq .nil))))))))))))))) fun s33' => (k_last (k_bnd fun steps34' h35' => (k_expr (r_push (E := (Er (Rc (Et Ei) (R1 (Et Ei))))) h35' (r_varM (d := (Lx (Er (Rc (Et Ei) (R1 (Et Ei))))) s7'.2) rfl rfl) rfl (r_tup (r_acons (r_call (r_acons (r_varM (d := (Lx Ei) s33'.2.1) rfl rfl) r_anil rfl) (drfs_cons (drf_at rfl) drfs_nil) (f_tuple Ei s33'.2.1)) (r_acons (r_call (r_acons (r_varM (d := (Lx Ei) s33'.2.2) rfl rfl) r_anil rfl) (drfs_cons (drf_at rfl) drfs_nil) (f_tuple Ei s33'.2.2)) r_anil rfl) rfl) rfl (Nat.le_of_ble_eq_true rfl)) rfl) (k_nx (nx_le (by exact (.eq (.eq (.eq (.eq (.eq (.any (.any (.any (.any (.any (.any .nil)))))))))))))))))))))))))))))))) fun s7' => (k_last (k_ret (r_tup (r_acons r_c (r_acons (r_var (d := Ei.enc many) rfl (Ei.imm _)) (r_acons (r_call (r_acons (r_varM (d := (Lx (Er (Rc (Et Ei) (R1 (Et Ei))))) s7'.2) rfl rfl) r_anil rfl) (drfs_cons (drf_at rfl) drfs_nil) (f_tuple (Er (Rc (Et Ei) (R1 (Et Ei)))) s7'.2)) r_anil rfl) rfl) rfl) rfl (Nat.le_of_ble_eq_true rfl)) (rt_le (by exact (.eq (.eq (.eq (.any (.any (.any (.any (.any (.any (.any (.any .nil))))))))))))))))))))) h rfl rfl
def T_law_marks (box_ : Box) (net : (Str × Int × (List ((List Int) × (List Int))))) (most : Int) : ((List Int) × Box) → Out → Prop := Rt (fun (r : ((List Int) × Box)) => (Et Ei).enc r.1) (fun (r : ((List Int) × Box)) => [.is (boxE r.2), .is ((Er (Rc Es (Rc Ei (R1 (Et (Er (Rc (Et Ei) (R1 (Et Ei))))))))).enc net), .is (Ei.enc most), .any])
theorem ref_law_marks {box_ : Box} {net : (Str × Int × (List ((List Int) × (List Int))))} {most : Int} {r : ((List Int) × Box)} (h : n_law_marks box_ net most = some r) : d_law_marks [boxE box_, (Er (Rc Es (Rc Ei (R1 (Et (Er (Rc (Et Ei) (R1 (Et Ei))))))))).enc net, Ei.enc most] = some ((fun (r : ((List Int) × Box)) => (Et Ei).enc r.1) r, [some (boxE r.2), some ((Er (Rc Es (Rc Ei (R1 (Et (Er (Rc (Et Ei) (R1 (Et Ei))))))))).enc net), some (Ei.enc most)]) :=
  def_ok (Ar := fun (r : ((List Int) × Box)) => [.is (boxE r.2), .is ((Er (Rc Es (Rc Ei (R1 (Et (Er (Rc (Et Ei) (R1 (Et Ei))))))))).enc net), .is (Ei.enc most), .any]) (show RB _ m_law_marks (n_law_marks box_ net most) (T_law_marks box_ net most) from
  (k_last (k_bnd fun r1' h2' => k_bnd fun a7' h8' => (k_ret (r_call (r_acons (r_lcS (g := Ei.enc) (B1 := (fun t3' s4' => [.is (boxE s4'), .is ((Er (Rc Es (Rc Ei (R1 (Et (Er (Rc (Et Ei) (R1 (Et Ei))))))))).enc net), .is (Ei.enc most), .is (Ei.enc t3')])) (fun s4' => [.is (boxE s4'), .is ((Er (Rc Es (Rc Ei (R1 (Et (Er (Rc (Et Ei) (R1 (Et Ei))))))))).enc net), .is (Ei.enc most), .any]) (i_rng1 (r_acons (r_sub (i := (1 : Int)) (r_var (d := (Er (Rc Es (Rc Ei (R1 (Et (Er (Rc (Et Ei) (R1 (Et Ei))))))))).enc net) rfl ((Er (Rc Es (Rc Ei (R1 (Et (Er (Rc (Et Ei) (R1 (Et Ei))))))))).imm _)) r_c rfl drf_own drf_own (s_R (d := Ei.enc net.2.1) rfl (Ei.imm _))) r_anil rfl) h2') rfl h8' (fun _ => gd_nil) (fun t3' s4' => (b_name (by exact Nat.le_of_ble_eq_true rfl))) (fun t3' s4' y1 y2 hh => by cases hh; exact r_yes) (fun t3' s4' y1 y2 hh => by obtain ⟨v5', h6', hh⟩ := bnd_eq hh; cases hh; exact (r_draw rfl (r_call (r_acons (r_var (d := Ei.enc most) rfl (Ei.imm _)) (r_acons r_c r_anil rfl) rfl) (drfs_cons drf_own (drfs_cons drf_own drfs_nil)) (f_add _ _)) h6')) (fun _ _ => Le.refl _)) r_anil rfl) (drfs_cons drf_own drfs_nil) (f_tuple Ei a7'.1)) (rt_le (by exact (.eq (.eq (.eq (.any .nil)))))))))) h rfl rfl
def T_law_can (net : (Str × Int × (List ((List Int) × (List Int))))) (marks : (List Int)) (step : Int) : Bool → Out → Prop := Rt Eb.enc (fun (r : Bool) => [.is ((Er (Rc Es (Rc Ei (R1 (Et (Er (Rc (Et Ei) (R1 (Et Ei))))))))).enc net), .is ((Et Ei).enc marks), .is (Ei.enc step), .any])
theorem ref_law_can {net : (Str × Int × (List ((List Int) × (List Int))))} {marks : (List Int)} {step : Int} {r : Bool} (h : n_law_can net marks step = some r) : d_law_can [(Er (Rc Es (Rc Ei (R1 (Et (Er (Rc (Et Ei) (R1 (Et Ei))))))))).enc net, (Et Ei).enc marks, Ei.enc step] = some (Eb.enc r, [some ((Er (Rc Es (Rc Ei (R1 (Et (Er (Rc (Et Ei) (R1 (Et Ei))))))))).enc net), some ((Et Ei).enc marks), some (Ei.enc step)]) :=
  def_ok (Ar := fun (r : Bool) => [.is ((Er (Rc Es (Rc Ei (R1 (Et (Er (Rc (Et Ei) (R1 (Et Ei))))))))).enc net), .is ((Et Ei).enc marks), .is (Ei.enc step), .any]) (show RB _ m_law_can (n_law_can net marks step) (T_law_can net marks step) from
  (k_last (k_bnd fun r1' h2' => k_bnd fun a10' h11' => (k_ret (r_call (r_acons (r_call (r_acons (r_lcO (g := Ei.enc) (i_rng1 (r_acons (r_sub (i := (1 : Int)) (r_var (d := (Er (Rc Es (Rc Ei (R1 (Et (Er (Rc (Et Ei) (R1 (Et Ei))))))))).enc net) rfl ((Er (Rc Es (Rc Ei (R1 (Et (Er (Rc (Et Ei) (R1 (Et Ei))))))))).imm _)) r_c rfl drf_own drf_own (s_R (d := Ei.enc net.2.1) rfl (Ei.imm _))) r_anil rfl) h2') rfl gd_nil ⟨fun t3' => (b_name (by exact Nat.le_of_ble_eq_true rfl)), fun t3' => (to_bnd fun a4' h5' => to_bnd fun a6' h7' => to_bnd fun a8' h9' => to_some (r_tb (r_call (r_acons (r_sub (r_var (d := (Et Ei).enc marks) rfl ((Et Ei).imm _)) (r_var (d := Ei.enc t3') rfl (Ei.imm _)) rfl drf_own drf_own (s_T Ei h5')) (r_acons (r_sub (r_sub (i := (0 : Int)) (r_sub (r_sub (i := (2 : Int)) (r_var (d := (Er (Rc Es (Rc Ei (R1 (Et (Er (Rc (Et Ei) (R1 (Et Ei))))))))).enc net) rfl ((Er (Rc Es (Rc Ei (R1 (Et (Er (Rc (Et Ei) (R1 (Et Ei))))))))).imm _)) r_c rfl drf_own drf_own (s_R (d := (Et (Er (Rc (Et Ei) (R1 (Et Ei))))).enc net.2.2) rfl ((Et (Er (Rc (Et Ei) (R1 (Et Ei))))).imm _))) (r_var (d := Ei.enc step) rfl (Ei.imm _)) rfl drf_own drf_own (s_T (Er (Rc (Et Ei) (R1 (Et Ei)))) h7')) r_c rfl drf_own drf_own (s_R (d := (Et Ei).enc a6'.1) rfl ((Et Ei).imm _))) (r_var (d := Ei.enc t3') rfl (Ei.imm _)) rfl drf_own drf_own (s_T Ei h9')) r_anil rfl) rfl) (drfs_cons drf_own (drfs_cons drf_own drfs_nil)) (f_lt _ _)))), fun t3' y1 _ => (o_some (ex := Ei.enc) (v := t3') (r_var (d := Ei.enc t3') rfl (Ei.imm _))) y1, by decide⟩ h11') r_anil rfl) (drfs_cons drf_own drfs_nil) (f_lenL Ei a10')) (r_acons r_c r_anil rfl) rfl) (drfs_cons drf_own (drfs_cons drf_own drfs_nil)) (f_eq Ei (List.length a10' : Int) (0 : Int) rfl)) (rt_le (by exact (.eq (.eq (.eq (.any .nil)))))))))) h rfl rfl
def T_law_fired (net : (Str × Int × (List ((List Int) × (List Int))))) (marks : (List Int)) (step : Int) : (List Int) → Out → Prop := Rt (Et Ei).enc (fun (r : (List Int)) => [.is ((Er (Rc Es (Rc Ei (R1 (Et (Er (Rc (Et Ei) (R1 (Et Ei))))))))).enc net), .is ((Et Ei).enc marks), .is (Ei.enc step), .any])
theorem ref_law_fired {net : (Str × Int × (List ((List Int) × (List Int))))} {marks : (List Int)} {step : Int} {r : (List Int)} (h : n_law_fired net marks step = some r) : d_law_fired [(Er (Rc Es (Rc Ei (R1 (Et (Er (Rc (Et Ei) (R1 (Et Ei))))))))).enc net, (Et Ei).enc marks, Ei.enc step] = some ((Et Ei).enc r, [some ((Er (Rc Es (Rc Ei (R1 (Et (Er (Rc (Et Ei) (R1 (Et Ei))))))))).enc net), some ((Et Ei).enc marks), some (Ei.enc step)]) :=
  def_ok (Ar := fun (r : (List Int)) => [.is ((Er (Rc Es (Rc Ei (R1 (Et (Er (Rc (Et Ei) (R1 (Et Ei))))))))).enc net), .is ((Et Ei).enc marks), .is (Ei.enc step), .any]) (show RB _ m_law_fired (n_law_fired net marks step) (T_law_fired net marks step) from
  (k_last (k_bnd fun r1' h2' => k_bnd fun a14' h15' => (k_ret (r_call (r_acons (r_lcO (g := Ei.enc) (i_rng1 (r_acons (r_sub (i := (1 : Int)) (r_var (d := (Er (Rc Es (Rc Ei (R1 (Et (Er (Rc (Et Ei) (R1 (Et Ei))))))))).enc net) rfl ((Er (Rc Es (Rc Ei (R1 (Et (Er (Rc (Et Ei) (R1 (Et Ei))))))))).imm _)) r_c rfl drf_own drf_own (s_R (d := Ei.enc net.2.1) rfl (Ei.imm _))) r_anil rfl) h2') rfl gd_nil ⟨fun t3' => (b_name (by exact Nat.le_of_ble_eq_true rfl)), fun t3' => (to_some r_yes), fun t3' y1 _ => (o_bnd fun a4' h5' => o_bnd fun a6' h7' => o_bnd fun a8' h9' => o_bnd fun a10' h11' => o_bnd fun a12' h13' => o_some (ex := Ei.enc) (v := ((a4' - a8') + a12')) (r_call (r_acons (r_call (r_acons (r_sub (r_var (d := (Et Ei).enc marks) rfl ((Et Ei).imm _)) (r_var (d := Ei.enc t3') rfl (Ei.imm _)) rfl drf_own drf_own (s_T Ei h5')) (r_acons (r_sub (r_sub (i := (0 : Int)) (r_sub (r_sub (i := (2 : Int)) (r_var (d := (Er (Rc Es (Rc Ei (R1 (Et (Er (Rc (Et Ei) (R1 (Et Ei))))))))).enc net) rfl ((Er (Rc Es (Rc Ei (R1 (Et (Er (Rc (Et Ei) (R1 (Et Ei))))))))).imm _)) r_c rfl drf_own drf_own (s_R (d := (Et (Er (Rc (Et Ei) (R1 (Et Ei))))).enc net.2.2) rfl ((Et (Er (Rc (Et Ei) (R1 (Et Ei))))).imm _))) (r_var (d := Ei.enc step) rfl (Ei.imm _)) rfl drf_own drf_own (s_T (Er (Rc (Et Ei) (R1 (Et Ei)))) h7')) r_c rfl drf_own drf_own (s_R (d := (Et Ei).enc a6'.1) rfl ((Et Ei).imm _))) (r_var (d := Ei.enc t3') rfl (Ei.imm _)) rfl drf_own drf_own (s_T Ei h9')) r_anil rfl) rfl) (drfs_cons drf_own (drfs_cons drf_own drfs_nil)) (f_sub _ _)) (r_acons (r_sub (r_sub (i := (1 : Int)) (r_sub (r_sub (i := (2 : Int)) (r_var (d := (Er (Rc Es (Rc Ei (R1 (Et (Er (Rc (Et Ei) (R1 (Et Ei))))))))).enc net) rfl ((Er (Rc Es (Rc Ei (R1 (Et (Er (Rc (Et Ei) (R1 (Et Ei))))))))).imm _)) r_c rfl drf_own drf_own (s_R (d := (Et (Er (Rc (Et Ei) (R1 (Et Ei))))).enc net.2.2) rfl ((Et (Er (Rc (Et Ei) (R1 (Et Ei))))).imm _))) (r_var (d := Ei.enc step) rfl (Ei.imm _)) rfl drf_own drf_own (s_T (Er (Rc (Et Ei) (R1 (Et Ei)))) h11')) r_c rfl drf_own drf_own (s_R (d := (Et Ei).enc a10'.2) rfl ((Et Ei).imm _))) (r_var (d := Ei.enc t3') rfl (Ei.imm _)) rfl drf_own drf_own (s_T Ei h13')) r_anil rfl) rfl) (drfs_cons drf_own (drfs_cons drf_own drfs_nil)) (f_add _ _))) y1, by decide⟩ h15') r_anil rfl) (drfs_cons drf_own drfs_nil) (f_tuple Ei a14')) (rt_le (by exact (.eq (.eq (.eq (.any .nil)))))))))) h rfl rfl
def T_law_net_reach (net : (Str × Int × (List ((List Int) × (List Int))))) (marks : (List Int)) (most : Int) : ((List (List Int)) × Bool) → Out → Prop := Rt (Er (Rc (Et (Et Ei)) (R1 Eb))).enc (fun (r : ((List (List Int)) × Bool)) => [.is ((Er (Rc Es (Rc Ei (R1 (Et (Er (Rc (Et Ei) (R1 (Et Ei))))))))).enc net), .is ((Et Ei).enc marks), .is (Ei.enc most), .any, .any, .any, .any])
theorem ref_law_net_reach {net : (Str × Int × (List ((List Int) × (List Int))))} {marks : (List Int)} {most : Int} {r : ((List (List Int)) × Bool)} (h : n_law_net_reach net marks most = some r) : d_law_net_reach [(Er (Rc Es (Rc Ei (R1 (Et (Er (Rc (Et Ei) (R1 (Et Ei))))))))).enc net, (Et Ei).enc marks, Ei.enc most] = some ((Er (Rc (Et (Et Ei)) (R1 Eb))).enc r, [some ((Er (Rc Es (Rc Ei (R1 (Et (Er (Rc (Et Ei) (R1 (Et Ei))))))))).enc net), some ((Et Ei).enc marks), some (Ei.enc most)]) :=
  def_ok (Ar := fun (r : ((List (List Int)) × Bool)) => [.is ((Er (Rc Es (Rc Ei (R1 (Et (Er (Rc (Et Ei) (R1 (Et Ei))))))))).enc net), .is ((Et Ei).enc marks), .is (Ei.enc most), .any, .any, .any, .any]) (show RB _ m_law_net_reach (n_law_net_reach net marks most) (T_law_net_reach net marks most) from
  (k_asgF (Lx (Et Ei)) (r_lst (r_acons (r_var (d := (Et Ei).enc marks) rfl ((Et Ei).imm _)) r_anil rfl) rfl (Nat.le_of_ble_eq_true rfl)) (by exact Nat.le_of_ble_eq_true rfl) fun found => (k_asgF Ei.enc r_c (by exact Nat.le_of_ble_eq_true rfl) fun k => (k_whileR (j := some) (T_law_net_reach net marks most) (fun s1' => [.is ((Er (Rc Es (Rc Ei (R1 (Et (Er (Rc (Et Ei) (R1 (Et Ei))))))))).enc net), .is ((Et Ei).enc marks), .is (Ei.enc most), .is ((Lx (Et Ei)) s1'.1), .is (Ei.enc s1'.2), .any, .any]) (by exact (.eq (.eq (.eq (.eq (.eq (.any (.any .nil)))))))) (fun s1' => (to_some (r_tb (r_call (r_acons (r_var (d := Ei.enc s1'.2) rfl (Ei.imm _)) (r_acons (r_call (r_acons (r_varM (d := (Lx (Et Ei)) s1'.1) rfl rfl) r_anil rfl) (drfs_cons (drf_at rfl) drfs_nil) (f_lenL (Et Ei) s1'.1)) r_anil rfl) rfl) (drfs_cons drf_own (drfs_cons drf_own drfs_nil)) (f_lt _ _))))) (fun s1' _ => (k_bnd fun r2' h3' => (k_forR (j := (fun (r : ((List (List Int)) × Bool)) => some (Res.rt (ρ := ((List (List Int)) × Bool)) r))) (T_law_net_reach net marks most) (fun found' => [.is ((Er (Rc Es (Rc Ei (R1 (Et (Er (Rc (Et Ei) (R1 (Et Ei))))))))).enc net), .is ((Et Ei).enc marks), .is (Ei.enc most), .is ((Lx (Et Ei)) found'), .is (Ei.enc s1'.2), .any, .any]) (i_rng1 (r_acons (r_call (r_acons (r_sub (i := (2 : Int)) (r_var (d := (Er (Rc Es (Rc Ei (R1 (Et (Er (Rc (Et Ei) (R1 (Et Ei))))))))).enc net) rfl ((Er (Rc Es (Rc Ei (R1 (Et (Er (Rc (Et Ei) (R1 (Et Ei))))))))).imm _)) r_c rfl drf_own drf_own (s_R (d := (Et (Er (Rc (Et Ei) (R1 (Et Ei))))).enc net.2.2) rfl ((Et (Er (Rc (Et Ei) (R1 (Et Ei))))).imm _))) r_anil rfl) (drfs_cons drf_own drfs_nil) (f_lenT (Er (Rc (Et Ei) (R1 (Et Ei)))) net.2.2)) r_anil rfl) h3') (by exact (.eq (.eq (.eq (.eq (.eq (.any (.any .nil)))))))) rfl (fun _ => gd_nil) (fun t4' found' => (b_name (by exact Nat.le_of_ble_eq_true rfl))) (fun t4' found' => (k_last (k_bnd fun a7' h8' => k_bnd fun a9' h10' => (k_if (r_tv (r_user (r_acons (r_var (d := (Er (Rc Es (Rc Ei (R1 (Et (Er (Rc (Et Ei) (R1 (Et Ei))))))))).enc net) rfl ((Er (Rc Es (Rc Ei (R1 (Et (Er (Rc (Et Ei) (R1 (Et Ei))))))))).imm _)) (r_acons (r_sub (r_varM (d := (Lx (Et Ei)) found') rfl rfl) (r_var (d := Ei.enc s1'.2) rfl (Ei.imm _)) rfl (drf_at rfl) drf_own (s_L (Et Ei) h8')) (r_acons (r_var (d := Ei.enc t4') rfl (Ei.imm _)) r_anil rfl) rfl) rfl) rfl (drfs_cons drf_own (drfs_cons drf_own (drfs_cons drf_own drfs_nil))) (ref_law_can h10') (.own (.own (.own .nil)))) drf_own (t_B _)) (fun _ => (k_assoc (k_bnd fun a13' h14' => k_bnd fun a15' h16' => (k_asgF (Et Ei).enc (r_user (r_acons (r_var (d := (Er (Rc Es (Rc Ei (R1 (Et (Er (Rc (Et Ei) (R1 (Et Ei))))))))).enc net) rfl ((Er (Rc Es (Rc Ei (R1 (Et (Er (Rc (Et Ei) (R1 (Et Ei))))))))).imm _)) (r_acons (r_sub (r_varM (d := (Lx (Et Ei)) found') rfl rfl) (r_var (d := Ei.enc s1'.2) rfl (Ei.imm _)) rfl (drf_at rfl) drf_own (s_L (Et Ei) h14')) (r_acons (r_var (d := Ei.enc t4') rfl (Ei.imm _)) r_anil rfl) rfl) rfl) rfl (drfs_cons drf_own (drfs_cons drf_own (drfs_cons drf_own drfs_nil))) (ref_law_fired h16') (.own (.own (.own .nil)))) (by exact Nat.le_of_ble_eq_true rfl) fun more => (k_if (r_tb (r_call (r_acons (r_var (d := (Et Ei).enc more) rfl ((Et Ei).imm _)) (r_acons (r_varM (d := (Lx (Et Ei)) found') rfl rfl) r_anil rfl) rfl) (drfs_cons drf_own (drfs_cons (drf_at rfl) drfs_nil)) (f_ninLB (Et Ei) more found' rfl))) (fun _ => (k_assoc (k_if (r_tb (r_call (r_acons (r_call (r_acons (r_varM (d := (Lx (Et Ei)) found') rfl rfl) r_anil rfl) (drfs_cons (drf_at rfl) drfs_nil) (f_lenL (Et Ei) found')) (r_acons (r_var (d := Ei.enc most) rfl (Ei.imm _)) r_anil rfl) rfl) (drfs_cons drf_own (drfs_cons drf_own drfs_nil)) (f_eq Ei (List.length found' : Int) most rfl))) (fun _ => (k_ret (r_tup (r_acons (r_call (r_acons (r_varM (d := (Lx (Et Ei)) found') rfl rfl) r_anil rfl) (drfs_cons (drf_at rfl) drfs_nil) (f_tuple (Et Ei) found')) (r_acons r_c r_anil rfl) rfl) rfl (Nat.le_of_ble_eq_true rfl)) (rs_rt (rt_le (by exact (.eq (.eq (.eq (.any (.any (.any (.any .nil)))))))))))) (fun _ => (k_nil (k_bnd fun found17' h18' => (k_expr (r_push (E := (Et Ei)) h18' (r_varM (d := (Lx (Et Ei)) found') rfl rfl) rfl (r_takeI (d := (Et Ei).enc more) rfl ((Et Ei).imm _)) rfl) (k_nx (rs_nx (by exact (.eq (.eq (.eq (.eq (.eq (.any (.any .nil))))))))))))))))) (fun _ => (k_nil (k_nx (rs_nx (by exact (.eq (.eq (.eq (.eq (.eq (.any (.any .nil))))))))))))))))) (fun _ => (k_nil (k_nx (rs_nx (by exact (.eq (.eq (.eq (.eq (.eq (.any (.any .nil)))))))))))))))) j_rs fun found' => (k_last (k_asgF Ei.enc (r_call (r_acons (r_var (d := Ei.enc s1'.2) rfl (Ei.imm _)) (r_acons r_c r_anil rfl) rfl) (drfs_cons drf_own (drfs_cons drf_own drfs_nil)) (f_add _ _)) (by exact Nat.le_of_ble_eq_true rfl) fun k => (k_nx (rs_nx (by exact (.eq (.eq (.eq (.eq (.eq (.any (.any .nil))))))))))))))) j_some fun s1' => (k_last (k_ret (r_tup (r_acons (r_call (r_acons (r_varM (d := (Lx (Et Ei)) s1'.1) rfl rfl) r_anil rfl) (drfs_cons (drf_at rfl) drfs_nil) (f_tuple (Et Ei) s1'.1)) (r_acons r_c r_anil rfl) rfl) rfl (Nat.le_of_ble_eq_true rfl)) (rt_le (by exact (.eq (.eq (.eq (.any (.any (.any (.any .nil))))))))))))))) h rfl rfl
def T_can (net : (Str × Int × (List ((List Int) × (List Int))))) (marks : (List Int)) (step : Int) : Bool → Out → Prop := Rt Eb.enc (fun (r : Bool) => [.is ((Er (Rc Es (Rc Ei (R1 (Et (Er (Rc (Et Ei) (R1 (Et Ei))))))))).enc net), .is ((Et Ei).enc marks), .is (Ei.enc step), .any, .any])
theorem ref_can {net : (Str × Int × (List ((List Int) × (List Int))))} {marks : (List Int)} {step : Int} {r : Bool} (h : n_can net marks step = some r) : d_can [(Er (Rc Es (Rc Ei (R1 (Et (Er (Rc (Et Ei) (R1 (Et Ei))))))))).enc net, (Et Ei).enc marks, Ei.enc step] = some (Eb.enc r, [some ((Er (Rc Es (Rc Ei (R1 (Et (Er (Rc (Et Ei) (R1 (Et Ei))))))))).enc net), some ((Et Ei).enc marks), some (Ei.enc step)]) :=
  def_ok (Ar := fun (r : Bool) => [.is ((Er (Rc Es (Rc Ei (R1 (Et (Er (Rc (Et Ei) (R1 (Et Ei))))))))).enc net), .is ((Et Ei).enc marks), .is (Ei.enc step), .any, .any]) (show RB _ m_can (n_can net marks step) (T_can net marks step) from
  (k_last (k_bnd fun a1' h2' => k_bnd fun a4' h5' => (k_ret (r_all (i_zip2 (r_acons (r_var (d := (Et Ei).enc marks) rfl ((Et Ei).imm _)) (r_acons (r_sub (i := (0 : Int)) (r_sub (r_sub (i := (2 : Int)) (r_var (d := (Er (Rc Es (Rc Ei (R1 (Et (Er (Rc (Et Ei) (R1 (Et Ei))))))))).enc net) rfl ((Er (Rc Es (Rc Ei (R1 (Et (Er (Rc (Et Ei) (R1 (Et Ei))))))))).imm _)) r_c rfl drf_own drf_own (s_R (d := (Et (Er (Rc (Et Ei) (R1 (Et Ei))))).enc net.2.2) rfl ((Et (Er (Rc (Et Ei) (R1 (Et Ei))))).imm _))) (r_var (d := Ei.enc step) rfl (Ei.imm _)) rfl drf_own drf_own (s_T (Er (Rc (Et Ei) (R1 (Et Ei)))) h2')) r_c rfl drf_own drf_own (s_R (d := (Et Ei).enc a1'.1) rfl ((Et Ei).imm _))) r_anil rfl) rfl) (sq_T Ei marks) (sq_T Ei a1'.1)) gd_nil ⟨fun t3' => (b_tup (b_cons (b_name (by exact Nat.le_of_ble_eq_true rfl)) (b_cons (b_name (by exact Nat.le_of_ble_eq_true rfl)) b_nil)) rfl), fun t3' => (to_some r_yes), fun t3' y1 _ => (o_some (ex := Eb.enc) (v := (decide (t3'.2 ≤ t3'.1))) (r_call (r_acons (r_var (d := Ei.enc t3'.1) rfl (Ei.imm _)) (r_acons (r_var (d := Ei.enc t3'.2) rfl (Ei.imm _)) r_anil rfl) rfl) (drfs_cons drf_own (drfs_cons drf_own drfs_nil)) (f_ge _ _))) y1, by decide⟩ h5') (rt_le (by exact (.eq (.eq (.eq (.any (.any .nil))))))))))) h rfl rfl
def T_possible (net : (Str × Int × (List ((List Int) × (List Int))))) (marks : (List Int)) : (List Int) → Out → Prop := Rt (Et Ei).enc (fun (r : (List Int)) => [.is ((Er (Rc Es (Rc Ei (R1 (Et (Er (Rc (Et Ei) (R1 (Et Ei))))))))).enc net), .is ((Et Ei).enc marks), .any])
theorem ref_possible {net : (Str × Int × (List ((List Int) × (List Int))))} {marks : (List Int)} {r : (List Int)} (h : n_possible net marks = some r) : d_possible [(Er (Rc Es (Rc Ei (R1 (Et (Er (Rc (Et Ei) (R1 (Et Ei))))))))).enc net, (Et Ei).enc marks] = some ((Et Ei).enc r, [some ((Er (Rc Es (Rc Ei (R1 (Et (Er (Rc (Et Ei) (R1 (Et Ei))))))))).enc net), some ((Et Ei).enc marks)]) :=
  def_ok (Ar := fun (r : (List Int)) => [.is ((Er (Rc Es (Rc Ei (R1 (Et (Er (Rc (Et Ei) (R1 (Et Ei))))))))).enc net), .is ((Et Ei).enc marks), .any]) (show RB _ m_possible (n_possible net marks) (T_possible net marks) from
  (k_last (k_bnd fun r1' h2' => k_bnd fun a6' h7' => (k_ret (r_fold (f := fTup) (g := Ei.enc) (i_rng1 (r_acons (r_call (r_acons (r_sub (i := (2 : Int)) (r_var (d := (Er (Rc Es (Rc Ei (R1 (Et (Er (Rc (Et Ei) (R1 (Et Ei))))))))).enc net) rfl ((Er (Rc Es (Rc Ei (R1 (Et (Er (Rc (Et Ei) (R1 (Et Ei))))))))).imm _)) r_c rfl drf_own drf_own (s_R (d := (Et (Er (Rc (Et Ei) (R1 (Et Ei))))).enc net.2.2) rfl ((Et (Er (Rc (Et Ei) (R1 (Et Ei))))).imm _))) r_anil rfl) (drfs_cons drf_own drfs_nil) (f_lenT (Er (Rc (Et Ei) (R1 (Et Ei)))) net.2.2)) r_anil rfl) h2') gd_nil ⟨fun t3' => (b_name (by exact Nat.le_of_ble_eq_true rfl)), fun t3' => (to_bnd fun a4' h5' => to_some (r_tv (r_user (r_acons (r_var (d := (Er (Rc Es (Rc Ei (R1 (Et (Er (Rc (Et Ei) (R1 (Et Ei))))))))).enc net) rfl ((Er (Rc Es (Rc Ei (R1 (Et (Er (Rc (Et Ei) (R1 (Et Ei))))))))).imm _)) (r_acons (r_var (d := (Et Ei).enc marks) rfl ((Et Ei).imm _)) (r_acons (r_var (d := Ei.enc t3') rfl (Ei.imm _)) r_anil rfl) rfl) rfl) rfl (drfs_cons drf_own (drfs_cons drf_own (drfs_cons drf_own drfs_nil))) (ref_can h5') (.own (.own (.own .nil)))) drf_own (t_B _))), fun t3' y1 _ => (o_some (ex := Ei.enc) (v := t3') (r_var (d := Ei.enc t3') rfl (Ei.imm _))) y1, by decide⟩ Ei.imm h7' rfl) (rt_le (by exact (.eq (.eq (.any .nil))))))))) h rfl rfl
def T_done (net : (Str × Int × (List ((List Int) × (List Int))))) (marks : (List Int)) (step : Int) : (List Int) → Out → Prop := Rt (Et Ei).enc (fun (r : (List Int)) => [.is ((Er (Rc Es (Rc Ei (R1 (Et (Er (Rc (Et Ei) (R1 (Et Ei))))))))).enc net), .is ((Et Ei).enc marks), .is (Ei.enc step), .any, .any, .any, .any, .any])
theorem ref_done {net : (Str × Int × (List ((List Int) × (List Int))))} {marks : (List Int)} {step : Int} {r : (List Int)} (h : n_done net marks step = some r) : d_done [(Er (Rc Es (Rc Ei (R1 (Et (Er (Rc (Et Ei) (R1 (Et Ei))))))))).enc net, (Et Ei).enc marks, Ei.enc step] = some ((Et Ei).enc r, [some ((Er (Rc Es (Rc Ei (R1 (Et (Er (Rc (Et Ei) (R1 (Et Ei))))))))).enc net), some ((Et Ei).enc marks), some (Ei.enc step)]) :=
  def_ok (Ar := fun (r : (List Int)) => [.is ((Er (Rc Es (Rc Ei (R1 (Et (Er (Rc (Et Ei) (R1 (Et Ei))))))))).enc net), .is ((Et Ei).enc marks), .is (Ei.enc step), .any, .any, .any, .any, .any]) (show RB _ m_done (n_done net marks step) (T_done net marks step) from
  (k_bnd fun a1' h2' => (k_asgTF (Er (Rc (Et Ei) (R1 (Et Ei)))).enc (r_sub (r_sub (i := (2 : Int)) (r_var (d := (Er (Rc Es (Rc Ei (R1 (Et (Er (Rc (Et Ei) (R1 (Et Ei))))))))).enc net) rfl ((Er (Rc Es (Rc Ei (R1 (Et (Er (Rc (Et Ei) (R1 (Et Ei))))))))).imm _)) r_c rfl drf_own drf_own (s_R (d := (Et (Er (Rc (Et Ei) (R1 (Et Ei))))).enc net.2.2) rfl ((Et (Er (Rc (Et Ei) (R1 (Et Ei))))).imm _))) (r_var (d := Ei.enc step) rfl (Ei.imm _)) rfl drf_own drf_own (s_T (Er (Rc (Et Ei) (R1 (Et Ei)))) h2')) (fun t3' => (b_tup (b_cons (b_name (by exact Nat.le_of_ble_eq_true rfl)) (b_cons (b_name (by exact Nat.le_of_ble_eq_true rfl)) b_nil)) rfl)) fun t3' => (k_eqA (A' := [.is ((Er (Rc Es (Rc Ei (R1 (Et (Er (Rc (Et Ei) (R1 (Et Ei))))))))).enc net), .is ((Et Ei).enc marks), .is (Ei.enc step), .is ((Et Ei).enc t3'.1), .is ((Et Ei).enc t3'.2), .any, .any, .any]) rfl (k_last (k_bnd fun a5' h6' => (k_ret (r_fold (f := fTup) (g := Ei.enc) (i_zip3 (r_acons (r_var (d := (Et Ei).enc marks) rfl ((Et Ei).imm _)) (r_acons (r_var (d := (Et Ei).enc t3'.1) rfl ((Et Ei).imm _)) (r_acons (r_var (d := (Et Ei).enc t3'.2) rfl ((Et Ei).imm _)) r_anil rfl) rfl) rfl) (sq_T Ei marks) (sq_T Ei t3'.1) (sq_T Ei t3'.2)) gd_nil ⟨fun t4' => (b_tup (b_cons (b_name (by exact Nat.le_of_ble_eq_true rfl)) (b_cons (b_name (by exact Nat.le_of_ble_eq_true rfl)) (b_cons (b_name (by exact Nat.le_of_ble_eq_true rfl)) b_nil))) rfl), fun t4' => (to_some r_yes), fun t4' y1 _ => (o_some (ex := Ei.enc) (v := ((t4'.1 - t4'.2.1) + t4'.2.2)) (r_call (r_acons (r_call (r_acons (r_var (d := Ei.enc t4'.1) rfl (Ei.imm _)) (r_acons (r_var (d := Ei.enc t4'.2.1) rfl (Ei.imm _)) r_anil rfl) rfl) (drfs_cons drf_own (drfs_cons drf_own drfs_nil)) (f_sub _ _)) (r_acons (r_var (d := Ei.enc t4'.2.2) rfl (Ei.imm _)) r_anil rfl) rfl) (drfs_cons drf_own (drfs_cons drf_own drfs_nil)) (f_add _ _))) y1, by decide⟩ Ei.imm h6' rfl) (rt_le (by exact (.eq (.eq (.eq (.any (.any (.any (.any (.any .nil))))))))))))))))) h rfl rfl
def T_reached (net : (Str × Int × (List ((List Int) × (List Int))))) (marks : (List Int)) (most : Int) : ((List (List Int)) × Bool) → Out → Prop := Rt (Er (Rc (Et (Et Ei)) (R1 Eb))).enc (fun (r : ((List (List Int)) × Bool)) => [.is ((Er (Rc Es (Rc Ei (R1 (Et (Er (Rc (Et Ei) (R1 (Et Ei))))))))).enc net), .is ((Et Ei).enc marks), .is (Ei.enc most), .any, .any, .any, .any])
theorem ref_reached {net : (Str × Int × (List ((List Int) × (List Int))))} {marks : (List Int)} {most : Int} {r : ((List (List Int)) × Bool)} (h : n_reached net marks most = some r) : d_reached [(Er (Rc Es (Rc Ei (R1 (Et (Er (Rc (Et Ei) (R1 (Et Ei))))))))).enc net, (Et Ei).enc marks, Ei.enc most] = some ((Er (Rc (Et (Et Ei)) (R1 Eb))).enc r, [some ((Er (Rc Es (Rc Ei (R1 (Et (Er (Rc (Et Ei) (R1 (Et Ei))))))))).enc net), some ((Et Ei).enc marks), some (Ei.enc most)]) :=
  def_ok (Ar := fun (r : ((List (List Int)) × Bool)) => [.is ((Er (Rc Es (Rc Ei (R1 (Et (Er (Rc (Et Ei) (R1 (Et Ei))))))))).enc net), .is ((Et Ei).enc marks), .is (Ei.enc most), .any, .any, .any, .any]) (show RB _ m_reached (n_reached net marks most) (T_reached net marks most) from
  (k_asgF (Lx (Et Ei)) (r_lst (r_acons (r_var (d := (Et Ei).enc marks) rfl ((Et Ei).imm _)) r_anil rfl) rfl (Nat.le_of_ble_eq_true rfl)) (by exact Nat.le_of_ble_eq_true rfl) fun found => (k_asgF Ei.enc r_c (by exact Nat.le_of_ble_eq_true rfl) fun place => (k_whileR (j := some) (T_reached net marks most) (fun s1' => [.is ((Er (Rc Es (Rc Ei (R1 (Et (Er (Rc (Et Ei) (R1 (Et Ei))))))))).enc net), .is ((Et Ei).enc marks), .is (Ei.enc most), .is ((Lx (Et Ei)) s1'.1), .is (Ei.enc s1'.2), .any, .any]) (by exact (.eq (.eq (.eq (.eq (.eq (.any (.any .nil)))))))) (fun s1' => (to_some (r_tb (r_call (r_acons (r_var (d := Ei.enc s1'.2) rfl (Ei.imm _)) (r_acons (r_call (r_acons (r_varM (d := (Lx (Et Ei)) s1'.1) rfl rfl) r_anil rfl) (drfs_cons (drf_at rfl) drfs_nil) (f_lenL (Et Ei) s1'.1)) r_anil rfl) rfl) (drfs_cons drf_own (drfs_cons drf_own drfs_nil)) (f_lt _ _))))) (fun s1' _ => (k_bnd fun a4' h5' => k_bnd fun a6' h7' => (k_forR (j := (fun (r : ((List (List Int)) × Bool)) => some (Res.rt (ρ := ((List (List Int)) × Bool)) r))) (T_reached net marks most) (fun found' => [.is ((Er (Rc Es (Rc Ei (R1 (Et (Er (Rc (Et Ei) (R1 (Et Ei))))))))).enc net), .is ((Et Ei).enc marks), .is (Ei.enc most), .is ((Lx (Et Ei)) found'), .is (Ei.enc s1'.2), .any, .any]) (i_T Ei (r_user (r_acons (r_var (d := (Er (Rc Es (Rc Ei (R1 (Et (Er (Rc (Et Ei) (R1 (Et Ei))))))))).enc net) rfl ((Er (Rc Es (Rc Ei (R1 (Et (Er (Rc (Et Ei) (R1 (Et Ei))))))))).imm _)) (r_acons (r_sub (r_varM (d := (Lx (Et Ei)) s1'.1) rfl rfl) (r_var (d := Ei.enc s1'.2) rfl (Ei.imm _)) rfl (drf_at rfl) drf_own (s_L (Et Ei) h5')) r_anil rfl) rfl) rfl (drfs_cons drf_own (drfs_cons drf_own drfs_nil)) (ref_possible h7') (.own (.own .nil)))) (by exact (.eq (.eq (.eq (.eq (.eq (.any (.any .nil)))))))) rfl (fun _ => gd_nil) (fun t8' found' => (b_name (by exact Nat.le_of_ble_eq_true rfl))) (fun t8' found' => (k_bnd fun a11' h12' => k_bnd fun a13' h14' => (k_asgF (Et Ei).enc (r_user (r_acons (r_var (d := (Er (Rc Es (Rc Ei (R1 (Et (Er (Rc (Et Ei) (R1 (Et Ei))))))))).enc net) rfl ((Er (Rc Es (Rc Ei (R1 (Et (Er (Rc (Et Ei) (R1 (Et Ei))))))))).imm _)) (r_acons (r_sub (r_varM (d := (Lx (Et Ei)) found') rfl rfl) (r_var (d := Ei.enc s1'.2) rfl (Ei.imm _)) rfl (drf_at rfl) drf_own (s_L (Et Ei) h12')) (r_acons (r_var (d := Ei.enc t8') rfl (Ei.imm _)) r_anil rfl) rfl) rfl) rfl (drfs_cons drf_own (drfs_cons drf_own (drfs_cons drf_own drfs_nil))) (ref_done h14') (.own (.own (.own .nil)))) (by exact Nat.le_of_ble_eq_true rfl) fun following => (k_last (k_if (r_tb (r_call (r_acons (r_var (d := (Et Ei).enc following) rfl ((Et Ei).imm _)) (r_acons (r_varM (d := (Lx (Et Ei)) found') rfl rfl) r_anil rfl) rfl) (drfs_cons drf_own (drfs_cons (drf_at rfl) drfs_nil)) (f_ninLB (Et Ei) following found' rfl))) (fun _ => (k_assoc (k_if (r_tb (r_call (r_acons (r_call (r_acons (r_varM (d := (Lx (Et Ei)) found') rfl rfl) r_anil rfl) (drfs_cons (drf_at rfl) drfs_nil) (f_lenL (Et Ei) found')) (r_acons (r_var (d := Ei.enc most) rfl (Ei.imm _)) r_anil rfl) rfl) (drfs_cons drf_own (drfs_cons drf_own drfs_nil)) (f_eq Ei (List.length found' : Int) most rfl))) (fun _ => (k_ret (r_tup (r_acons (r_call (r_acons (r_varM (d := (Lx (Et Ei)) found') rfl rfl) r_anil rfl) (drfs_cons (drf_at rfl) drfs_nil) (f_tuple (Et Ei) found')) (r_acons r_c r_anil rfl) rfl) rfl (Nat.le_of_ble_eq_true rfl)) (rs_rt (rt_le (by exact (.eq (.eq (.eq (.any (.any (.any (.any .nil)))))))))))) (fun _ => (k_nil (k_bnd fun found15' h16' => (k_expr (r_push (E := (Et Ei)) h16' (r_varM (d := (Lx (Et Ei)) found') rfl rfl) rfl (r_takeI (d := (Et Ei).enc following) rfl ((Et Ei).imm _)) rfl) (k_nx (rs_nx (by exact (.eq (.eq (.eq (.eq (.eq (.any (.any .nil))))))))))))))))) (fun _ => (k_nil (k_nx (rs_nx (by exact (.eq (.eq (.eq (.eq (.eq (.any (.any .nil))))))))))))))))) j_rs fun found' => (k_last (k_augI rfl r_c (by exact Nat.le_of_ble_eq_true rfl) fun place => (k_nx (rs_nx (by exact (.eq (.eq (.eq (.eq (.eq (.any (.any .nil))))))))))))))) j_some fun s1' => (k_last (k_ret (r_tup (r_acons (r_call (r_acons (r_varM (d := (Lx (Et Ei)) s1'.1) rfl rfl) r_anil rfl) (drfs_cons (drf_at rfl) drfs_nil) (f_tuple (Et Ei) s1'.1)) (r_acons r_c r_anil rfl) rfl) rfl (Nat.le_of_ble_eq_true rfl)) (rt_le (by exact (.eq (.eq (.eq (.any (.any (.any (.any .nil))))))))))))))) h rfl rfl
def T_live_steps (net : (Str × Int × (List ((List Int) × (List Int))))) (marks : (List Int)) (most : Int) : (Option (List Int)) → Out → Prop := Rt (Eo (Et Ei) rfl).enc (fun (r : (Option (List Int))) => [.is ((Er (Rc Es (Rc Ei (R1 (Et (Er (Rc (Et Ei) (R1 (Et Ei))))))))).enc net), .is ((Et Ei).enc marks), .is (Ei.enc most), .any, .any, .any, .any, .any, .any])
theorem ref_live_steps {net : (Str × Int × (List ((List Int) × (List Int))))} {marks : (List Int)} {most : Int} {r : (Option (List Int))} (h : n_live_steps net marks most = some r) : d_live_steps [(Er (Rc Es (Rc Ei (R1 (Et (Er (Rc (Et Ei) (R1 (Et Ei))))))))).enc net, (Et Ei).enc marks, Ei.enc most] = some ((Eo (Et Ei) rfl).enc r, [some ((Er (Rc Es (Rc Ei (R1 (Et (Er (Rc (Et Ei) (R1 (Et Ei))))))))).enc net), some ((Et Ei).enc marks), some (Ei.enc most)]) :=
  def_ok (Ar := fun (r : (Option (List Int))) => [.is ((Er (Rc Es (Rc Ei (R1 (Et (Er (Rc (Et Ei) (R1 (Et Ei))))))))).enc net), .is ((Et Ei).enc marks), .is (Ei.enc most), .any, .any, .any, .any, .any, .any]) (show RB _ m_live_steps (n_live_steps net marks most) (T_live_steps net marks most) from
  (k_bnd fun a1' h2' => (k_asgTF (Er (Rc (Et (Et Ei)) (R1 Eb))).enc (r_user (r_acons (r_var (d := (Er (Rc Es (Rc Ei (R1 (Et (Er (Rc (Et Ei) (R1 (Et Ei))))))))).enc net) rfl ((Er (Rc Es (Rc Ei (R1 (Et (Er (Rc (Et Ei) (R1 (Et Ei))))))))).imm _)) (r_acons (r_var (d := (Et Ei).enc marks) rfl ((Et Ei).imm _)) (r_acons (r_var (d := Ei.enc most) rfl (Ei.imm _)) r_anil rfl) rfl) rfl) rfl (drfs_cons drf_own (drfs_cons drf_own (drfs_cons drf_own drfs_nil))) (ref_reached h2') (.own (.own (.own .nil)))) (fun t3' => (b_tup (b_cons (b_name (by exact Nat.le_of_ble_eq_true rfl)) (b_cons (b_name (by exact Nat.le_of_ble_eq_true rfl)) b_nil)) rfl)) fun t3' => (k_eqA (A' := [.is ((Er (Rc Es (Rc Ei (R1 (Et (Er (Rc (Et Ei) (R1 (Et Ei))))))))).enc net), .is ((Et Ei).enc marks), .is (Ei.enc most), .is ((Et (Et Ei)).enc t3'.1), .is (Eb.enc t3'.2), .any, .any, .any, .any]) rfl (k_if (r_not (r_tv (r_var (d := Eb.enc t3'.2) rfl (Eb.imm _)) drf_own (t_B _))) (fun _ => (k_ret r_c (rt_le (by exact (.eq (.eq (.eq (.any (.any (.any (.any (.any (.any .nil))))))))))))) (fun _ => (k_nil (k_asgF (Lx Ei) (r_lst r_anil rfl (Nat.le_of_ble_eq_true rfl)) (by exact Nat.le_of_ble_eq_true rfl) fun found => (k_bnd fun r4' h5' => (k_forN (fun found' => [.is ((Er (Rc Es (Rc Ei (R1 (Et (Er (Rc (Et Ei) (R1 (Et Ei))))))))).enc net), .is ((Et Ei).enc marks), .is (Ei.enc most), .is ((Et (Et Ei)).enc t3'.1), .is (Eb.enc t3'.2), .is ((Lx Ei) found'), .any, .any, .any]) (i_rng1 (r_acons (r_call (r_acons (r_sub (i := (2 : Int)) (r_var (d := (Er (Rc Es (Rc Ei (R1 (Et (Er (Rc (Et Ei) (R1 (Et Ei))))))))).enc net) rfl ((Er (Rc Es (Rc Ei (R1 (Et (Er (Rc (Et Ei) (R1 (Et Ei))))))))).imm _)) r_c rfl drf_own drf_own (s_R (d := (Et (Er (Rc (Et Ei) (R1 (Et Ei))))).enc net.2.2) rfl ((Et (Er (Rc (Et Ei) (R1 (Et Ei))))).imm _))) r_anil rfl) (drfs_cons drf_own drfs_nil) (f_lenT (Er (Rc (Et Ei) (R1 (Et Ei)))) net.2.2)) r_anil rfl) h5') (by exact (.eq (.eq (.eq (.eq (.eq (.eq (.any (.any (.any .nil)))))))))) rfl (fun _ => gd_nil) (fun t6' found' => (b_name (by exact Nat.le_of_ble_eq_true rfl))) (fun t6' found' => (k_last (k_bnd fun a15' h16' => (k_ifJ (A' := (fun found => [.is ((Er (Rc Es (Rc Ei (R1 (Et (Er (Rc (Et Ei) (R1 (Et Ei))))))))).enc net), .is ((Et Ei).enc marks), .is (Ei.enc most), .is ((Et (Et Ei)).enc t3'.1), .is (Eb.enc t3'.2), .is ((Lx Ei) found), .is (Ei.enc t6'), .any, .any])) (r_tv (r_all (i_T (Et Ei) (r_var (d := (Et (Et Ei)).enc t3'.1) rfl ((Et (Et Ei)).imm _))) gd_nil ⟨fun t7' => (b_name (by exact Nat.le_of_ble_eq_true rfl)), fun t7' => (to_some r_yes), fun t7' y1 _ => (o_bnd fun a8' h9' => o_bnd fun a13' h14' => o_some (ex := Eb.enc) (v := a13') (r_any (i_T (Et Ei) (r_sub (i := (0 : Int)) (r_user (r_acons (r_var (d := (Er (Rc Es (Rc Ei (R1 (Et (Er (Rc (Et Ei) (R1 (Et Ei))))))))).enc net) rfl ((Er (Rc Es (Rc Ei (R1 (Et (Er (Rc (Et Ei) (R1 (Et Ei))))))))).imm _)) (r_acons (r_var (d := (Et Ei).enc t7') rfl ((Et Ei).imm _)) (r_acons (r_var (d := Ei.enc most) rfl (Ei.imm _)) r_anil rfl) rfl) rfl) rfl (drfs_cons drf_own (drfs_cons drf_own (drfs_cons drf_own drfs_nil))) (ref_reached h9') (.own (.own (.own .nil)))) r_c rfl drf_own drf_own (s_R (d := (Et (Et Ei)).enc a8'.1) rfl ((Et (Et Ei)).imm _)))) gd_nil ⟨fun t10' => (b_name (by exact Nat.le_of_ble_eq_true rfl)), fun t10' => (to_some r_yes), fun t10' y1 _ => (o_bnd fun a11' h12' => o_some (ex := Eb.enc) (v := a11') (r_user (r_acons (r_var (d := (Er (Rc Es (Rc Ei (R1 (Et (Er (Rc (Et Ei) (R1 (Et Ei))))))))).enc net) rfl ((Er (Rc Es (Rc Ei (R1 (Et (Er (Rc (Et Ei) (R1 (Et Ei))))))))).imm _)) (r_acons (r_var (d := (Et Ei).enc t10') rfl ((Et Ei).imm _)) (r_acons (r_var (d := Ei.enc t6') rfl (Ei.imm _)) r_anil rfl) rfl) rfl) rfl (drfs_cons drf_own (drfs_cons drf_own (drfs_cons drf_own drfs_nil))) (ref_can h12') (.own (.own (.own .nil))))) y1, by decide⟩ h14')) y1, by decide⟩ h16') drf_own (t_B _)) (fun _ => (k_last (k_bnd fun found17' h18' => (k_expr (r_push (E := Ei) h18' (r_varM (d := (Lx Ei) found') rfl rfl) rfl (r_takeI (d := Ei.enc t6') rfl (Ei.imm _)) rfl) (k_nx (nx_le (by exact (.eq (.eq (.eq (.eq (.eq (.eq (.eq (.any (.any .nil)))))))))))))))) (fun _ => (k_nx (nx_le (by exact (.eq (.eq (.eq (.eq (.eq (.eq (.eq (.any (.any .nil))))))))))))) fun found => (k_nx (nx_le (by exact (.eq (.eq (.eq (.eq (.eq (.eq (.any (.any (.any .nil)))))))))))))))) fun found' => (k_last (k_ret (r_call (r_acons (r_varM (d := (Lx Ei) found') rfl rfl) r_anil rfl) (drfs_cons (drf_at rfl) drfs_nil) (f_tuple Ei found')) (rt_le (by exact (.eq (.eq (.eq (.any (.any (.any (.any (.any (.any .nil))))))))))))))))))))))) h rfl rfl
def T_comes_home (net : (Str × Int × (List ((List Int) × (List Int))))) (marks : (List Int)) (most : Int) : (Option Bool) → Out → Prop := Rt (Eo Eb rfl).enc (fun (r : (Option Bool)) => [.is ((Er (Rc Es (Rc Ei (R1 (Et (Er (Rc (Et Ei) (R1 (Et Ei))))))))).enc net), .is ((Et Ei).enc marks), .is (Ei.enc most), .any, .any, .any])
theorem ref_comes_home {net : (Str × Int × (List ((List Int) × (List Int))))} {marks : (List Int)} {most : Int} {r : (Option Bool)} (h : n_comes_home net marks most = some r) : d_comes_home [(Er (Rc Es (Rc Ei (R1 (Et (Er (Rc (Et Ei) (R1 (Et Ei))))))))).enc net, (Et Ei).enc marks, Ei.enc most] = some ((Eo Eb rfl).enc r, [some ((Er (Rc Es (Rc Ei (R1 (Et (Er (Rc (Et Ei) (R1 (Et Ei))))))))).enc net), some ((Et Ei).enc marks), some (Ei.enc most)]) :=
  def_ok (Ar := fun (r : (Option Bool)) => [.is ((Er (Rc Es (Rc Ei (R1 (Et (Er (Rc (Et Ei) (R1 (Et Ei))))))))).enc net), .is ((Et Ei).enc marks), .is (Ei.enc most), .any, .any, .any]) (show RB _ m_comes_home (n_comes_home net marks most) (T_comes_home net marks most) from
  (k_bnd fun a1' h2' => (k_asgTF (Er (Rc (Et (Et Ei)) (R1 Eb))).enc (r_user (r_acons (r_var (d := (Er (Rc Es (Rc Ei (R1 (Et (Er (Rc (Et Ei) (R1 (Et Ei))))))))).enc net) rfl ((Er (Rc Es (Rc Ei (R1 (Et (Er (Rc (Et Ei) (R1 (Et Ei))))))))).imm _)) (r_acons (r_var (d := (Et Ei).enc marks) rfl ((Et Ei).imm _)) (r_acons (r_var (d := Ei.enc most) rfl (Ei.imm _)) r_anil rfl) rfl) rfl) rfl (drfs_cons drf_own (drfs_cons drf_own (drfs_cons drf_own drfs_nil))) (ref_reached h2') (.own (.own (.own .nil)))) (fun t3' => (b_tup (b_cons (b_name (by exact Nat.le_of_ble_eq_true rfl)) (b_cons (b_name (by exact Nat.le_of_ble_eq_true rfl)) b_nil)) rfl)) fun t3' => (k_eqA (A' := [.is ((Er (Rc Es (Rc Ei (R1 (Et (Er (Rc (Et Ei) (R1 (Et Ei))))))))).enc net), .is ((Et Ei).enc marks), .is (Ei.enc most), .is ((Et (Et Ei)).enc t3'.1), .is (Eb.enc t3'.2), .any]) rfl (k_last (k_bnd fun a14' h15' => (k_ret (o_ife (ex := (Eo Eb rfl).enc) (r_tv (r_var (d := Eb.enc t3'.2) rfl (Eb.imm _)) drf_own (t_B _)) (fun _ => (o_bnd fun a12' h13' => o_some (ex := (Eo Eb rfl).enc) (v := (some a12')) (r_all (i_T (Et Ei) (r_var (d := (Et (Et Ei)).enc t3'.1) rfl ((Et (Et Ei)).imm _))) gd_nil ⟨fun t9' => (b_name (by exact Nat.le_of_ble_eq_true rfl)), fun t9' => (to_some r_yes), fun t9' y1 _ => (o_bnd fun a10' h11' => o_some (ex := Eb.enc) (v := (inB marks a10'.1)) (r_call (r_acons (r_var (d := (Et Ei).enc marks) rfl ((Et Ei).imm _)) (r_acons (r_sub (i := (0 : Int)) (r_user (r_acons (r_var (d := (Er (Rc Es (Rc Ei (R1 (Et (Er (Rc (Et Ei) (R1 (Et Ei))))))))).enc net) rfl ((Er (Rc Es (Rc Ei (R1 (Et (Er (Rc (Et Ei) (R1 (Et Ei))))))))).imm _)) (r_acons (r_var (d := (Et Ei).enc t9') rfl ((Et Ei).imm _)) (r_acons (r_var (d := Ei.enc most) rfl (Ei.imm _)) r_anil rfl) rfl) rfl) rfl (drfs_cons drf_own (drfs_cons drf_own (drfs_cons drf_own drfs_nil))) (ref_reached h11') (.own (.own (.own .nil)))) r_c rfl drf_own drf_own (s_R (d := (Et (Et Ei)).enc a10'.1) rfl ((Et (Et Ei)).imm _))) r_anil rfl) rfl) (drfs_cons drf_own (drfs_cons drf_own drfs_nil)) (f_inTB (Et Ei) marks a10'.1 rfl))) y1, by decide⟩ h13'))) (fun _ => (o_some (ex := (Eo Eb rfl).enc) (v := (none : (Option Bool))) r_c)) h15') (rt_le (by exact (.eq (.eq (.eq (.any (.any (.any .nil))))))))))))))) h rfl rfl
def T_shortest_to (net : (Str × Int × (List ((List Int) × (List Int))))) (marks : (List Int)) (goal : (List Int)) (most : Int) : (Option (List Int)) → Out → Prop := Rt (Eo (Et Ei) rfl).enc (fun (r : (Option (List Int))) => [.is ((Er (Rc Es (Rc Ei (R1 (Et (Er (Rc (Et Ei) (R1 (Et Ei))))))))).enc net), .is ((Et Ei).enc marks), .is ((Et Ei).enc goal), .is (Ei.enc most), .any, .any, .any, .any, .any])
theorem ref_shortest_to {net : (Str × Int × (List ((List Int) × (List Int))))} {marks : (List Int)} {goal : (List Int)} {most : Int} {r : (Option (List Int))} (h : n_shortest_to net marks goal most = some r) : d_shortest_to [(Er (Rc Es (Rc Ei (R1 (Et (Er (Rc (Et Ei) (R1 (Et Ei))))))))).enc net, (Et Ei).enc marks, (Et Ei).enc goal, Ei.enc most] = some ((Eo (Et Ei) rfl).enc r, [some ((Er (Rc Es (Rc Ei (R1 (Et (Er (Rc (Et Ei) (R1 (Et Ei))))))))).enc net), some ((Et Ei).enc marks), some ((Et Ei).enc goal), some (Ei.enc most)]) :=
  def_ok (Ar := fun (r : (Option (List Int))) => [.is ((Er (Rc Es (Rc Ei (R1 (Et (Er (Rc (Et Ei) (R1 (Et Ei))))))))).enc net), .is ((Et Ei).enc marks), .is ((Et Ei).enc goal), .is (Ei.enc most), .any, .any, .any, .any, .any]) (show RB _ m_shortest_to (n_shortest_to net marks goal most) (T_shortest_to net marks goal most) from
  (k_asgF (Dx (Et Ei) (Et Ei)) (r_disp1 (E := (Et Ei)) (F := (Et Ei)) (famT (Et Ei) rfl) (r_var (d := (Et Ei).enc marks) rfl ((Et Ei).imm _)) (r_tup r_anil rfl (Nat.le_of_ble_eq_true rfl))) (by exact Nat.le_of_ble_eq_true rfl) fun words => (k_asgF (Lx (Et Ei)) (r_lst (r_acons (r_var (d := (Et Ei).enc marks) rfl ((Et Ei).imm _)) r_anil rfl) rfl (Nat.le_of_ble_eq_true rfl)) (by exact Nat.le_of_ble_eq_true rfl) fun waiting => (k_whileR (j := some) (T_shortest_to net marks goal most) (fun s1' => [.is ((Er (Rc Es (Rc Ei (R1 (Et (Er (Rc (Et Ei) (R1 (Et Ei))))))))).enc net), .is ((Et Ei).enc marks), .is ((Et Ei).enc goal), .is (Ei.enc most), .is ((Dx (Et Ei) (Et Ei)) s1'.1), .is ((Lx (Et Ei)) s1'.2), .any, .any, .any]) (by exact (.eq (.eq (.eq (.eq (.eq (.eq (.any (.any (.any .nil)))))))))) (fun s1' => (to_some (r_tv (r_varM (d := (Lx (Et Ei)) s1'.2) rfl rfl) (drf_at rfl) (t_L (Et Ei) s1'.2)))) (fun s1' _ => (k_bnd fun q2' h3' => (k_asgF (Et Ei).enc (r_popI (Et Ei) h3' (r_varM (d := (Lx (Et Ei)) s1'.2) rfl rfl) rfl (r_acons r_c r_anil rfl) rfl) (by exact Nat.le_of_ble_eq_true rfl) fun own => (k_if (r_tb (r_call (r_acons (r_var (d := (Et Ei).enc own) rfl ((Et Ei).imm _)) (r_acons (r_var (d := (Et Ei).enc goal) rfl ((Et Ei).imm _)) r_anil rfl) rfl) (drfs_cons drf_own (drfs_cons drf_own drfs_nil)) (f_eq (Et Ei) own goal rfl))) (fun _ => (k_bnd fun a4' h5' => (k_ret (r_call (r_acons (r_varM (d := (Dx (Et Ei) (Et Ei)) s1'.1) rfl rfl) (r_acons (r_var (d := (Et Ei).enc own) rfl ((Et Ei).imm _)) r_anil rfl) rfl) (drfs_cons (drf_at rfl) (drfs_cons drf_own drfs_nil)) (f_dget (E := (Et Ei)) (F := (Et Ei)) (famT (Et Ei) rfl) h5')) (rs_rt (rt_le (by exact (.eq (.eq (.eq (.eq (.any (.any (.any (.any (.any .nil))))))))))))))) (fun _ => (k_nil (k_last (k_bnd fun a6' h7' => (k_forN (fun s8' => [.is ((Er (Rc Es (Rc Ei (R1 (Et (Er (Rc (Et Ei) (R1 (Et Ei))))))))).enc net), .is ((Et Ei).enc marks), .is ((Et Ei).enc goal), .is (Ei.enc most), .is ((Dx (Et Ei) (Et Ei)) s8'.1), .is ((Lx (Et Ei)) s8'.2), .is ((Et Ei).enc own), .any, .any]) (i_T Ei (r_user (r_acons (r_var (d := (Er (Rc Es (Rc Ei (R1 (Et (Er (Rc (Et Ei) (R1 (Et Ei))))))))).enc net) rfl ((Er (Rc Es (Rc Ei (R1 (Et (Er (Rc (Et Ei) (R1 (Et Ei))))))))).imm _)) (r_acons (r_var (d := (Et Ei).enc own) rfl ((Et Ei).imm _)) r_anil rfl) rfl) rfl (drfs_cons drf_own (drfs_cons drf_own drfs_nil)) (ref_possible h7') (.own (.own .nil)))) (by exact (.eq (.eq (.eq (.eq (.eq (.eq (.eq (.any (.any .nil)))))))))) rfl (fun _ => gd_nil) (fun t9' s8' => (b_name (by exact Nat.le_of_ble_eq_true rfl))) (fun t9' s8' => (k_bnd fun a10' h11' => (k_asgF (Et Ei).enc (r_user (r_acons (r_var (d := (Er (Rc Es (Rc Ei (R1 (Et (Er (Rc (Et Ei) (R1 (Et Ei))))))))).enc net) rfl ((Er (Rc Es (Rc Ei (R1 (Et (Er (Rc (Et Ei) (R1 (Et Ei))))))))).imm _)) (r_acons (r_var (d := (Et Ei).enc own) rfl ((Et Ei).imm _)) (r_acons (r_var (d := Ei.enc t9') rfl (Ei.imm _)) r_anil rfl) rfl) rfl) rfl (drfs_cons drf_own (drfs_cons drf_own (drfs_cons drf_own drfs_nil))) (ref_done h11') (.own (.own (.own .nil)))) (by exact Nat.le_of_ble_eq_true rfl) fun following => (k_last (k_ifJ (A' := (fun s20' => [.is ((Er (Rc Es (Rc Ei (R1 (Et (Er (Rc (Et Ei) (R1 (Et Ei))))))))).enc net), .is ((Et Ei).enc marks), .is ((Et Ei).enc goal), .is (Ei.enc most), .is ((Dx (Et Ei) (Et Ei)) s20'.1), .is ((Lx (Et Ei)) s20'.2), .is ((Et Ei).enc own), .is (Ei.enc t9'), .is ((Et Ei).enc following)])) (r_and (r_tb (r_call (r_acons (r_var (d := (Et Ei).enc following) rfl ((Et Ei).imm _)) (r_acons (r_varM (d := (Dx (Et Ei) (Et Ei)) s8'.1) rfl rfl) r_anil rfl) rfl) (drfs_cons drf_own (drfs_cons (drf_at rfl) drfs_nil)) (f_dnin (E := (Et Ei)) (Et Ei) (famT (Et Ei) rfl) s8'.1 following))) (fun _ => (r_tb (r_call (r_acons (r_call (r_acons (r_varM (d := (Dx (Et Ei) (Et Ei)) s8'.1) rfl rfl) r_anil rfl) (drfs_cons (drf_at rfl) drfs_nil) (f_dlen (E := (Et Ei)) (Et Ei) (famT (Et Ei) rfl) s8'.1)) (r_acons (r_var (d := Ei.enc most) rfl (Ei.imm _)) r_anil rfl) rfl) (drfs_cons drf_own (drfs_cons drf_own drfs_nil)) (f_lt _ _))))) (fun _ => (k_bnd fun a12' h13' => k_bnd fun a14' h15' => (k_dset (E := (Et Ei)) (F := (Et Ei)) (famT (Et Ei) rfl) (r_call (r_acons (r_call (r_acons (r_varM (d := (Dx (Et Ei) (Et Ei)) s8'.1) rfl rfl) (r_acons (r_var (d := (Et Ei).enc own) rfl ((Et Ei).imm _)) r_anil rfl) rfl) (drfs_cons (drf_at rfl) (drfs_cons drf_own drfs_nil)) (f_dget (E := (Et Ei)) (F := (Et Ei)) (famT (Et Ei) rfl) h13')) (r_acons (r_tup (r_acons (r_var (d := Ei.enc t9') rfl (Ei.imm _)) r_anil rfl) rfl (Nat.le_of_ble_eq_true rfl)) r_anil rfl) rfl) (drfs_cons drf_own (drfs_cons drf_own drfs_nil)) (f_catT Ei h15')) (r_varM (d := (Dx (Et Ei) (Et Ei)) s8'.1) rfl rfl) (r_var (d := (Et Ei).enc following) rfl ((Et Ei).imm _)) rfl fun words16' h19' => (k_last (k_bnd fun waiting17' h18' => (k_expr (r_push (E := (Et Ei)) h18' (r_varM (d := (Lx (Et Ei)) s8'.2) rfl rfl) rfl (r_takeI (d := (Et Ei).enc following) rfl ((Et Ei).imm _)) rfl) (k_nx (nx_le (by exact (.eq (.eq (.eq (.eq (.eq (.eq (.eq (.eq (.eq .nil)))))))))))))))))) (fun _ => (k_nx (nx_le (by exact (.eq (.eq (.eq (.eq (.eq (.eq (.eq (.eq (.eq .nil))))))))))))) fun s20' => (k_nx (nx_le (by exact (.eq (.eq (.eq (.eq (.eq (.eq (.eq (.any (.any .nil))))))))))))))))) fun s8' => (k_nx (rs_nx (by exact (.eq (.eq (.eq (.eq (.eq (.eq (.any (.any (.any .nil))))))))))))))))))))) j_some fun s1' => (k_last (k_ret r_c (rt_le (by exact (.eq (.eq (.eq (.eq (.any (.any (.any (.any (.any .nil))))))))))))))))) h rfl rfl
def T_decide_end (net : (Str × Int × (List ((List Int) × (List Int))))) (marks : (List Int)) (most : Int) : ((Str) ⊕ (Str × (List Int))) → Out → Prop := Rt (Ea (Ac (R1 Es) (A1 (Rc Es (R1 (Et Ei)))) rfl)).enc (fun (r : ((Str) ⊕ (Str × (List Int)))) => [.is ((Er (Rc Es (Rc Ei (R1 (Et (Er (Rc (Et Ei) (R1 (Et Ei))))))))).enc net), .is ((Et Ei).enc marks), .is (Ei.enc most), .any, .any, .any, .any])
theorem ref_decide_end {net : (Str × Int × (List ((List Int) × (List Int))))} {marks : (List Int)} {most : Int} {r : ((Str) ⊕ (Str × (List Int)))} (h : n_decide_end net marks most = some r) : d_decide_end [(Er (Rc Es (Rc Ei (R1 (Et (Er (Rc (Et Ei) (R1 (Et Ei))))))))).enc net, (Et Ei).enc marks, Ei.enc most] = some ((Ea (Ac (R1 Es) (A1 (Rc Es (R1 (Et Ei)))) rfl)).enc r, [some ((Er (Rc Es (Rc Ei (R1 (Et (Er (Rc (Et Ei) (R1 (Et Ei))))))))).enc net), some ((Et Ei).enc marks), some (Ei.enc most)]) :=
  def_ok (Ar := fun (r : ((Str) ⊕ (Str × (List Int)))) => [.is ((Er (Rc Es (Rc Ei (R1 (Et (Er (Rc (Et Ei) (R1 (Et Ei))))))))).enc net), .is ((Et Ei).enc marks), .is (Ei.enc most), .any, .any, .any, .any]) (show RB _ m_decide_end (n_decide_end net marks most) (T_decide_end net marks most) from
  (k_bnd fun a1' h2' => (k_asgTF (Er (Rc (Et (Et Ei)) (R1 Eb))).enc (r_user (r_acons (r_var (d := (Er (Rc Es (Rc Ei (R1 (Et (Er (Rc (Et Ei) (R1 (Et Ei))))))))).enc net) rfl ((Er (Rc Es (Rc Ei (R1 (Et (Er (Rc (Et Ei) (R1 (Et Ei))))))))).imm _)) (r_acons (r_var (d := (Et Ei).enc marks) rfl ((Et Ei).imm _)) (r_acons (r_var (d := Ei.enc most) rfl (Ei.imm _)) r_anil rfl) rfl) rfl) rfl (drfs_cons drf_own (drfs_cons drf_own (drfs_cons drf_own drfs_nil))) (ref_reached h2') (.own (.own (.own .nil)))) (fun t3' => (b_tup (b_cons (b_name (by exact Nat.le_of_ble_eq_true rfl)) (b_cons (b_name (by exact Nat.le_of_ble_eq_true rfl)) b_nil)) rfl)) fun t3' => (k_eqA (A' := [.is ((Er (Rc Es (Rc Ei (R1 (Et (Er (Rc (Et Ei) (R1 (Et Ei))))))))).enc net), .is ((Et Ei).enc marks), .is (Ei.enc most), .is ((Et (Et Ei)).enc t3'.1), .is (Eb.enc t3'.2), .any, .any]) rfl (k_bnd fun a9' h10' => (k_asgF (Lx (Eo (Et Ei) rfl)) (r_lcO (g := (Eo (Et Ei) rfl).enc) (i_T (Et Ei) (r_var (d := (Et (Et Ei)).enc t3'.1) rfl ((Et (Et Ei)).imm _))) rfl gd_nil ⟨fun t4' => (b_name (by exact Nat.le_of_ble_eq_true rfl)), fun t4' => (to_bnd fun a5' h6' => to_some (r_not (r_tv (r_user (r_acons (r_var (d := (Er (Rc Es (Rc Ei (R1 (Et (Er (Rc (Et Ei) (R1 (Et Ei))))))))).enc net) rfl ((Er (Rc Es (Rc Ei (R1 (Et (Er (Rc (Et Ei) (R1 (Et Ei))))))))).imm _)) (r_acons (r_var (d := (Et Ei).enc t4') rfl ((Et Ei).imm _)) r_anil rfl) rfl) rfl (drfs_cons drf_own (drfs_cons drf_own drfs_nil)) (ref_possible h6') (.own (.own .nil))) drf_own (t_T Ei a5')))), fun t4' y1 _ => (o_bnd fun a7' h8' => o_some (ex := (Eo (Et Ei) rfl).enc) (v := a7') (r_user (r_acons (r_var (d := (Er (Rc Es (Rc Ei (R1 (Et (Er (Rc (Et Ei) (R1 (Et Ei))))))))).enc net) rfl ((Er (Rc Es (Rc Ei (R1 (Et (Er (Rc (Et Ei) (R1 (Et Ei))))))))).imm _)) (r_acons (r_var (d := (Et Ei).enc marks) rfl ((Et Ei).imm _)) (r_acons (r_var (d := (Et Ei).enc t4') rfl ((Et Ei).imm _)) (r_acons (r_var (d := Ei.enc most) rfl (Ei.imm _)) r_anil rfl) rfl) rfl) rfl) rfl (drfs_cons drf_own (drfs_cons drf_own (drfs_cons drf_own (drfs_cons drf_own drfs_nil)))) (ref_shortest_to h8') (.own (.own (.own (.own .nil)))))) y1, by decide⟩ h10') (by exact Nat.le_of_ble_eq_true rfl) fun words => (k_if (r_tv (r_varM (d := (Lx (Eo (Et Ei) rfl)) words) rfl rfl) (drf_at rfl) (t_L (Eo (Et Ei) rfl) words)) (fun _ => (k_bnd fun a11' h12' => k_bnd fun a13' h14' => (k_ret (r_tup (r_acons r_c (r_acons (r_minK (E := (Et Ei)) (G := (Er (Rc Ei (R1 (Et Ei))) rfl)) (ok := okL) (kf := (fun z => ((List.length z : Int), z))) (r_varM (d := (Lx (Eo (Et Ei) rfl)) words) rfl rfl) (drf_un h12' (drf_at rfl)) (fun _ _ => (kl_T Ei)) h14' rfl rfl er_tupP) r_anil rfl) rfl) rfl (Nat.le_of_ble_eq_true rfl)) (rt_le (by exact (.eq (.eq (.eq (.any (.any (.any (.any .nil)))))))))))) (fun _ => (k_nil (k_last (k_ret (r_ifeE (ex := (Ea (Ac (R1 Es) (A1 (Rc Es (R1 (Et Ei)))) rfl)).enc) (r_tv (r_var (d := Eb.enc t3'.2) rfl (Eb.imm _)) drf_own (t_B _)) (fun _ => (r_tup (r_acons r_c r_anil rfl) rfl (Nat.le_of_ble_eq_true rfl))) (fun _ => (r_tup (r_acons r_c r_anil rfl) rfl (Nat.le_of_ble_eq_true rfl)))) (rt_le (by exact (.eq (.eq (.eq (.any (.any (.any (.any .nil)))))))))))))))))))) h rfl rfl
end P07


set_option Elab.async false
set_option linter.all false
set_option maxRecDepth 100000
set_option maxHeartbeats 20000000
set_option synthInstance.maxHeartbeats 400000
set_option synthInstance.maxSize 4000
namespace P07
open PySem PySem.Spec PyProof.Rows L2 Z Y
def T_law (p0' : Unit) : Bool → Out → Prop := Rt D.bl (fun _ => [.any, .any, .any, .any, .any, .any, .any, .any, .any, .any, .any, .any, .any, .any, .any, .any, .any, .any, .any])
theorem ref_law (box : Box) : RB [.any, .is (boxE box), .any, .any, .any, .any, .any, .any, .any, .any, .any, .any, .any, .any, .any, .any, .any, .any, .any] r_law (n_law box) (T_law ()) :=
  (k_bnd fun a1' h2' => (k_asgF (Er (Rc Es (Rc Ei (R1 (Et (Er (Rc (Et Ei) (R1 (Et Ei))))))))).enc (r_user (r_acons (r_varM (d := boxE box) rfl rfl) (r_acons r_c (r_acons r_c r_anil rfl) rfl) rfl) (by simp [rootsOk, roots]) (drfs_cons (drf_at rfl) (drfs_cons drf_own (drfs_cons drf_own drfs_nil))) (ref_law_safe_net h2') (.pth (l := []) rfl (.own (.own .nil)) rfl)) (by exact Nat.le_of_ble_eq_true rfl) fun net => (k_bnd fun a3' h4' => (k_asgF (Et Ei).enc (r_user (r_acons (r_varM (d := boxE a1'.2) rfl rfl) (r_acons (r_var (d := (Er (Rc Es (Rc Ei (R1 (Et (Er (Rc (Et Ei) (R1 (Et Ei))))))))).enc net) rfl ((Er (Rc Es (Rc Ei (R1 (Et (Er (Rc (Et Ei) (R1 (Et Ei))))))))).imm _)) (r_acons r_c r_anil rfl) rfl) rfl) (by simp [rootsOk, roots]) (drfs_cons (drf_at rfl) (drfs_cons drf_own (drfs_cons drf_own drfs_nil))) (ref_law_marks h4') (.pth (l := []) rfl (.own (.own .nil)) rfl)) (by exact Nat.le_of_ble_eq_true rfl) fun marks => (k_eqA (A' := [.any, .is (boxE a3'.2), .is ((Er (Rc Es (Rc Ei (R1 (Et (Er (Rc (Et Ei) (R1 (Et Ei))))))))).enc net), .is ((Et Ei).enc marks), .any, .any, .any, .any, .any, .any, .any, .any, .any, .any, .any, .any, .any, .any, .any]) rfl (k_bnd fun v5' h6' => k_bnd fun a7' h8' => (k_asgF Ei.enc (r_sub (r_lst (r_acons r_c (r_acons r_c r_anil rfl) rfl) rfl (Nat.le_of_ble_eq_true rfl)) (r_call (r_acons (r_call (r_acons (r_draw rfl r_c h6') (r_acons r_c r_anil rfl) rfl) (drfs_cons drf_own (drfs_cons drf_own drfs_nil)) (f_eq Ei v5'.1 (0 : Int) rfl)) r_anil rfl) (drfs_cons drf_own drfs_nil) (f_intB _)) rfl drf_own drf_own (s_L Ei h8')) (by exact Nat.le_of_ble_eq_true rfl) fun most => (k_bnd fun a9' h10' => (k_asgTF (Er (Rc (Et (Et Ei)) (R1 Eb))).enc (r_user (r_acons (r_var (d := (Er (Rc Es (Rc Ei (R1 (Et (Er (Rc (Et Ei) (R1 (Et Ei))))))))).enc net) rfl ((Er (Rc Es (Rc Ei (R1 (Et (Er (Rc (Et Ei) (R1 (Et Ei))))))))).imm _)) (r_acons (r_var (d := (Et Ei).enc marks) rfl ((Et Ei).imm _)) (r_acons (r_var (d := Ei.enc most) rfl (Ei.imm _)) r_anil rfl) rfl) rfl) rfl (drfs_cons drf_own (drfs_cons drf_own (drfs_cons drf_own drfs_nil))) (ref_law_net_reach h10') (.own (.own (.own .nil)))) (fun t11' => (b_tup (b_cons (b_name (by exact Nat.le_of_ble_eq_true rfl)) (b_cons (b_name (by exact Nat.le_of_ble_eq_true rfl)) b_nil)) rfl)) fun t11' => (k_eqA (A' := [.any, .is (boxE v5'.2), .is ((Er (Rc Es (Rc Ei (R1 (Et (Er (Rc (Et Ei) (R1 (Et Ei))))))))).enc net), .is ((Et Ei).enc marks), .is (Ei.enc most), .is ((Et (Et Ei)).enc t11'.1), .is (Eb.enc t11'.2), .any, .any, .any, .any, .any, .any, .any, .any, .any, .any, .any, .any]) rfl (k_if (r_tb (r_call (r_acons (r_call (r_acons (r_var (d := (Et (Et Ei)).enc t11'.1) rfl ((Et (Et Ei)).imm _)) r_anil rfl) (drfs_cons drf_own drfs_nil) (f_lenT (Et Ei) t11'.1)) (r_acons r_c r_anil rfl) rfl) (drfs_cons drf_own (drfs_cons drf_own drfs_nil)) (f_gt _ _))) (fun _ => (k_bnd fun a16' h17' => k_bnd fun a18' h19' => k_bnd fun a22' h23' => (k_ret (o_andV (r_user (r_acons (r_user (r_acons (r_var (d := (Er (Rc Es (Rc Ei (R1 (Et (Er (Rc (Et Ei) (R1 (Et Ei))))))))).enc net) rfl ((Er (Rc Es (Rc Ei (R1 (Et (Er (Rc (Et Ei) (R1 (Et Ei))))))))).imm _)) (r_acons (r_var (d := (Et Ei).enc marks) rfl ((Et Ei).imm _)) (r_acons r_c r_anil rfl) rfl) rfl) rfl (drfs_cons drf_own (drfs_cons drf_own (drfs_cons drf_own drfs_nil))) (ref_live_steps h17') (.own (.own (.own .nil)))) (r_acons r_c r_anil rfl) rfl) rfl (drfs_cons drf_own (drfs_cons drf_own drfs_nil)) (f_same (Eo (Et Ei) rfl) h19' rfl) (.own (.own .nil))) (fun _ => (o_bnd fun a20' h21' => o_some (r_call (r_acons (r_user (r_acons (r_var (d := (Er (Rc Es (Rc Ei (R1 (Et (Er (Rc (Et Ei) (R1 (Et Ei))))))))).enc net) rfl ((Er (Rc Es (Rc Ei (R1 (Et (Er (Rc (Et Ei) (R1 (Et Ei))))))))).imm _)) (r_acons (r_var (d := (Et Ei).enc marks) rfl ((Et Ei).imm _)) (r_acons r_c r_anil rfl) rfl) rfl) rfl (drfs_cons drf_own (drfs_cons drf_own (drfs_cons drf_own drfs_nil))) (ref_comes_home h21') (.own (.own (.own .nil)))) (r_acons r_c r_anil rfl) rfl) (drfs_cons drf_own (drfs_cons drf_own drfs_nil)) (f_isN Eb rfl a20')))) h23') (rt_le (by exact (.any (.any (.any (.any (.any (.any (.any (.any (.any (.any (.any (.any (.any (.any (.any (.any (.any (.any (.any .nil)))))))))))))))))))))))) (fun _ => (k_nil (k_asgF (Dx (Et Ei) (Et Ei)) (r_disp1 (E := (Et Ei)) (F := (Et Ei)) (famT (Et Ei) rfl) (r_var (d := (Et Ei).enc marks) rfl ((Et Ei).imm _)) (r_tup r_anil rfl (Nat.le_of_ble_eq_true rfl))) (by exact Nat.le_of_ble_eq_true rfl) fun words => (k_eqA (A' := [.any, .is (boxE v5'.2), .is ((Er (Rc Es (Rc Ei (R1 (Et (Er (Rc (Et Ei) (R1 (Et Ei))))))))).enc net), .is ((Et Ei).enc marks), .is (Ei.enc most), .is ((Et (Et Ei)).enc t11'.1), .is (Eb.enc t11'.2), .is ((Dx (Et Ei) (Et Ei)) words), .any, .any, .any, .any, .any, .any, .any, .any, .any, .any, .any]) rfl (k_asgF (Lx (Et Ei)) (r_lst (r_acons (r_var (d := (Et Ei).enc marks) rfl ((Et Ei).imm _)) r_anil rfl) rfl (Nat.le_of_ble_eq_true rfl)) (by exact Nat.le_of_ble_eq_true rfl) fun order => (k_asgF Ei.enc r_c (by exact Nat.le_of_ble_eq_true rfl) fun k => (k_whileN (fun s24' => [.any, .is (boxE v5'.2), .is ((Er (Rc Es (Rc Ei (R1 (Et (Er (Rc (Et Ei) (R1 (Et Ei))))))))).enc net), .is ((Et Ei).enc marks), .is (Ei.enc most), .is ((Et (Et Ei)).enc t11'.1), .is (Eb.enc t11'.2), .is ((Dx (Et Ei) (Et Ei)) s24'.1), .is ((Lx (Et Ei)) s24'.2.1), .is (Ei.enc s24'.2.2), .any, .any, .any, .any, .any, .any, .any, .any, .any]) (by exact (.any (.eq (.eq (.eq (.eq (.eq (.eq (.eq (.eq (.eq (.any (.any (.any (.any (.any (.any (.any (.any (.any .nil)))))))))))))))))))) (fun s24' => (to_some (r_tb (r_call (r_acons (r_var (d := Ei.enc s24'.2.2) rfl (Ei.imm _)) (r_acons (r_call (r_acons (r_varM (d := (Lx (Et Ei)) s24'.2.1) rfl rfl) r_anil rfl) (drfs_cons (drf_at rfl) drfs_nil) (f_lenL (Et Ei) s24'.2.1)) r_anil rfl) rfl) (drfs_cons drf_own (drfs_cons drf_own drfs_nil)) (f_lt _ _))))) (fun s24' _ => (k_bnd fun r25' h26' => (k_forN (fun s27' => [.any, .is (boxE v5'.2), .is ((Er (Rc Es (Rc Ei (R1 (Et (Er (Rc (Et Ei) (R1 (Et Ei))))))))).enc net), .is ((Et Ei).enc marks), .is (Ei.enc most), .is ((Et (Et Ei)).enc t11'.1), .is (Eb.enc t11'.2), .is ((Dx (Et Ei) (Et Ei)) s27'.1), .is ((Lx (Et Ei)) s27'.2), .is (Ei.enc s24'.2.2), .any, .any, .any, .any, .any, .any, .any, .any, .any]) (i_rng1 (r_acons (r_call (r_acons (r_sub (i := (2 : Int)) (r_var (d := (Er (Rc Es (Rc Ei (R1 (Et (Er (Rc (Et Ei) (R1 (Et Ei))))))))).enc net) rfl ((Er (Rc Es (Rc Ei (R1 (Et (Er (Rc (Et Ei) (R1 (Et Ei))))))))).imm _)) r_c rfl drf_own drf_own (s_R (d := (Et (Er (Rc (Et Ei) (R1 (Et Ei))))).enc net.2.2) rfl ((Et (Er (Rc (Et Ei) (R1 (Et Ei))))).imm _))) r_anil rfl) (drfs_cons drf_own drfs_nil) (f_lenT (Er (Rc (Et Ei) (R1 (Et Ei)))) net.2.2)) r_anil rfl) h26') (by exact (.any (.eq (.eq (.eq (.eq (.eq (.eq (.eq (.eq (.eq (.any (.any (.any (.any (.any (.any (.any (.any (.any .nil)))))))))))))))))))) rfl (fun _ => gd_nil) (fun t28' s27' => (b_name (by exact Nat.le_of_ble_eq_true rfl))) (fun t28' s27' => (k_last (k_bnd fun a31' h32' => k_bnd fun a33' h34' => (k_ifJ (A' := (fun s52' => [.any, .is (boxE v5'.2), .is ((Er (Rc Es (Rc Ei (R1 (Et (Er (Rc (Et Ei) (R1 (Et Ei))))))))).enc net), .is ((Et Ei).enc marks), .is (Ei.enc most), .is ((Et (Et Ei)).enc t11'.1), .is (Eb.enc t11'.2), .is ((Dx (Et Ei) (Et Ei)) s52'.1), .is ((Lx (Et Ei)) s52'.2), .is (Ei.enc s24'.2.2), .is (Ei.enc t28'), .any, .any, .any, .any, .any, .any, .any, .any])) (r_tv (r_user (r_acons (r_var (d := (Er (Rc Es (Rc Ei (R1 (Et (Er (Rc (Et Ei) (R1 (Et Ei))))))))).enc net) rfl ((Er (Rc Es (Rc Ei (R1 (Et (Er (Rc (Et Ei) (R1 (Et Ei))))))))).imm _)) (r_acons (r_sub (r_varM (d := (Lx (Et Ei)) s27'.2) rfl rfl) (r_var (d := Ei.enc s24'.2.2) rfl (Ei.imm _)) rfl (drf_at rfl) drf_own (s_L (Et Ei) h32')) (r_acons (r_var (d := Ei.enc t28') rfl (Ei.imm _)) r_anil rfl) rfl) rfl) rfl (drfs_cons drf_own (drfs_cons drf_own (drfs_cons drf_own drfs_nil))) (ref_law_can h34') (.own (.own (.own .nil)))) drf_own (t_B _)) (fun _ => (k_bnd fun a37' h38' => k_bnd fun a39' h40' => (k_asgF (Et Ei).enc (r_user (r_acons (r_var (d := (Er (Rc Es (Rc Ei (R1 (Et (Er (Rc (Et Ei) (R1 (Et Ei))))))))).enc net) rfl ((Er (Rc Es (Rc Ei (R1 (Et (Er (Rc (Et Ei) (R1 (Et Ei))))))))).imm _)) (r_acons (r_sub (r_varM (d := (Lx (Et Ei)) s27'.2) rfl rfl) (r_var (d := Ei.enc s24'.2.2) rfl (Ei.imm _)) rfl (drf_at rfl) drf_own (s_L (Et Ei) h38')) (r_acons (r_var (d := Ei.enc t28') rfl (Ei.imm _)) r_anil rfl) rfl) rfl) rfl (drfs_cons drf_own (drfs_cons drf_own (drfs_cons drf_own drfs_nil))) (ref_law_fired h40') (.own (.own (.own .nil)))) (by exact Nat.le_of_ble_eq_true rfl) fun more => (k_eqA (A' := [.any, .is (boxE v5'.2), .is ((Er (Rc Es (Rc Ei (R1 (Et (Er (Rc (Et Ei) (R1 (Et Ei))))))))).enc net), .is ((Et Ei).enc marks), .is (Ei.enc most), .is ((Et (Et Ei)).enc t11'.1), .is (Eb.enc t11'.2), .is ((Dx (Et Ei) (Et Ei)) s27'.1), .is ((Lx (Et Ei)) s27'.2), .is (Ei.enc s24'.2.2), .is (Ei.enc t28'), .is ((Et Ei).enc more), .any, .any, .any, .any, .any, .any, .any]) rfl (k_last (k_ifJ (A' := (fun s51' => [.any, .is (boxE v5'.2), .is ((Er (Rc Es (Rc Ei (R1 (Et (Er (Rc (Et Ei) (R1 (Et Ei))))))))).enc net), .is ((Et Ei).enc marks), .is (Ei.enc most), .is ((Et (Et Ei)).enc t11'.1), .is (Eb.enc t11'.2), .is ((Dx (Et Ei) (Et Ei)) s51'.1), .is ((Lx (Et Ei)) s51'.2), .is (Ei.enc s24'.2.2), .is (Ei.enc t28'), .is ((Et Ei).enc more), .any, .any, .any, .any, .any, .any, .any])) (r_and (r_tb (r_call (r_acons (r_var (d := (Et Ei).enc more) rfl ((Et Ei).imm _)) (r_acons (r_varM (d := (Dx (Et Ei) (Et Ei)) s27'.1) rfl rfl) r_anil rfl) rfl) (drfs_cons drf_own (drfs_cons (drf_at rfl) drfs_nil)) (f_dnin (E := (Et Ei)) (Et Ei) (famT (Et Ei) rfl) s27'.1 more))) (fun _ => (r_and (r_tb (r_call (r_acons (r_var (d := (Et Ei).enc more) rfl ((Et Ei).imm _)) (r_acons (r_var (d := (Et (Et Ei)).enc t11'.1) rfl ((Et (Et Ei)).imm _)) r_anil rfl) rfl) (drfs_cons drf_own (drfs_cons drf_own drfs_nil)) (f_inTB (Et Ei) more t11'.1 rfl))) (fun _ => (r_tb (r_call (r_acons (r_call (r_acons (r_varM (d := (Dx (Et Ei) (Et Ei)) s27'.1) rfl rfl) r_anil rfl) (drfs_cons (drf_at rfl) drfs_nil) (f_dlen (E := (Et Ei)) (Et Ei) (famT (Et Ei) rfl) s27'.1)) (r_acons (r_var (d := Ei.enc most) rfl (Ei.imm _)) r_anil rfl) rfl) (drfs_cons drf_own (drfs_cons drf_own drfs_nil)) (f_lt _ _))))))) (fun _ => (k_bnd fun a41' h42' => k_bnd fun a43' h44' => k_bnd fun a45' h46' => (k_dset (E := (Et Ei)) (F := (Et Ei)) (famT (Et Ei) rfl) (r_call (r_acons (r_call (r_acons (r_varM (d := (Dx (Et Ei) (Et Ei)) s27'.1) rfl rfl) (r_acons (r_sub (r_varM (d := (Lx (Et Ei)) s27'.2) rfl rfl) (r_var (d := Ei.enc s24'.2.2) rfl (Ei.imm _)) rfl (drf_at rfl) drf_own (s_L (Et Ei) h42')) r_anil rfl) rfl) (drfs_cons (drf_at rfl) (drfs_cons drf_own drfs_nil)) (f_dget (E := (Et Ei)) (F := (Et Ei)) (famT (Et Ei) rfl) h44')) (r_acons (r_tup (r_acons (r_var (d := Ei.enc t28') rfl (Ei.imm _)) r_anil rfl) rfl (Nat.le_of_ble_eq_true rfl)) r_anil rfl) rfl) (drfs_cons drf_own (drfs_cons drf_own drfs_nil)) (f_catT Ei h46')) (r_varM (d := (Dx (Et Ei) (Et Ei)) s27'.1) rfl rfl) (r_var (d := (Et Ei).enc more) rfl ((Et Ei).imm _)) rfl fun words47' h50' => (k_last (k_bnd fun order48' h49' => (k_expr (r_push (E := (Et Ei)) h49' (r_varM (d := (Lx (Et Ei)) s27'.2) rfl rfl) rfl (r_takeI (d := (Et Ei).enc more) rfl ((Et Ei).imm _)) rfl) (k_nx (nx_le (by exact (.any (.eq (.eq (.eq (.eq (.eq (.eq (.eq (.eq (.eq (.eq (.eq (.any (.any (.any (.any (.any (.any (.any .nil)))))))))))))))))))))))))))) (fun _ => (k_nx (nx_le (by exact (.any (.eq (.eq (.eq (.eq (.eq (.eq (.eq (.eq (.eq (.eq (.eq (.any (.any (.any (.any (.any (.any (.any .nil))))))))))))))))))))))) fun s51' => (k_nx (nx_le (by exact (.any (.eq (.eq (.eq (.eq (.eq (.eq (.eq (.eq (.eq (.eq (.any (.any (.any (.any (.any (.any (.any (.any .nil)))))))))))))))))))))))))))) (fun _ => (k_nx (nx_le (by exact (.any (.eq (.eq (.eq (.eq (.eq (.eq (.eq (.eq (.eq (.eq (.any (.any (.any (.any (.any (.any (.any (.any .nil))))))))))))))))))))))) fun s52' => (k_nx (nx_le (by exact (.any (.eq (.eq (.eq (.eq (.eq (.eq (.eq (.eq (.eq (.any (.any (.any (.any (.any (.any (.any (.any (.any .nil)))))))))))))))))))))))))) fun s27' => (k_last (k_asgF Ei.enc (r_call (r_acons (r_var (d := Ei.enc s24'.2.2) rfl (Ei.imm _)) (r_acons r_c r_anil rfl) rfl) (drfs_cons drf_own (drfs_cons drf_own drfs_nil)) (f_add _ _)) (by exact Nat.le_of_ble_eq_true rfl) fun k => (k_eqA (A' := [.any, .is (boxE v5'.2), .is ((Er (Rc Es (Rc Ei (R1 (Et (Er (Rc (Et Ei) (R1 (Et Ei))))))))).enc net), .is ((Et Ei).enc marks), .is (Ei.enc most), .is ((Et (Et Ei)).enc t11'.1), .is (Eb.enc t11'.2), .is ((Dx (Et Ei) (Et Ei)) s27'.1), .is ((Lx (Et Ei)) s27'.2), .is (Ei.enc k), .any, .any, .any, .any, .any, .any, .any, .any, .any]) rfl (k_nx (nx_le (by exact (.any (.eq (.eq (.eq (.eq (.eq (.eq (.eq (.eq (.eq (.any (.any (.any (.any (.any (.any (.any (.any (.any .nil)))))))))))))))))))))))))))) fun s24' => (k_asgF (Lx (Er (Rc Ei (R1 (Et Ei))))) (r_lst r_anil rfl (Nat.le_of_ble_eq_true rfl)) (by exact Nat.le_of_ble_eq_true rfl) fun ends => (k_eqA (A' := [.any, .is (boxE v5'.2), .is ((Er (Rc Es (Rc Ei (R1 (Et (Er (Rc (Et Ei) (R1 (Et Ei))))))))).enc net), .is ((Et Ei).enc marks), .is (Ei.enc most), .is ((Et (Et Ei)).enc t11'.1), .is (Eb.enc t11'.2), .is ((Dx (Et Ei) (Et Ei)) s24'.1), .is ((Lx (Et Ei)) s24'.2.1), .is (Ei.enc s24'.2.2), .any, .any, .is ((Lx (Er (Rc Ei (R1 (Et Ei))))) ends), .any, .any, .any, .any, .any, .any]) rfl (k_forN (fun ends' => [.any, .is (boxE v5'.2), .is ((Er (Rc Es (Rc Ei (R1 (Et (Er (Rc (Et Ei) (R1 (Et Ei))))))))).enc net), .is ((Et Ei).enc marks), .is (Ei.enc most), .is ((Et (Et Ei)).enc t11'.1), .is (Eb.enc t11'.2), .is ((Dx (Et Ei) (Et Ei)) s24'.1), .is ((Lx (Et Ei)) s24'.2.1), .is (Ei.enc s24'.2.2), .any, .any, .is ((Lx (Er (Rc Ei (R1 (Et Ei))))) ends'), .any, .any, .any, .any, .any, .any]) (i_T (Et Ei) (r_var (d := (Et (Et Ei)).enc t11'.1) rfl ((Et (Et Ei)).imm _))) (by exact (.any (.eq (.eq (.eq (.eq (.eq (.eq (.eq (.eq (.eq (.any (.any (.eq (.any (.any (.any (.any (.any (.any .nil)))))))))))))))))))) rfl (fun _ => gd_nil) (fun t53' ends' => (b_name (by exact Nat.le_of_ble_eq_true rfl))) (fun t53' ends' => (k_last (k_bnd fun r54' h55' => k_bnd fun a59' h60' => (k_ifJ (A' := (fun ends => [.any, .is (boxE v5'.2), .is ((Er (Rc Es (Rc Ei (R1 (Et (Er (Rc (Et Ei) (R1 (Et Ei))))))))).enc net), .is ((Et Ei).enc marks), .is (Ei.enc most), .is ((Et (Et Ei)).enc t11'.1), .is (Eb.enc t11'.2), .is ((Dx (Et Ei) (Et Ei)) s24'.1), .is ((Lx (Et Ei)) s24'.2.1), .is (Ei.enc s24'.2.2), .any, .any, .is ((Lx (Er (Rc Ei (R1 (Et Ei))))) ends), .is ((Et Ei).enc t53'), .any, .any, .any, .any, .any])) (r_tb (r_call (r_acons (r_call (r_acons (r_lcO (g := Ei.enc) (i_rng1 (r_acons (r_call (r_acons (r_sub (i := (2 : Int)) (r_var (d := (Er (Rc Es (Rc Ei (R1 (Et (Er (Rc (Et Ei) (R1 (Et Ei))))))))).enc net) rfl ((Er (Rc Es (Rc Ei (R1 (Et (Er (Rc (Et Ei) (R1 (Et Ei))))))))).imm _)) r_c rfl drf_own drf_own (s_R (d := (Et (Er (Rc (Et Ei) (R1 (Et Ei))))).enc net.2.2) rfl ((Et (Er (Rc (Et Ei) (R1 (Et Ei))))).imm _))) r_anil rfl) (drfs_cons drf_own drfs_nil) (f_lenT (Er (Rc (Et Ei) (R1 (Et Ei)))) net.2.2)) r_anil rfl) h55') rfl gd_nil ⟨fun t56' => (b_name (by exact Nat.le_of_ble_eq_true rfl)), fun t56' => (to_bnd fun a57' h58' => to_some (r_tv (r_user (r_acons (r_var (d := (Er (Rc Es (Rc Ei (R1 (Et (Er (Rc (Et Ei) (R1 (Et Ei))))))))).enc net) rfl ((Er (Rc Es (Rc Ei (R1 (Et (Er (Rc (Et Ei) (R1 (Et Ei))))))))).imm _)) (r_acons (r_var (d := (Et Ei).enc t53') rfl ((Et Ei).imm _)) (r_acons (r_var (d := Ei.enc t56') rfl (Ei.imm _)) r_anil rfl) rfl) rfl) rfl (drfs_cons drf_own (drfs_cons drf_own (drfs_cons drf_own drfs_nil))) (ref_law_can h58') (.own (.own (.own .nil)))) drf_own (t_B _))), fun t56' y1 _ => (o_some (ex := Ei.enc) (v := t56') (r_var (d := Ei.enc t56') rfl (Ei.imm _))) y1, by decide⟩ h60') r_anil rfl) (drfs_cons drf_own drfs_nil) (f_lenL Ei a59')) (r_acons r_c r_anil rfl) rfl) (drfs_cons drf_own (drfs_cons drf_own drfs_nil)) (f_eq Ei (List.length a59' : Int) (0 : Int) rfl))) (fun _ => (k_last (k_bnd fun a61' h62' => k_bnd fun a63' h64' => k_bnd fun ends65' h66' => (k_expr (r_push (E := (Er (Rc Ei (R1 (Et Ei))))) h66' (r_varM (d := (Lx (Er (Rc Ei (R1 (Et Ei))))) ends') rfl rfl) rfl (r_tup (r_acons (r_call (r_acons (r_call (r_acons (r_varM (d := (Dx (Et Ei) (Et Ei)) s24'.1) rfl rfl) (r_acons (r_var (d := (Et Ei).enc t53') rfl ((Et Ei).imm _)) r_anil rfl) rfl) (drfs_cons (drf_at rfl) (drfs_cons drf_own drfs_nil)) (f_dget (E := (Et Ei)) (F := (Et Ei)) (famT (Et Ei) rfl) h62')) r_anil rfl) (drfs_cons drf_own drfs_nil) (f_lenT Ei a61')) (r_acons (r_call (r_acons (r_varM (d := (Dx (Et Ei) (Et Ei)) s24'.1) rfl rfl) (r_acons (r_var (d := (Et Ei).enc t53') rfl ((Et Ei).imm _)) r_anil rfl) rfl) (drfs_cons (drf_at rfl) (drfs_cons drf_own drfs_nil)) (f_dget (E := (Et Ei)) (F := (Et Ei)) (famT (Et Ei) rfl) h64')) r_anil rfl) rfl) rfl (Nat.le_of_ble_eq_true rfl)) rfl) (k_nx (nx_le (by exact (.any (.eq (.eq (.eq (.eq (.eq (.eq (.eq (.eq (.eq (.any (.any (.eq (.eq (.any (.any (.any (.any (.any .nil)))))))))))))))))))))))))) (fun _ => (k_nx (nx_le (by exact (.any (.eq (.eq (.eq (.eq (.eq (.eq (.eq (.eq (.eq (.any (.any (.eq (.eq (.any (.any (.any (.any (.any .nil))))))))))))))))))))))) fun ends => (k_nx (nx_le (by exact (.any (.eq (.eq (.eq (.eq (.eq (.eq (.eq (.eq (.eq (.any (.any (.eq (.any (.any (.any (.any (.any (.any .nil)))))))))))))))))))))))))) fun ends' => (k_asgF (Ea (Ac (R1 Es) (A1 (Rc Es (R1 (Et Ei)))) rfl)).enc (r_tup (r_acons r_c r_anil rfl) rfl (Nat.le_of_ble_eq_true rfl)) (by exact Nat.le_of_ble_eq_true rfl) fun due => (k_ifJ (A' := (fun due => [.any, .is (boxE v5'.2), .is ((Er (Rc Es (Rc Ei (R1 (Et (Er (Rc (Et Ei) (R1 (Et Ei))))))))).enc net), .is ((Et Ei).enc marks), .is (Ei.enc most), .is ((Et (Et Ei)).enc t11'.1), .is (Eb.enc t11'.2), .is ((Dx (Et Ei) (Et Ei)) s24'.1), .is ((Lx (Et Ei)) s24'.2.1), .is (Ei.enc s24'.2.2), .any, .any, .is ((Lx (Er (Rc Ei (R1 (Et Ei))))) ends'), .any, .is ((Ea (Ac (R1 Es) (A1 (Rc Es (R1 (Et Ei)))) rfl)).enc due), .any, .any, .any, .any])) (r_tv (r_var (d := Eb.enc t11'.2) rfl (Eb.imm _)) drf_own (t_B _)) (fun _ => (k_last (k_asgF (Ea (Ac (R1 Es) (A1 (Rc Es (R1 (Et Ei)))) rfl)).enc (r_tup (r_acons r_c r_anil rfl) rfl (Nat.le_of_ble_eq_true rfl)) (by exact Nat.le_of_ble_eq_true rfl) fun due => (k_nx (nx_le (by exact (.any (.eq (.eq (.eq (.eq (.eq (.eq (.eq (.eq (.eq (.any (.any (.eq (.any (.eq (.any (.any (.any (.any .nil))))))))))))))))))))))))) (fun _ => (k_nx (nx_le (by exact (.any (.eq (.eq (.eq (.eq (.eq (.eq (.eq (.eq (.eq (.any (.any (.eq (.any (.eq (.any (.any (.any (.any .nil))))))))))))))))))))))) fun due => (k_ifJ (A' := (fun due => [.any, .is (boxE v5'.2), .is ((Er (Rc Es (Rc Ei (R1 (Et (Er (Rc (Et Ei) (R1 (Et Ei))))))))).enc net), .is ((Et Ei).enc marks), .is (Ei.enc most), .is ((Et (Et Ei)).enc t11'.1), .is (Eb.enc t11'.2), .is ((Dx (Et Ei) (Et Ei)) s24'.1), .is ((Lx (Et Ei)) s24'.2.1), .is (Ei.enc s24'.2.2), .any, .any, .is ((Lx (Er (Rc Ei (R1 (Et Ei))))) ends'), .any, .is ((Ea (Ac (R1 Es) (A1 (Rc Es (R1 (Et Ei)))) rfl)).enc due), .any, .any, .any, .any])) (r_tb (r_call (r_acons (r_call (r_acons (r_varM (d := (Lx (Er (Rc Ei (R1 (Et Ei))))) ends') rfl rfl) r_anil rfl) (drfs_cons (drf_at rfl) drfs_nil) (f_lenL (Er (Rc Ei (R1 (Et Ei)))) ends')) (r_acons r_c r_anil rfl) rfl) (drfs_cons drf_own (drfs_cons drf_own drfs_nil)) (f_gt _ _))) (fun _ => (k_last (k_bnd fun a67' h68' => (k_asgF (Ea (Ac (R1 Es) (A1 (Rc Es (R1 (Et Ei)))) rfl)).enc (r_tup (r_acons r_c (r_acons (r_sub (i := (1 : Int)) (r_call (r_acons (r_varM (d := (Lx (Er (Rc Ei (R1 (Et Ei))))) ends') rfl rfl) r_anil rfl) (drfs_cons (drf_at rfl) drfs_nil) (f_min (xs := ends') (Er (Rc Ei (R1 (Et Ei)))) rfl h68' rfl rfl rfl)) r_c rfl drf_own drf_own (s_R (d := (Et Ei).enc a67'.2) rfl ((Et Ei).imm _))) r_anil rfl) rfl) rfl (Nat.le_of_ble_eq_true rfl)) (by exact Nat.le_of_ble_eq_true rfl) fun due => (k_nx (nx_le (by exact (.any (.eq (.eq (.eq (.eq (.eq (.eq (.eq (.eq (.eq (.any (.any (.eq (.any (.eq (.any (.any (.any (.any .nil)))))))))))))))))))))))))) (fun _ => (k_nx (nx_le (by exact (.any (.eq (.eq (.eq (.eq (.eq (.eq (.eq (.eq (.eq (.any (.any (.eq (.any (.eq (.any (.any (.any (.any .nil))))))))))))))))))))))) fun due => (k_bnd fun a69' h70' => k_bnd fun a71' h72' => (k_if (r_not (r_tv (r_user (r_acons (r_user (r_acons (r_var (d := (Er (Rc Es (Rc Ei (R1 (Et (Er (Rc (Et Ei) (R1 (Et Ei))))))))).enc net) rfl ((Er (Rc Es (Rc Ei (R1 (Et (Er (Rc (Et Ei) (R1 (Et Ei))))))))).imm _)) (r_acons (r_var (d := (Et Ei).enc marks) rfl ((Et Ei).imm _)) (r_acons (r_var (d := Ei.enc most) rfl (Ei.imm _)) r_anil rfl) rfl) rfl) rfl (drfs_cons drf_own (drfs_cons drf_own (drfs_cons drf_own drfs_nil))) (ref_decide_end h70') (.own (.own (.own .nil)))) (r_acons (r_var (d := (Ea (Ac (R1 Es) (A1 (Rc Es (R1 (Et Ei)))) rfl)).enc due) rfl ((Ea (Ac (R1 Es) (A1 (Rc Es (R1 (Et Ei)))) rfl)).imm _)) r_anil rfl) rfl) rfl (drfs_cons drf_own (drfs_cons drf_own drfs_nil)) (f_same (Ea (Ac (R1 Es) (A1 (Rc Es (R1 (Et Ei)))) rfl)) h72' rfl) (.own (.own .nil))) drf_own (t_B _))) (fun _ => (k_ret r_c (rt_le (by exact (.any (.any (.any (.any (.any (.any (.any (.any (.any (.any (.any (.any (.any (.any (.any (.any (.any (.any (.any .nil))))))))))))))))))))))) (fun _ => (k_nil (k_if (r_not (r_tv (r_var (d := Eb.enc t11'.2) rfl (Eb.imm _)) drf_own (t_B _))) (fun _ => (k_bnd fun a75' h76' => k_bnd fun a79' h80' => (k_ret (o_andV (r_call (r_acons (r_user (r_acons (r_var (d := (Er (Rc Es (Rc Ei (R1 (Et (Er (Rc (Et Ei) (R1 (Et Ei))))))))).enc net) rfl ((Er (Rc Es (Rc Ei (R1 (Et (Er (Rc (Et Ei) (R1 (Et Ei))))))))).imm _)) (r_acons (r_var (d := (Et Ei).enc marks) rfl ((Et Ei).imm _)) (r_acons (r_var (d := Ei.enc most) rfl (Ei.imm _)) r_anil rfl) rfl) rfl) rfl (drfs_cons drf_own (drfs_cons drf_own (drfs_cons drf_own drfs_nil))) (ref_live_steps h76') (.own (.own (.own .nil)))) (r_acons r_c r_anil rfl) rfl) (drfs_cons drf_own (drfs_cons drf_own drfs_nil)) (f_isN (Et Ei) rfl a75')) (fun _ => (o_bnd fun a77' h78' => o_some (r_call (r_acons (r_user (r_acons (r_var (d := (Er (Rc Es (Rc Ei (R1 (Et (Er (Rc (Et Ei) (R1 (Et Ei))))))))).enc net) rfl ((Er (Rc Es (Rc Ei (R1 (Et (Er (Rc (Et Ei) (R1 (Et Ei))))))))).imm _)) (r_acons (r_var (d := (Et Ei).enc marks) rfl ((Et Ei).imm _)) (r_acons (r_var (d := Ei.enc most) rfl (Ei.imm _)) r_anil rfl) rfl) rfl) rfl (drfs_cons drf_own (drfs_cons drf_own (drfs_cons drf_own drfs_nil))) (ref_comes_home h78') (.own (.own (.own .nil)))) (r_acons r_c r_anil rfl) rfl) (drfs_cons drf_own (drfs_cons drf_own drfs_nil)) (f_isN Eb rfl a77')))) h80') (rt_le (by exact (.any (.any (.any (.any (.any (.any (.any (.any (.any (.any (.any (.any (.any (.any (.any (.any (.any (.any (.any .nil)))))))))))))))))))))))) (fun _ => (k_nil (k_bnd fun a81' h82' => (k_asgF (Lx Ei) (r_listRg (r_call (r_acons (r_sub (i := (2 : Int)) (r_var (d := (Er (Rc Es (Rc Ei (R1 (Et (Er (Rc (Et Ei) (R1 (Et Ei))))))))).enc net) rfl ((Er (Rc Es (Rc Ei (R1 (Et (Er (Rc (Et Ei) (R1 (Et Ei))))))))).imm _)) r_c rfl drf_own drf_own (s_R (d := (Et (Er (Rc (Et Ei) (R1 (Et Ei))))).enc net.2.2) rfl ((Et (Er (Rc (Et Ei) (R1 (Et Ei))))).imm _))) r_anil rfl) (drfs_cons drf_own drfs_nil) (f_lenT (Er (Rc (Et Ei) (R1 (Et Ei)))) net.2.2)) h82') (by exact Nat.le_of_ble_eq_true rfl) fun live => (k_asgF Eb.enc r_c (by exact Nat.le_of_ble_eq_true rfl) fun home => (k_eqA (A' := [.any, .is (boxE v5'.2), .is ((Er (Rc Es (Rc Ei (R1 (Et (Er (Rc (Et Ei) (R1 (Et Ei))))))))).enc net), .is ((Et Ei).enc marks), .is (Ei.enc most), .is ((Et (Et Ei)).enc t11'.1), .is (Eb.enc t11'.2), .is ((Dx (Et Ei) (Et Ei)) s24'.1), .is ((Lx (Et Ei)) s24'.2.1), .is (Ei.enc s24'.2.2), .any, .any, .is ((Lx (Er (Rc Ei (R1 (Et Ei))))) ends'), .any, .is ((Ea (Ac (R1 Es) (A1 (Rc Es (R1 (Et Ei)))) rfl)).enc due), .is ((Lx Ei) live), .is (Eb.enc home), .any, .any]) rfl (k_forN (fun s83' => [.any, .is (boxE v5'.2), .is ((Er (Rc Es (Rc Ei (R1 (Et (Er (Rc (Et Ei) (R1 (Et Ei))))))))).enc net), .is ((Et Ei).enc marks), .is (Ei.enc most), .is ((Et (Et Ei)).enc t11'.1), .is (Eb.enc t11'.2), .is ((Dx (Et Ei) (Et Ei)) s24'.1), .is ((Lx (Et Ei)) s24'.2.1), .is (Ei.enc s24'.2.2), .any, .any, .is ((Lx (Er (Rc Ei (R1 (Et Ei))))) ends'), .any, .is ((Ea (Ac (R1 Es) (A1 (Rc Es (R1 (Et Ei)))) rfl)).enc due), .is ((Lx Ei) s83'.1), .is (Eb.enc s83'.2), .any, .any]) (i_T (Et Ei) (r_var (d := (Et (Et Ei)).enc t11'.1) rfl ((Et (Et Ei)).imm _))) (by exact (.any (.eq (.eq (.eq (.eq (.eq (.eq (.eq (.eq (.eq (.any (.any (.eq (.any (.eq (.eq (.eq (.any (.any .nil)))))))))))))))))))) rfl (fun _ => gd_nil) (fun t84' s83' => (b_name (by exact Nat.le_of_ble_eq_true rfl))) (fun t84' s83' => (k_bnd fun a85' h86' => (k_asgF (Et (Et Ei)).enc (r_sub (i := (0 : Int)) (r_user (r_acons (r_var (d := (Er (Rc Es (Rc Ei (R1 (Et (Er (Rc (Et Ei) (R1 (Et Ei))))))))).enc net) rfl ((Er (Rc Es (Rc Ei (R1 (Et (Er (Rc (Et Ei) (R1 (Et Ei))))))))).imm _)) (r_acons (r_var (d := (Et Ei).enc t84') rfl ((Et Ei).imm _)) (r_acons (r_var (d := Ei.enc most) rfl (Ei.imm _)) r_anil rfl) rfl) rfl) rfl (drfs_cons drf_own (drfs_cons drf_own (drfs_cons drf_own drfs_nil))) (ref_law_net_reach h86') (.own (.own (.own .nil)))) r_c rfl drf_own drf_own (s_R (d := (Et (Et Ei)).enc a85'.1) rfl ((Et (Et Ei)).imm _))) (by exact Nat.le_of_ble_eq_true rfl) fun far => (k_bnd fun a93' h94' => (k_asgF (Lx Ei) (r_lcO (g := Ei.enc) (i_V Ei (r_varM (d := (Lx Ei) s83'.1) rfl rfl) rfl) rfl (gd_cons rfl gd_nil) ⟨fun t87' => (b_name (by exact Nat.le_of_ble_eq_true rfl)), fun t87' => (to_bnd fun a91' h92' => to_some (r_tb (r_call (r_acons (r_call (r_acons (r_lcO (g := (Et Ei).enc) (i_T (Et Ei) (r_var (d := (Et (Et Ei)).enc far) rfl ((Et (Et Ei)).imm _))) rfl gd_nil ⟨fun t88' => (b_name (by exact Nat.le_of_ble_eq_true rfl)), fun t88' => (to_bnd fun a89' h90' => to_some (r_tv (r_user (r_acons (r_var (d := (Er (Rc Es (Rc Ei (R1 (Et (Er (Rc (Et Ei) (R1 (Et Ei))))))))).enc net) rfl ((Er (Rc Es (Rc Ei (R1 (Et (Er (Rc (Et Ei) (R1 (Et Ei))))))))).imm _)) (r_acons (r_var (d := (Et Ei).enc t88') rfl ((Et Ei).imm _)) (r_acons (r_var (d := Ei.enc t87') rfl (Ei.imm _)) r_anil rfl) rfl) rfl) rfl (drfs_cons drf_own (drfs_cons drf_own (drfs_cons drf_own drfs_nil))) (ref_law_can h90') (.own (.own (.own .nil)))) drf_own (t_B _))), fun t88' y1 _ => (o_some (ex := (Et Ei).enc) (v := t88') (r_var (d := (Et Ei).enc t88') rfl ((Et Ei).imm _))) y1, by decide⟩ h92') r_anil rfl) (drfs_cons drf_own drfs_nil) (f_lenL (Et Ei) a91')) (r_acons r_c r_anil rfl) rfl) (drfs_cons drf_own (drfs_cons drf_own drfs_nil)) (f_gt _ _)))), fun t87' y1 _ => (o_some (ex := Ei.enc) (v := t87') (r_var (d := Ei.enc t87') rfl (Ei.imm _))) y1, by decide⟩ h94') (by exact Nat.le_of_ble_eq_true rfl) fun live => (k_last (k_ifJ (A' := (fun home => [.any, .is (boxE v5'.2), .is ((Er (Rc Es (Rc Ei (R1 (Et (Er (Rc (Et Ei) (R1 (Et Ei))))))))).enc net), .is ((Et Ei).enc marks), .is (Ei.enc most), .is ((Et (Et Ei)).enc t11'.1), .is (Eb.enc t11'.2), .is ((Dx (Et Ei) (Et Ei)) s24'.1), .is ((Lx (Et Ei)) s24'.2.1), .is (Ei.enc s24'.2.2), .any, .any, .is ((Lx (Er (Rc Ei (R1 (Et Ei))))) ends'), .is ((Et Ei).enc t84'), .is ((Ea (Ac (R1 Es) (A1 (Rc Es (R1 (Et Ei)))) rfl)).enc due), .is ((Lx Ei) live), .is (Eb.enc home), .is ((Et (Et Ei)).enc far), .any])) (r_tb (r_call (r_acons (r_var (d := (Et Ei).enc marks) rfl ((Et Ei).imm _)) (r_acons (r_var (d := (Et (Et Ei)).enc far) rfl ((Et (Et Ei)).imm _)) r_anil rfl) rfl) (drfs_cons drf_own (drfs_cons drf_own drfs_nil)) (f_ninTB (Et Ei) marks far rfl))) (fun _ => (k_last (k_asgF Eb.enc r_c (by exact Nat.le_of_ble_eq_true rfl) fun home => (k_eqA (A' := [.any, .is (boxE v5'.2), .is ((Er (Rc Es (Rc Ei (R1 (Et (Er (Rc (Et Ei) (R1 (Et Ei))))))))).enc net), .is ((Et Ei).enc marks), .is (Ei.enc most), .is ((Et (Et Ei)).enc t11'.1), .is (Eb.enc t11'.2), .is ((Dx (Et Ei) (Et Ei)) s24'.1), .is ((Lx (Et Ei)) s24'.2.1), .is (Ei.enc s24'.2.2), .any, .any, .is ((Lx (Er (Rc Ei (R1 (Et Ei))))) ends'), .is ((Et Ei).enc t84'), .is ((Ea (Ac (R1 Es) (A1 (Rc Es (R1 (Et Ei)))) rfl)).enc due), .is ((Lx Ei) live), .is (Eb.enc home), .is ((Et (Et Ei)).enc far), .any]) rfl (k_nx (nx_le (by exact (.any (.eq (.eq (.eq (.eq (.eq (.eq (.eq (.eq (.eq (.any (.any (.eq (.eq (.eq (.eq (.eq (.eq (.any .nil)))))))))))))))))))))))))) (fun _ => (k_nx (nx_le (by exact (.any (.eq (.eq (.eq (.eq (.eq (.eq (.eq (.eq (.eq (.any (.any (.eq (.eq (.eq (.eq (.eq (.eq (.any .nil))))))))))))))))))))))) fun home => (k_nx (nx_le (by exact (.any (.eq (.eq (.eq (.eq (.eq (.eq (.eq (.eq (.eq (.any (.any (.eq (.any (.eq (.eq (.eq (.any (.any .nil))))))))))))))))))))))))))))) fun s83' => (k_last (k_bnd fun a99' h100' => k_bnd fun a101' h102' => k_bnd fun a107' h108' => (k_ret (o_andV (r_user (r_acons (r_user (r_acons (r_var (d := (Er (Rc Es (Rc Ei (R1 (Et (Er (Rc (Et Ei) (R1 (Et Ei))))))))).enc net) rfl ((Er (Rc Es (Rc Ei (R1 (Et (Er (Rc (Et Ei) (R1 (Et Ei))))))))).imm _)) (r_acons (r_var (d := (Et Ei).enc marks) rfl ((Et Ei).imm _)) (r_acons (r_var (d := Ei.enc most) rfl (Ei.imm _)) r_anil rfl) rfl) rfl) rfl (drfs_cons drf_own (drfs_cons drf_own (drfs_cons drf_own drfs_nil))) (ref_live_steps h100') (.own (.own (.own .nil)))) (r_acons (r_call (r_acons (r_varM (d := (Lx Ei) s83'.1) rfl rfl) r_anil rfl) (drfs_cons (drf_at rfl) drfs_nil) (f_tuple Ei s83'.1)) r_anil rfl) rfl) rfl (drfs_cons drf_own (drfs_cons drf_own drfs_nil)) (f_same (Eo (Et Ei) rfl) h102' rfl) (.own (.own .nil))) (fun _ => (o_bnd fun a103' h104' => o_bnd fun a105' h106' => o_some (r_user (r_acons (r_user (r_acons (r_var (d := (Er (Rc Es (Rc Ei (R1 (Et (Er (Rc (Et Ei) (R1 (Et Ei))))))))).enc net) rfl ((Er (Rc Es (Rc Ei (R1 (Et (Er (Rc (Et Ei) (R1 (Et Ei))))))))).imm _)) (r_acons (r_var (d := (Et Ei).enc marks) rfl ((Et Ei).imm _)) (r_acons (r_var (d := Ei.enc most) rfl (Ei.imm _)) r_anil rfl) rfl) rfl) rfl (drfs_cons drf_own (drfs_cons drf_own (drfs_cons drf_own drfs_nil))) (ref_comes_home h104') (.own (.own (.own .nil)))) (r_acons (r_var (d := Eb.enc s83'.2) rfl (Eb.imm _)) r_anil rfl) rfl) rfl (drfs_cons drf_own (drfs_cons drf_own drfs_nil)) (f_same (Eo Eb rfl) h106' rfl) (.own (.own .nil))))) h108') (rt_le (by exact (.any (.any (.any (.any (.any (.any (.any (.any (.any (.any (.any (.any (.any (.any (.any (.any (.any (.any (.any .nil))))))))))))))))))))))))))))))))))))))))))))))))))))))))))))
theorem law_true (hb : ∀ box : Box, n_law box = some true) (ns : List Int) (c : List D → D) (hc : c = .lst ∨ c = .frz) : ∃ fs, d_law [c (ns.map .int)] = some (.bl true, fs) := by
  obtain ⟨b, e⟩ := box_step hc ns
  obtain ⟨out, e2, δ, rfl, a⟩ := ref_law b true (hb b) (some (c (ns.map .int)) :: some (boxE b) :: List.replicate 17 none) ⟨rfl, fun i d h => by
    match i, h with
    | 0, h => cases h
    | 1, h => cases h; rfl
    | i + 2, h =>
      have : ([.any, .any, .any, .any, .any, .any, .any, .any, .any, .any, .any, .any, .any, .any, .any, .any, .any] : List Sl)[i]? = some (.is d) := h
      have h2 := List.mem_of_getElem? this
      simp at h2⟩
  have e3 := (e r_law (List.replicate 17 none)).trans e2
  exact ⟨_, by simp only [d_law, dFn]; exact (show _ = _ from by rw [show m_law (env0 19 1 [c (ns.map .int)]) = some (Out.rt (.bl true) δ) from e3]; rfl)⟩
end P07


set_option Elab.async false
set_option linter.all false
set_option maxRecDepth 100000
set_option maxHeartbeats 20000000
set_option synthInstance.maxHeartbeats 400000
set_option synthInstance.maxSize 4000
namespace P07
open PySem PySem.Spec PyProof.Rows L2 Z Y
/-! the head -/
def tf : List He.Defn := ("can", none) :: ("done", none) :: ("possible", none) :: ("reached", none) :: ("shortest_to", none) :: ("decide_end", none) :: ("live_steps", none) :: ("comes_home", none) :: ("_law_box", none) :: ("_law_digits", none) :: ("_law_cell", none) :: ("_law_safe_net", none) :: ("_law_draw", none) :: ("_law_marks", none) :: ("_law_net_reach", none) :: ("_law_can", none) :: ("_law_fired", none) :: ("_law_same", none) :: ("law", none) :: []
def fn : List He.DefD := [dOf "can" (top 1), dOf "done" (top 2), dOf "possible" (top 3), dOf "reached" (top 5), dOf "shortest_to" (top 6), dOf "decide_end" (top 7), dOf "live_steps" (top 8), dOf "comes_home" (top 9), dOf "_law_box" (top 11), dOf "_law_digits" (top 12), dOf "_law_cell" (top 13), dOf "_law_safe_net" (top 14), dOf "_law_draw" (top 15), dOf "_law_marks" (top 16), dOf "_law_net_reach" (top 17), dOf "_law_can" (top 18), dOf "_law_fired" (top 19), dOf "_law_same" (top 20), dOf "law" (top 21)]
def fa : List He.Fa := [.glo "can", .glo "done", .glo "possible", .glo "reached", .glo "shortest_to", .glo "decide_end", .glo "live_steps", .glo "comes_home", .glo "_law_box", .glo "_law_digits", .glo "_law_cell", .glo "_law_safe_net", .glo "_law_draw", .glo "_law_marks", .glo "_law_net_reach", .glo "_law_can", .glo "_law_fired", .glo "_law_same", .glo "law", .free "range", .free "len", .free "int", .free "tuple", .free "all", .free "zip", .free "any", .free "isinstance", .free "bool", .free "str", .free "min", .free "list"]
abbrev RR : PySem.W.OpenRow := PySem.W.OpenLaw.row PySem.Challenge.rw_tracehouse_k07_ends_and_life_of_nets
abbrev hk : PySem.W.Hook := He.hookX 5 fa fn [] tf (exTabs tf)
def ob (s : PySem.W.SharedT) : He.AlX := He.obsX 5 fa fn [] tf (exTabs tf) (HandSHeadRun.getT s)
theorem ob_eq (s : PySem.W.SharedT) : ob s = hk.obs s.abs := He.obsX_eq (HandSHeadRun.getT_eq s)
def names : List Str := ["can", "done", "possible", "reached", "shortest_to", "decide_end", "live_steps", "comes_home", "_law_box", "_law_digits", "_law_cell", "_law_safe_net", "_law_draw", "_law_marks", "_law_net_reach", "_law_can", "_law_fired", "_law_same"]
set_option maxHeartbeats 0 in
theorem run (w : World) : HandSHeadRun.RunEq RR (PySem.W.view RR.prog [21]) hk ob 1900 names w := by
  intro os
  kernel_rfl
theorem facts {w : World} {K : PySem.W.Frag} {h : Heap} {mg : Str → Option Value} {f : Addr} (X : K.In h) (G : h.Ns mainGlobals mg) (hfa : mg ("law" : Str) = some (.ref f)) (c : He.SaysX fa fn [] tf (exTabs tf) w h K)
    (hm : ∀ (ns : List Int) (c : List D → D), c = .lst ∨ c = .frz → ns.length ≤ 63 → (∀ z ∈ ns, Builtin.Int.intBits z ≤ 1048576) → ∃ fs, d_law [c (ns.map .int)] = some (.bl true, fs)) :
    LamX.LawAtS PySem.Challenge.rw_tracehouse_k07_ends_and_life_of_nets w K CX0 9 63 "script" mg f h := by
  obtain ⟨g_can, D_can, b_can⟩ := Def.of X G c (x := "can") (st := top 1) (ps := ["net", "marks", "step"]) (List.mem_of_getElem? (i := 0) rfl) (List.mem_of_getElem? (i := 0) rfl) (List.mem_of_getElem? (i := 0) rfl) (fun _ _ _ _ _ _ us hl => match us, hl with | [_, _, _], _ => rfl)
  obtain ⟨g_done, D_done, b_done⟩ := Def.of X G c (x := "done") (st := top 2) (ps := ["net", "marks", "step"]) (List.mem_of_getElem? (i := 1) rfl) (List.mem_of_getElem? (i := 1) rfl) (List.mem_of_getElem? (i := 1) rfl) (fun _ _ _ _ _ _ us hl => match us, hl with | [_, _, _], _ => rfl)
  obtain ⟨g_possible, D_possible, b_possible⟩ := Def.of X G c (x := "possible") (st := top 3) (ps := ["net", "marks"]) (List.mem_of_getElem? (i := 2) rfl) (List.mem_of_getElem? (i := 2) rfl) (List.mem_of_getElem? (i := 2) rfl) (fun _ _ _ _ _ _ us hl => match us, hl with | [_, _], _ => rfl)
  obtain ⟨g_reached, D_reached, b_reached⟩ := Def.of X G c (x := "reached") (st := top 5) (ps := ["net", "marks", "most"]) (List.mem_of_getElem? (i := 3) rfl) (List.mem_of_getElem? (i := 3) rfl) (List.mem_of_getElem? (i := 3) rfl) (fun _ _ _ _ _ _ us hl => match us, hl with | [_, _, _], _ => rfl)
  obtain ⟨g_shortest_to, D_shortest_to, b_shortest_to⟩ := Def.of X G c (x := "shortest_to") (st := top 6) (ps := ["net", "marks", "goal", "most"]) (List.mem_of_getElem? (i := 4) rfl) (List.mem_of_getElem? (i := 4) rfl) (List.mem_of_getElem? (i := 4) rfl) (fun _ _ _ _ _ _ us hl => match us, hl with | [_, _, _, _], _ => rfl)
  obtain ⟨g_decide_end, D_decide_end, b_decide_end⟩ := Def.of X G c (x := "decide_end") (st := top 7) (ps := ["net", "marks", "most"]) (List.mem_of_getElem? (i := 5) rfl) (List.mem_of_getElem? (i := 5) rfl) (List.mem_of_getElem? (i := 5) rfl) (fun _ _ _ _ _ _ us hl => match us, hl with | [_, _, _], _ => rfl)
  obtain ⟨g_live_steps, D_live_steps, b_live_steps⟩ := Def.of X G c (x := "live_steps") (st := top 8) (ps := ["net", "marks", "most"]) (List.mem_of_getElem? (i := 6) rfl) (List.mem_of_getElem? (i := 6) rfl) (List.mem_of_getElem? (i := 6) rfl) (fun _ _ _ _ _ _ us hl => match us, hl with | [_, _, _], _ => rfl)
  obtain ⟨g_comes_home, D_comes_home, b_comes_home⟩ := Def.of X G c (x := "comes_home") (st := top 9) (ps := ["net", "marks", "most"]) (List.mem_of_getElem? (i := 7) rfl) (List.mem_of_getElem? (i := 7) rfl) (List.mem_of_getElem? (i := 7) rfl) (fun _ _ _ _ _ _ us hl => match us, hl with | [_, _, _], _ => rfl)
  obtain ⟨g_law_box, D_law_box, b_law_box⟩ := Def.of X G c (x := "_law_box") (st := top 11) (ps := ["script", "first", "last"]) (List.mem_of_getElem? (i := 8) rfl) (List.mem_of_getElem? (i := 8) rfl) (List.mem_of_getElem? (i := 8) rfl) (fun _ _ _ _ _ _ us hl => match us, hl with | [_, _, _], _ => rfl)
  obtain ⟨g_law_digits, D_law_digits, b_law_digits⟩ := Def.of X G c (x := "_law_digits") (st := top 12) (ps := ["script", "first", "last"]) (List.mem_of_getElem? (i := 9) rfl) (List.mem_of_getElem? (i := 9) rfl) (List.mem_of_getElem? (i := 9) rfl) (fun _ _ _ _ _ _ us hl => match us, hl with | [_, _, _], _ => rfl)
  obtain ⟨g_law_cell, D_law_cell, b_law_cell⟩ := Def.of X G c (x := "_law_cell") (st := top 13) (ps := ["script", "k"]) (List.mem_of_getElem? (i := 10) rfl) (List.mem_of_getElem? (i := 10) rfl) (List.mem_of_getElem? (i := 10) rfl) (fun _ _ _ _ _ _ us hl => match us, hl with | [_, _], _ => rfl)
  obtain ⟨g_law_safe_net, D_law_safe_net, b_law_safe_net⟩ := Def.of X G c (x := "_law_safe_net") (st := top 14) (ps := ["box", "most", "wide"]) (List.mem_of_getElem? (i := 11) rfl) (List.mem_of_getElem? (i := 11) rfl) (List.mem_of_getElem? (i := 11) rfl) (fun _ _ _ _ _ _ us hl => match us, hl with | [_, _, _], _ => rfl)
  obtain ⟨g_law_draw, D_law_draw, b_law_draw⟩ := Def.of X G c (x := "_law_draw") (st := top 15) (ps := ["box", "many"]) (List.mem_of_getElem? (i := 12) rfl) (List.mem_of_getElem? (i := 12) rfl) (List.mem_of_getElem? (i := 12) rfl) (fun _ _ _ _ _ _ us hl => match us, hl with | [_, _], _ => rfl)
  obtain ⟨g_law_marks, D_law_marks, b_law_marks⟩ := Def.of X G c (x := "_law_marks") (st := top 16) (ps := ["box", "net", "most"]) (List.mem_of_getElem? (i := 13) rfl) (List.mem_of_getElem? (i := 13) rfl) (List.mem_of_getElem? (i := 13) rfl) (fun _ _ _ _ _ _ us hl => match us, hl with | [_, _, _], _ => rfl)
  obtain ⟨g_law_net_reach, D_law_net_reach, b_law_net_reach⟩ := Def.of X G c (x := "_law_net_reach") (st := top 17) (ps := ["net", "marks", "most"]) (List.mem_of_getElem? (i := 14) rfl) (List.mem_of_getElem? (i := 14) rfl) (List.mem_of_getElem? (i := 14) rfl) (fun _ _ _ _ _ _ us hl => match us, hl with | [_, _, _], _ => rfl)
  obtain ⟨g_law_can, D_law_can, b_law_can⟩ := Def.of X G c (x := "_law_can") (st := top 18) (ps := ["net", "marks", "step"]) (List.mem_of_getElem? (i := 15) rfl) (List.mem_of_getElem? (i := 15) rfl) (List.mem_of_getElem? (i := 15) rfl) (fun _ _ _ _ _ _ us hl => match us, hl with | [_, _, _], _ => rfl)
  obtain ⟨g_law_fired, D_law_fired, b_law_fired⟩ := Def.of X G c (x := "_law_fired") (st := top 19) (ps := ["net", "marks", "step"]) (List.mem_of_getElem? (i := 16) rfl) (List.mem_of_getElem? (i := 16) rfl) (List.mem_of_getElem? (i := 16) rfl) (fun _ _ _ _ _ _ us hl => match us, hl with | [_, _, _], _ => rfl)
  obtain ⟨g_law_same, D_law_same, b_law_same⟩ := Def.of X G c (x := "_law_same") (st := top 20) (ps := ["actual", "expected"]) (List.mem_of_getElem? (i := 17) rfl) (List.mem_of_getElem? (i := 17) rfl) (List.mem_of_getElem? (i := 17) rfl) (fun _ _ _ _ _ _ us hl => match us, hl with | [_, _], _ => rfl)
  obtain ⟨g_law, D_law, b_law⟩ := Def.of X G c (x := "law") (st := top 21) (ps := ["script"]) (List.mem_of_getElem? (i := 18) rfl) (List.mem_of_getElem? (i := 18) rfl) (List.mem_of_getElem? (i := 18) rfl) (fun _ _ _ _ _ _ us hl => match us, hl with | [_], _ => rfl)
  have e := hfa.symm.trans D_law.g
  injection e with e
  injection e with e
  subst e
  exact lawAt X c (by simp [tf]) (fun s u => b_law s [u] rfl) (fun base _ _ hb => ok_law ⟨_, _, D_can, _, _, D_done, _, _, D_possible, _, _, D_reached, _, _, D_shortest_to, _, _, D_decide_end, _, _, D_live_steps, _, _, D_comes_home, _, _, D_law_box, _, _, D_law_digits, _, _, D_law_cell, _, _, D_law_safe_net, _, _, D_law_draw, _, _, D_law_marks, _, _, D_law_net_reach, _, _, D_law_can, _, _, D_law_fired, _, _, D_law_same, _, _, D_law, He.free_ok X G (He.SaysD.facts c.t.d (List.mem_of_getElem? (i := 19) rfl)), He.free_ok X G (He.SaysD.facts c.t.d (List.mem_of_getElem? (i := 20) rfl)), He.free_ok X G (He.SaysD.facts c.t.d (List.mem_of_getElem? (i := 21) rfl)), He.free_ok X G (He.SaysD.facts c.t.d (List.mem_of_getElem? (i := 22) rfl)), He.free_ok X G (He.SaysD.facts c.t.d (List.mem_of_getElem? (i := 23) rfl)), He.free_ok X G (He.SaysD.facts c.t.d (List.mem_of_getElem? (i := 24) rfl)), He.free_ok X G (He.SaysD.facts c.t.d (List.mem_of_getElem? (i := 25) rfl)), He.free_ok X G (He.SaysD.facts c.t.d (List.mem_of_getElem? (i := 26) rfl)), He.free_ok X G (He.SaysD.facts c.t.d (List.mem_of_getElem? (i := 27) rfl)), He.free_ok X G (He.SaysD.facts c.t.d (List.mem_of_getElem? (i := 28) rfl)), He.free_ok X G (He.SaysD.facts c.t.d (List.mem_of_getElem? (i := 29) rfl)), He.free_ok X G (He.SaysD.facts c.t.d (List.mem_of_getElem? (i := 30) rfl)), hb⟩) hm
end P07


set_option Elab.async false
set_option linter.all false
set_option maxRecDepth 100000
/-! plain facts: sorting, membership, loops -/
namespace Y
open PySem PySem.Spec PyProof.Rows L2 Z
section
variable {α β γ : Type}
theorem gD {xs : List α} {k : Nat} (d : α) (h : k < xs.length) : xs.getD k d = xs[k] := by simp [List.getD_eq_getElem?_getD, List.getElem?_eq_getElem h]
def Enc.le (E : Enc α) (a b : α) : Bool := PySem.W.dataLe false toPy (E.enc a) (E.enc b)
theorem le_not (E : Enc α) (a b : α) : E.le a b = !E.lt b a := rfl
theorem lcS_inv {σ : Type} {t : α → σ → Option (Bool × σ)} {e : α → σ → Option (β × σ)} (P : β → Prop) : ∀ (xs : List α) (s : σ), (∀ x ∈ xs, ∀ s, ∃ s', t x s = some (true, s') ∧ ∃ y s'', e x s' = some (y, s'') ∧ P y) →
    ∃ ys s', lcS t e xs s = some (ys, s') ∧ ys.length = xs.length ∧ ∀ y ∈ ys, P y
  | [], s, _ => ⟨[], s, rfl, rfl, fun y h => nomatch h⟩
  | x :: xs, s, h => by
    obtain ⟨s1, e1, y, s2, e2, py⟩ := h x List.mem_cons_self s
    obtain ⟨ys, s3, e3, l3, p3⟩ := lcS_inv P xs s2 fun x' hx => h x' (List.mem_cons_of_mem _ hx)
    exact ⟨y :: ys, s3, by simp only [lcS, e1, e2, e3], by simp [l3], fun z hz => by
      rcases List.mem_cons.mp hz with rfl | hz
      · exact py
      · exact p3 z hz⟩
theorem at_d {xs : List α} {k : Nat} (d : α) (h : k < xs.length) : L2.atI xs (k : Int) = some (xs.getD k d) := by
  rw [Y.atI_nat, List.getElem?_eq_getElem h, gD d h]
theorem at_some {xs : List α} {k : Nat} {x : α} (h : xs[k]? = some x) : L2.atI xs (k : Int) = some x := by rw [Y.atI_nat, h]
end
end Y


set_option Elab.async false
set_option linter.all false
set_option maxRecDepth 100000
/-! plain facts: lots of numbers, graphs, what is reached -/
namespace Y
open PySem PySem.Spec PyProof.Rows L2 Z
section
variable {α β γ : Type}
theorem lcO_ft {t : α → Option Bool} {e : α → Option β} {tb : α → Bool} {g : α → β} : ∀ (l : List α), (∀ x ∈ l, t x = some (tb x)) → (∀ x ∈ l, tb x = true → e x = some (g x)) → lcO t e l = some ((l.filter tb).map g)
  | [], _, _ => rfl
  | x :: l, h1, h2 => by
    have ih := lcO_ft l (fun y hy => h1 y (List.mem_cons_of_mem _ hy)) fun y hy => h2 y (List.mem_cons_of_mem _ hy)
    simp only [lcO, h1 x List.mem_cons_self, ih, List.filter_cons]
    cases hb : tb x with
    | false => simp
    | true => simp [h2 x List.mem_cons_self hb]
theorem lcO_map {e : α → Option β} {g : α → β} (l : List α) (h : ∀ x ∈ l, e x = some (g x)) : lcO (fun _ => some true) e l = some (l.map g) := by
  rw [lcO_ft (tb := fun _ => true) l (fun _ _ => rfl) fun x hx _ => h x hx, List.filter_eq_self.mpr fun _ _ => rfl]
theorem lcO_filter {t : α → Option Bool} {tb : α → Bool} (l : List α) (h : ∀ x ∈ l, t x = some (tb x)) : lcO t (fun x => some x) l = some (l.filter tb) := by
  rw [lcO_ft (g := fun x => x) l h fun x _ _ => rfl, List.map_id']
theorem flt {α : Type} (l : List α) : l.filter (fun _ => true) = l := List.filter_eq_self.mpr fun _ _ => rfl
theorem allO_f {t e : α → Option Bool} {tb eb : α → Bool} : ∀ (l : List α), (∀ x ∈ l, t x = some (tb x)) → (∀ x ∈ l, tb x = true → e x = some (eb x)) → allO t e l = some (l.all fun x => !tb x || eb x)
  | [], _, _ => rfl
  | x :: l, h1, h2 => by
    have ih := allO_f l (fun y hy => h1 y (List.mem_cons_of_mem _ hy)) fun y hy => h2 y (List.mem_cons_of_mem _ hy)
    simp only [allO, h1 x List.mem_cons_self, ih, List.all_cons]
    cases hb : tb x with
    | false => simp
    | true =>
      rw [h2 x List.mem_cons_self hb]
      cases he : eb x <;> simp
theorem anyO_f {t e : α → Option Bool} {tb eb : α → Bool} : ∀ (l : List α), (∀ x ∈ l, t x = some (tb x)) → (∀ x ∈ l, tb x = true → e x = some (eb x)) → anyO t e l = some (l.any fun x => tb x && eb x)
  | [], _, _ => rfl
  | x :: l, h1, h2 => by
    have ih := anyO_f l (fun y hy => h1 y (List.mem_cons_of_mem _ hy)) fun y hy => h2 y (List.mem_cons_of_mem _ hy)
    simp only [anyO, h1 x List.mem_cons_self, ih, List.any_cons]
    cases hb : tb x with
    | false => simp
    | true =>
      rw [h2 x List.mem_cons_self hb]
      cases he : eb x <;> simp
theorem allO_tt {e : α → Option Bool} {eb : α → Bool} (l : List α) (h : ∀ x ∈ l, e x = some (eb x)) : allO (fun _ => some true) e l = some (l.all eb) := by
  rw [allO_f (tb := fun _ => true) l (fun _ _ => rfl) fun x hx _ => h x hx]; simp
theorem anyO_tt {e : α → Option Bool} {eb : α → Bool} (l : List α) (h : ∀ x ∈ l, e x = some (eb x)) : anyO (fun _ => some true) e l = some (l.any eb) := by
  rw [anyO_f (tb := fun _ => true) l (fun _ _ => rfl) fun x hx _ => h x hx]; simp
theorem len_sub : ∀ {l1 l2 : List α}, l1.Nodup → (∀ a, a ∈ l1 → a ∈ l2) → l1.length ≤ l2.length
  | [], _, _, _ => Nat.zero_le _
  | x :: l1, l2, d1, h => by
    obtain ⟨a, b, rfl⟩ := List.append_of_mem (h x List.mem_cons_self)
    have d := List.nodup_cons.mp d1
    have := len_sub (l1 := l1) (l2 := a ++ b) d.2 fun y hy => by
      have := h y (List.mem_cons_of_mem _ hy)
      rw [List.mem_append, List.mem_cons] at this
      rw [List.mem_append]
      rcases this with z | z | z
      · exact .inl z
      · exact absurd (z ▸ hy) d.1
      · exact .inr z
    simp only [List.length_append, List.length_cons] at *
    omega
end
/-! lots -/
end Y


set_option Elab.async false
set_option linter.all false
set_option maxRecDepth 100000
/-! orders: rows of numbers, least ones, sorted sets -/
namespace Y
open PySem PySem.Spec PyProof.Rows L2 Z
section
variable {α : Type}
theorem min_foldE (E : Enc α) : ∀ (xs : List α) (x : α), (xs.foldl (fun a y => if E.lt y a then y else a) x) ∈ x :: xs ∧ ∀ y ∈ x :: xs, E.lt y (xs.foldl (fun a y => if E.lt y a then y else a) x) = false
  | [], x => ⟨by simp, fun y hy => by rw [List.mem_singleton.mp hy]; exact lt_irrefl E x⟩
  | y :: xs, x => by
    obtain ⟨h1, h2⟩ := min_foldE E xs (if E.lt y x then y else x)
    rw [List.foldl_cons]
    refine ⟨?_, fun z hz => ?_⟩
    · rcases List.mem_cons.mp h1 with h | h
      · rw [h]; split <;> simp
      · exact List.mem_cons_of_mem _ (List.mem_cons_of_mem _ h)
    · have h0 := h2 _ List.mem_cons_self
      generalize hg : (xs.foldl (fun a y => if E.lt y a then y else a) (if E.lt y x then y else x)) = m at h0 h2 ⊢
      rcases List.mem_cons.mp hz with rfl | hz
      · cases hyz : E.lt y z with
        | false => rw [hyz] at h0; simpa using h0
        | true =>
          rw [hyz] at h0
          simp only [if_true] at h0
          cases hzm : E.lt z m with
          | false => rfl
          | true => rw [lt_trans E hyz hzm] at h0; cases h0
      · rcases List.mem_cons.mp hz with rfl | hz
        · cases hyz : E.lt z x with
          | true => rw [hyz] at h0; simpa using h0
          | false =>
            rw [hyz] at h0
            simp only [Bool.false_eq_true, if_false] at h0
            -- z not less than x, x not less than m
            have h1' : E.le x z = true := by rw [le_not, hyz]; rfl
            have h2' : E.le m x = true := by rw [le_not, h0]; rfl
            have := (PySem.W.sortLe_total (PyProof.Rows.listOrd PyProof.Rows.itemOrd) false (fun a : α => PySem.W.keyToks (toPy (E.enc a)))).trans m x z h2' h1'
            have h3 : E.le m z = true := this
            rw [le_not] at h3
            simpa using h3
        · exact h2 z (List.mem_cons_of_mem _ hz)
theorem minE_spec (E : Enc α) {xs : List α} (h : xs ≠ []) : ∃ m, E.minL xs = some m ∧ m ∈ xs ∧ ∀ y ∈ xs, E.lt y m = false := by
  cases xs with
  | nil => exact absurd rfl h
  | cons x xs =>
    obtain ⟨h1, h2⟩ := min_foldE E xs x
    exact ⟨_, rfl, h1, h2⟩
end
end Y


set_option Elab.async false
set_option linter.all false
set_option maxRecDepth 100000
set_option maxHeartbeats 1000000
/-! plain facts: nets of places and steps; looking around in breadth, first found first kept -/
namespace Y
open PySem PySem.Spec PyProof.Rows L2 Z
theorem bq {α β : Type} (a : α) (f : α → Option β) : bnd (some a) f = f a := id rfl
theorem lvq {α β : Type} (a : α) (f : α → β) : lv a f = f a := id rfl
theorem rng0 {n : Nat} (h : n ≤ 1000000) : rngO (0 : Int) (n : Int) = some (rngN 0 n) := by
  rw [rngO_ok (lo := 0) (hi := n) (by omega) (by omega) (by omega) (by omega)]
  simp
abbrev NMk := List Int
abbrev NSp := List Int × List Int
def canM (m : NMk) (st : NSp) : Bool := (List.zip m st.1).all fun x => decide (x.2 ≤ x.1)
def fireM (m : NMk) (st : NSp) : NMk := (List.zip m (List.zip st.1 st.2)).map fun x => x.1 - x.2.1 + x.2.2
theorem fire_len {n : Nat} {m : NMk} {st : NSp} (hm : m.length = n) (h1 : st.1.length = n) (h2 : st.2.length = n) : (fireM m st).length = n := by simp [fireM, hm, h1, h2]
theorem lawcan {n : Nat} {m t : NMk} {g : List Int} (hm : m.length = n) (ht : t.length = n) : decide ((((rngN 0 n).filter fun p => decide (m.getD p.toNat 0 < t.getD p.toNat 0)).length : Int) = 0) = canM m (t, g) := by
  unfold canM
  rw [Bool.eq_iff_iff, decide_eq_true_eq, List.all_eq_true]
  constructor
  · intro h x hx
    have h0 : ((rngN 0 n).filter fun p => decide (m.getD p.toNat 0 < t.getD p.toNat 0)).length = 0 := by omega
    rw [List.length_eq_zero_iff, List.filter_eq_nil_iff] at h0
    obtain ⟨i, hi, rfl⟩ := List.mem_iff_getElem.mp hx
    simp only [List.length_zip] at hi
    have := h0 (i : Int) (by rw [mem_rngN]; omega)
    simp only [Int.toNat_natCast, decide_eq_true_eq] at this
    rw [gD 0 (by omega), gD 0 (by omega)] at this
    simp only [List.getElem_zip, decide_eq_true_eq]
    omega
  · intro h
    have : ((rngN 0 n).filter fun p => decide (m.getD p.toNat 0 < t.getD p.toNat 0)) = [] := by
      rw [List.filter_eq_nil_iff]
      intro p hp
      rw [mem_rngN] at hp
      have h1 : p.toNat < (List.zip m t).length := by simp; omega
      have := h _ (List.getElem_mem h1)
      simp only [List.getElem_zip, decide_eq_true_eq] at this
      rw [decide_eq_true_eq, gD 0 (by omega), gD 0 (by omega)]
      omega
    rw [this]; rfl
theorem lawfire {n : Nat} {m t g : List Int} (hm : m.length = n) (ht : t.length = n) (hg : g.length = n) : (rngN 0 n).map (fun p => m.getD p.toNat 0 - t.getD p.toNat 0 + g.getD p.toNat 0) = fireM m (t, g) := by
  refine List.ext_getElem (by simp [rngN, fireM, hm, ht, hg]) fun i h1 h2 => ?_
  have hi : i < n := by simpa [rngN] using h1
  simp only [rngN, fireM, List.getElem_map, List.getElem_range, List.getElem_zip]
  rw [show (0 + (i : Int)).toNat = i by omega, gD 0 (by omega), gD 0 (by omega), gD 0 (by omega)]
/-- a net of n places -/
structure NetOk (n : Nat) (steps : List NSp) : Prop where
  lo : 1 ≤ n
  hi : n ≤ 4
  few : steps.length ≤ 4
  len : ∀ st ∈ steps, st.1.length = n ∧ st.2.length = n
def stepI (steps : List NSp) (s : Int) : NSp := steps.getD s.toNat ([], [])
theorem stepI_at {steps : List NSp} {s : Int} (h : s ∈ rngN 0 steps.length) : L2.atI steps s = some (stepI steps s) ∧ stepI steps s ∈ steps := by
  rw [mem_rngN] at h
  obtain ⟨k, rfl⟩ := Int.eq_ofNat_of_zero_le h.1
  have hk : k < steps.length := by omega
  unfold stepI
  rw [Int.toNat_natCast, gD _ hk]
  refine ⟨?_, List.getElem_mem hk⟩
  show L2.atI steps (k : Int) = _
  rw [atI_nat, List.getElem?_eq_getElem hk]
theorem at_gd {m : List Int} {n : Nat} (hm : m.length = n) {p : Int} (hp : p ∈ rngN 0 n) : L2.atI m p = some (m.getD p.toNat 0) := by
  rw [mem_rngN] at hp
  obtain ⟨k, rfl⟩ := Int.eq_ofNat_of_zero_le hp.1
  rw [Int.toNat_natCast]
  exact at_d 0 (by omega)
/-! ways in breadth -/
section
variable {α : Type} [DecidableEq α]
theorem dGet_mem {β : Type} : ∀ {R : List (α × β)} {k : α} {v : β}, (R.map (·.1)).Nodup → (k, v) ∈ R → dGet R k = some v
  | [], _, _, _, h => nomatch h
  | p :: R, k, v, nd, h => by
    simp only [List.map_cons, List.nodup_cons] at nd
    simp only [dGet]
    rcases List.mem_cons.mp h with rfl | h
    · rw [if_pos rfl]
    · have : p.1 ≠ k := fun e => nd.1 (List.mem_map.mpr ⟨_, h, e.symm⟩)
      rw [if_neg this]; exact dGet_mem nd.2 h
theorem dHas_iff {β : Type} {R : List (α × β)} {k : α} : dHas R k = true ↔ ∃ v, (k, v) ∈ R := by
  unfold dHas
  rw [List.any_eq_true]
  constructor
  · rintro ⟨⟨a, b⟩, h, e⟩
    exact ⟨b, by rw [← of_decide_eq_true e]; exact h⟩
  · rintro ⟨v, h⟩
    exact ⟨_, h, decide_eq_true rfl⟩
abbrev Ws (α : Type) := List (α × List Int)
variable (ok : α → Int → Bool) (fr : α → Int → α) (idx : List Int) (most : Nat)
def ex (m : α) (w : List Int) (W : Ws α) (s : Int) : Ws α := if (ok m s && (!dHas W (fr m s) && decide (W.length < most))) = true then W ++ [(fr m s, w ++ [s])] else W
def Xp (W : Ws α) (k : Nat) : Ws α := match W[k]? with
  | some e => idx.foldl (ex ok fr most e.1 e.2) W
  | none => W
def Wn (s0 : α) : Nat → Ws α
  | 0 => [(s0, [])]
  | k + 1 => Xp ok fr idx most (Wn s0 k) k
/-- what holds of the found -/
structure WI (P : α → Prop) (s0 : α) (W : Ws α) : Prop where
  nd : (W.map (·.1)).Nodup
  good : ∀ e ∈ W, P e.1
  wl : ∀ e ∈ W, e.2.length ≤ W.length
  len : W.length ≤ most
  st : W[0]? = some (s0, [])
variable {ok fr idx most} {P : α → Prop} {s0 : α} {W : Ws α}
theorem ex_pre (m : α) (w : List Int) (s : Int) : W <+: ex ok fr most m w W s := by
  unfold ex; split
  · exact List.prefix_append _ _
  · exact List.prefix_rfl
theorem exs_pre (m : α) (w : List Int) : ∀ (ss : List Int) (W : Ws α), W <+: ss.foldl (ex ok fr most m w) W
  | [], W => List.prefix_rfl
  | s :: ss, W => (ex_pre m w s).trans (exs_pre m w ss _)
theorem ex_inv {m : α} {w : List Int} {s : Int} (I : WI most P s0 W) (hm : (m, w) ∈ W) (hp : ok m s = true → P (fr m s)) : WI most P s0 (ex ok fr most m w W s) := by
  unfold ex
  split
  · rename_i h
    simp only [Bool.and_eq_true, Bool.not_eq_true', decide_eq_true_eq] at h
    obtain ⟨h1, h2, h3⟩ := h
    have hw := I.wl _ hm
    have h0 := (List.getElem?_eq_some_iff.mp I.st).1
    refine ⟨?_, fun e he => ?_, fun e he => ?_, by simp; omega, by rw [List.getElem?_append_left h0]; exact I.st⟩
    · rw [List.map_append, List.nodup_append]
      refine ⟨I.nd, by simp, fun a ha b hb e => ?_⟩
      obtain ⟨e', he', rfl⟩ := List.mem_map.mp ha
      simp at hb
      have : dHas W (fr m s) = true := dHas_iff.mpr ⟨e'.2, by rw [← hb, ← e]; exact he'⟩
      rw [this] at h2; cases h2
    · rcases List.mem_append.mp he with he | he
      · exact I.good e he
      · rw [List.mem_singleton.mp he]; exact hp h1
    · rcases List.mem_append.mp he with he | he
      · have := I.wl e he; simp; omega
      · rw [List.mem_singleton.mp he]; simp at hw ⊢; omega
  · exact I
theorem exs_inv {m : α} {w : List Int} : ∀ (ss : List Int) {W : Ws α}, WI most P s0 W → (m, w) ∈ W → (∀ s ∈ ss, ok m s = true → P (fr m s)) → WI most P s0 (ss.foldl (ex ok fr most m w) W)
  | [], _, I, _, _ => I
  | s :: ss, _, I, hm, hp => exs_inv ss (ex_inv I hm (hp s List.mem_cons_self)) ((ex_pre m w s).subset hm) fun s' hs => hp s' (List.mem_cons_of_mem _ hs)
theorem xp_pre (W : Ws α) (k : Nat) : W <+: Xp ok fr idx most W k := by
  unfold Xp; split
  · exact exs_pre ..
  · exact List.prefix_rfl
theorem wn_inv (h1 : 1 ≤ most) (h0 : P s0) (hP : ∀ m, P m → ∀ s ∈ idx, ok m s = true → P (fr m s)) : ∀ k, WI most P s0 (Wn ok fr idx most s0 k)
  | 0 => ⟨by simp [Wn], by simpa [Wn] using h0, by simp [Wn], by simpa [Wn] using h1, rfl⟩
  | k + 1 => by
    have I := wn_inv h1 h0 hP k
    rw [Wn]; unfold Xp
    split
    · rename_i e he
      have hm := List.mem_of_getElem? he
      exact exs_inv idx I hm fun s hs => hP _ (I.good _ hm) s hs
    · exact I
theorem wn_pre : ∀ (j k : Nat), Wn ok fr idx most s0 j <+: Wn ok fr idx most s0 (j + k)
  | j, 0 => List.prefix_rfl
  | j, k + 1 => (wn_pre j k).trans (xp_pre _ _)
theorem wn_stop {k : Nat} (h : (Wn ok fr idx most s0 k).length ≤ k) : ∀ j, Wn ok fr idx most s0 (k + j) = Wn ok fr idx most s0 k
  | 0 => rfl
  | j + 1 => by
    have ih := wn_stop h j
    rw [← Nat.add_assoc, Wn, ih]
    unfold Xp
    rw [List.getElem?_eq_none (by omega)]
theorem pre_get {l1 l2 : List β} (h : l1 <+: l2) {i : Nat} {x : β} (hx : l1[i]? = some x) : l2[i]? = some x := by
  obtain ⟨t, rfl⟩ := h
  rw [List.getElem?_append_left (List.getElem?_eq_some_iff.mp hx).1]; exact hx
theorem pre_getr {l1 l2 : List β} (h : l1 <+: l2) {i : Nat} {x : β} (hx : l2[i]? = some x) (hi : i < l1.length) : l1[i]? = some x := by
  obtain ⟨t, rfl⟩ := h
  rw [List.getElem?_append_left hi] at hx; exact hx
/-- what stands at a place is there when its turn comes -/
theorem wn_at {i j : Nat} {e : α × List Int} (h : (Wn ok fr idx most s0 j)[i]? = some e) : (Wn ok fr idx most s0 i)[i]? = some e := by
  have hi := (List.getElem?_eq_some_iff.mp h).1
  by_cases hij : i ≤ j
  · obtain ⟨d, rfl⟩ := Nat.exists_eq_add_of_le hij
    refine pre_getr (wn_pre i d) h ?_
    by_cases hl : (Wn ok fr idx most s0 i).length ≤ i
    · rw [wn_stop hl d] at hi; omega
    · omega
  · obtain ⟨d, rfl⟩ := Nat.exists_eq_add_of_le (show j ≤ i by omega)
    exact pre_get (wn_pre j d) h
/-- what a goal's words are: as it is told when its turn comes -/
theorem wn_goal {i j k : Nat} {g : α} {w w' : List Int} (hI : ∀ k, WI most P s0 (Wn ok fr idx most s0 k)) (h : (Wn ok fr idx most s0 j)[i]? = some (g, w)) (hk : (Wn ok fr idx most s0 k)[k]? = some (g, w')) (hb : ∀ k' < k, ∀ e, (Wn ok fr idx most s0 k')[k']? = some e → e.1 ≠ g) : w = w' := by
  have hi := wn_at h
  rcases Nat.lt_trichotomy i k with h1 | rfl | h1
  · exact absurd rfl (hb i h1 _ hi)
  · rw [hi] at hk; cases hk; rfl
  · obtain ⟨d, rfl⟩ := Nat.exists_eq_add_of_le (Nat.le_of_lt h1)
    have h2 := pre_get (wn_pre k d) hk
    have nd := (hI (k + d)).nd
    have e1 : ((Wn ok fr idx most s0 (k + d)).map (·.1))[k]? = some g := by rw [List.getElem?_map, h2]; rfl
    have e2 : ((Wn ok fr idx most s0 (k + d)).map (·.1))[k + d]? = some g := by rw [List.getElem?_map, hi]; rfl
    have l1 := (List.getElem?_eq_some_iff.mp e1).1
    have := (List.getElem?_inj l1 nd).mp (e1.trans e2.symm)
    omega
theorem wn_none {i j k : Nat} {g : α} {w : List Int} (h : (Wn ok fr idx most s0 j)[i]? = some (g, w)) (hk : (Wn ok fr idx most s0 k).length ≤ k) (hb : ∀ k' < k, ∀ e, (Wn ok fr idx most s0 k')[k']? = some e → e.1 ≠ g) : False := by
  have hi := wn_at h
  by_cases h1 : i < k
  · exact hb i h1 _ hi rfl
  · obtain ⟨d, rfl⟩ := Nat.exists_eq_add_of_le (show k ≤ i by omega)
    rw [wn_stop hk d] at hi
    have := (List.getElem?_eq_some_iff.mp hi).1
    omega
theorem exs_filter (m : α) (w : List Int) : ∀ (ss : List Int) (W : Ws α), (ss.filter (ok m)).foldl (ex ok fr most m w) W = ss.foldl (ex ok fr most m w) W
  | [], W => rfl
  | s :: ss, W => by
    rw [List.foldl_cons, List.filter_cons]
    cases h : ok m s with
    | true => rw [if_pos rfl, List.foldl_cons, exs_filter m w ss]
    | false =>
      rw [if_neg (by simp), exs_filter m w ss]
      congr 1
      simp [ex, h]
end
end Y


set_option Elab.async false
set_option linter.all false
set_option maxRecDepth 100000
set_option maxHeartbeats 20000000
set_option synthInstance.maxHeartbeats 400000
set_option synthInstance.maxSize 4000
namespace P05
open PySem PySem.Spec PyProof.Rows L2 Z Y
def n_law_safe_net_b1 (many : Int) : Int → (Box × (List ((List Int) × (List Int)))) → Option (Box × (List ((List Int) × (List Int)))) :=
  fun (t8' : Int) (s7' : Box × (List ((List Int) × (List Int)))) =>
  bnd (drawO s7'.1 many) fun v9' =>
  lv v9'.1 fun (x : Int) =>
  bnd (drawO v9'.2 many) fun v11' =>
  lv v11'.1 fun (y : Int) =>
  bnd (drawO v11'.2 many) fun v13' =>
  lv v13'.1 fun (z : Int) =>
  bnd (repO [(0 : Int)] many) fun a15' =>
  lv a15' fun (takes : (List Int)) =>
  bnd (repO [(0 : Int)] many) fun a17' =>
  lv a17' fun (gives : (List Int)) =>
  bnd (setO takes x (1 : Int)) fun takes19' =>
  bnd (setO gives y (1 : Int)) fun gives20' =>
  bnd (andE (!decide (z = x)) (bnd (andE (!decide (z = y)) (bnd (drawO v13'.2 (2 : Int)) fun v21' => some ((decide (v21'.1 = (0 : Int))), v21'.2)) v13'.2) fun s23' => some (s23'.1, s23'.2)) v13'.2) fun s25' =>
  bnd (if s25'.1 = true then (bnd (setO takes19' z (1 : Int)) fun takes27' =>
  bnd (drawO s25'.2 (2 : Int)) fun v28' =>
  bnd (if (decide (v28'.1 = (0 : Int))) = true then (bnd (setO gives20' z (1 : Int)) fun gives30' =>
  some gives30') else (some gives20')) fun (gives : (List Int)) =>
  some (v28'.2, takes27', gives)) else (some (s25'.2, takes19', gives20'))) fun (s33' : Box × (List Int) × (List Int)) =>
  bnd (pushO s7'.2 (s33'.2.1, s33'.2.2)) fun steps34' =>
  some (s33'.1, steps34')
def n_law_safe_net (box_ : Box) (most : Int) (wide : Int) : Option ((Str × Int × (List ((List Int) × (List Int)))) × Box) :=
  bnd (drawO box_ (most - (1 : Int))) fun v1' =>
  lv ((2 : Int) + v1'.1) fun (many : Int) =>
  lv [] fun (steps : (List ((List Int) × (List Int)))) =>
  bnd (drawO v1'.2 wide) fun v3' =>
  bnd (rngO (0 : Int) ((1 : Int) + v3'.1)) fun r5' =>
  bnd (forN (n_law_safe_net_b1 many) r5' (v3'.2, steps)) fun (s7' : Box × (List ((List Int) × (List Int)))) =>
  some (((("net" : String) : Str), many, s7'.2), s7'.1)
def n_law_net_b1 (much : Int) (many : Int) : Int → (Box × (List ((List Int) × (List Int)))) → Option (Box × (List ((List Int) × (List Int)))) :=
  fun (t8' : Int) (s7' : Box × (List ((List Int) × (List Int)))) =>
  bnd (rngO (0 : Int) many) fun r9' =>
  bnd (lcS (fun t11' s12' => some (true, s12')) (fun t11' s12' => bnd (drawO s12' much) fun v13' => bnd (drawO v13'.2 (3 : Int)) fun v15' => bnd (mulO ((1 : Int) + v13'.1) (if (decide (v15'.1 = (0 : Int))) = true then (1 : Int) else 0)) fun a17' => some (a17', v15'.2)) r9' s7'.1) fun a19' =>
  lv a19'.1 fun (takes : (List Int)) =>
  bnd (rngO (0 : Int) many) fun r21' =>
  bnd (lcS (fun t23' s24' => some (true, s24')) (fun t23' s24' => bnd (drawO s24' much) fun v25' => bnd (drawO v25'.2 (3 : Int)) fun v27' => bnd (mulO ((1 : Int) + v25'.1) (if (decide (v27'.1 = (0 : Int))) = true then (1 : Int) else 0)) fun a29' => some (a29', v27'.2)) r21' a19'.2) fun a31' =>
  lv a31'.1 fun (gives : (List Int)) =>
  bnd (pushO s7'.2 (takes, gives)) fun steps33' =>
  some (a31'.2, steps33')
def n_law_net (box_ : Box) (most : Int) (wide : Int) (much : Int) : Option ((Str × Int × (List ((List Int) × (List Int)))) × Box) :=
  bnd (drawO box_ most) fun v1' =>
  lv ((1 : Int) + v1'.1) fun (many : Int) =>
  lv [] fun (steps : (List ((List Int) × (List Int)))) =>
  bnd (drawO v1'.2 (wide + (1 : Int))) fun v3' =>
  bnd (rngO (0 : Int) v3'.1) fun r5' =>
  bnd (forN (n_law_net_b1 much many) r5' (v3'.2, steps)) fun (s7' : Box × (List ((List Int) × (List Int)))) =>
  some (((("net" : String) : Str), many, s7'.2), s7'.1)
def n_law_marks (box_ : Box) (net : (Str × Int × (List ((List Int) × (List Int))))) (most : Int) : Option ((List Int) × Box) :=
  bnd (rngO (0 : Int) net.2.1) fun r1' =>
  bnd (lcS (fun t3' s4' => some (true, s4')) (fun t3' s4' => bnd (drawO s4' (most + (1 : Int))) fun v5' => some (v5'.1, v5'.2)) r1' box_) fun a7' =>
  some (a7'.1, a7'.2)
def n_law_can (net : (Str × Int × (List ((List Int) × (List Int))))) (marks : (List Int)) (step : Int) : Option Bool :=
  bnd (rngO (0 : Int) net.2.1) fun r1' =>
  bnd (lcO (fun t3' => (bnd (L2.atI marks t3') fun a4' => bnd (L2.atI net.2.2 step) fun a6' => bnd (L2.atI a6'.1 t3') fun a8' => some ((decide (a4' < a8'))))) (fun t3' => (some (t3'))) r1') fun a10' =>
  some (decide ((List.length a10' : Int) = (0 : Int)))
def n_law_fired (net : (Str × Int × (List ((List Int) × (List Int))))) (marks : (List Int)) (step : Int) : Option (List Int) :=
  bnd (rngO (0 : Int) net.2.1) fun r1' =>
  bnd (lcO (fun t3' => some true) (fun t3' => (bnd (L2.atI marks t3') fun a4' => bnd (L2.atI net.2.2 step) fun a6' => bnd (L2.atI a6'.1 t3') fun a8' => bnd (L2.atI net.2.2 step) fun a10' => bnd (L2.atI a10'.2 t3') fun a12' => some (((a4' - a8') + a12')))) r1') fun a14' =>
  some a14'
def n_law_net_reach_b1 (net : (Str × Int × (List ((List Int) × (List Int))))) (most : Int) (s1' : ((List (List Int)) × Int)) : Int → ((List (List Int))) → Option (Res ((List (List Int))) ((List (List Int)) × Bool)) :=
  fun (t4' : Int) (found' : (List (List Int))) =>
  bnd (L2.atI found' s1'.2) fun a7' =>
  bnd (n_law_can net a7' t4') fun a9' =>
  if a9' = true then (bnd (L2.atI found' s1'.2) fun a13' =>
  bnd (n_law_fired net a13' t4') fun a15' =>
  lv a15' fun (more : (List Int)) =>
  if (!inB more found') = true then (if (decide ((List.length found' : Int) = most)) = true then (some (.rt (found', false))) else
  bnd (pushO found' more) fun found17' =>
  some (.nx found17')) else
  some (.nx found')) else
  some (.nx found')
def n_law_net_reach_b2 (net : (Str × Int × (List ((List Int) × (List Int))))) (most : Int) (k : Int) : ((List (List Int)) × Int) → Option (Res ((List (List Int)) × Int) ((List (List Int)) × Bool)) :=
  fun (s1' : (List (List Int)) × Int) =>
  bnd (rngO (0 : Int) (List.length net.2.2 : Int)) fun r2' =>
  bnd (forR (ρ := ((List (List Int)) × Bool)) (n_law_net_reach_b1 net most s1') r2' s1'.1) (onR (fun r => some (.rt r)) fun (found' : (List (List Int))) =>
  lv (s1'.2 + (1 : Int)) fun (k : Int) =>
  some (.nx (found', k)))
def n_law_net_reach (net : (Str × Int × (List ((List Int) × (List Int))))) (marks : (List Int)) (most : Int) : Option ((List (List Int)) × Bool) :=
  lv [marks] fun (found : (List (List Int))) =>
  lv (0 : Int) fun (k : Int) =>
  bnd (whileR (ρ := ((List (List Int)) × Bool)) (fun (s1' : (List (List Int)) × Int) => (some ((decide (s1'.2 < (List.length s1'.1 : Int)))))) (n_law_net_reach_b2 net most k) 1000 (found, k)) (onR some fun (s1' : (List (List Int)) × Int) =>
  some (s1'.1, true))
def n_can (net : (Str × Int × (List ((List Int) × (List Int))))) (marks : (List Int)) (step : Int) : Option Bool :=
  bnd (L2.atI net.2.2 step) fun a1' =>
  bnd (allO (fun t3' => some true) (fun t3' => (some ((decide (t3'.2 ≤ t3'.1))))) (List.zip marks a1'.1)) fun a4' =>
  some a4'
def n_possible (net : (Str × Int × (List ((List Int) × (List Int))))) (marks : (List Int)) : Option (List Int) :=
  bnd (rngO (0 : Int) (List.length net.2.2 : Int)) fun r1' =>
  bnd (lcO (fun t3' => (bnd (n_can net marks t3') fun a4' => some (a4'))) (fun t3' => (some (t3'))) r1') fun a6' =>
  some a6'
def n_done (net : (Str × Int × (List ((List Int) × (List Int))))) (marks : (List Int)) (step : Int) : Option (List Int) :=
  bnd (L2.atI net.2.2 step) fun a1' =>
  lv a1' fun t3' =>
  bnd (lcO (fun t4' => some true) (fun t4' => (some (((t4'.1 - t4'.2.1) + t4'.2.2)))) (List.zip marks (List.zip t3'.1 t3'.2))) fun a5' =>
  some a5'
def n_reached_b1 (net : (Str × Int × (List ((List Int) × (List Int))))) (most : Int) (s1' : ((List (List Int)) × Int)) : Int → ((List (List Int))) → Option (Res ((List (List Int))) ((List (List Int)) × Bool)) :=
  fun (t8' : Int) (found' : (List (List Int))) =>
  bnd (L2.atI found' s1'.2) fun a11' =>
  bnd (n_done net a11' t8') fun a13' =>
  lv a13' fun (following : (List Int)) =>
  if (!inB following found') = true then (if (decide ((List.length found' : Int) = most)) = true then (some (.rt (found', false))) else
  bnd (pushO found' following) fun found15' =>
  some (.nx found15')) else
  some (.nx found')
def n_reached_b2 (net : (Str × Int × (List ((List Int) × (List Int))))) (most : Int) (place : Int) : ((List (List Int)) × Int) → Option (Res ((List (List Int)) × Int) ((List (List Int)) × Bool)) :=
  fun (s1' : (List (List Int)) × Int) =>
  bnd (L2.atI s1'.1 s1'.2) fun a4' =>
  bnd (n_possible net a4') fun a6' =>
  bnd (forR (ρ := ((List (List Int)) × Bool)) (n_reached_b1 net most s1') a6' s1'.1) (onR (fun r => some (.rt r)) fun (found' : (List (List Int))) =>
  lv (s1'.2 + (1 : Int)) fun (place : Int) =>
  some (.nx (found', place)))
def n_reached (net : (Str × Int × (List ((List Int) × (List Int))))) (marks : (List Int)) (most : Int) : Option ((List (List Int)) × Bool) :=
  lv [marks] fun (found : (List (List Int))) =>
  lv (0 : Int) fun (place : Int) =>
  bnd (whileR (ρ := ((List (List Int)) × Bool)) (fun (s1' : (List (List Int)) × Int) => (some ((decide (s1'.2 < (List.length s1'.1 : Int)))))) (n_reached_b2 net most place) 1000 (found, place)) (onR some fun (s1' : (List (List Int)) × Int) =>
  some (s1'.1, true))
def n_shortest_to_b1 (net : (Str × Int × (List ((List Int) × (List Int))))) (most : Int) (own : (List Int)) : Int → ((List ((List Int) × (List Int))) × (List (List Int))) → Option ((List ((List Int) × (List Int))) × (List (List Int))) :=
  fun (t9' : Int) (s8' : (List ((List Int) × (List Int))) × (List (List Int))) =>
  bnd (n_done net own t9') fun a10' =>
  lv a10' fun (following : (List Int)) =>
  bnd (if ((!dHas s8'.1 following) && (decide (((List.length s8'.1 : Nat) : Int) < most))) = true then (bnd (dGet s8'.1 own) fun a12' =>
  bnd (catO a12' [t9']) fun a14' =>
  bnd (dPutO s8'.1 following a14') fun words16' =>
  bnd (pushO s8'.2 following) fun waiting17' =>
  some (words16', waiting17')) else (some (s8'.1, s8'.2))) fun (s20' : (List ((List Int) × (List Int))) × (List (List Int))) =>
  some (s20'.1, s20'.2)
def n_shortest_to_b2 (net : (Str × Int × (List ((List Int) × (List Int))))) (goal : (List Int)) (most : Int) : ((List ((List Int) × (List Int))) × (List (List Int))) → Option (Res ((List ((List Int) × (List Int))) × (List (List Int))) (Option (List Int))) :=
  fun (s1' : (List ((List Int) × (List Int))) × (List (List Int))) =>
  bnd (popI s1'.2 (0 : Int)) fun q2' =>
  lv q2'.1 fun (own : (List Int)) =>
  if (decide (own = goal)) = true then (bnd (dGet s1'.1 own) fun a4' =>
  some (.rt (some a4'))) else
  bnd (n_possible net own) fun a6' =>
  bnd (forN (n_shortest_to_b1 net most own) a6' (s1'.1, q2'.2)) fun (s8' : (List ((List Int) × (List Int))) × (List (List Int))) =>
  some (.nx (s8'.1, s8'.2))
def n_shortest_to (net : (Str × Int × (List ((List Int) × (List Int))))) (marks : (List Int)) (goal : (List Int)) (most : Int) : Option (Option (List Int)) :=
  lv [(marks, [])] fun (words : (List ((List Int) × (List Int)))) =>
  lv [marks] fun (waiting : (List (List Int))) =>
  bnd (whileR (ρ := (Option (List Int))) (fun (s1' : (List ((List Int) × (List Int))) × (List (List Int))) => (some ((!List.isEmpty s1'.2)))) (n_shortest_to_b2 net goal most) 1000 (words, waiting)) (onR some fun (s1' : (List ((List Int) × (List Int))) × (List (List Int))) =>
  some (none : (Option (List Int))))
def n_law_b1 (s7' : (Box × (Str × Int × (List ((List Int) × (List Int)))))) (t23' : ((List Int) × (List Int))) : Int → ((List ((List Int) × (List Int))) × (List ((List Int) × (List Int)))) → Option ((List ((List Int) × (List Int))) × (List ((List Int) × (List Int)))) :=
  fun (t27' : Int) (s26' : (List ((List Int) × (List Int))) × (List ((List Int) × (List Int)))) =>
  bnd (n_law_can s7'.2 t23'.2 t27') fun a28' =>
  bnd (if (a28' && (decide (((List.length s26'.1 : Nat) : Int) < (24 : Int)))) = true then (bnd (n_law_fired s7'.2 t23'.2 t27') fun a30' =>
  lv a30' fun (more : (List Int)) =>
  bnd (if (!dHas s26'.1 more) = true then (bnd (catO t23'.1 [t27']) fun a32' =>
  bnd (dPutO s26'.1 more a32') fun words34' =>
  bnd (catO t23'.1 [t27']) fun a35' =>
  bnd (pushO s26'.2 (a35', more)) fun longer37' =>
  some (words34', longer37')) else (some (s26'.1, s26'.2))) fun (s40' : (List ((List Int) × (List Int))) × (List ((List Int) × (List Int)))) =>
  some (s40'.1, s40'.2)) else (some (s26'.1, s26'.2))) fun (s41' : (List ((List Int) × (List Int))) × (List ((List Int) × (List Int)))) =>
  some (s41'.1, s41'.2)
def n_law_b2 (s7' : (Box × (Str × Int × (List ((List Int) × (List Int)))))) : ((List Int) × (List Int)) → ((List ((List Int) × (List Int))) × (List ((List Int) × (List Int)))) → Option ((List ((List Int) × (List Int))) × (List ((List Int) × (List Int)))) :=
  fun (t23' : ((List Int) × (List Int))) (s22' : (List ((List Int) × (List Int))) × (List ((List Int) × (List Int)))) =>
  bnd (rngO (0 : Int) (List.length s7'.2.2.2 : Int)) fun r24' =>
  bnd (forN (n_law_b1 s7' t23') r24' (s22'.1, s22'.2)) fun (s26' : (List ((List Int) × (List Int))) × (List ((List Int) × (List Int)))) =>
  some (s26'.1, s26'.2)
def n_law_b3 (s7' : (Box × (Str × Int × (List ((List Int) × (List Int)))))) (marks : (List Int)) (s20' : ((List ((List Int) × (List Int))) × (List ((List Int) × (List Int))))) : (List Int) → (Unit) → Option (Res (Unit) Bool) :=
  fun (t45' : (List Int)) (s44' : Unit) =>
  bnd (n_shortest_to s7'.2 marks t45' (24 : Int)) fun a46' =>
  bnd (dGet s20'.1 t45') fun a48' =>
  bnd (sameO (Eo (Et Ei) rfl) a46' (some a48')) fun a50' =>
  if (!a50') = true then (some (.rt false)) else
  some (.nx ())
def n_law_b4 (s7' : (Box × (Str × Int × (List ((List Int) × (List Int)))))) (level : (List ((List Int) × (List Int)))) : Int → ((List ((List Int) × (List Int))) × (List ((List Int) × (List Int)))) → Option ((List ((List Int) × (List Int))) × (List ((List Int) × (List Int)))) :=
  fun (t21' : Int) (s20' : (List ((List Int) × (List Int))) × (List ((List Int) × (List Int)))) =>
  lv [] fun (longer : (List ((List Int) × (List Int)))) =>
  bnd (forN (n_law_b2 s7') s20'.2 (s20'.1, longer)) fun (s22' : (List ((List Int) × (List Int))) × (List ((List Int) × (List Int)))) =>
  lv s22'.2 fun (level : (List ((List Int) × (List Int)))) =>
  some (s22'.1, level)
def n_law (box : Box) : Option Bool :=
  bnd (n_law_safe_net box (4 : Int) (4 : Int)) fun a1' =>
  lv a1'.1 fun (net : (Str × Int × (List ((List Int) × (List Int))))) =>
  bnd (drawO a1'.2 (3 : Int)) fun v3' =>
  bnd (if (decide (v3'.1 = (0 : Int))) = true then (bnd (n_law_net v3'.2 (3 : Int) (3 : Int) (2 : Int)) fun a5' =>
  lv a5'.1 fun (net : (Str × Int × (List ((List Int) × (List Int))))) =>
  some (a5'.2, net)) else (some (v3'.2, net))) fun (s7' : Box × (Str × Int × (List ((List Int) × (List Int))))) =>
  bnd (n_law_marks s7'.1 s7'.2 (2 : Int)) fun a8' =>
  lv a8'.1 fun (marks : (List Int)) =>
  bnd (drawO a8'.2 (24 : Int)) fun v10' =>
  lv ((1 : Int) + v10'.1) fun (most : Int) =>
  bnd (n_law_net_reach s7'.2 marks most) fun a12' =>
  lv a12' fun (due : ((List (List Int)) × Bool)) =>
  bnd (n_reached s7'.2 marks most) fun a14' =>
  bnd (sameO (Er (Rc (Et (Et Ei)) (R1 Eb))) a14' due) fun a16' =>
  if (!a16') = true then (some false) else
  lv [(marks, [])] fun (words : (List ((List Int) × (List Int)))) =>
  lv [([], marks)] fun (level : (List ((List Int) × (List Int)))) =>
  bnd (rngO (0 : Int) (4 : Int)) fun r18' =>
  bnd (forN (n_law_b4 s7' level) r18' (words, level)) fun (s20' : (List ((List Int) × (List Int))) × (List ((List Int) × (List Int)))) =>
  bnd (sortU (Et Ei) (List.map (fun p => p.1) s20'.1)) fun a42' =>
  bnd (forR (ρ := Bool) (n_law_b3 s7' marks s20') a42' ()) (onR some fun (s44' : Unit) =>
  if due.2 = true then (bnd (repTO [(9 : Int)] s7'.2.2.1) fun a52' =>
  lv a52' fun (far : (List Int)) =>
  bnd (andO (!inB far due.1) (bnd (n_shortest_to s7'.2 marks far (30 : Int)) fun a54' => some ((!Option.isNone a54')))) fun a56' =>
  if a56' = true then (some false) else
  some true) else
  some true)
end P05


set_option Elab.async false
set_option linter.all false
set_option maxRecDepth 100000
set_option maxHeartbeats 1000000
namespace P05
open PySem PySem.Spec PyProof.Rows L2 Z Y
abbrev nS : Str := (("net" : String) : Str)
section
variable {n : Nat} {steps : List NSp} (N : NetOk n steps)
def okI (steps : List NSp) (m : NMk) (s : Int) : Bool := canM m (stepI steps s)
def frI (steps : List NSp) (m : NMk) (s : Int) : NMk := fireM m (stepI steps s)
include N
theorem law_can_ok {m : NMk} (hm : m.length = n) {s : Int} (hs : s ∈ rngN 0 steps.length) : n_law_can (nS, (n : Int), steps) m s = some (okI steps m s) := by
  obtain ⟨e1, e2⟩ := stepI_at hs
  obtain ⟨l1, l2⟩ := N.len _ e2
  simp only [n_law_can]
  rw [rng0 (n := n) (by have := N.hi; omega), bq, lcO_ft (tb := fun p => decide (m.getD p.toNat 0 < (stepI steps s).1.getD p.toNat 0)) (g := fun p => p) (rngN 0 n) (fun p hp => by
    rw [at_gd hm hp, bq, e1, bq, at_gd l1 hp, bq]) (fun p _ _ => rfl), bq, List.map_id']
  rw [lawcan (g := (stepI steps s).2) hm l1]; rfl
theorem law_fired_ok {m : NMk} (hm : m.length = n) {s : Int} (hs : s ∈ rngN 0 steps.length) : n_law_fired (nS, (n : Int), steps) m s = some (frI steps m s) := by
  obtain ⟨e1, e2⟩ := stepI_at hs
  obtain ⟨l1, l2⟩ := N.len _ e2
  simp only [n_law_fired]
  rw [rng0 (n := n) (by have := N.hi; omega), bq, lcO_map (g := fun p => m.getD p.toNat 0 - (stepI steps s).1.getD p.toNat 0 + (stepI steps s).2.getD p.toNat 0) (rngN 0 n) (fun p hp => by
    rw [at_gd hm hp, bq, e1, bq, at_gd l1 hp, bq, bq, at_gd l2 hp, bq]), bq, lawfire hm l1 l2]
  rfl
omit N in
theorem can_ok {m : NMk} {s : Int} (hs : s ∈ rngN 0 steps.length) : n_can (nS, (n : Int), steps) m s = some (okI steps m s) := by
  obtain ⟨e1, e2⟩ := stepI_at hs
  simp only [n_can]
  rw [e1, bq, allO_all, bq]; rfl
omit N in
theorem done_ok {m : NMk} {s : Int} (hs : s ∈ rngN 0 steps.length) : n_done (nS, (n : Int), steps) m s = some (frI steps m s) := by
  obtain ⟨e1, e2⟩ := stepI_at hs
  simp only [n_done]
  rw [e1, bq, lvq, lcO_all, bq]; rfl
theorem possible_ok {m : NMk} : n_possible (nS, (n : Int), steps) m = some ((rngN 0 steps.length).filter (okI steps m)) := by
  simp only [n_possible]
  rw [rng0 (n := steps.length) (by have := N.few; omega), bq, lcO_filter (tb := okI steps m) _ (fun s hs => by rw [can_ok hs, bq]), bq]
theorem fr_len {m : NMk} (hm : m.length = n) {s : Int} (hs : s ∈ rngN 0 steps.length) : (frI steps m s).length = n := by
  obtain ⟨l1, l2⟩ := N.len _ (stepI_at hs).2
  exact fire_len hm l1 l2
/-! what is reached -/
omit N in
/-- the turns at one found -/
def inn (steps : List NSp) (most : Nat) (m : NMk) : List Int → List NMk → Res (List NMk) (List NMk × Bool)
  | [], f => .nx f
  | s :: ss, f => if okI steps m s = true then (if (!inB (frI steps m s) f) = true then (if decide ((f.length : Int) = (most : Int)) = true then .rt (f, false) else inn steps most m ss (f ++ [frI steps m s])) else inn steps most m ss f) else inn steps most m ss f
variable {most : Nat} (hmost : most ≤ 30)
include hmost
theorem inn_law {m : NMk} (hm : m.length = n) {f0 : List NMk} {k : Nat} : ∀ (ss : List Int) (f : List NMk), (∀ s ∈ ss, s ∈ rngN 0 steps.length) → f[k]? = some m → f.length ≤ most →
    forR (n_law_net_reach_b1 (nS, (n : Int), steps) (most : Int) (f0, (k : Int))) ss f = some (inn steps most m ss f)
  | [], f, _, _, _ => rfl
  | s :: ss, f, hs, hk, hl => by
    have ih := inn_law hm (f0 := f0) (k := k) ss
    have hs1 := hs s List.mem_cons_self
    have hk' : L2.atI f (k : Int) = some m := at_some hk
    have hb : n_law_net_reach_b1 (nS, (n : Int), steps) (most : Int) (f0, (k : Int)) s f = (if okI steps m s = true then (if (!inB (frI steps m s) f) = true then (if decide ((f.length : Int) = (most : Int)) = true then some (.rt (f, false)) else bnd (pushO f (frI steps m s)) fun f' => some (.nx f')) else some (.nx f)) else some (.nx f)) := by
      simp only [n_law_net_reach_b1]
      rw [hk', bq, law_can_ok N hm hs1, bq, bq, law_fired_ok N hm hs1, bq, lvq]
    simp only [forR, hb, inn]
    cases ho : okI steps m s with
    | false =>
      simp only [Bool.false_eq_true, if_false]
      exact ih _ (fun s' h => hs s' (List.mem_cons_of_mem _ h)) hk hl
    | true =>
      cases hi : inB (frI steps m s) f with
      | true =>
        simp only [if_true, Bool.not_true, Bool.false_eq_true, if_false]
        exact ih _ (fun s' h => hs s' (List.mem_cons_of_mem _ h)) hk hl
      | false =>
        by_cases he : f.length = most
        · simp only [if_true, Bool.not_false, he, decide_true]
        · have : decide ((f.length : Int) = (most : Int)) = false := decide_eq_false (by omega)
          simp only [if_true, Bool.not_false, this, Bool.false_eq_true, if_false]
          rw [push_ok (by omega), bq]
          exact ih _ (fun s' h => hs s' (List.mem_cons_of_mem _ h)) (by rw [List.getElem?_append_left (List.getElem?_eq_some_iff.mp hk).1]; exact hk) (by simp; omega)
omit N in
theorem inn_prog {m : NMk} {f0 : List NMk} {k : Nat} : ∀ (ss : List Int) (f : List NMk), (∀ s ∈ ss, s ∈ rngN 0 steps.length) → f[k]? = some m → f.length ≤ most →
    forR (n_reached_b1 (nS, (n : Int), steps) (most : Int) (f0, (k : Int))) (ss.filter (okI steps m)) f = some (inn steps most m ss f)
  | [], f, _, _, _ => rfl
  | s :: ss, f, hs, hk, hl => by
    have ih := inn_prog (m := m) (f0 := f0) (k := k) ss
    have hs1 := hs s List.mem_cons_self
    have hk' : L2.atI f (k : Int) = some m := at_some hk
    rw [List.filter_cons]
    cases ho : okI steps m s with
    | false =>
      simp only [inn, ho, Bool.false_eq_true, if_false]
      exact ih _ (fun s' h => hs s' (List.mem_cons_of_mem _ h)) hk hl
    | true =>
      have hb : n_reached_b1 (nS, (n : Int), steps) (most : Int) (f0, (k : Int)) s f = (if (!inB (frI steps m s) f) = true then (if decide ((f.length : Int) = (most : Int)) = true then some (.rt (f, false)) else bnd (pushO f (frI steps m s)) fun f' => some (.nx f')) else some (.nx f)) := by
        simp only [n_reached_b1]
        rw [hk', bq, done_ok hs1, bq, lvq]
      simp only [if_true, forR, hb, inn, ho]
      cases hi : inB (frI steps m s) f with
      | true =>
        simp only [if_true, Bool.not_true, Bool.false_eq_true, if_false]
        exact ih _ (fun s' h => hs s' (List.mem_cons_of_mem _ h)) hk hl
      | false =>
        by_cases he : f.length = most
        · simp only [if_true, Bool.not_false, he, decide_true]
        · have : decide ((f.length : Int) = (most : Int)) = false := decide_eq_false (by omega)
          simp only [if_true, Bool.not_false, this, Bool.false_eq_true, if_false]
          rw [push_ok (by omega), bq]
          exact ih _ (fun s' h => hs s' (List.mem_cons_of_mem _ h)) (by rw [List.getElem?_append_left (List.getElem?_eq_some_iff.mp hk).1]; exact hk) (by simp; omega)
theorem inn_ok {m : NMk} (hm : m.length = n) : ∀ (ss : List Int) (f : List NMk), (∀ s ∈ ss, s ∈ rngN 0 steps.length) → f.length ≤ most → (∀ x ∈ f, x.length = n) →
    (∃ f', inn steps most m ss f = .nx f' ∧ f <+: f' ∧ f'.length ≤ most ∧ (∀ x ∈ f', x.length = n) ∧ ∀ s ∈ ss, okI steps m s = true → frI steps m s ∈ f') ∨ ∃ f', inn steps most m ss f = .rt (f', false) ∧ f'.length ≤ most ∧ ∀ x ∈ f', x.length = n
  | [], f, _, hl, hn => .inl ⟨f, rfl, List.prefix_rfl, hl, hn, fun s h => nomatch h⟩
  | s :: ss, f, hs, hl, hn => by
    have hs1 := hs s List.mem_cons_self
    have ih := inn_ok hm ss
    have go : ∀ f1, inn steps most m (s :: ss) f = inn steps most m ss f1 → f <+: f1 → f1.length ≤ most → (∀ x ∈ f1, x.length = n) → (okI steps m s = true → frI steps m s ∈ f1) → (∃ f', inn steps most m (s :: ss) f = .nx f' ∧ f <+: f' ∧ f'.length ≤ most ∧ (∀ x ∈ f', x.length = n) ∧ ∀ s' ∈ s :: ss, okI steps m s' = true → frI steps m s' ∈ f') ∨ ∃ f', inn steps most m (s :: ss) f = .rt (f', false) ∧ f'.length ≤ most ∧ ∀ x ∈ f', x.length = n := fun f1 e p1 l1 n1 h1 => by
      rw [e]
      rcases ih f1 (fun s' h => hs s' (List.mem_cons_of_mem _ h)) l1 n1 with ⟨f', e', p', l', n', h'⟩ | ⟨f', e', l', n'⟩
      · refine .inl ⟨f', e', p1.trans p', l', n', fun s' hs' ho => ?_⟩
        rcases List.mem_cons.mp hs' with rfl | hs'
        · exact p'.subset (h1 ho)
        · exact h' s' hs' ho
      · exact .inr ⟨f', e', l', n'⟩
    cases ho : okI steps m s with
    | false => exact go f (by simp only [inn, ho, Bool.false_eq_true, if_false]) List.prefix_rfl hl hn (fun h => by rw [ho] at h; cases h)
    | true =>
      cases hi : inB (frI steps m s) f with
      | true => exact go f (by simp only [inn, ho, hi, if_true, Bool.not_true, Bool.false_eq_true, if_false]) List.prefix_rfl hl hn (fun _ => (inB_eq _ _).mp hi)
      | false =>
        by_cases he : f.length = most
        · exact .inr ⟨f, by simp only [inn, ho, hi, if_true, Bool.not_false, he, decide_true], hl, hn⟩
        · refine go (f ++ [frI steps m s]) ?_ (List.prefix_append _ _) (by simp; omega) (fun x hx => ?_) (fun _ => by simp)
          · have : decide ((f.length : Int) = (most : Int)) = false := decide_eq_false (by omega)
            simp only [inn, ho, hi, if_true, Bool.not_false, this, Bool.false_eq_true, if_false]
          · rcases List.mem_append.mp hx with h | h
            · exact hn x h
            · rw [List.mem_singleton.mp h]; exact fr_len N hm hs1
def Clo (steps : List NSp) (f : List NMk) (k : Nat) : Prop := ∀ i m, i < k → f[i]? = some m → ∀ s ∈ rngN 0 steps.length, okI steps m s = true → frI steps m s ∈ f
/-- both look around alike -/
theorem loops : ∀ (fuel : Nat) (f : List NMk) (k : Nat) (c0 c1 : Int), k ≤ f.length → f.length ≤ most → (∀ x ∈ f, x.length = n) → Clo steps f k → most + 1 ≤ fuel + k →
    (∃ F : List NMk, whileR (fun (s1' : (List (List Int)) × Int) => (some ((decide (s1'.2 < (List.length s1'.1 : Int)))))) (n_law_net_reach_b2 (nS, (n : Int), steps) (most : Int) c0) fuel (f, (k : Int)) = some (.nx (F, (F.length : Int))) ∧
      whileR (fun (s1' : (List (List Int)) × Int) => (some ((decide (s1'.2 < (List.length s1'.1 : Int)))))) (n_reached_b2 (nS, (n : Int), steps) (most : Int) c1) fuel (f, (k : Int)) = some (.nx (F, (F.length : Int))) ∧ f <+: F ∧ F.length ≤ most ∧ Clo steps F F.length ∧ ∀ x ∈ F, x.length = n) ∨
    ∃ F : List NMk, whileR (fun (s1' : (List (List Int)) × Int) => (some ((decide (s1'.2 < (List.length s1'.1 : Int)))))) (n_law_net_reach_b2 (nS, (n : Int), steps) (most : Int) c0) fuel (f, (k : Int)) = some (.rt (F, false)) ∧
      whileR (fun (s1' : (List (List Int)) × Int) => (some ((decide (s1'.2 < (List.length s1'.1 : Int)))))) (n_reached_b2 (nS, (n : Int), steps) (most : Int) c1) fuel (f, (k : Int)) = some (.rt (F, false)) ∧ F.length ≤ most ∧ ∀ x ∈ F, x.length = n
  | 0, f, k, c0, c1, h1, h2, _, _, h => by omega
  | fuel + 1, f, k, c0, c1, h1, h2, hn, hc, h => by
    by_cases hk : k = f.length
    · subst hk
      have hd : decide ((f.length : Int) < (f.length : Int)) = false := decide_eq_false (by omega)
      exact .inl ⟨f, by simp only [whileR, hd], by simp only [whileR, hd], List.prefix_rfl, h2, hc, hn⟩
    · have hkl : k < f.length := by omega
      have hd : decide ((k : Int) < (f.length : Int)) = true := decide_eq_true (by omega)
      have hg : f[k]? = some f[k] := List.getElem?_eq_getElem hkl
      have hm : (f[k]).length = n := hn _ (List.getElem_mem hkl)
      have hat : L2.atI f (k : Int) = some f[k] := at_some hg
      have ef : steps.length < 1000000 := by have := N.few; omega
      have e1 := inn_law N hmost hm (f0 := f) (k := k) (rngN 0 steps.length) f (fun s h => h) hg h2
      have e2 := inn_prog (n := n) hmost (f0 := f) (k := k) (rngN 0 steps.length) f (fun s h => h) hg h2
      have E1 : n_law_net_reach_b2 (nS, (n : Int), steps) (most : Int) c0 (f, (k : Int)) = onR (fun r => some (.rt r)) (fun (found' : List NMk) => some (.nx (found', (k : Int) + 1))) (inn steps most f[k] (rngN 0 steps.length) f) := by
        simp only [n_law_net_reach_b2]
        rw [rng0 (n := steps.length) (by have := N.few; omega), bq, e1, bq]
        rfl
      have E2 : n_reached_b2 (nS, (n : Int), steps) (most : Int) c1 (f, (k : Int)) = onR (fun r => some (.rt r)) (fun (found' : List NMk) => some (.nx (found', (k : Int) + 1))) (inn steps most f[k] (rngN 0 steps.length) f) := by
        simp only [n_reached_b2]
        rw [hat, bq, possible_ok N, bq, e2, bq]
        rfl
      rcases inn_ok N hmost hm (rngN 0 steps.length) f (fun s h => h) h2 hn with ⟨f', e, p, l, n', cl⟩ | ⟨f', e, l, n'⟩
      · rw [e, onR_nx] at E1 E2
        have hp := p.length_le
        have hc' : Clo steps f' (k + 1) := fun i m hi hm' s hs ho => by
          by_cases hik : i < k
          · exact p.subset (hc i m hik (pre_getr p hm' (by omega)) s hs ho)
          · have : i = k := by omega
            subst this
            have := pre_getr p hm' hkl
            rw [hg] at this; cases this
            exact cl s hs ho
        rcases loops fuel f' (k + 1) c0 c1 (by omega) l n' hc' (by omega) with ⟨F, z1, z2, z3, z4, z5⟩ | ⟨F, z1, z2, z3⟩
        · refine .inl ⟨F, ?_, ?_, p.trans z3, z4, z5⟩
          · simp only [whileR, hd, E1]; exact z1
          · simp only [whileR, hd, E2]; exact z2
        · refine .inr ⟨F, ?_, ?_, z3⟩
          · simp only [whileR, hd, E1]; exact z1
          · simp only [whileR, hd, E2]; exact z2
      · rw [e, onR_rt] at E1 E2
        exact .inr ⟨f', by simp only [whileR, hd, E1], by simp only [whileR, hd, E2], l, n'⟩
theorem reach_both {m : NMk} (hm : m.length = n) (h1 : 1 ≤ most) : ∃ r : List NMk × Bool, n_law_net_reach (nS, (n : Int), steps) m (most : Int) = some r ∧ n_reached (nS, (n : Int), steps) m (most : Int) = some r ∧ r.1.length ≤ 30 ∧ (∀ x ∈ r.1, x.length = n) ∧ (r.2 = true → m ∈ r.1 ∧ ∀ x ∈ r.1, ∀ s ∈ rngN 0 steps.length, okI steps x s = true → frI steps x s ∈ r.1) := by
  simp only [n_law_net_reach, n_reached]
  rw [lvq, lvq, lvq, lvq]
  rcases loops N hmost 1000 [m] 0 ((0 : Nat) : Int) ((0 : Nat) : Int) (by simp) (by simpa using h1) (by simpa using hm) (fun i x h => by omega) (by omega) with ⟨F, z1, z2, z3, z4, z5, z6⟩ | ⟨F, z1, z2, z3, z4⟩
  · refine ⟨(F, true), by rw [show ((0 : Int)) = ((0 : Nat) : Int) from rfl, z1]; rfl, by rw [show ((0 : Int)) = ((0 : Nat) : Int) from rfl, z2]; rfl, by dsimp only; omega, z6, fun _ => ⟨z3.subset (by simp), fun x hx s hs ho => ?_⟩⟩
    obtain ⟨i, hi⟩ := List.mem_iff_getElem?.mp hx
    exact z5 i x (List.getElem?_eq_some_iff.mp hi).1 hi s hs ho
  · exact ⟨(F, false), by rw [show ((0 : Int)) = ((0 : Nat) : Int) from rfl, z1]; rfl, by rw [show ((0 : Int)) = ((0 : Nat) : Int) from rfl, z2]; rfl, by dsimp only; omega, z4, fun h => nomatch h⟩
end
end P05


set_option Elab.async false
set_option linter.all false
set_option maxRecDepth 100000
set_option maxHeartbeats 1000000
/-! shortest words -/
namespace P05
open PySem PySem.Spec PyProof.Rows L2 Z Y
section
variable {n : Nat} {steps : List NSp} (N : NetOk n steps) {most : Nat} {s0 : NMk} {P : NMk → Prop}
abbrev WnI (steps : List NSp) (most : Nat) (s0 : NMk) (k : Nat) : Ws NMk := Wn (okI steps) (frI steps) (rngN 0 steps.length) most s0 k
theorem pop0 {α : Type} {x : α} {xs : List α} (h : xs.length < 1000000) : popI (x :: xs) (0 : Int) = some (x, xs) := by
  unfold popI
  rw [if_pos (by simp; omega), show ixN (x :: xs).length (0 : Int) = some 0 from by
    have := ixN_nat (x :: xs).length 0
    simpa using this]
  rfl
theorem put_new {W : Ws NMk} {x : NMk} {w : List Int} (h : dHas W x = false) (hl : W.length < 1000000) : dPutO W x w = some (W ++ [(x, w)]) := by
  unfold dPutO dPut
  rw [if_pos hl, h]; rfl
theorem fold_fst {β γ : Type} {g : β × γ → Int → β × γ} {f : β → Int → β} (h : ∀ b s, (g b s).1 = f b.1 s) : ∀ (ss : List Int) (b : β × γ), (ss.foldl g b).1 = ss.foldl f b.1
  | [], _ => rfl
  | s :: ss, b => by rw [List.foldl_cons, List.foldl_cons, fold_fst h ss, h]
/-- one step of the program -/
theorem sh_b1 {W : Ws NMk} {m : NMk} {w : List Int} {k : Nat} (hm : most ≤ 30) (I : WI most P s0 W) (hk : W[k]? = some (m, w)) {s : Int} (hs : s ∈ rngN 0 steps.length) (ho : okI steps m s = true) :
    n_shortest_to_b1 (nS, (n : Int), steps) (most : Int) m s (W, (W.drop (k + 1)).map (·.1)) = some (ex (okI steps) (frI steps) most m w W s, ((ex (okI steps) (frI steps) most m w W s).drop (k + 1)).map (·.1)) := by
  have hmem := List.mem_of_getElem? hk
  have hkl := (List.getElem?_eq_some_iff.mp hk).1
  have hl := I.len
  have hw := I.wl _ hmem
  have hg := dGet_mem I.nd hmem
  simp only [n_shortest_to_b1, ex, ho, Bool.true_and]
  rw [done_ok hs, bq, lvq]
  have e : decide (((W.length : Nat) : Int) < (most : Int)) = decide (W.length < most) := decide_eq_decide.mpr (by omega)
  rw [e]
  cases hh : dHas W (frI steps m s) with
  | true => simp only [Bool.not_true, Bool.false_and, Bool.false_eq_true, if_false, bq]
  | false =>
    by_cases hlt : W.length < most
    · simp only [hlt, decide_true, Bool.not_false, Bool.and_self, if_true]
      dsimp only at hw
      rw [hg, bq, cat_ok (by simp; omega), bq, put_new hh (by omega), bq, push_ok (by simp; omega), bq, bq, List.drop_append_of_le_length (by omega), List.map_append]
      rfl
    · simp only [hlt, decide_false, Bool.and_false, Bool.false_eq_true, if_false, bq]
theorem sh_fold {m : NMk} {w : List Int} {k : Nat} (hm : most ≤ 30) : ∀ (ss : List Int) (W : Ws NMk), (∀ s ∈ ss, s ∈ rngN 0 steps.length ∧ okI steps m s = true ∧ P (frI steps m s)) → WI most P s0 W → W[k]? = some (m, w) →
    forN (n_shortest_to_b1 (nS, (n : Int), steps) (most : Int) m) ss (W, (W.drop (k + 1)).map (·.1)) = some (ss.foldl (ex (okI steps) (frI steps) most m w) W, ((ss.foldl (ex (okI steps) (frI steps) most m w) W).drop (k + 1)).map (·.1))
  | [], W, _, _, _ => rfl
  | s :: ss, W, hs, I, hk => by
    obtain ⟨h1, h2, h3⟩ := hs s List.mem_cons_self
    rw [forN_cons, sh_b1 hm I hk h1 h2, bq, sh_fold hm ss _ (fun s' h => hs s' (List.mem_cons_of_mem _ h)) (ex_inv I (List.mem_of_getElem? hk) fun _ => h3) (pre_get (ex_pre ..) hk)]
    rfl
include N in
theorem sh_turn {k : Nat} {m : NMk} {w : List Int} {goal : NMk} (hm : most ≤ 30) (hP : ∀ m, P m → ∀ s ∈ rngN 0 steps.length, okI steps m s = true → P (frI steps m s)) (I : WI most P s0 (WnI steps most s0 k)) (hk : (WnI steps most s0 k)[k]? = some (m, w)) :
    n_shortest_to_b2 (nS, (n : Int), steps) goal (most : Int) (WnI steps most s0 k, ((WnI steps most s0 k).drop k).map (·.1)) =
      if m = goal then some (.rt (some w)) else some (.nx (WnI steps most s0 (k + 1), ((WnI steps most s0 (k + 1)).drop (k + 1)).map (·.1))) := by
  have hkl := (List.getElem?_eq_some_iff.mp hk).1
  have hl := I.len
  have hmem := List.mem_of_getElem? hk
  have hd : ((WnI steps most s0 k).drop k).map (·.1) = m :: ((WnI steps most s0 k).drop (k + 1)).map (·.1) := by
    rw [List.drop_eq_getElem_cons hkl, List.map_cons]
    have := (List.getElem?_eq_some_iff.mp hk).2
    rw [this]
  simp only [n_shortest_to_b2]
  rw [hd, pop0 (by rw [List.length_map, List.length_drop]; omega), bq, lvq]
  by_cases hg : m = goal
  · rw [if_pos hg, if_pos (decide_eq_true hg), dGet_mem I.nd hmem, bq]
  · rw [if_neg hg, if_neg (by simpa using hg), possible_ok N, bq]
    rw [sh_fold hm _ _ (fun s hs => ⟨(List.mem_filter.mp hs).1, (List.mem_filter.mp hs).2, hP _ (I.good _ hmem) s (List.mem_filter.mp hs).1 (List.mem_filter.mp hs).2⟩) I hk, bq, exs_filter]
    have : WnI steps most s0 (k + 1) = (rngN 0 steps.length).foldl (ex (okI steps) (frI steps) most m w) (WnI steps most s0 k) := by
      show Xp _ _ _ _ _ _ = _
      unfold Xp
      rw [hk]
    rw [this]
def Seen (steps : List NSp) (most : Nat) (s0 goal : NMk) (k : Nat) : Prop := ∀ k' < k, ∀ e, (WnI steps most s0 k')[k']? = some e → e.1 ≠ goal
include N in
theorem sh_loop (hm : most ≤ 30) (hP : ∀ m, P m → ∀ s ∈ rngN 0 steps.length, okI steps m s = true → P (frI steps m s)) (hI : ∀ k, WI most P s0 (WnI steps most s0 k)) (goal : NMk) : ∀ (fuel k : Nat), k ≤ (WnI steps most s0 k).length → Seen steps most s0 goal k → most + 1 ≤ fuel + k →
    (∃ b, whileR (fun (s1' : Ws NMk × List NMk) => (some ((!List.isEmpty s1'.2)))) (n_shortest_to_b2 (nS, (n : Int), steps) goal (most : Int)) fuel (WnI steps most s0 k, ((WnI steps most s0 k).drop k).map (·.1)) = some (.nx b) ∧ ∃ k', (WnI steps most s0 k').length ≤ k' ∧ Seen steps most s0 goal k') ∨
    ∃ w, whileR (fun (s1' : Ws NMk × List NMk) => (some ((!List.isEmpty s1'.2)))) (n_shortest_to_b2 (nS, (n : Int), steps) goal (most : Int)) fuel (WnI steps most s0 k, ((WnI steps most s0 k).drop k).map (·.1)) = some (.rt (some w)) ∧ ∃ k', (WnI steps most s0 k')[k']? = some (goal, w) ∧ Seen steps most s0 goal k'
  | 0, k, h1, _, h => by have := (hI k).len; omega
  | fuel + 1, k, h1, hs, h => by
    by_cases he : k = (WnI steps most s0 k).length
    · have hd : (WnI steps most s0 k).drop k = [] := List.drop_eq_nil_of_le (by omega)
      refine .inl ⟨(WnI steps most s0 k, []), ?_, k, by omega, hs⟩
      rw [hd]
      simp [whileR]
    · have hkl : k < (WnI steps most s0 k).length := by omega
      have hk : (WnI steps most s0 k)[k]? = some ((WnI steps most s0 k)[k].1, (WnI steps most s0 k)[k].2) := List.getElem?_eq_getElem hkl
      generalize (WnI steps most s0 k)[k].1 = m at hk
      generalize (WnI steps most s0 k)[k].2 = w at hk
      have ht := sh_turn N (goal := goal) hm hP (hI k) hk
      have hne : (!List.isEmpty (((WnI steps most s0 k).drop k).map (·.1))) = true := by
        rw [List.drop_eq_getElem_cons hkl]; rfl
      by_cases hg : m = goal
      · rw [if_pos hg] at ht
        subst hg
        exact .inr ⟨w, by simp only [whileR, hne, ht], k, hk, hs⟩
      · rw [if_neg hg] at ht
        have hp := (xp_pre (ok := okI steps) (fr := frI steps) (idx := rngN 0 steps.length) (most := most) (WnI steps most s0 k) k).length_le
        have hs' : Seen steps most s0 goal (k + 1) := fun k' h e hge => by
          by_cases hlt : k' < k
          · exact hs k' hlt e hge
          · have : k' = k := by omega
            subst this
            rw [hk] at hge; cases hge
            exact hg
        rcases sh_loop hm hP hI goal fuel (k + 1) (Nat.le_trans (Nat.succ_le_of_lt hkl) hp) hs' (by omega) with ⟨b, e, q⟩ | ⟨w', e, q⟩
        · exact .inl ⟨b, by simp only [whileR, hne, ht]; exact e, q⟩
        · exact .inr ⟨w', by simp only [whileR, hne, ht]; exact e, q⟩
include N in
theorem shortest_ok (hm : most ≤ 30) (hP : ∀ m, P m → ∀ s ∈ rngN 0 steps.length, okI steps m s = true → P (frI steps m s)) (hI : ∀ k, WI most P s0 (WnI steps most s0 k)) (goal : NMk) : ∃ o, n_shortest_to (nS, (n : Int), steps) s0 goal (most : Int) = some o ∧
    ((o = none ∧ ∃ k', (WnI steps most s0 k').length ≤ k' ∧ Seen steps most s0 goal k') ∨ ∃ w, o = some w ∧ ∃ k', (WnI steps most s0 k')[k']? = some (goal, w) ∧ Seen steps most s0 goal k') := by
  simp only [n_shortest_to]
  rw [lvq, lvq]
  rcases sh_loop N hm hP hI goal 1000 0 (Nat.zero_le _) (fun k' h => by omega) (by omega) with ⟨b, e, q⟩ | ⟨w, e, q⟩
  · have e : whileR (fun (s1' : Ws NMk × List NMk) => (some ((!List.isEmpty s1'.2)))) (n_shortest_to_b2 (nS, (n : Int), steps) goal (most : Int)) 1000 ([(s0, [])], [s0]) = some (.nx b) := e
    exact ⟨none, by rw [e]; rfl, .inl ⟨rfl, q⟩⟩
  · have e : whileR (fun (s1' : Ws NMk × List NMk) => (some ((!List.isEmpty s1'.2)))) (n_shortest_to_b2 (nS, (n : Int), steps) goal (most : Int)) 1000 ([(s0, [])], [s0]) = some (.rt (some w)) := e
    exact ⟨some w, by rw [e]; rfl, .inr ⟨w, rfl, q⟩⟩
/-! the law's levels -/
abbrev sw (e : NMk × List Int) : List Int × NMk := (e.2, e.1)
variable (bx : Box)
include N in
theorem lw_b1 {W : Ws NMk} {m : NMk} {w : List Int} {l0 : Nat} (hn : m.length = n) (I : WI 24 P s0 W) (hmem : (m, w) ∈ W) (h0 : l0 ≤ W.length) {s : Int} (hs : s ∈ rngN 0 steps.length) :
    n_law_b1 (bx, (nS, (n : Int), steps)) (w, m) s (W, (W.drop l0).map sw) = some (ex (okI steps) (frI steps) 24 m w W s, ((ex (okI steps) (frI steps) 24 m w W s).drop l0).map sw) := by
  have hl := I.len
  have hw := I.wl _ hmem
  dsimp only at hw
  simp only [n_law_b1, ex]
  rw [law_can_ok N hn hs, bq]
  have e : decide (((W.length : Nat) : Int) < (24 : Int)) = decide (W.length < 24) := decide_eq_decide.mpr (by omega)
  rw [e]
  cases ho : okI steps m s with
  | false => simp only [Bool.false_and, Bool.false_eq_true, if_false, bq]
  | true =>
    by_cases hlt : W.length < 24
    · simp only [hlt, decide_true, Bool.true_and, Bool.and_true, if_true]
      rw [law_fired_ok N hn hs, bq, lvq]
      cases hh : dHas W (frI steps m s) with
      | true => simp only [Bool.not_true, Bool.false_eq_true, if_false, bq]
      | false =>
        simp only [Bool.not_false, if_true]
        rw [cat_ok (by simp; omega), bq, put_new hh (by omega), bq, bq, push_ok (by simp; omega), bq, bq, bq, List.drop_append_of_le_length (by omega), List.map_append]
        rfl
    · simp only [hlt, decide_false, Bool.and_false, Bool.false_eq_true, if_false, bq]
include N in
theorem lw_fold {m : NMk} {w : List Int} {l0 : Nat} (hn : m.length = n) : ∀ (ss : List Int) (W : Ws NMk), (∀ s ∈ ss, s ∈ rngN 0 steps.length ∧ (okI steps m s = true → P (frI steps m s))) → WI 24 P s0 W → (m, w) ∈ W → l0 ≤ W.length →
    forN (n_law_b1 (bx, (nS, (n : Int), steps)) (w, m)) ss (W, (W.drop l0).map sw) = some (ss.foldl (ex (okI steps) (frI steps) 24 m w) W, ((ss.foldl (ex (okI steps) (frI steps) 24 m w) W).drop l0).map sw)
  | [], W, _, _, _, _ => rfl
  | s :: ss, W, hs, I, hm, h0 => by
    obtain ⟨h1, h3⟩ := hs s List.mem_cons_self
    have hp := ex_pre (ok := okI steps) (fr := frI steps) (most := 24) (W := W) m w s
    rw [forN_cons, lw_b1 N bx hn I hm h0 h1, bq, lw_fold hn ss _ (fun s' h => hs s' (List.mem_cons_of_mem _ h)) (ex_inv I hm h3) (hp.subset hm) (Nat.le_trans h0 hp.length_le)]
    rfl
include N in
theorem lw_level (hPn : ∀ m, P m → m.length = n) (hP : ∀ m, P m → ∀ s ∈ rngN 0 steps.length, okI steps m s = true → P (frI steps m s)) (hI : ∀ k, WI 24 P s0 (WnI steps 24 s0 k)) (j l0 : Nat) : ∀ (es : List (NMk × List Int)) (i : Nat), l0 ≤ (WnI steps 24 s0 (j + i)).length → (∀ q e, es[q]? = some e → (WnI steps 24 s0 (j + i))[j + i + q]? = some e) →
    forN (n_law_b2 (bx, (nS, (n : Int), steps))) (es.map sw) (WnI steps 24 s0 (j + i), ((WnI steps 24 s0 (j + i)).drop l0).map sw) = some (WnI steps 24 s0 (j + i + es.length), ((WnI steps 24 s0 (j + i + es.length)).drop l0).map sw)
  | [], i, _, _ => rfl
  | e :: es, i, h0, hq => by
    have he := hq 0 e rfl
    have hm := List.mem_of_getElem? he
    have hg := (hI (j + i)).good _ hm
    have hx : WnI steps 24 s0 (j + i + 1) = (rngN 0 steps.length).foldl (ex (okI steps) (frI steps) 24 e.1 e.2) (WnI steps 24 s0 (j + i)) := by
      show Xp _ _ _ _ _ _ = _
      unfold Xp
      rw [Nat.add_zero] at he
      rw [he]
    have hp := wn_pre (ok := okI steps) (fr := frI steps) (idx := rngN 0 steps.length) (most := 24) (s0 := s0) (j + i) 1
    have hb : n_law_b2 (bx, (nS, (n : Int), steps)) (sw e) (WnI steps 24 s0 (j + i), ((WnI steps 24 s0 (j + i)).drop l0).map sw) = some (WnI steps 24 s0 (j + (i + 1)), ((WnI steps 24 s0 (j + (i + 1))).drop l0).map sw) := by
      simp only [n_law_b2]
      rw [rng0 (n := steps.length) (by have := N.few; omega), bq, lw_fold N bx (m := e.1) (w := e.2) (hPn _ hg) _ _ (fun s hs => ⟨hs, hP _ hg s hs⟩) (hI (j + i)) hm h0, bq, ← hx]
      rfl
    rw [List.map_cons, forN_cons, hb, bq, lw_level hPn hP hI j l0 es (i + 1) (Nat.le_trans h0 hp.length_le) (fun q e' h => by
      have := hq (q + 1) e' h
      have := pre_get hp this
      rw [show j + (i + 1) + q = j + i + (q + 1) by omega]
      exact this)]
    rw [List.length_cons, show j + (i + 1) + es.length = j + i + (es.length + 1) by omega]
include N in
theorem lw_turns (hPn : ∀ m, P m → m.length = n) (hP : ∀ m, P m → ∀ s ∈ rngN 0 steps.length, okI steps m s = true → P (frI steps m s)) (hI : ∀ k, WI 24 P s0 (WnI steps 24 s0 k)) (lv0 : List (List Int × NMk)) : ∀ (ts : List Int) (j : Nat), j ≤ (WnI steps 24 s0 j).length →
    ∃ j', forN (n_law_b4 (bx, (nS, (n : Int), steps)) lv0) ts (WnI steps 24 s0 j, ((WnI steps 24 s0 j).drop j).map sw) = some (WnI steps 24 s0 j', ((WnI steps 24 s0 j').drop j').map sw)
  | [], j, _ => ⟨j, rfl⟩
  | t :: ts, j, hj => by
    have h1 := lw_level N bx hPn hP hI j (WnI steps 24 s0 j).length ((WnI steps 24 s0 j).drop j) 0 (Nat.le_refl _) (fun q e h => by rw [List.getElem?_drop] at h; exact h)
    rw [Nat.add_zero, List.length_drop, show j + ((WnI steps 24 s0 j).length - j) = (WnI steps 24 s0 j).length by omega, List.drop_length] at h1
    have hb : n_law_b4 (bx, (nS, (n : Int), steps)) lv0 t (WnI steps 24 s0 j, ((WnI steps 24 s0 j).drop j).map sw) = some (WnI steps 24 s0 (WnI steps 24 s0 j).length, ((WnI steps 24 s0 (WnI steps 24 s0 j).length).drop (WnI steps 24 s0 j).length).map sw) := by
      simp only [n_law_b4]
      rw [lvq]
      have h1 : forN (n_law_b2 (bx, (nS, (n : Int), steps))) (((WnI steps 24 s0 j).drop j).map sw) (WnI steps 24 s0 j, []) = _ := h1
      rw [h1, bq, lvq]
    have hle : (WnI steps 24 s0 j).length ≤ (WnI steps 24 s0 (WnI steps 24 s0 j).length).length := by
      obtain ⟨d, hd⟩ := Nat.exists_eq_add_of_le hj
      have := (wn_pre (ok := okI steps) (fr := frI steps) (idx := rngN 0 steps.length) (most := 24) (s0 := s0) j d).length_le
      rw [← hd] at this; exact this
    obtain ⟨j', e⟩ := lw_turns hPn hP hI lv0 ts _ hle
    exact ⟨j', by rw [forN_cons, hb, bq, e]⟩
end
end P05


set_option Elab.async false
set_option linter.all false
set_option maxRecDepth 100000
set_option maxHeartbeats 1000000
/-! what is reached, with words -/
namespace P05
open PySem PySem.Spec PyProof.Rows L2 Z Y
section
variable {α : Type} [DecidableEq α] {ok : α → Int → Bool} {fr : α → Int → α} {idx : List Int} {most : Nat} {s0 : α}
theorem ex_full {W : Ws α} (h : W.length = most) (m : α) (w : List Int) (s : Int) : ex ok fr most m w W s = W := by
  unfold ex
  rw [if_neg]
  simp [h]
theorem exs_full {W : Ws α} (h : W.length = most) (m : α) (w : List Int) : ∀ ss : List Int, ss.foldl (ex ok fr most m w) W = W
  | [] => rfl
  | s :: ss => by rw [List.foldl_cons, ex_full h, exs_full h m w ss]
theorem wn_full {k : Nat} (h : (Wn ok fr idx most s0 k).length = most) : ∀ j, Wn ok fr idx most s0 (k + j) = Wn ok fr idx most s0 k
  | 0 => rfl
  | j + 1 => by
    have ih := wn_full h j
    rw [← Nat.add_assoc, Wn, ih]
    unfold Xp
    split
    · exact exs_full h _ _ _
    · rfl
end
section
variable {n : Nat} {steps : List NSp} (N : NetOk n steps) {most : Nat} {s0 : NMk} {P : NMk → Prop}
theorem has_in {W : Ws NMk} {x : NMk} : dHas W x = inB x (W.map (·.1)) := by
  rw [Bool.eq_iff_iff, dHas_iff, inB_eq, List.mem_map]
  constructor
  · rintro ⟨v, h⟩; exact ⟨_, h, rfl⟩
  · rintro ⟨⟨a, b⟩, h, rfl⟩; exact ⟨b, h⟩
theorem inn_ex (m : NMk) (w : List Int) : ∀ (ss : List Int) (W : Ws NMk), W.length ≤ most →
    (inn steps most m ss (W.map (·.1)) = .nx ((ss.foldl (ex (okI steps) (frI steps) most m w) W).map (·.1))) ∨
    (inn steps most m ss (W.map (·.1)) = .rt ((ss.foldl (ex (okI steps) (frI steps) most m w) W).map (·.1), false) ∧ (ss.foldl (ex (okI steps) (frI steps) most m w) W).length = most)
  | [], W, _ => .inl rfl
  | s :: ss, W, hl => by
    rw [List.foldl_cons]
    cases ho : okI steps m s with
    | false =>
      have e : ex (okI steps) (frI steps) most m w W s = W := by unfold ex; rw [ho]; rfl
      rw [e]
      simp only [inn, ho, Bool.false_eq_true, if_false]
      exact inn_ex m w ss W hl
    | true =>
      cases hi : inB (frI steps m s) (W.map (·.1)) with
      | true =>
        have e : ex (okI steps) (frI steps) most m w W s = W := by unfold ex; rw [ho, has_in, hi]; rfl
        rw [e]
        simp only [inn, ho, hi, if_true, Bool.not_true, Bool.false_eq_true, if_false]
        exact inn_ex m w ss W hl
      | false =>
        by_cases he : W.length = most
        · rw [ex_full he, exs_full he]
          refine .inr ⟨?_, he⟩
          simp only [inn, ho, hi, if_true, Bool.not_false, List.length_map, he, decide_true]
        · have hlt : W.length < most := by omega
          have e : ex (okI steps) (frI steps) most m w W s = W ++ [(frI steps m s, w ++ [s])] := by
            unfold ex; rw [ho, has_in, hi, decide_eq_true hlt]; rfl
          have hd : decide (((W.map (·.1)).length : Int) = (most : Int)) = false := decide_eq_false (by simp only [List.length_map]; omega)
          rw [e]
          simp only [inn, ho, hi, if_true, Bool.not_false, hd, Bool.false_eq_true, if_false]
          have := inn_ex m w ss (W ++ [(frI steps m s, w ++ [s])]) (by simp; omega)
          rw [List.map_append] at this
          exact this
include N in
theorem lpW (hm30 : most ≤ 30) (hs0 : s0.length = n) (h1 : 1 ≤ most) (c0 : Int) : ∀ (fuel k : Nat), k ≤ (WnI steps most s0 k).length → ∀ o,
    whileR (ρ := List NMk × Bool) (fun (s1' : (List (List Int)) × Int) => (some ((decide (s1'.2 < (List.length s1'.1 : Int)))))) (n_law_net_reach_b2 (nS, (n : Int), steps) (most : Int) c0) fuel ((WnI steps most s0 k).map (·.1), (k : Int)) = some o →
    ∃ K, (WnI steps most s0 K).length ≤ K ∧ (∀ s, o = .nx s → s.1 = (WnI steps most s0 K).map (·.1)) ∧ (∀ r, o = .rt r → r.1 = (WnI steps most s0 K).map (·.1))
  | 0, k, _, o, h => by simp [whileR] at h
  | fuel + 1, k, hk, o, h => by
    have hP : ∀ x : NMk, x.length = n → ∀ s ∈ rngN 0 steps.length, okI steps x s = true → (frI steps x s).length = n := fun x hx s hs _ => fr_len N hx hs
    have hI : ∀ k, WI most (fun x : NMk => x.length = n) s0 (WnI steps most s0 k) := wn_inv h1 hs0 hP
    by_cases he : (WnI steps most s0 k).length ≤ k
    · have hd : decide ((k : Int) < ((List.map (fun x => x.1) (WnI steps most s0 k)).length : Int)) = false := decide_eq_false (by rw [List.length_map]; omega)
      simp only [whileR, hd] at h
      cases h
      exact ⟨k, he, fun s h => by cases h; rfl, fun r h => nomatch h⟩
    · have hkl : k < (WnI steps most s0 k).length := by omega
      have hd : decide ((k : Int) < ((List.map (fun x => x.1) (WnI steps most s0 k)).length : Int)) = true := decide_eq_true (by rw [List.length_map]; omega)
      have hg : (WnI steps most s0 k)[k]? = some ((WnI steps most s0 k)[k].1, (WnI steps most s0 k)[k].2) := List.getElem?_eq_getElem hkl
      generalize (WnI steps most s0 k)[k].1 = m at hg
      generalize (WnI steps most s0 k)[k].2 = w at hg
      have hm : m.length = n := (hI k).good _ (List.mem_of_getElem? hg)
      have hgf : ((WnI steps most s0 k).map (·.1))[k]? = some m := by rw [List.getElem?_map, hg]; rfl
      have hl := (hI k).len
      have e1 := inn_law N hm30 hm (f0 := (WnI steps most s0 k).map (·.1)) (k := k) (rngN 0 steps.length) _ (fun s h => h) hgf (by rw [List.length_map]; exact hl)
      have hx : WnI steps most s0 (k + 1) = (rngN 0 steps.length).foldl (ex (okI steps) (frI steps) most m w) (WnI steps most s0 k) := by
        show Xp _ _ _ _ _ _ = _
        unfold Xp
        rw [hg]
      have E1 : n_law_net_reach_b2 (nS, (n : Int), steps) (most : Int) c0 ((WnI steps most s0 k).map (·.1), (k : Int)) = onR (fun r => some (.rt r)) (fun (found' : List NMk) => some (.nx (found', (k : Int) + 1))) (inn steps most m (rngN 0 steps.length) ((WnI steps most s0 k).map (·.1))) := by
        simp only [n_law_net_reach_b2]
        rw [rng0 (n := steps.length) (by have := N.few; omega), bq, e1, bq]
        rfl
      rcases inn_ex (steps := steps) (most := most) m w (rngN 0 steps.length) (WnI steps most s0 k) hl with e | ⟨e, hfull⟩
      · rw [e, onR_nx, ← hx] at E1
        simp only [whileR, hd, E1] at h
        have hp := (xp_pre (ok := okI steps) (fr := frI steps) (idx := rngN 0 steps.length) (most := most) (WnI steps most s0 k) k).length_le
        exact lpW hm30 hs0 h1 c0 fuel (k + 1) (Nat.le_trans (Nat.succ_le_of_lt hkl) hp) o h
      · rw [e, onR_rt, ← hx] at E1
        simp only [whileR, hd, E1] at h
        cases h
        have hfull' : (WnI steps most s0 (k + 1)).length = most := by rw [hx]; exact hfull
        have hwf : WnI steps most s0 (k + 1 + most) = WnI steps most s0 (k + 1) := wn_full hfull' most
        refine ⟨k + 1 + most, ?_, fun s h => (nomatch h), fun r h => ?_⟩
        · rw [hwf]; omega
        · cases h
          rw [hwf]
include N in
/-- what both tell is what the words tell -/
theorem reach_wn (hm30 : most ≤ 30) (hs0 : s0.length = n) (h1 : 1 ≤ most) : ∃ (r : List NMk × Bool) (K : Nat), n_law_net_reach (nS, (n : Int), steps) s0 (most : Int) = some r ∧ n_reached (nS, (n : Int), steps) s0 (most : Int) = some r ∧
    (r.2 = true → s0 ∈ r.1 ∧ ∀ x ∈ r.1, ∀ s ∈ rngN 0 steps.length, okI steps x s = true → frI steps x s ∈ r.1) ∧ (WnI steps most s0 K).length ≤ K ∧ r.1 = (WnI steps most s0 K).map (·.1) := by
  obtain ⟨r, e1, e2, _, _, h⟩ := reach_both N hm30 hs0 h1
  refine ⟨r, ?_⟩
  have e := e1
  simp only [n_law_net_reach] at e
  rw [lvq, lvq] at e
  have e : bnd (whileR (ρ := ((List (List Int)) × Bool)) (fun (s1' : (List (List Int)) × Int) => (some ((decide (s1'.2 < (List.length s1'.1 : Int)))))) (n_law_net_reach_b2 (nS, (n : Int), steps) (most : Int) 0) 1000 ((WnI steps most s0 0).map (·.1), ((0 : Nat) : Int))) (onR some fun (s1' : (List (List Int)) × Int) => some (s1'.1, true)) = some r := e
  generalize hw : whileR (ρ := ((List (List Int)) × Bool)) (fun (s1' : (List (List Int)) × Int) => (some ((decide (s1'.2 < (List.length s1'.1 : Int)))))) (n_law_net_reach_b2 (nS, (n : Int), steps) (most : Int) 0) 1000 ((WnI steps most s0 0).map (·.1), ((0 : Nat) : Int)) = o at e
  cases o with
  | none => cases e
  | some o =>
    obtain ⟨K, hK, q1, q2⟩ := lpW N hm30 hs0 h1 0 1000 0 (Nat.zero_le _) o hw
    refine ⟨K, e1, e2, h, hK, ?_⟩
    rw [bq] at e
    cases o with
    | nx s => cases e; exact q1 s rfl
    | rt r2 => cases e; exact q2 _ rfl
    | ct s => cases e
    | bk s => cases e
end
end P05


set_option Elab.async false
set_option linter.all false
set_option maxRecDepth 100000
set_option maxHeartbeats 1000000
/-! the law's words, and what the program tells of the end -/
namespace P07
open PySem PySem.Spec PyProof.Rows L2 Z Y
open P05 (WnI okI frI nS law_can_ok law_fired_ok can_ok possible_ok fr_len sh_b1 put_new shortest_ok reach_wn)
theorem e_can : n_law_can = P05.n_law_can := rfl
theorem e_fired : n_law_fired = P05.n_law_fired := rfl
theorem e_reach : n_law_net_reach = P05.n_law_net_reach := rfl
theorem e_reached : n_reached = P05.n_reached := rfl
theorem e_can2 : n_can = P05.n_can := rfl
theorem e_poss : n_possible = P05.n_possible := rfl
theorem e_short : n_shortest_to = P05.n_shortest_to := rfl
section
variable {n : Nat} {steps : List NSp} (N : NetOk n steps) {most : Nat} {s0 : NMk} {P : NMk → Prop}
include N
theorem w_b1 {W : Ws NMk} {m : NMk} {w : List Int} {k : Nat} {t11 : List NMk × Bool} {s24 : Ws NMk × List NMk × Int} (hs24 : s24.2.2 = (k : Int)) (hm : most ≤ 30) (hn : m.length = n) (I : WI most P s0 W) (hk : W[k]? = some (m, w)) {s : Int} (hs : s ∈ rngN 0 steps.length)
    (hR : ∀ e ∈ ex (okI steps) (frI steps) most m w W s, e.1 ∈ t11.1) :
    n_law_b1 (nS, (n : Int), steps) (most : Int) t11 s24 s (W, W.map (·.1)) = some (ex (okI steps) (frI steps) most m w W s, (ex (okI steps) (frI steps) most m w W s).map (·.1)) := by
  have hmem := List.mem_of_getElem? hk
  have hl := I.len
  have hw := I.wl _ hmem
  have hg := dGet_mem I.nd hmem
  have hat : L2.atI (W.map (·.1)) (k : Int) = some m := at_some (by rw [List.getElem?_map, hk]; rfl)
  revert hR
  simp only [n_law_b1, ex, e_can, e_fired, hs24]
  rw [hat, bq, law_can_ok N hn hs, bq]
  have e : decide (((W.length : Nat) : Int) < (most : Int)) = decide (W.length < most) := decide_eq_decide.mpr (by omega)
  rw [e]
  cases ho : okI steps m s with
  | false => intro _; simp only [Bool.false_and, Bool.false_eq_true, if_false, bq]
  | true =>
    simp only [Bool.true_and, if_true, bq]
    rw [law_fired_ok N hn hs, bq, lvq]
    cases hh : dHas W (frI steps m s) with
    | true => intro _; simp only [Bool.not_true, Bool.false_and, Bool.false_eq_true, if_false, bq]
    | false =>
      by_cases hlt : W.length < most
      · simp only [hlt, decide_true, Bool.not_false, Bool.and_self, Bool.and_true, Bool.true_and, if_true]
        intro hR
        have hin : inB (frI steps m s) t11.1 = true := (inB_eq _ _).mpr (hR (frI steps m s, w ++ [s]) (by simp))
        dsimp only at hw
        rw [hin, if_pos rfl, hg, bq, cat_ok (by simp; omega), bq, put_new hh (by omega), bq, push_ok (by rw [List.length_map]; omega), bq, bq, bq, List.map_append]
        rfl
      · intro _; simp only [hlt, decide_false, Bool.and_false, Bool.false_eq_true, if_false, bq]
theorem w_fold {m : NMk} {w : List Int} {k : Nat} {t11 : List NMk × Bool} {s24 : Ws NMk × List NMk × Int} (hs24 : s24.2.2 = (k : Int)) (hm : most ≤ 30) (hn : m.length = n) : ∀ (ss : List Int) (W : Ws NMk), (∀ s ∈ ss, s ∈ rngN 0 steps.length ∧ (okI steps m s = true → P (frI steps m s))) → WI most P s0 W → W[k]? = some (m, w) →
    (∀ e ∈ ss.foldl (ex (okI steps) (frI steps) most m w) W, e.1 ∈ t11.1) →
    forN (n_law_b1 (nS, (n : Int), steps) (most : Int) t11 s24) ss (W, W.map (·.1)) = some (ss.foldl (ex (okI steps) (frI steps) most m w) W, (ss.foldl (ex (okI steps) (frI steps) most m w) W).map (·.1))
  | [], W, _, _, _, _ => rfl
  | s :: ss, W, hs, I, hk, hR => by
    obtain ⟨h1, h3⟩ := hs s List.mem_cons_self
    rw [forN_cons, w_b1 N hs24 hm hn I hk h1 (fun e he => hR e ((exs_pre m w ss _).subset he)), bq, w_fold hs24 hm hn ss _ (fun s' h => hs s' (List.mem_cons_of_mem _ h)) (ex_inv I (List.mem_of_getElem? hk) h3) (pre_get (ex_pre ..) hk) hR]
    rfl
theorem w_loop {t11 : List NMk × Bool} (c0 : Int) (hm : most ≤ 30) (hs0 : s0.length = n) (h1 : 1 ≤ most) (hR : ∀ j, ∀ e ∈ WnI steps most s0 j, e.1 ∈ t11.1) : ∀ (fuel k : Nat), k ≤ (WnI steps most s0 k).length → most + 1 ≤ fuel + k →
    ∃ K, (WnI steps most s0 K).length ≤ K ∧ whileN (fun (s24' : Ws NMk × List NMk × Int) => (some ((decide (s24'.2.2 < (List.length s24'.2.1 : Int)))))) (n_law_b4 (nS, (n : Int), steps) (most : Int) t11 c0) fuel (WnI steps most s0 k, (WnI steps most s0 k).map (·.1), (k : Int)) = some (WnI steps most s0 K, (WnI steps most s0 K).map (·.1), (K : Int))
  | 0, k, hk, h => by
    have hP : ∀ x : NMk, x.length = n → ∀ s ∈ rngN 0 steps.length, okI steps x s = true → (frI steps x s).length = n := fun x hx s hs _ => fr_len N hx hs
    have hI : ∀ k, WI most (fun x : NMk => x.length = n) s0 (WnI steps most s0 k) := wn_inv h1 hs0 hP
    have := (hI k).len; omega
  | fuel + 1, k, hk, h => by
    have hP : ∀ x : NMk, x.length = n → ∀ s ∈ rngN 0 steps.length, okI steps x s = true → (frI steps x s).length = n := fun x hx s hs _ => fr_len N hx hs
    have hI : ∀ k, WI most (fun x : NMk => x.length = n) s0 (WnI steps most s0 k) := wn_inv h1 hs0 hP
    by_cases he : (WnI steps most s0 k).length ≤ k
    · have hd : decide ((k : Int) < ((List.map (fun x => x.1) (WnI steps most s0 k)).length : Int)) = false := decide_eq_false (by rw [List.length_map]; omega)
      exact ⟨k, he, by simp only [whileN, hd]⟩
    · have hkl : k < (WnI steps most s0 k).length := by omega
      have hd : decide ((k : Int) < ((List.map (fun x => x.1) (WnI steps most s0 k)).length : Int)) = true := decide_eq_true (by rw [List.length_map]; omega)
      have hg : (WnI steps most s0 k)[k]? = some ((WnI steps most s0 k)[k].1, (WnI steps most s0 k)[k].2) := List.getElem?_eq_getElem hkl
      generalize (WnI steps most s0 k)[k].1 = m at hg
      generalize (WnI steps most s0 k)[k].2 = w at hg
      have hmn : m.length = n := (hI k).good _ (List.mem_of_getElem? hg)
      have hx : WnI steps most s0 (k + 1) = (rngN 0 steps.length).foldl (ex (okI steps) (frI steps) most m w) (WnI steps most s0 k) := by
        show Xp _ _ _ _ _ _ = _
        unfold Xp
        rw [hg]
      have hp := (xp_pre (ok := okI steps) (fr := frI steps) (idx := rngN 0 steps.length) (most := most) (WnI steps most s0 k) k).length_le
      have E : n_law_b4 (nS, (n : Int), steps) (most : Int) t11 c0 (WnI steps most s0 k, (WnI steps most s0 k).map (·.1), (k : Int)) = some (WnI steps most s0 (k + 1), (WnI steps most s0 (k + 1)).map (·.1), ((k + 1 : Nat) : Int)) := by
        simp only [n_law_b4]
        rw [rng0 (n := steps.length) (by have := N.few; omega), bq, w_fold N (k := k) rfl hm hmn (rngN 0 steps.length) (WnI steps most s0 k) (fun s hs => ⟨hs, hP _ hmn s hs⟩) (hI k) hg (by rw [← hx]; exact hR (k + 1)), bq, ← hx, lvq]
        rfl
      obtain ⟨K, hK, e⟩ := w_loop c0 hm hs0 h1 hR fuel (k + 1) (Nat.le_trans (Nat.succ_le_of_lt hkl) hp) (by omega)
      exact ⟨K, hK, by simp only [whileN, hd, E]; exact e⟩
omit N in
theorem w_same {K1 K2 : Nat} (h1 : (WnI steps most s0 K1).length ≤ K1) (h2 : (WnI steps most s0 K2).length ≤ K2) : WnI steps most s0 K1 = WnI steps most s0 K2 := by
  rcases Nat.le_total K1 K2 with h | h
  · obtain ⟨d, rfl⟩ := Nat.exists_eq_add_of_le h
    exact (wn_stop h1 d).symm
  · obtain ⟨d, rfl⟩ := Nat.exists_eq_add_of_le h
    exact wn_stop h2 d
omit N in
def stk (steps : List NSp) (m : NMk) : Bool := ((rngN 0 steps.length).filter (okI steps m)).isEmpty
omit N in
theorem len0 {α : Type} (l : List α) : decide ((l.length : Int) = 0) = l.isEmpty := by cases l <;> simp <;> omega
theorem ends_b3 {W : Ws NMk} {c : Ws NMk × List NMk × Int} {c0 : List (Int × List Int)} (hc : c.1 = W) (nd : (W.map (·.1)).Nodup) (hgood : ∀ e ∈ W, e.1.length = n) : ∀ (es : Ws NMk) (acc : List (Int × List Int)), (∀ e ∈ es, e ∈ W) → acc.length + es.length ≤ 1000 →
    forN (n_law_b3 (nS, (n : Int), steps) c c0) (es.map (·.1)) acc = some (acc ++ (es.filter fun e => stk steps e.1).map fun e => ((e.2.length : Int), e.2))
  | [], acc, _, _ => by simp [forN]
  | e :: es, acc, hs, hl => by
    have he := hs e List.mem_cons_self
    have hg : dGet c.1 e.1 = some e.2 := by rw [hc]; exact dGet_mem nd he
    have hb : n_law_b3 (nS, (n : Int), steps) c c0 e.1 acc = some (if stk steps e.1 = true then acc ++ [((e.2.length : Int), e.2)] else acc) := by
      simp only [n_law_b3, e_can]
      rw [rng0 (n := steps.length) (by have := N.few; omega), bq, lcO_filter (tb := okI steps e.1) _ (fun s hs => by rw [law_can_ok N (hgood _ he) hs, bq]), bq, len0]
      show bnd (if stk steps e.1 = true then _ else _) _ = _
      cases stk steps e.1 with
      | false => simp only [Bool.false_eq_true, if_false, bq]
      | true =>
        simp only [if_true]
        rw [hg, bq, bq, push_ok (by simp at hl; omega), bq, bq]
    rw [List.map_cons, forN_cons, hb, bq, ends_b3 hc nd hgood es _ (fun e' h => hs e' (List.mem_cons_of_mem _ h)) (by split <;> simp at hl ⊢ <;> omega), List.filter_cons]
    split <;> simp
omit N in
theorem un_map {α : Type} : ∀ l : List α, unO (l.map some) = some l
  | [] => rfl
  | x :: l => by simp only [List.map_cons, unO, un_map l]
omit N in
theorem min_fold {α γ : Type} (G : Enc γ) (kf : α → γ) : ∀ (r : List α) (x : α), kf (r.foldl (fun a y => if G.lt (kf y) (kf a) = true then y else a) x) = (r.map kf).foldl (fun a y => if G.lt y a = true then y else a) (kf x)
  | [], x => rfl
  | y :: r, x => by
    rw [List.foldl_cons, List.map_cons, List.foldl_cons, min_fold G kf r]
    congr 1
    split <;> rfl
omit N in
theorem min_eq {α γ : Type} (G : Enc γ) {ok : α → Bool} {kf : α → γ} : ∀ {ws : List α}, ws.all ok = true → ws ≠ [] → ∃ y, minKO G ok kf ws = some y ∧ G.minL (ws.map kf) = some (kf y)
  | [], _, h => (h rfl).elim
  | x :: r, ho, _ => by
    refine ⟨r.foldl (fun a y => if G.lt (kf y) (kf a) = true then y else a) x, ?_, ?_⟩
    · unfold minKO
      rw [if_pos ho]
    · exact congrArg some (min_fold G kf r x).symm
abbrev kL (z : List Int) : Int × List Int := ((List.length z : Int), z)
abbrev GL : Enc (Int × List Int) := Er (Rc Ei (R1 (Et Ei))) rfl
/-- what both tell of the end -/
theorem end_ok (hm : most ≤ 30) (hs0 : s0.length = n) (h1 : 1 ≤ most) {r : List NMk × Bool} {K : Nat} (hr : P05.n_reached (nS, (n : Int), steps) s0 (most : Int) = some r) (hK : (WnI steps most s0 K).length ≤ K) (hrw : r.1 = (WnI steps most s0 K).map (·.1)) :
    ∃ due : Str ⊕ (Str × List Int), n_decide_end (nS, (n : Int), steps) s0 (most : Int) = some due ∧
      let ends := ((WnI steps most s0 K).filter fun e => stk steps e.1).map fun e => ((e.2.length : Int), e.2)
      ((ends = [] ∧ due = if r.2 = true then (Sum.inl (("on" : String) : Str)) else (Sum.inl (("open" : String) : Str))) ∨
       ∃ w : List Int, w.length ≤ 30 ∧ ends ≠ [] ∧ GL.minL ends = some (kL w) ∧ due = Sum.inr ((("end" : String) : Str), w)) := by
  have hP : ∀ x : NMk, x.length = n → ∀ s ∈ rngN 0 steps.length, okI steps x s = true → (frI steps x s).length = n := fun x hx s hs _ => fr_len N hx hs
  have hI : ∀ k, WI most (fun x : NMk => x.length = n) s0 (WnI steps most s0 k) := wn_inv h1 hs0 hP
  have I := hI K
  have hl := I.len
  have hsh : ∀ e ∈ WnI steps most s0 K, P05.n_shortest_to (nS, (n : Int), steps) s0 e.1 (most : Int) = some (some e.2) := fun e he => by
    obtain ⟨i, hi⟩ := List.mem_iff_getElem?.mp he
    obtain ⟨o, eo, ho⟩ := shortest_ok N (most := most) hm hP hI e.1
    rcases ho with ⟨_, k', q1, q2⟩ | ⟨w', rfl, k', q1, q2⟩
    · exact (wn_none (w := e.2) hi q1 q2).elim
    · rw [eo, wn_goal (w := e.2) hI hi q1 q2]
  have hlc : lcO (fun t4' => (bnd (P05.n_possible (nS, (n : Int), steps) t4') fun a5' => some ((!(!List.isEmpty a5'))))) (fun t4' => (bnd (P05.n_shortest_to (nS, (n : Int), steps) s0 t4' (most : Int)) fun a7' => some (a7'))) ((WnI steps most s0 K).map (·.1)) = some ((((WnI steps most s0 K).filter fun e => stk steps e.1).map (·.2)).map some) := by
    rw [lcO_ft (tb := stk steps) (g := fun x => dGet (WnI steps most s0 K) x) _ (fun x hx => by rw [possible_ok N, bq, Bool.not_not]; rfl) (fun x hx _ => by
      obtain ⟨e, he, rfl⟩ := List.mem_map.mp hx
      rw [hsh e he, bq, dGet_mem I.nd he])]
    congr 1
    rw [List.filter_map, List.map_map, List.map_map]
    refine List.map_congr_left fun e he => ?_
    exact dGet_mem I.nd (List.mem_filter.mp he).1
  have hwl : ∀ w ∈ ((WnI steps most s0 K).filter fun e => stk steps e.1).map (·.2), w.length ≤ 30 := fun w hw => by
    obtain ⟨e, he, rfl⟩ := List.mem_map.mp hw
    have := I.wl _ (List.mem_filter.mp he).1
    omega
  simp only [n_decide_end, e_reached, e_poss, e_short]
  rw [hr, bq, lvq, hrw, hlc, bq, lvq]
  have hends : (((WnI steps most s0 K).filter fun e => stk steps e.1).map fun e => ((e.2.length : Int), e.2)) = (((WnI steps most s0 K).filter fun e => stk steps e.1).map (·.2)).map kL := by rw [List.map_map]; rfl
  rw [hends]
  generalize ((WnI steps most s0 K).filter fun e => stk steps e.1).map (·.2) = ws at hwl
  cases hws : ws with
  | nil => exact ⟨_, rfl, .inl ⟨rfl, rfl⟩⟩
  | cons w0 ws' =>
    rw [← hws]
    have hne : ws ≠ [] := by rw [hws]; simp
    have hemp : (!List.isEmpty (ws.map some)) = true := by rw [hws]; rfl
    obtain ⟨y, m1, m2⟩ := min_eq GL (ok := okL) (kf := kL) (ws := ws) (List.all_eq_true.mpr fun w hw => decide_eq_true (by have := hwl w hw; omega)) hne
    have hy : y ∈ ws := by
      obtain ⟨m, e, hmem, _⟩ := minE_spec GL (xs := ws.map kL) (by simpa using hne)
      rw [e] at m2
      cases m2
      obtain ⟨y', hy', e'⟩ := List.mem_map.mp hmem
      have : y' = y := congrArg Prod.snd e'
      rw [← this]; exact hy'
    refine ⟨Sum.inr ((("end" : String) : Str), y), ?_, .inr ⟨y, hwl y hy, by simpa using hne, m2, rfl⟩⟩
    rw [if_pos hemp, un_map, bq, m1, bq]
end
end P07


set_option Elab.async false
set_option linter.all false
set_option maxRecDepth 100000
set_option maxHeartbeats 1000000
/-! life: steps and the way home -/
namespace P07
open PySem PySem.Spec PyProof.Rows L2 Z Y
open P05 (WnI okI frI nS law_can_ok law_fired_ok can_ok possible_ok fr_len sh_b1 put_new shortest_ok reach_wn)
theorem rep1 (v : Int) (n : Nat) : (List.replicate n [v]).flatten = List.replicate n v := by
  induction n with
  | zero => rfl
  | succ n ih => rw [List.replicate_succ, List.flatten_cons, ih, List.replicate_succ]; rfl
theorem rep_ok (n : Nat) (hn : n ≤ 100) : ∃ xs : List Int, repO [(0 : Int)] (n : Int) = some xs ∧ xs.length = n := by
  unfold repO
  rw [if_pos ⟨by omega, by omega, by simp; omega⟩]
  exact ⟨_, rfl, by rw [Int.toNat_natCast, rep1]; simp⟩
theorem setO_ok {xs : List Int} {i v : Int} {n : Nat} (hl : xs.length = n) (h0 : 0 ≤ i) (h1 : i < n) : ∃ ys, setO xs i v = some ys ∧ ys.length = n := by
  obtain ⟨k, rfl⟩ := Int.eq_ofNat_of_zero_le h0
  unfold setO
  rw [ixN_nat, if_pos (by omega)]
  exact ⟨_, rfl, by simp [hl]⟩
theorem andE_ok {x : Bool} {b : Box} {f : Option (Bool × Box)} (h : ∃ s, f = some s) : ∃ s, andE x f b = some s := by
  unfold andE
  split
  · exact h
  · exact ⟨_, rfl⟩
theorem safe_net_ok (box : Box) : ∃ (n : Nat) (steps : List NSp) (box' : Box), n_law_safe_net box 4 3 = some ((nS, (n : Int), steps), box') ∧ NetOk n steps := by
  obtain ⟨r, r0, r1, e1⟩ := draw_some box (m := 4 - 1) (by omega)
  obtain ⟨n, hn⟩ := Int.eq_ofNat_of_zero_le (show 0 ≤ 2 + r by omega)
  obtain ⟨w, w0, w1, e2⟩ := draw_some (box.1, box.2 + 1) (m := 3) (by omega)
  have hn4 : 2 ≤ n ∧ n ≤ 4 := by omega
  have e3 := rngO_ok (lo := 0) (hi := 1 + w) (by omega) (by omega) (by omega) (by omega)
  have hlen : (rngN 0 (1 + w - 0).toNat).length ≤ 3 := by simp [rngN]; omega
  obtain ⟨⟨bx, ss⟩, e, h1, h2⟩ := forN_inv (f := n_law_safe_net_b1 (n : Int)) (fun p (q : Box × List NSp) => q.2.length ≤ p.length ∧ ∀ st ∈ q.2, st.1.length = n ∧ st.2.length = n) (rngN 0 (1 + w - 0).toNat) [] ((box.1, box.2 + 1 + 1), []) ⟨by simp, by simp⟩ (by
    rintro p t q b he ⟨h1, h2⟩
    have hp : p.length + 1 ≤ 3 := by
      have := congrArg List.length he
      rw [List.nil_append, List.length_append, List.length_cons] at this; omega
    obtain ⟨x, x0, x1, ex⟩ := draw_some b.1 (m := (n : Int)) (by omega)
    obtain ⟨y, y0, y1, ey⟩ := draw_some (b.1.1, b.1.2 + 1) (m := (n : Int)) (by omega)
    obtain ⟨z, z0, z1, ez⟩ := draw_some (b.1.1, b.1.2 + 1 + 1) (m := (n : Int)) (by omega)
    obtain ⟨t0, et0, lt0⟩ := rep_ok n (by omega)
    obtain ⟨t1, et1, lt1⟩ := setO_ok (v := 1) lt0 x0 x1
    obtain ⟨g1, eg1, lg1⟩ := setO_ok (v := 1) lt0 y0 y1
    obtain ⟨t2, et2, lt2⟩ := setO_ok (v := 1) lt1 z0 z1
    obtain ⟨g2, eg2, lg2⟩ := setO_ok (v := 1) lg1 z0 z1
    simp only [n_law_safe_net_b1]
    rw [ex, bq, lvq, ey, bq, lvq, ez, bq, lvq, et0, bq, lvq, bq, lvq, et1, bq, eg1, bq]
    dsimp only
    obtain ⟨s, es⟩ : ∃ s, andE (!decide (z = x)) (bnd (andE (!decide (z = y)) (bnd (drawO (b.1.1, b.1.2 + 1 + 1 + 1) (2 : Int)) fun v21' => some ((decide (v21'.1 = (0 : Int))), v21'.2)) (b.1.1, b.1.2 + 1 + 1 + 1)) fun s23' => some (s23'.1, s23'.2)) (b.1.1, b.1.2 + 1 + 1 + 1) = some s := by
      refine andE_ok ?_
      obtain ⟨s2, e2⟩ : ∃ s2, andE (!decide (z = y)) (bnd (drawO (b.1.1, b.1.2 + 1 + 1 + 1) (2 : Int)) fun v21' => some ((decide (v21'.1 = (0 : Int))), v21'.2)) (b.1.1, b.1.2 + 1 + 1 + 1) = some s2 := by
        refine andE_ok ?_
        obtain ⟨d, _, _, ed⟩ := draw_some (b.1.1, b.1.2 + 1 + 1 + 1) (m := 2) (by omega)
        rw [ed, bq]
        exact ⟨_, rfl⟩
      rw [e2, bq]
      exact ⟨_, rfl⟩
    rw [es, bq]
    have fin : ∀ (bx : Box) (t' g' : List Int), t'.length = n → g'.length = n → ∃ b', bnd (pushO b.2 (t', g')) (fun steps34' => some (bx, steps34')) = some b' ∧ b'.2.length ≤ (p ++ [t]).length ∧ ∀ st ∈ b'.2, st.1.length = n ∧ st.2.length = n := fun bx t' g' ht hg => by
      rw [push_ok (by omega), bq]
      refine ⟨_, rfl, by simp; omega, fun st hst => ?_⟩
      rcases List.mem_append.mp hst with h | h
      · exact h2 st h
      · rw [List.mem_singleton.mp h]; exact ⟨ht, hg⟩
    by_cases hs : s.1 = true
    · rw [if_pos hs, et2, bq]
      obtain ⟨d, _, _, ed⟩ := draw_some s.2 (m := 2) (by omega)
      rw [ed, bq]
      by_cases hd : decide (d = 0) = true
      · rw [if_pos hd, eg2, bq, bq, bq]
        obtain ⟨b', e, q1, q2⟩ := fin (s.2.1, s.2.2 + 1) t2 g2 lt2 lg2
        exact ⟨b', e, q1, q2⟩
      · rw [if_neg hd, bq, bq]
        obtain ⟨b', e, q1, q2⟩ := fin (s.2.1, s.2.2 + 1) t2 g1 lt2 lg1
        exact ⟨b', e, q1, q2⟩
    · rw [if_neg hs, bq]
      obtain ⟨b', e, q1, q2⟩ := fin s.2 t1 g1 lt1 lg1
      exact ⟨b', e, q1, q2⟩)
  rw [List.nil_append] at h1
  refine ⟨n, ss, bx, ?_, ⟨by omega, by omega, by have h1 : ss.length ≤ _ := h1; omega, h2⟩⟩
  simp only [n_law_safe_net]
  rw [e1, bq, lvq, lvq]
  dsimp only
  rw [e2, bq, e3, bq, hn, e, bq]
theorem marks_ok (box : Box) (n : Nat) (hn : n ≤ 100) (steps : List NSp) : ∃ (m : NMk) (box' : Box), n_law_marks box (nS, (n : Int), steps) 1 = some (m, box') ∧ m.length = n := by
  simp only [n_law_marks]
  rw [rng0 (n := n) (by omega), bq]
  obtain ⟨l, b', e, hl, _⟩ := lcS_inv (fun _ => True) (t := fun t3' s4' => some (true, s4')) (e := fun (t3' : Int) (s4' : Box) => bnd (drawO s4' ((1 : Int) + (1 : Int))) fun v5' => some (v5'.1, v5'.2)) (rngN 0 n) box (fun x hx s => by
    refine ⟨s, rfl, ?_⟩
    obtain ⟨v, v0, v1, ev⟩ := draw_some s (m := 1 + 1) (by omega)
    rw [ev, bq]
    exact ⟨_, _, rfl, trivial⟩)
  rw [e, bq]
  exact ⟨l, b', rfl, by simpa [rngN] using hl⟩

section
variable {n : Nat} {steps : List NSp} (N : NetOk n steps) {most : Nat}
def fars (n : Nat) (steps : List NSp) (most : Nat) (own : NMk) : List NMk := match P05.n_law_net_reach (nS, (n : Int), steps) own (most : Int) with
  | some r => r.1
  | none => []
include N
theorem fars_ok (hm : most ≤ 30) (h1 : 1 ≤ most) {own : NMk} (ho : own.length = n) : ∃ b, P05.n_law_net_reach (nS, (n : Int), steps) own (most : Int) = some (fars n steps most own, b) ∧ P05.n_reached (nS, (n : Int), steps) own (most : Int) = some (fars n steps most own, b) ∧ (∀ x ∈ fars n steps most own, x.length = n) := by
  obtain ⟨r, e1, e2, _, h, _⟩ := P05.reach_both N hm ho h1
  have hf : fars n steps most own = r.1 := by unfold fars; rw [e1]
  rw [hf]
  exact ⟨r.2, e1, e2, h⟩
omit N in
theorem pos_any {α : Type} (l : List α) (p : α → Bool) : decide ((0 : Int) < ((l.filter p).length : Int)) = l.any p := by
  rw [Bool.eq_iff_iff, decide_eq_true_eq, List.any_eq_true]
  constructor
  · intro h
    have : 0 < (l.filter p).length := by omega
    obtain ⟨x, hx⟩ := List.exists_mem_of_length_pos this
    exact ⟨x, (List.mem_filter.mp hx).1, (List.mem_filter.mp hx).2⟩
  · rintro ⟨x, hx, hp⟩
    have := List.length_pos_of_mem (List.mem_filter.mpr ⟨hx, hp⟩)
    omega
def lv1 (n : Nat) (steps : List NSp) (most : Nat) (s : Int) (own : NMk) : Bool := (fars n steps most own).any fun x => okI steps x s
theorem b2_fold (hm : most ≤ 30) (h1 : 1 ≤ most) (marks : NMk) (c0 : List Int) (c1 : Bool) : ∀ (rows : List NMk) (live : List Int) (home : Bool), (∀ x ∈ rows, x.length = n) → (∀ s ∈ live, s ∈ rngN 0 steps.length) →
    forN (n_law_b2 (nS, (n : Int), steps) marks (most : Int) c0 c1) rows (live, home) = some (live.filter (fun s => rows.all (lv1 n steps most s)), home && rows.all fun own => inB marks (fars n steps most own))
  | [], live, home, _, _ => by simp [forN, flt]
  | own :: rows, live, home, hr, hl => by
    obtain ⟨b, e1, e2, hf⟩ := fars_ok N hm h1 (hr own List.mem_cons_self)
    have hb : n_law_b2 (nS, (n : Int), steps) marks (most : Int) c0 c1 own (live, home) = some (live.filter (fun s => lv1 n steps most s own), if (!inB marks (fars n steps most own)) = true then false else home) := by
      simp only [n_law_b2, e_reach, e_can]
      rw [e1, bq, lvq, lcO_filter (tb := fun s => lv1 n steps most s own) live (fun s hs => by
        rw [lcO_filter (tb := fun x => okI steps x s) _ (fun x hx => by rw [law_can_ok N (hf x hx) (hl s hs), bq]), bq, pos_any]; rfl), bq, lvq]
      cases inB marks (fars n steps most own) <;> rfl
    rw [forN_cons, hb, bq, b2_fold hm h1 marks c0 c1 rows _ _ (fun x hx => hr x (List.mem_cons_of_mem _ hx)) (fun s hs => hl s (List.mem_filter.mp hs).1), List.filter_filter]
    congr 2
    · refine List.filter_congr fun s _ => ?_
      rw [List.all_cons, Bool.and_comm]
    · rw [List.all_cons]
      cases inB marks (fars n steps most own) <;> simp
theorem live_ok (hm : most ≤ 30) (h1 : 1 ≤ most) {marks : NMk} {r : List NMk × Bool} (hr : P05.n_reached (nS, (n : Int), steps) marks (most : Int) = some r) (hn : ∀ x ∈ r.1, x.length = n) :
    n_live_steps (nS, (n : Int), steps) marks (most : Int) = some (if r.2 = true then some ((rngN 0 steps.length).filter fun s => r.1.all (lv1 n steps most s)) else none) := by
  simp only [n_live_steps, e_reached]
  rw [hr, bq, lvq]
  cases h : r.2 with
  | false => simp
  | true =>
    simp only [Bool.not_true, Bool.false_eq_true, if_false, if_true]
    rw [lvq, rng0 (n := steps.length) (by have := N.few; omega), bq]
    have hgo : ∀ (ss : List Int) (acc : List Int), (∀ s ∈ ss, s ∈ rngN 0 steps.length) → acc.length + ss.length ≤ 1000 → forN (n_live_steps_b1 (nS, (n : Int), steps) (most : Int) r []) ss acc = some (acc ++ ss.filter fun s => r.1.all (lv1 n steps most s)) := by
      intro ss
      induction ss with
      | nil => intro acc _ _; simp [forN]
      | cons s ss ih =>
        intro acc hs hl
        have hb : n_live_steps_b1 (nS, (n : Int), steps) (most : Int) r [] s acc = some (if r.1.all (lv1 n steps most s) = true then acc ++ [s] else acc) := by
          simp only [n_live_steps_b1, e_reached, e_can2]
          rw [allO_tt (eb := lv1 n steps most s) r.1 (fun own ho => by
            obtain ⟨b, e1, e2, hf⟩ := fars_ok N hm h1 (hn own ho)
            rw [e2, bq, anyO_tt (eb := fun x => okI steps x s) _ (fun x hx => by rw [can_ok (hs s List.mem_cons_self), bq]), bq]; rfl), bq]
          cases r.1.all (lv1 n steps most s) with
          | false => simp only [Bool.false_eq_true, if_false, bq]
          | true => simp only [if_true]; rw [push_ok (by simp at hl; omega), bq, bq]
        rw [forN_cons, hb, bq, ih _ (fun s' h => hs s' (List.mem_cons_of_mem _ h)) (by split <;> simp at hl ⊢ <;> omega), List.filter_cons]
        split <;> simp
    have := hgo (rngN 0 steps.length) [] (fun s h => h) (by simp [rngN]; have := N.few; omega)
    rw [this, bq, List.nil_append]
theorem home_ok (hm : most ≤ 30) (h1 : 1 ≤ most) {marks : NMk} {r : List NMk × Bool} (hr : P05.n_reached (nS, (n : Int), steps) marks (most : Int) = some r) (hn : ∀ x ∈ r.1, x.length = n) :
    n_comes_home (nS, (n : Int), steps) marks (most : Int) = some (if r.2 = true then some (r.1.all fun own => inB marks (fars n steps most own)) else none) := by
  simp only [n_comes_home, e_reached]
  rw [hr, bq, lvq]
  cases h : r.2 with
  | false => simp only [Bool.false_eq_true, if_false, bq]
  | true =>
    simp only [if_true]
    rw [allO_tt (eb := fun own => inB marks (fars n steps most own)) r.1 (fun own ho => by
      obtain ⟨b, e1, e2, hf⟩ := fars_ok N hm h1 (hn own ho)
      rw [e2, bq]), bq, bq]
end
end P07


set_option Elab.async false
set_option linter.all false
set_option maxRecDepth 100000
set_option maxHeartbeats 1000000
namespace P07
open PySem PySem.Spec PyProof.Rows L2 Z Y
open P05 (WnI okI frI nS reach_wn fr_len)
theorem law_holds (box : Box) : n_law box = some true := by
  simp only [n_law]
  obtain ⟨n, steps, bx1, e1, N⟩ := safe_net_ok box
  have hn := N.hi
  obtain ⟨m, bx3, em, hm⟩ := marks_ok bx1 n (by omega) steps
  obtain ⟨d, d0, d1, ed⟩ := draw_some bx3 (m := 4) (by omega)
  rw [e1, bq, lvq]
  dsimp only
  rw [em, bq, lvq]
  dsimp only
  rw [ed, bq]
  dsimp only
  obtain ⟨most, hat, h1, h30⟩ : ∃ most : Nat, L2.atI [(30 : Int), (4 : Int)] (if (decide (d = (0 : Int))) = true then (1 : Int) else 0) = some (most : Int) ∧ 4 ≤ most ∧ most ≤ 30 := by
    cases decide (d = (0 : Int)) with
    | true => exact ⟨4, rfl, by omega, by omega⟩
    | false => exact ⟨30, rfl, by omega, by omega⟩
  rw [hat, bq, lvq, e_reach]
  obtain ⟨r, K, er1, er2, rc, hK, hrw⟩ := reach_wn N (most := most) h30 hm (by omega)
  rw [er1, bq, lvq]
  have hP : ∀ x : NMk, x.length = n → ∀ s ∈ rngN 0 steps.length, okI steps x s = true → (frI steps x s).length = n := fun x hx s hs _ => fr_len N hx hs
  have hI : ∀ k, WI most (fun x : NMk => x.length = n) m (WnI steps most m k) := wn_inv (by omega) hm hP
  have hlen := (hI K).len
  have hrn : ∀ x ∈ r.1, x.length = n := fun x hx => by
    rw [hrw] at hx
    obtain ⟨e, he, rfl⟩ := List.mem_map.mp hx
    exact (hI K).good _ he
  have hrl : r.1.length ≤ most := by rw [hrw, List.length_map]; exact hlen
  by_cases h12 : (12 : Int) < (r.1.length : Int)
  · rw [if_pos (decide_eq_true h12)]
    obtain ⟨r2, K2, f1, f2, fc, hK2, hrw2⟩ := reach_wn N (most := 2) (by omega) hm (by omega)
    have hI2 : ∀ k, WI 2 (fun x : NMk => x.length = n) m (WnI steps 2 m k) := wn_inv (by omega) hm hP
    have hr2n : ∀ x ∈ r2.1, x.length = n := fun x hx => by
      rw [hrw2] at hx
      obtain ⟨e, he, rfl⟩ := List.mem_map.mp hx
      exact (hI2 K2).good _ he
    have hr2l : r2.1.length ≤ 2 := by rw [hrw2, List.length_map]; exact (hI2 K2).len
    have hf : r2.2 = false := by
      cases h : r2.2 with
      | false => rfl
      | true =>
        obtain ⟨q1, q2⟩ := fc h
        have hI3 : ∀ k, WI most (fun x : NMk => x ∈ r2.1) m (WnI steps most m k) := wn_inv (by omega) q1 q2
        have : r.1.length ≤ r2.1.length := by
          rw [hrw]
          refine len_sub (hI K).nd fun a ha => ?_
          obtain ⟨e, he, rfl⟩ := List.mem_map.mp ha
          exact (hI3 K).good _ he
        omega
    rw [show (2 : Int) = ((2 : Nat) : Int) from rfl, live_ok N (by omega) (by omega) f2 hr2n, bq, hf, home_ok N (by omega) (by omega) f2 hr2n, hf]
    rfl
  · rw [if_neg (by simpa using h12), lvq, lvq, lvq]
    have hR : ∀ j, ∀ e ∈ WnI steps most m j, e.1 ∈ r.1 := fun j e he => by
      rw [hrw]
      refine List.mem_map.mpr ⟨e, ?_, rfl⟩
      rcases Nat.le_total j K with h | h
      · obtain ⟨d, rfl⟩ := Nat.exists_eq_add_of_le h
        exact (wn_pre j d).subset he
      · obtain ⟨d, rfl⟩ := Nat.exists_eq_add_of_le h
        have e1 : WnI steps most m (K + d) = WnI steps most m K := wn_stop hK d
        rw [← e1]; exact he
    obtain ⟨K', hK', ew⟩ := w_loop N (t11 := r) 0 h30 hm (by omega) hR 1000 0 (Nat.zero_le _) (by omega)
    have hKK : WnI steps most m K' = WnI steps most m K := w_same hK' hK
    rw [hKK] at ew
    have ew : whileN (fun (s24' : Ws NMk × List NMk × Int) => (some ((decide (s24'.2.2 < (List.length s24'.2.1 : Int)))))) (n_law_b4 (nS, (n : Int), steps) (most : Int) r 0) 1000 ([(m, [])], [m], 0) = some (WnI steps most m K, (WnI steps most m K).map (·.1), (K' : Int)) := ew
    obtain ⟨due, ed1, ed2⟩ := end_ok N h30 hm (by omega) er2 hK hrw
    have eb3 := ends_b3 N (W := WnI steps most m K) (c := (WnI steps most m K, (WnI steps most m K).map (·.1), (K' : Int))) (c0 := []) rfl (hI K).nd (hI K).good (WnI steps most m K) [] (fun e he => he) (by simp; omega)
    rw [List.nil_append] at eb3
    rw [← hrw] at eb3 ew
    rw [ew, bq, lvq, eb3, bq, lvq]
    dsimp only at ed2
    generalize (((WnI steps most m K).filter fun e => stk steps e.1).map fun e => ((e.2.length : Int), e.2)) = ends at ed2
    obtain ⟨d0, hd0, hd1, hd2⟩ : ∃ d0, (if r.2 = true then (lv (Sum.inl (("on" : String) : Str)) fun (due : ((Str) ⊕ (Str × (List Int)))) => some due) else (some (Sum.inl (("open" : String) : Str)))) = some d0 ∧
        (if (decide ((0 : Int) < (ends.length : Int))) = true then (bnd ((Er (Rc Ei (R1 (Et Ei)))).minL ends) fun a67' =>
        lv (Sum.inr ((("end" : String) : Str), a67'.2)) fun (due : ((Str) ⊕ (Str × (List Int)))) => some due) else (some d0)) = some due ∧ sameO (Ea (Ac (R1 Es) (A1 (Rc Es (R1 (Et Ei)))) rfl)) due due = some true := by
      rcases ed2 with ⟨q1, q2⟩ | ⟨w, hw, q1, q2, q3⟩
      · rw [q1, q2]
        cases r.2 with
        | true => exact ⟨_, rfl, rfl, same_self rfl⟩
        | false => exact ⟨_, rfl, rfl, same_self rfl⟩
      · have hs : sameO (Ea (Ac (R1 Es) (A1 (Rc Es (R1 (Et Ei)))) rfl)) due due = some true := by
          rw [q3]
          exact same_self (show szD ((Er (Rc Es (R1 (Et Ei))) rfl).enc ((("end" : String) : Str), w)) = true from sz_R (by decide) (by
            simp only [szR_c, szR_1, sz_S, Bool.true_and]
            exact sz_T _ (by omega) fun _ _ => rfl))
        have : decide ((0 : Int) < (ends.length : Int)) = true := decide_eq_true (by
            have := List.length_pos_iff.mpr q1; omega)
        cases r.2 with
        | true => exact ⟨_, rfl, by rw [if_pos this, q2, q3]; rfl, hs⟩
        | false => exact ⟨_, rfl, by rw [if_pos this, q2, q3]; rfl, hs⟩
    rw [hd0, bq, hd1, bq, ed1, bq, hd2, bq]
    simp only [Bool.not_true, Bool.false_eq_true, if_false]
    have el := live_ok N h30 (by omega) er2 hrn
    have eh := home_ok N h30 (by omega) er2 hrn
    cases hw : r.2 with
    | false =>
      rw [hw] at el eh
      simp only [Bool.not_false, if_true]
      rw [el, bq, eh]
      rfl
    | true =>
      rw [hw] at el eh
      simp only [Bool.not_true, Bool.false_eq_true, if_false]
      have hlr : lrgO ((steps.length : Nat) : Int) = some (rngN 0 steps.length) := by
        unfold lrgO
        rw [if_pos ⟨by omega, by have := N.few; omega⟩, Int.toNat_natCast]
      rw [hlr, bq, lvq, lvq, b2_fold N h30 (by omega) m _ _ r.1 _ _ hrn (fun s h => h), bq, el, if_pos rfl, bq]
      rw [same_self (E := Eo (Et Ei) rfl) (sz_O fun a ha => by
        cases ha
        exact sz_T _ (by
          have := List.length_filter_le (fun s => r.1.all (lv1 n steps most s)) (rngN 0 steps.length)
          have h2 : (rngN 0 steps.length).length = steps.length := by simp [rngN]
          have := N.few; omega) fun c _ => rfl), bq, eh, if_pos rfl, bq]
      rw [Bool.true_and, same_self (E := Eo Eb rfl) (sz_O fun a ha => by cases ha; rfl), bq]
      rfl
end P07


set_option Elab.async false
set_option linter.all false
set_option maxRecDepth 100000
set_option maxHeartbeats 20000000
set_option synthInstance.maxHeartbeats 400000
set_option synthInstance.maxSize 4000
open PySem PySem.W PySem.Calls PyProof.Rows
theorem PySem.Challenge.cw_tracehouse_k07_ends_and_life_of_nets_holds : PySem.Challenge.rw_tracehouse_k07_ends_and_life_of_nets.Holds := by
  w_on; o_law
  refine HandSHeadRun.head_any (r := OpenLaw.row PySem.Challenge.rw_tracehouse_k07_ends_and_life_of_nets) (q := view (OpenLaw.row PySem.Challenge.rw_tracehouse_k07_ends_and_life_of_nets).prog [21]) (H := P07.hk) (ob := P07.ob) (M := 1900) (loose := P07.names) (d := HandSHeadRun.topDef (OpenLaw.row PySem.Challenge.rw_tracehouse_k07_ends_and_life_of_nets).prog 21) (kwd := []) P07.ob_eq
    (by kernel_rfl) (fun s => by kernel_rfl) P07.run (by kernel_rfl) (by kernel_rfl) (by kernel_rfl) (by rfl) (by first | assumption | decide +kernel) (by decide +kernel) ⟨rfl, rfl, rfl, rfl, rfl, by decide +kernel⟩ ?hw ?hc
  case hw => w_witness2
  case hc =>
    refine LamX.walk_ofTsE (l := PySem.Challenge.rw_tracehouse_k07_ends_and_life_of_nets) (n := 63) (k := 9) (x := "script") (CX := fun _ => L2.CX0) rfl (by decide) (by kernel_rfl) ⟨rfl, by decide, by decide⟩ ?F (fun _ _ _ _ _ z => z)
    intro w mg fa h Y G hmg0
    obtain ⟨K, KX, c⟩ := Y
    have hmg : mg ("law" : PySem.Str) = some (.ref fa) := by
      have e : (HandSHeadRun.topDef (OpenLaw.row PySem.Challenge.rw_tracehouse_k07_ends_and_life_of_nets).prog 21).name = ("law" : PySem.Str) := by kernel_rfl
      rw [← e]
      exact hmg0
    exact ⟨K, KX, P07.facts KX G hmg c (fun ns c hc _ _ => P07.law_true P07.law_holds ns c hc)⟩


