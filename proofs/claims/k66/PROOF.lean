import PyProof.Rows.All
import KE.SortData
import KE.SortKeyHeap
import HandS.ForMost
import HandS.Flow
import HandS.Wide
import HandS.Conv
import HandS.TupAny
import HandS.TupMul
import HandS.IsInst
import HandS.Deep
import KE.KNestM
import KE.KeyNested
import KE.KDictKeyed
import HandS.HeadHook1
import HandS.TupLe
import KE.DataEq
import KE.DataCmp
import KE.DataMinMax
import KE.DataIsa
import HandS.GenList
import HandS.AnyAll
import PyProof.TupleOfGen
import PyProof.JoinWalk
import PyProof.SumAny
import HandS.SetKeys
import HandS.SetFor
import HandS.HeadHook2
import HandS.HeadHook3
import HandS.HeadHook4
import HandS.HeadWalk
import HandS.Head0
import HandS.Head1
import HandS.Head2
import HandS.HeadEnd
import KE.GoesNew
import KE.GoesMore
import HandS.TupSets
import KE.KLam
import HandS.SortKw
import PyProof.Rows.SumAny
import HandS.Nested
import KE.DataFind
import KE.KDictDisplayH
import HandS.TupLen
import KE.KDictSum
import KE.KDictWalk
import HandS.Iter
import HandS.Text
import PyProof.Rows.ReprOcc
import HandS.Replace
import PyProof.Rows.StrJoin2
import PyProof.ListStr
import PyProof.StrOps2
import PySem.Challenge.RW_tracehouse_k66_reads_see_writes
set_option Elab.async false
set_option linter.all false
set_option maxRecDepth 100000
/-! sorting tuples some of which are empty -/
namespace PySem.SeqAt
open PySem PyProof.Rows
section
variable {A : Around} {s : Shared}
theorem call_tup_lt {prog : Program} {w : World} {E : Value → Shared → Prop} {Q : Value → Shared → Prop} {l b : Addr} {items items2 : Array Value} {e r : Nat → Bool} (hl : s.heap.IsTuple l items) (hb : s.heap.IsTuple b items2)
    (he : ∀ j (h1 : j < items.size) (h2 : j < items2.size), EqAt A.in1 s items[j] items2[j] (e j)) (hr : ∀ j (h1 : j < items.size) (h2 : j < items2.size), e j = false → RcLt A.in1 s items[j] items2[j] (r j))
    (h : Q (.bool (firstLt e r (decide (items.size < items2.size)) (List.range (min items.size items2.size)))) s) : wpAny (model prog w) A (call (.builtin "tuple.__lt__") [.ref l, .ref b]) Q E s := by
  obtain ⟨⟨c1, dd, x1, sl⟩, ho, hc, n, hd⟩ := id hl
  obtain ⟨⟨c2, dd2, x2, sl2⟩, ho2, hc2, n2, hd2⟩ := id hb
  simp only at hc hd hc2 hd2
  subst hc hd hc2 hd2
  exact call_meets F.slot_tuple_lt ⟨_, ho, rfl⟩ F.entry_tuple_lt (F.args_tuple_lt_2 _ _) (tuple_ltAt l b items items2 n n2 dd dd2 sl sl2 e r) ⟨ho, ho2, he, hr, h⟩
end
end PySem.SeqAt
namespace PySem.W
open PySem PySem.Calls PyProof.Rows PySem.SeqAt
section
variable {prog : Program} {w : World} {A : Around} {E : Value → Shared → Prop} {s : Shared}
theorem oneLt_tup {xs ys : List PyData} {a b : Value} {as bs : List Addr} {Q : Bool → Shared → Prop} (ra : Reads s.heap a (.tuple xs) as) (rb : Reads s.heap b (.tuple ys) bs) (h : alike (.tuple xs) (.tuple ys) = true)
    (hu : A.units + min (PyData.tuple xs).depth (PyData.tuple ys).depth < cLine) (hq : Q (dataLt (.tuple xs) (.tuple ys)) s) : wpAny (model prog w) A (oneLt' true a b) Q E s := by
  have hal : alikeAll xs ys = true := by simpa [alike] using h
  cases ra with
  | @tuple l o vs n _ _ h1 h2 h3 h4 =>
    cases rb with
    | @tuple l' o' vs' n' _ _ k1 k2 k3 k4 =>
      have n1 : vs.size = xs.length := by simpa using ReadsAll.length _ _ _ h4
      have n2 : vs'.size = ys.length := by simpa using ReadsAll.length _ _ _ k4
      rw [dataLt_tuple, ← firstLt_toks xs ys hal, ← n1, ← n2] at hq
      rw [oneLt'_eq]
      simp only [if_true]
      refine wpAny_bind (wpAny_cRoomFor (room_here hu) ?_)
      refine wpAny_bind (wpAny_callSpecialIfBound?_slot (T := "tuple") ⟨_, h1, h2⟩ F.slot_tuple_lt (call_tup_lt (e := pairEq xs ys) (r := fun j => dataLt (xs.getD j .none) (ys.getD j .none)) ⟨_, h1, h2, _, h3⟩ ⟨_, k1, k2, _, k3⟩ (fun j j1 j2 => ?_) (fun j j1 j2 hj => ?_) ?_))
      · have := eqAt_alikeAll xs ys A.in1 s vs.toList vs'.toList _ _ h4 k4 hal (room_in hu) j (by simpa using j1) (by simpa using j2)
        simpa using this
      · have := rcLt_alikeAll xs ys A.in1 s vs.toList vs'.toList _ _ h4 k4 hal (room_in hu) j (by simpa using j1) (by simpa using j2) hj
        simpa using this
      · exact wpAny_truthy_bool hq
def neT : PyData → Bool
  | .tuple [] => false
  | _ => true
theorem firsts_mixed : ∀ (vs : List Value) (ds : List PyData) {Q : List (Option Value) → Shared → Prop}, EachIs (fun v d => ∃ as, Reads s.heap v d as) vs ds → (∀ d ∈ ds, ∃ xs, d = .tuple xs) → (∀ fs : List (Option Value), fs.map Option.isSome = ds.map neT → Q fs s) →
    wpAny (model prog w) A (vs.mapM firstOfTuple') Q E s
  | _, _, Q, .nil, _, h => by rw [List.mapM_nil]; exact wpAny_pure (h [] rfl)
  | v :: vs, d :: ds, Q, .cons ⟨as, r⟩ t, ht, h => by
    obtain ⟨xs, rfl⟩ := ht d List.mem_cons_self
    cases r with
    | @tuple a o ys n _ _ h1 h2 h3 h4 =>
      rw [List.mapM_cons]
      refine wpAny_bind ?_
      rw [kas_first_eq]
      refine wpAny_bind (Looks.here (show Looks (model prog w) s.heap (typeOf (.ref a)) o.cls from (Looks.ld h1).andThen .now) ?_)
      rw [h2, if_neg (by first | decide | simp)]
      refine wpAny_bind (listItems_at h1 h3 (wpAny_pure ?_))
      refine wpAny_bind (firsts_mixed vs ds (Q := fun bs s' => wpAny (model prog w) A (pure (ys[0]? :: bs)) Q E s') t (fun d hd => ht d (List.mem_cons_of_mem _ hd)) fun fs hfs => wpAny_pure (h _ ?_))
      rw [List.map_cons, List.map_cons, hfs]
      congr 1
      have n1 : ys.size = xs.length := by simpa using ReadsAll.length _ _ _ h4
      cases xs with
      | nil =>
        have : ys[0]? = none := Array.getElem?_eq_none (by rw [n1]; simp)
        rw [this]; rfl
      | cons x xs =>
        have hz : 0 < ys.size := by rw [n1]; simp
        rw [Array.getElem?_eq_getElem hz]; rfl
/-- tuples, one of them empty, can be sorted -/
theorem SortsAt.mixed {vs : List Value} {ds : List PyData} (e : EachIs (fun v d => ∃ as, Reads s.heap v d as) vs ds) (hal : AllAlike ds) (ht : ∀ d ∈ ds, ∃ xs, d = .tuple xs) (he : PyData.tuple [] ∈ ds) (hu : ∀ d, d ∈ ds → A.units + d.depth < cLine) : SortsAt prog w A s (dataKind s.heap ds) vs := by
  have room : ∀ {d d' : PyData}, d ∈ ds → A.units + min d.depth d'.depth < cLine := fun {d d'} hd => Nat.lt_of_le_of_lt (Nat.add_le_add_left (Nat.min_le_left _ _) _) (hu d hd)
  refine ⟨fun v hv => ?_, ?_⟩
  · obtain ⟨d, hd, as, r⟩ := e.left v hv
    exact ⟨_, dataKind_some hal hd r⟩
  cases ds with
  | nil => cases he
  | cons d0 ds0 =>
    cases e with
    | @cons v0 _ vs0 _ e0 et =>
    have e : EachIs (fun v d => ∃ as, Reads s.heap v d as) (v0 :: vs0) (d0 :: ds0) := .cons e0 et
    have hno : ∀ (fs : List (Option Value)), fs.map Option.isSome = (d0 :: ds0).map neT → ¬ (fs.toArray.all fun x => x.isSome) = true := fun fs hfs h => by
      rw [List.all_toArray] at h
      have h2 : (fs.map Option.isSome).all id = true := by rw [List.all_map]; exact h
      rw [hfs, List.all_map, List.all_eq_true] at h2
      have := h2 _ he
      simp [neT] at this
    have h0 : ∀ (fs : List (Option Value)), fs.map Option.isSome = (d0 :: ds0).map neT → (fs.toArray[0]?.bind id).isSome = neT d0 := fun fs hfs => by
      cases fs with
      | nil => simp at hfs
      | cons f fs =>
        simp only [List.map_cons, List.cons.injEq] at hfs
        rw [← hfs.1]; simp
    cases hn : neT d0 with
    | true =>
      refine ⟨general', fun E x y a b Q ha hb hq => ?_, fun h2 E Q hq => ?_⟩
      · obtain ⟨d, as, hd, ra, rfl⟩ := dataKind_inv ha
        obtain ⟨d', as', hd', rb, rfl⟩ := dataKind_inv hb
        have hd3 : d ≠ .none := fun z => by obtain ⟨xs, ex⟩ := ht d hd; rw [ex] at z; cases z
        show wpAny (model prog w) A (oneLt' false x y) Q E s
        exact oneLt_alike (fun z => nomatch z) ra rb (hal d hd d' hd') hd3 (room hd) hq
      · rw [kat_kind_eq, List.mapM_toArray, map_eq_pure_bind]
        refine wpAny_bind (wpAny_bind (firsts_mixed _ _ e ht fun fs hfs => wpAny_pure ?_))
        rw [if_neg (hno fs hfs), if_pos (by rw [h0 fs hfs, hn])]
        exact wpAny_pure hq
    | false =>
      refine ⟨oneType', fun E x y a b Q ha hb hq => ?_, fun h2 E Q hq => ?_⟩
      · obtain ⟨d, as, hd, ra, rfl⟩ := dataKind_inv ha
        obtain ⟨d', as', hd', rb, rfl⟩ := dataKind_inv hb
        obtain ⟨xs, rfl⟩ := ht d hd
        obtain ⟨ys, rfl⟩ := ht d' hd'
        show wpAny (model prog w) A (oneLt' true x y) Q E s
        exact oneLt_tup ra rb (hal _ hd _ hd') (room hd) hq
      · rw [kat_kind_eq, List.mapM_toArray, map_eq_pure_bind]
        refine wpAny_bind (wpAny_bind (firsts_mixed _ _ e ht fun fs hfs => wpAny_pure ?_))
        rw [if_neg (hno fs hfs), if_neg (by rw [h0 fs hfs, hn]; decide)]
        rw [oneTypeOnly'_eq, List.mapM_toArray, map_eq_pure_bind]
        refine wpAny_bind (wpAny_bind (wpAny_bind (kas_mapM (r := Value.type "tuple") _ (fun v hv Q' hq' => ?_) (wpAny_pure ?_))))
        · obtain ⟨d, hd, as, r⟩ := e.left v hv
          obtain ⟨xs, rfl⟩ := ht d hd
          exact (looks_reads (M := model prog w) r).here hq'
        · have hall : ((List.map (fun _ => Value.type "tuple") (v0 :: vs0)).toArray.all fun x => x == Value.type "tuple") = true := by
            simp only [List.all_toArray, List.all_map, List.all_eq_true]
            intro _ _
            exact beq_self_eq_true _
          have h01 : (List.map (fun _ => Value.type "tuple") (v0 :: vs0)).toArray[0]? = some (Value.type "tuple") := by simp
          rw [h01]
          simp only [hall, if_true]
          exact wpAny_pure (wpAny_pure hq)
end
/-- tuples of any length, or none is a tuple or None -/
def SortableM (ds : List PyData) : Prop := Sortable ds ∨ ((∀ d ∈ ds, ∃ xs, d = .tuple xs) ∧ PyData.tuple [] ∈ ds)
theorem SortsAt.any {prog : Program} {w : World} {A : Around} {s : Shared} {vs : List Value} {ds : List PyData} (e : EachIs (fun v d => ∃ as, Reads s.heap v d as) vs ds) (hal : AllAlike ds) (hk : SortableM ds) (hu : ∀ d, d ∈ ds → A.units + d.depth < cLine) : SortsAt prog w A s (dataKind s.heap ds) vs := by
  rcases hk with hk | ⟨h1, h2⟩
  · exact SortsAt.data e hal hk hu
  · exact SortsAt.mixed e hal h1 h2 hu
section
variable {prog : Program} {w : World} {A : Around} {E : Value → Shared → Prop} {s : Shared} {β : Type} {vs : List Value} {bs : List β} {enc : β → PyData} {R : Value → β → Prop}
end
end PySem.W


set_option Elab.async false
set_option linter.all false
set_option maxRecDepth 100000
/-! the data of the walk: values without a heap, and what they stand for -/
namespace Z
open PySem PySem.Spec PyProof.Rows L2

inductive D where
  | non | bl (b : Bool) | int (i : Int) | str (x : Str)
  | tup (xs : List D) | lst (xs : List D) | frz (xs : List D)
  | dic (ks vs : List D) | obj (c : Str) (ns : List Str) (xs : List D)
  deriving Inhabited

mutual
def D.same : D → D → Bool
  | .non, .non => true
  | .bl a, .bl b => a == b
  | .int a, .int b => a == b
  | .str a, .str b => a == b
  | .tup a, .tup b => D.sames a b
  | .lst a, .lst b => D.sames a b
  | .frz a, .frz b => D.sames a b
  | .dic a b, .dic c d => D.sames a c && D.sames b d
  | .obj a b c, .obj a' b' c' => a == a' && b == b' && D.sames c c'
  | _, _ => false
def D.sames : List D → List D → Bool
  | [], [] => true
  | x :: xs, y :: ys => D.same x y && D.sames xs ys
  | _, _ => false
end
mutual
theorem D.same_eq : ∀ (a b : D), D.same a b = true → a = b
  | .non, b, h => by cases b <;> simp_all [D.same]
  | .bl _, b, h => by cases b <;> simp_all [D.same]
  | .int _, b, h => by cases b <;> simp_all [D.same]
  | .str _, b, h => by cases b <;> simp_all [D.same]
  | .tup x, b, h => by
    cases b <;> simp only [D.same, Bool.false_eq_true] at h
    rw [D.sames_eq _ _ h]
  | .lst x, b, h => by
    cases b <;> simp only [D.same, Bool.false_eq_true] at h
    rw [D.sames_eq _ _ h]
  | .frz x, b, h => by
    cases b <;> simp only [D.same, Bool.false_eq_true] at h
    rw [D.sames_eq _ _ h]
  | .dic x y, b, h => by
    cases b <;> simp only [D.same, Bool.false_eq_true, Bool.and_eq_true] at h
    rw [D.sames_eq _ _ h.1, D.sames_eq _ _ h.2]
  | .obj x y z, b, h => by
    cases b <;> simp only [D.same, Bool.false_eq_true, Bool.and_eq_true, beq_iff_eq] at h
    rw [D.sames_eq _ _ h.2, h.1.1, h.1.2]
theorem D.sames_eq : ∀ (a b : List D), D.sames a b = true → a = b
  | [], b, h => by cases b <;> simp_all [D.sames]
  | x :: xs, b, h => by
    cases b <;> simp only [D.sames, Bool.false_eq_true, Bool.and_eq_true] at h
    rw [D.same_eq _ _ h.1, D.sames_eq _ _ h.2]
end
mutual
theorem D.same_self : ∀ (a : D), D.same a a = true
  | .non => rfl
  | .bl _ => by simp [D.same]
  | .int _ => by simp [D.same]
  | .str _ => by simp [D.same]
  | .tup x => by simp only [D.same]; exact D.sames_self x
  | .lst x => by simp only [D.same]; exact D.sames_self x
  | .frz x => by simp only [D.same]; exact D.sames_self x
  | .dic x y => by simp only [D.same, Bool.and_eq_true]; exact ⟨D.sames_self x, D.sames_self y⟩
  | .obj x y z => by simp only [D.same, Bool.and_eq_true, beq_self_eq_true, true_and]; exact D.sames_self z
theorem D.sames_self : ∀ (a : List D), D.sames a a = true
  | [] => rfl
  | x :: xs => by simp only [D.sames, Bool.and_eq_true]; exact ⟨D.same_self x, D.sames_self xs⟩
end
instance : DecidableEq D := fun a b =>
  if h : D.same a b = true then isTrue (D.same_eq a b h) else isFalse fun e => h (by rw [e]; exact D.same_self b)

mutual
/-- nothing in it can be changed -/
def D.imm : D → Bool
  | .tup xs => D.imms xs
  | .lst _ => false
  | .dic _ _ => false
  | .obj _ _ _ => false
  | _ => true
def D.imms : List D → Bool
  | [] => true
  | x :: xs => D.imm x && D.imms xs
end
theorem D.imms_iff : ∀ (xs : List D), D.imms xs = true ↔ ∀ x ∈ xs, D.imm x = true
  | [] => by simp [D.imms]
  | x :: xs => by simp [D.imms, D.imms_iff xs]
/-- the fragment, the world -/
structure Fw where
  K : PySem.W.Frag
  w : World
instance : Coe Fw PySem.W.Frag := ⟨Fw.K⟩
abbrev _root_.L2.Cx.F (X : Cx) : Fw := ⟨X.K, X.w⟩
/-- a list that never changes any more -/
def FzAt (K : PySem.W.Frag) (H : Hp) (a : Addr) (xs : List V) : Prop :=
  (∃ o, H a = some (.frz o (.lst xs))) ∨
    ∃ (o : Obj) (its : Array Value) (n : Nat), K.lookup a = some o ∧ o.cls = .type "list" ∧ o.dict = none ∧ o.data = .seq its n ∧ its.size ≤ sizeLine ∧ Vals xs its.toList
theorem FzAt.sq {K : PySem.W.Frag} {H : Hp} {a : Addr} {xs : List V} (h : FzAt K H a xs) : SqL K H a xs := by
  rcases h with ⟨o, h⟩ | h
  · exact .inl (.inr ⟨o, h⟩)
  · exact .inr h

/-- the dict at a has these entries -/
def DicP (a : Addr) (es : Array DictEntry) : Heap → Prop := fun h => ∃ o ep, h.get? a = some o ∧ o.ExactDict ∧ o.data = .dict es ep
def IsDic (φ : Heap → Prop) : Prop := ∃ a es, φ = DicP a es ∧ ∃ h, φ h
theorem notDic_hd {c P : Addr} : ¬ IsDic fun h => PySem.W.CodeHd h c P := by
  rintro ⟨a, es, e, h, x⟩
  have x' : DicP a es h := by rw [← e]; exact x
  obtain ⟨o, ep, ha, hx, hd⟩ := x'
  by_cases hac : @Eq Nat c a
  · have hac : c = a := hac
    subst hac
    obtain ⟨o2, vs, file, tf, flags, tg, inF, text, tt, e2, e3, _⟩ := x
    rw [ha] at e2
    cases e2
    rw [hx.1] at e3
    injection e3 with e3
    exact absurd e3 (by decide)
  · have g : ({ h with objs := h.objs.setIfInBounds a { cls := .none, data := .freed } } : Heap).get? a = none := by
      have hl := Heap.lt_size ha
      simp only [Heap.get?]
      rw [Array.getElem?_setIfInBounds_self_of_lt hl]
    have g2 : ({ h with objs := h.objs.setIfInBounds a { cls := .none, data := .freed } } : Heap).get? c = h.get? c := by
      simp only [Heap.get?]
      rw [Array.getElem?_setIfInBounds_ne (fun z => hac (by have z : @Eq Nat a c := z; exact z.symm))]
    obtain ⟨o2, vs, file, tf, flags, tg, inF, text, tt, e2, r⟩ := x
    have y : PySem.W.CodeHd ({ h with objs := h.objs.setIfInBounds a { cls := .none, data := .freed } } : Heap) c P := ⟨o2, vs, file, tf, flags, tg, inF, text, tt, g2.trans e2, r⟩
    have y' : DicP a es ({ h with objs := h.objs.setIfInBounds a { cls := .none, data := .freed } } : Heap) := by rw [← e]; exact y
    obtain ⟨_, _, e4, _⟩ := y'
    rw [g] at e4; cases e4
mutual
/-- a datum as a key -/
def dNK : D → NestedKey
  | .int i => .num i
  | .str x => .text x
  | .bl b => .num (if b = true then 1 else 0)
  | .tup xs => .tup (dNKs xs)
  | _ => .none
def dNKs : List D → List NestedKey
  | [] => []
  | x :: xs => dNK x :: dNKs xs
end
/-- the entries of a dict -/
def Ents (w : World) : List D → List V → List V → List DictEntry → Prop
  | [], [], [], [] => True
  | k :: ks, kv :: kvs, vv :: vvs, e :: es => e.hash = (dNK k).hash w ∧ RelV kv e.key ∧ RelV vv e.val ∧ Ents w ks kvs vvs es
  | _, _, _, _ => False
/-- a text as the model's data have it -/
def StrOk (x : Str) : Prop := x.length ≤ sizeLine ∧ PyData.strOk x = true
mutual
/-- v stands for the datum; the addresses that are its alone -/
def Rep (K : Fw) (H : Hp) : D → V → List Addr → Prop
  | .non, v, o => v = .non ∧ o = []
  | .bl b, v, o => v = .bl b ∧ o = []
  | .int i, v, o => v = .int i ∧ o = []
  | .str x, v, o => v = .str x ∧ StrOk x ∧ o = []
  | .tup xs, v, o => ∃ a vs, v = .ref a ∧ SqT K H a vs ∧ Reps K H xs vs o
  | .lst xs, v, o => ∃ a vs o', v = .ref a ∧ H a = some (.lst vs) ∧ Reps K H xs vs o' ∧ o = a :: o'
  | .frz xs, v, o => ∃ a vs, v = .ref a ∧ FzAt K H a vs ∧ Reps K H xs vs [] ∧ o = []
  | .dic ks vs, v, o => ∃ a kvs vvs es, v = .ref a ∧ H a = some (.ext (DicP a es)) ∧ IsDic (DicP a es) ∧ (a == sysModules) = false ∧ (ks.Nodup ∧ ks.length ≤ sizeLine) ∧ Reps K H ks kvs [] ∧ Reps K H vs vvs [] ∧ Ents K.w ks kvs vvs es.toList ∧ o = [a]
  | .obj c ns xs, v, o => ∃ a dx vs o', v = .ref a ∧ H a = some (.ins (He.ga K.K c) dx (ns.zip vs)) ∧ ns.length = xs.length ∧ Reps K H xs vs o' ∧ o = a :: o'
def Reps (K : Fw) (H : Hp) : List D → List V → List Addr → Prop
  | [], vs, o => vs = [] ∧ o = []
  | x :: xs, vs, o => ∃ v vr o1 o2, vs = v :: vr ∧ Rep K H x v o1 ∧ Reps K H xs vr o2 ∧ o = o1 ++ o2
end

/-- a code object's table: its codes are tracked, and so are their tables -/
inductive GoodT (H : Hp) : Addr → Prop
  | mk (P : Addr) (ps : Array Value) (cf pf : Pos → Addr) (e : H P = some (.tbl ps)) (t : TriplesOk ps.toList)
      (k : ∀ pos cv, codeAmong pos ps.toList = some cv → cv = .ref (cf pos) ∧ H (cf pos) = some (.ext fun h => PySem.W.CodeHd h (cf pos) (pf pos)))
      (g : ∀ pos cv, codeAmong pos ps.toList = some cv → GoodT H (pf pos)) : GoodT H P
theorem GoodT.mono {H H' : Hp} (k : ∀ a u, H a = some u → ((∃ ps, u = .tbl ps) ∨ ∃ φ, u = .ext φ ∧ ¬ IsDic φ) → H' a = some u) {P : Addr} (g : GoodT H P) : GoodT H' P := by
  induction g with
  | mk P ps cf pf e t kk _ ih => exact .mk P ps cf pf (k _ _ e (.inl ⟨_, rfl⟩)) t (fun pos cv h => ⟨(kk pos cv h).1, k _ _ (kk pos cv h).2 (.inr ⟨_, rfl, notDic_hd⟩)⟩) ih
/-- the fragment; the code object that runs -/
structure Kx where
  K : Fw
  cv : Value
abbrev kx (X : Cx) : Kx := ⟨X.F, X.env.code⟩
/-- the code object cv is one whose table is good -/
def CodeNow (K : PySem.W.Frag) (cv : Value) (H : Hp) : Prop := ∀ c, cv = .ref c → ∃ P, (PySem.W.codeHdIn K c P = true ∨ H c = some (.ext fun h => PySem.W.CodeHd h c P)) ∧ GoodT H P
/-- the tables of all code objects of the fragment, and of the one that runs -/
def Tabs (κ : Kx) (H : Hp) : Prop := (∀ c P, PySem.W.codeHdIn κ.K c P = true → GoodT H P) ∧ CodeNow κ.K κ.cv H
def Nt (u : HO) : Prop := ∀ ps, u ≠ .tbl ps
/-- what is shared never changes -/
def Sh : HO → Prop
  | .tup _ => True
  | .frz _ _ => True
  | .ext φ => ¬ IsDic φ
  | _ => False
/-- what one may own -/
def Ow (u : HO) : Prop := ¬ Sh u ∧ Nt u
theorem ow_lst {vs : List V} : Ow (.lst vs) := ⟨fun z => z, fun _ z => nomatch z⟩
theorem ow_ins {C dx : Addr} {fs : List (Str × V)} : Ow (.ins C dx fs) := ⟨fun z => z, fun _ z => nomatch z⟩
theorem ow_dic {φ : Heap → Prop} (h : IsDic φ) : Ow (.ext φ) := ⟨fun z => z h, fun _ z => nomatch z⟩
/-- from H to H' what stands at o and what is shared is kept -/
structure Fr (H H' : Hp) (o : List Addr) : Prop where
  left : ∀ a ∈ o, H' a = H a
  right : ∀ a u, H a = some u → Sh u → H' a = some u
  tab : ∀ P, GoodT H P → GoodT H' P
theorem Fr.sub {H H' : Hp} {o o' : List Addr} (h : Fr H H' o) (s : ∀ a ∈ o', a ∈ o) : Fr H H' o' := ⟨fun a ha => h.left a (s a ha), h.right, h.tab⟩
theorem Fr.rfl {H : Hp} {o : List Addr} : Fr H H o := ⟨fun _ _ => Eq.refl _, fun _ _ e _ => e, fun _ g => g⟩
/-- as much of it as a value needs -/
structure Fr0 (H H' : Hp) (o : List Addr) : Prop where
  left : ∀ a ∈ o, H' a = H a
  right : ∀ a u, H a = some u → Sh u → H' a = some u
theorem Fr0.sub {H H' : Hp} {o o' : List Addr} (h : Fr0 H H' o) (s : ∀ a ∈ o', a ∈ o) : Fr0 H H' o' := ⟨fun a ha => h.left a (s a ha), h.right⟩
theorem Fr.f0 {H H' : Hp} {o : List Addr} (h : Fr H H' o) : Fr0 H H' o := ⟨h.left, h.right⟩
instance {H H' : Hp} {o : List Addr} : Coe (Fr H H' o) (Fr0 H H' o) := ⟨Fr.f0⟩
theorem Sh.nt {u : HO} (h : Sh u) : Nt u := fun ps e => by rw [e] at h; exact h
section
variable {K : Fw} {κ : Kx} {H H' : Hp}
theorem Fr0.sqt {o : List Addr} {a : Addr} {vs : List V} (h : Fr0 H H' o) (q : SqT K H a vs) : SqT K H' a vs := by
  rcases q with (q | ⟨ob, q⟩) | q
  · exact .inl (.inl (h.right _ _ q trivial))
  · exact .inl (.inr ⟨ob, h.right _ _ q trivial⟩)
  · exact .inr q
theorem Fr0.fz {o : List Addr} {a : Addr} {vs : List V} (h : Fr0 H H' o) (q : FzAt K H a vs) : FzAt K H' a vs := by
  rcases q with ⟨ob, q⟩ | q
  · exact .inl ⟨ob, h.right _ _ q trivial⟩
  · exact .inr q
mutual
theorem Rep.fr : ∀ {d : D} {v : V} {o : List Addr}, Rep K H d v o → Fr0 H H' o → Rep K H' d v o
  | .non, _, _, h, f => h
  | .bl _, _, _, h, f => h
  | .int _, _, _, h, f => h
  | .str _, _, _, h, f => h
  | .tup xs, v, o, h, f => by
    obtain ⟨a, vs, e, q, r⟩ := h
    exact ⟨a, vs, e, f.sqt q, Reps.fr r f⟩
  | .lst xs, v, o, h, f => by
    obtain ⟨a, vs, o', e, q, r, rfl⟩ := h
    exact ⟨a, vs, o', e, (f.left a List.mem_cons_self).trans q, Reps.fr r (f.sub fun b hb => List.mem_cons_of_mem _ hb), rfl⟩
  | .frz xs, v, o, h, f => by
    obtain ⟨a, vs, e, q, r, rfl⟩ := h
    exact ⟨a, vs, e, f.fz q, Reps.fr r f, rfl⟩
  | .dic ks vs, v, o, h, f => by
    obtain ⟨a, kvs, vvs, es, e, q, hd, hs, hn, rk, rv, en, rfl⟩ := h
    exact ⟨a, kvs, vvs, es, e, (f.left a List.mem_cons_self).trans q, hd, hs, hn, Reps.fr rk (f.sub fun b hb => nomatch hb), Reps.fr rv (f.sub fun b hb => nomatch hb), en, rfl⟩
  | .obj c ns xs, v, o, h, f => by
    obtain ⟨a, dx, vs, o', e, q, hl, r, rfl⟩ := h
    exact ⟨a, dx, vs, o', e, (f.left a List.mem_cons_self).trans q, hl, Reps.fr r (f.sub fun b hb => List.mem_cons_of_mem _ hb), rfl⟩
theorem Reps.fr : ∀ {xs : List D} {vs : List V} {o : List Addr}, Reps K H xs vs o → Fr0 H H' o → Reps K H' xs vs o
  | [], _, _, h, f => h
  | x :: xs, _, _, h, f => by
    obtain ⟨v, vr, o1, o2, e, h1, h2, rfl⟩ := h
    exact ⟨v, vr, o1, o2, e, Rep.fr h1 (f.sub fun b hb => List.mem_append_left _ hb), Reps.fr h2 (f.sub fun b hb => List.mem_append_right _ hb), rfl⟩
end
mutual
theorem Rep.own : ∀ {d : D} {v : V} {o : List Addr}, Rep K H d v o → ∀ a ∈ o, ∃ u, H a = some u ∧ Ow u
  | .non, _, _, h, a, ha => by rw [h.2] at ha; cases ha
  | .bl _, _, _, h, a, ha => by rw [h.2] at ha; cases ha
  | .int _, _, _, h, a, ha => by rw [h.2] at ha; cases ha
  | .str _, _, _, h, a, ha => by rw [h.2.2] at ha; cases ha
  | .tup xs, v, o, h, b, hb => by
    obtain ⟨a, vs, e, q, r⟩ := h
    exact Reps.own r b hb
  | .lst xs, v, o, h, b, hb => by
    obtain ⟨a, vs, o', e, q, r, rfl⟩ := h
    rcases List.mem_cons.mp hb with rfl | hb
    · exact ⟨_, q, ow_lst⟩
    · exact Reps.own r b hb
  | .frz xs, v, o, h, b, hb => by
    obtain ⟨a, vs, e, q, r, rfl⟩ := h
    cases hb
  | .dic ks vs, v, o, h, b, hb => by
    obtain ⟨a, kvs, vvs, es, e, q, hd, hs, hn, rk, rv, en, rfl⟩ := h
    cases List.mem_singleton.mp hb
    exact ⟨_, q, ow_dic hd⟩
  | .obj c ns xs, v, o, h, b, hb => by
    obtain ⟨a, dx, vs, o', rfl, q, hl, r, rfl⟩ := h
    rcases List.mem_cons.mp hb with rfl | hb
    · exact ⟨_, q, ow_ins⟩
    · exact Reps.own r b hb
theorem Reps.own : ∀ {xs : List D} {vs : List V} {o : List Addr}, Reps K H xs vs o → ∀ a ∈ o, ∃ u, H a = some u ∧ Ow u
  | [], _, _, h, a, ha => by rw [h.2] at ha; cases ha
  | x :: xs, _, _, h, a, ha => by
    obtain ⟨v, vr, o1, o2, e, h1, h2, rfl⟩ := h
    rcases List.mem_append.mp ha with ha | ha
    · exact Rep.own h1 a ha
    · exact Reps.own h2 a ha
end
mutual
theorem Rep.imm : ∀ {d : D} {v : V} {o : List Addr}, Rep K H d v o → d.imm = true → o = []
  | .non, _, _, h, _ => h.2
  | .bl _, _, _, h, _ => h.2
  | .int _, _, _, h, _ => h.2
  | .str _, _, _, h, _ => h.2.2
  | .tup xs, v, o, h, i => by
    obtain ⟨a, vs, e, q, r⟩ := h
    exact Reps.imm r i
  | .lst xs, v, o, h, i => by simp [D.imm] at i
  | .frz xs, v, o, h, i => by
    obtain ⟨a, vs, e, q, r, rfl⟩ := h
    rfl
  | .dic _ _, _, _, h, i => by simp [D.imm] at i
  | .obj _ _ _, _, _, h, i => by simp [D.imm] at i
theorem Reps.imm : ∀ {xs : List D} {vs : List V} {o : List Addr}, Reps K H xs vs o → D.imms xs = true → o = []
  | [], _, _, h, _ => h.2
  | x :: xs, _, _, h, i => by
    obtain ⟨v, vr, o1, o2, e, h1, h2, rfl⟩ := h
    simp only [D.imms, Bool.and_eq_true] at i
    rw [Rep.imm h1 i.1, Reps.imm h2 i.2]
    rfl
end
theorem Reps.length : ∀ {xs : List D} {vs : List V} {o : List Addr}, Reps K H xs vs o → vs.length = xs.length
  | [], _, _, h => by rw [h.1]; rfl
  | x :: xs, _, _, h => by
    obtain ⟨v, vr, o1, o2, rfl, h1, h2, rfl⟩ := h
    simp [Reps.length h2]
theorem Reps.append : ∀ {xs ys : List D} {vs ws : List V} {o o' : List Addr}, Reps K H xs vs o → Reps K H ys ws o' → Reps K H (xs ++ ys) (vs ++ ws) (o ++ o')
  | [], _, _, _, _, _, h, h' => by rw [h.1, h.2]; exact h'
  | x :: xs, _, _, _, _, _, h, h' => by
    obtain ⟨v, vr, o1, o2, rfl, h1, h2, rfl⟩ := h
    exact ⟨v, vr ++ _, o1, o2 ++ _, rfl, h1, Reps.append h2 h', by rw [List.append_assoc]⟩
theorem Reps.one {d : D} {v : V} {o : List Addr} (h : Rep K H d v o) : Reps K H [d] [v] o := ⟨v, [], o, [], rfl, h, ⟨rfl, rfl⟩, by simp⟩
/-- the item at a place, and another in its stead -/
theorem Reps.at : ∀ {xs : List D} {vs : List V} {o : List Addr} {i : Nat} {d : D}, Reps K H xs vs o → xs[i]? = some d →
    ∃ v oa o1 ob, vs[i]? = some v ∧ Rep K H d v o1 ∧ o = oa ++ o1 ++ ob ∧
      ∀ H' d' v' o1', Rep K H' d' v' o1' → Fr0 H H' (oa ++ ob) → Reps K H' (xs.set i d') (vs.set i v') (oa ++ o1' ++ ob)
  | [], _, _, _, _, h, e => by simp at e
  | x :: xs, _, _, 0, d, h, e => by
    obtain ⟨v, vr, o1, o2, rfl, h1, h2, rfl⟩ := h
    cases (Option.some.inj e : x = d)
    refine ⟨v, [], o1, o2, rfl, h1, by simp, fun H' d' v' o1' h' f => ?_⟩
    exact ⟨v', vr, o1', o2, rfl, h', h2.fr (f.sub (by simp)), by simp⟩
  | x :: xs, _, _, i + 1, d, h, e => by
    obtain ⟨v, vr, o1, o2, rfl, h1, h2, rfl⟩ := h
    obtain ⟨w, oa, oi, ob, e1, r, rfl, k⟩ := Reps.at (i := i) h2 (by simpa using e)
    refine ⟨w, o1 ++ oa, oi, ob, by simpa using e1, r, by simp, fun H' d' v' o1' h' f => ?_⟩
    refine ⟨v, vr.set i v', o1, oa ++ o1' ++ ob, rfl, h1.fr (f.sub (by simp +contextual)), k H' d' v' o1' h' (f.sub ?_), by simp⟩
    intro a ha
    rcases List.mem_append.mp ha with ha | ha <;> simp [ha]
theorem Reps.get {xs : List D} {vs : List V} {o : List Addr} {i : Nat} {d : D} (h : Reps K H xs vs o) (e : xs[i]? = some d) : ∃ v o1, vs[i]? = some v ∧ Rep K H d v o1 ∧ ∀ a ∈ o1, a ∈ o := by
  obtain ⟨v, oa, o1, ob, e1, r, rfl, _⟩ := h.at e
  exact ⟨v, o1, e1, r, fun a ha => by simp [ha]⟩
theorem Reps.take : ∀ {xs : List D} {vs : List V} (n : Nat), Reps K H xs vs [] → Reps K H (xs.take n) (vs.take n) []
  | xs, _, 0, h => ⟨rfl, rfl⟩
  | [], _, n + 1, h => by rw [h.1]; exact ⟨rfl, rfl⟩
  | x :: xs, _, n + 1, h => by
    obtain ⟨v, vr, o1, o2, rfl, h1, h2, e⟩ := h
    obtain ⟨rfl, rfl⟩ := List.append_eq_nil_iff.mp e.symm
    exact ⟨v, _, [], [], rfl, h1, Reps.take n h2, rfl⟩
theorem Reps.drop : ∀ {xs : List D} {vs : List V} (n : Nat), Reps K H xs vs [] → Reps K H (xs.drop n) (vs.drop n) []
  | xs, _, 0, h => h
  | [], _, n + 1, h => by rw [h.1]; exact ⟨rfl, rfl⟩
  | x :: xs, _, n + 1, h => by
    obtain ⟨v, vr, o1, o2, rfl, h1, h2, e⟩ := h
    obtain ⟨rfl, rfl⟩ := List.append_eq_nil_iff.mp e.symm
    exact Reps.drop n h2
end

/-! ### steps of the heap -/
/-- from H to H': what is not at W is kept; what is tracked stays tracked -/
structure Step (H H' : Hp) (W : List Addr) : Prop where
  keep : ∀ a u, H a = some u → a ∉ W → Nt u → H' a = some u
  dom : ∀ a, H' a = none → H a = none
  tab : ∀ P, GoodT H P → GoodT H' P
theorem Step.refl (H : Hp) (W : List Addr) : Step H H W := ⟨fun _ _ h _ _ => h, fun _ h => h, fun _ g => g⟩
/-- what is newly owned: from o or fresh -/
def Own (H : Hp) (o o' : List Addr) : Prop := ∀ a, o'.count a ≤ o.count a ∨ (H a = none ∧ o'.count a ≤ 1)
def Nd (o : List Addr) : Prop := ∀ a, o.count a ≤ 1
theorem Own.refl (H : Hp) (o : List Addr) : Own H o o := fun _ => .inl (Nat.le_refl _)
theorem Step.trans {H H1 H2 : Hp} {o o1 : List Addr} (s : Step H H1 o) (w : Own H o o1) (t : Step H1 H2 o1) : Step H H2 o where
  tab P g := t.tab P (s.tab P g)
  keep a u e h hn := by
    refine t.keep a u (s.keep a u e h hn) (fun hm => ?_) hn
    rcases w a with w | ⟨w, _⟩
    · have h1 : 0 < o1.count a := List.count_pos_iff.mpr hm
      have h2 : o.count a = 0 := List.count_eq_zero.mpr h
      omega
    · rw [e] at w; cases w
  dom a h := s.dom a (t.dom a h)
theorem Own.trans {H H1 : Hp} {o o1 o2 : List Addr} {W : List Addr} (w1 : Own H o o1) (s : Step H H1 W) (w2 : Own H1 o1 o2) : Own H o o2 := fun a => by
  rcases w2 a with w | ⟨w, q⟩
  · rcases w1 a with z | ⟨z, q⟩
    · exact .inl (Nat.le_trans w z)
    · exact .inr ⟨z, Nat.le_trans w q⟩
  · exact .inr ⟨s.dom a w, q⟩
theorem Own.sub {H : Hp} {o o1 o2 : List Addr} (w : Own H o o1) (h : ∀ a, o2.count a ≤ o1.count a) : Own H o o2 := fun a => by
  rcases w a with z | ⟨z, q⟩
  · exact .inl (Nat.le_trans (h a) z)
  · exact .inr ⟨z, Nat.le_trans (h a) q⟩
theorem Own.nd {H : Hp} {o o' : List Addr} (w : Own H o o') (n : Nd o) : Nd o' := fun a => by
  rcases w a with z | ⟨_, q⟩
  · exact Nat.le_trans z (n a)
  · exact q
/-- all that was tracked is as it was -/
theorem Step.of_same {H H' : Hp} (W : List Addr) (h : ∀ a u, H a = some u → H' a = some u) : Step H H' W :=
  ⟨fun a u e _ _ => h a u e, fun a e => by
    cases q : H a with
    | none => rfl
    | some u => (rw [h a u q] at e; cases e), fun P g => GoodT.mono (fun a u e _ => h a u e) g⟩
theorem Step.new {H : Hp} {p : Addr} {u : HO} {W : List Addr} (h : H p = none) : Step H (upd H p u) W := Step.of_same W fun a v e => by
  rw [upd_ne (ne_of_none e h)]; exact e
theorem Step.writeO {H : Hp} {p : Addr} {u u0 : HO} {W : List Addr} (h : H p = some u0) (ow : Ow u0) (hp : p ∈ W) : Step H (upd H p u) W where
  tab P g := g.mono fun a w e hw => by
    have : a ≠ p := fun z => by
      rw [z, h] at e; cases e
      rcases hw with ⟨ps, hw⟩ | ⟨φ, hw, hn⟩
      · exact ow.2 ps hw
      · rw [hw] at ow; exact ow.1 hn
    rw [upd_ne this]; exact e
  keep a w e hn _ := by rw [upd_ne (show a ≠ p from fun z => hn (z ▸ hp))]; exact e
  dom a e := by
    by_cases z : a = p
    · subst z; rw [upd_same] at e; cases e
    · rw [upd_ne z] at e; exact e
theorem Step.write {H : Hp} {p : Addr} {u : HO} {vs : List V} {W : List Addr} (h : H p = some (.lst vs)) (hp : p ∈ W) : Step H (upd H p u) W := Step.writeO h ow_lst hp
/-- what is not at W is framed -/
theorem Step.fr {H H' : Hp} {W o : List Addr} (s : Step H H' W) (hW : ∀ a ∈ W, ∃ u, H a = some u ∧ ¬ Sh u) (ho : ∀ a ∈ o, ∃ u, H a = some u ∧ Ow u) (hd : ∀ a ∈ o, a ∉ W) : Fr H H' o where
  tab := s.tab
  left a ha := by
    obtain ⟨u, e, hu⟩ := ho a ha
    rw [e]
    exact s.keep a _ e (hd a ha) hu.2
  right a u e hs := s.keep a u e (fun hm => by
    obtain ⟨v, e2, hn⟩ := hW a hm
    rw [e] at e2; cases e2
    exact hn hs) hs.nt
theorem nd_split {o o' : List Addr} (n : Nd (o ++ o')) : ∀ a ∈ o, a ∉ o' := fun a h1 h2 => by
  have h := n a
  rw [List.count_append] at h
  have h3 : 0 < o.count a := List.count_pos_iff.mpr h1
  have h4 : 0 < o'.count a := List.count_pos_iff.mpr h2
  omega
/-- owned by the frame that steps, or by something beside it -/
theorem Rep.step {K : Fw} {H H' : Hp} {d : D} {v : V} {ov o : List Addr} (r : Rep K H d v ov) (s : Step H H' o) (ho : ∀ a ∈ o, ∃ u, H a = some u ∧ ¬ Sh u) (n : ∀ a ∈ ov, a ∉ o) : Rep K H' d v ov :=
  r.fr (s.fr ho r.own n)
theorem Reps.step {K : Fw} {H H' : Hp} {d : List D} {v : List V} {ov o : List Addr} (r : Reps K H d v ov) (s : Step H H' o) (ho : ∀ a ∈ o, ∃ u, H a = some u ∧ ¬ Sh u) (n : ∀ a ∈ ov, a ∉ o) : Reps K H' d v ov :=
  r.fr (s.fr ho r.own n)

theorem Tabs.fr {κ : Kx} {H H' : Hp} {o : List Addr} (h : Tabs κ H) (f : Fr H H' o) : Tabs κ H' := ⟨fun c P e => f.tab P (h.1 c P e), fun c e => by
  obtain ⟨P, z, g⟩ := h.2 c e
  exact ⟨P, z.imp id fun e => f.right _ _ e notDic_hd, f.tab P g⟩⟩
theorem Tabs.step {κ : Kx} {H H' : Hp} {W : List Addr} (h : Tabs κ H) (s : Step H H' W) (hW : ∀ a ∈ W, ∃ u, H a = some u ∧ ¬ Sh u) : Tabs κ H' := ⟨fun c P e => s.tab P (h.1 c P e), fun c e => by
  obtain ⟨P, z, g⟩ := h.2 c e
  refine ⟨P, z.imp id fun e => s.keep _ _ e (fun hm => ?_) (fun _ z => nomatch z), s.tab P g⟩
  obtain ⟨u, e2, n⟩ := hW _ hm
  rw [e] at e2; cases e2; exact n notDic_hd⟩
theorem Tabs.bare {κ : Kx} {H : Hp} (h : Tabs κ H) : Tabs ⟨κ.K, .none⟩ H := ⟨h.1, fun c e => nomatch e⟩
/-! ### the names of a def -/
abbrev DE := List (Option D)
def Envs (κ : Kx) (H : Hp) : List (Option V) → DE → List Addr → Prop
  | [], [], o => o = [] ∧ Tabs κ H
  | _ :: σ, none :: δ, o => Envs κ H σ δ o
  | some v :: σ, some d :: δ, o => ∃ o1 o2, Rep κ.K H d v o1 ∧ Envs κ H σ δ o2 ∧ o = o1 ++ o2
  | _, _, _ => False
section
variable {K : Fw} {κ : Kx} {H H' : Hp}
theorem Envs.length : ∀ {σ : List (Option V)} {δ : DE} {o : List Addr}, Envs κ H σ δ o → σ.length = δ.length
  | [], [], _, _ => rfl
  | none :: σ, none :: δ, _, h => congrArg (· + 1) (Envs.length (σ := σ) (δ := δ) h)
  | some _ :: σ, none :: δ, _, h => congrArg (· + 1) (Envs.length (σ := σ) (δ := δ) h)
  | some v :: σ, some d :: δ, _, h => by
    obtain ⟨o1, o2, _, h2, _⟩ := h
    exact congrArg (· + 1) (Envs.length h2)
  | none :: σ, some d :: δ, _, h => h.elim
  | [], _ :: _, _, h => by simp [Envs] at h
  | _ :: _, [], _, h => by simp [Envs] at h
theorem Envs.own : ∀ {σ : List (Option V)} {δ : DE} {o : List Addr}, Envs κ H σ δ o → ∀ a ∈ o, ∃ u, H a = some u ∧ Ow u
  | [], [], o, h, a, ha => by rw [h.1] at ha; cases ha
  | none :: σ, none :: δ, _, h, a, ha => Envs.own (σ := σ) (δ := δ) h a ha
  | some _ :: σ, none :: δ, _, h, a, ha => Envs.own (σ := σ) (δ := δ) h a ha
  | some v :: σ, some d :: δ, _, h, a, ha => by
    obtain ⟨o1, o2, h1, h2, rfl⟩ := h
    rcases List.mem_append.mp ha with ha | ha
    · exact h1.own a ha
    · exact Envs.own h2 a ha
  | none :: σ, some d :: δ, _, h, _, _ => h.elim
  | [], _ :: _, _, h, _, _ => by simp [Envs] at h
  | _ :: _, [], _, h, _, _ => by simp [Envs] at h
theorem Envs.ok {σ : List (Option V)} {δ : DE} {o : List Addr} (h : Envs κ H σ δ o) : ∀ a ∈ o, ∃ u, H a = some u ∧ ¬ Sh u := fun a ha => by
  obtain ⟨u, e, hu⟩ := h.own a ha
  exact ⟨_, e, hu.1⟩
theorem Envs.fr : ∀ {σ : List (Option V)} {δ : DE} {o : List Addr}, Envs κ H σ δ o → Fr H H' o → Envs κ H' σ δ o
  | [], [], _, h, f => ⟨h.1, h.2.fr f⟩
  | none :: σ, none :: δ, _, h, f => Envs.fr (σ := σ) (δ := δ) h f
  | some _ :: σ, none :: δ, _, h, f => Envs.fr (σ := σ) (δ := δ) h f
  | some v :: σ, some d :: δ, _, h, f => by
    obtain ⟨o1, o2, h1, h2, rfl⟩ := h
    exact ⟨o1, o2, h1.fr (f.f0.sub fun a ha => List.mem_append_left _ ha), Envs.fr h2 (f.sub fun a ha => List.mem_append_right _ ha), rfl⟩
  | none :: σ, some d :: δ, _, h, _ => h.elim
  | [], _ :: _, _, h, _ => by simp [Envs] at h
  | _ :: _, [], _, h, _ => by simp [Envs] at h
theorem Envs.tabs : ∀ {σ : List (Option V)} {δ : DE} {o : List Addr}, Envs κ H σ δ o → Tabs κ H
  | [], [], _, h => h.2
  | none :: σ, none :: δ, _, h => Envs.tabs (σ := σ) (δ := δ) h
  | some _ :: σ, none :: δ, _, h => Envs.tabs (σ := σ) (δ := δ) h
  | some v :: σ, some d :: δ, _, h => by
    obtain ⟨o1, o2, _, h2, _⟩ := h
    exact Envs.tabs h2
  | none :: σ, some d :: δ, _, h => h.elim
  | [], _ :: _, _, h => by simp [Envs] at h
  | _ :: _, [], _, h => by simp [Envs] at h
theorem Envs.bare : ∀ {σ : List (Option V)} {δ : DE} {o : List Addr}, Envs κ H σ δ o → Envs ⟨κ.K, .none⟩ H σ δ o
  | [], [], _, h => ⟨h.1, h.2.bare⟩
  | none :: σ, none :: δ, _, h => Envs.bare (σ := σ) (δ := δ) h
  | some _ :: σ, none :: δ, _, h => Envs.bare (σ := σ) (δ := δ) h
  | some v :: σ, some d :: δ, _, h => by
    obtain ⟨o1, o2, h1, h2, e⟩ := h
    exact ⟨o1, o2, h1, Envs.bare h2, e⟩
  | none :: σ, some d :: δ, _, h => h.elim
  | [], _ :: _, _, h => by simp [Envs] at h
  | _ :: _, [], _, h => by simp [Envs] at h
/-- all that was tracked is kept -/
theorem Envs.same {σ : List (Option V)} {δ : DE} {o : List Addr} (h : Envs κ H σ δ o) (k : ∀ a u, H a = some u → H' a = some u) : Envs κ H' σ δ o :=
  h.fr ⟨fun a ha => by obtain ⟨u, e, _⟩ := h.own a ha; rw [e]; exact k _ _ e, fun a u e _ => k a u e, fun P g => g.mono fun a u e _ => k a u e⟩
/-- the datum at a slot; another in its stead (the value there stays) -/
theorem Envs.at : ∀ {σ : List (Option V)} {δ : DE} {o : List Addr} {i : Nat} {d : D}, Envs κ H σ δ o → δ[i]? = some (some d) →
    ∃ v oa o1 ob, σ[i]? = some (some v) ∧ Rep κ.K H d v o1 ∧ o = oa ++ o1 ++ ob ∧
      (∀ H' d' o1', Rep κ.K H' d' v o1' → Fr H H' (oa ++ ob) → Envs κ H' σ (δ.set i (some d')) (oa ++ o1' ++ ob)) ∧
      (∀ H', Fr H H' (oa ++ ob) → Envs κ H' σ (δ.set i none) (oa ++ ob))
  | [], [], _, _, _, h, e => by simp at e
  | none :: σ, none :: δ, _, 0, _, h, e => by simp at e
  | some _ :: σ, none :: δ, _, 0, _, h, e => by simp at e
  | none :: σ, none :: δ, o, i + 1, d, h, e => by
    obtain ⟨v, oa, o1, ob, e1, r, rfl, k, k'⟩ := Envs.at (σ := σ) (δ := δ) (i := i) (d := d) h (by simpa using e)
    exact ⟨v, oa, o1, ob, by simpa using e1, r, rfl, k, k'⟩
  | some _ :: σ, none :: δ, o, i + 1, d, h, e => by
    obtain ⟨v, oa, o1, ob, e1, r, rfl, k, k'⟩ := Envs.at (σ := σ) (δ := δ) (i := i) (d := d) h (by simpa using e)
    exact ⟨v, oa, o1, ob, by simpa using e1, r, rfl, k, k'⟩
  | some v :: σ, some d0 :: δ, o, 0, d, h, e => by
    obtain ⟨o1, o2, h1, h2, rfl⟩ := h
    cases (Option.some.inj (Option.some.inj e) : d0 = d)
    refine ⟨v, [], o1, o2, rfl, h1, by simp, fun H' d' o1' h' f => ⟨o1', o2, h', h2.fr (f.sub (by simp)), by simp⟩, fun H' f => ?_⟩
    show Envs κ H' σ δ _
    simpa using h2.fr (f.sub (by simp))
  | some v0 :: σ, some d0 :: δ, o, i + 1, d, h, e => by
    obtain ⟨p1, p2, h1, h2, rfl⟩ := h
    obtain ⟨v, oa, o1, ob, e1, r, rfl, k, k'⟩ := Envs.at (σ := σ) (δ := δ) (i := i) (d := d) h2 (by simpa using e)
    refine ⟨v, p1 ++ oa, o1, ob, by simpa using e1, r, by simp, fun H' d' o1' h' f => ?_, fun H' f => ?_⟩
    · exact ⟨p1, oa ++ o1' ++ ob, h1.fr (f.f0.sub (by simp +contextual)), k H' d' o1' h' (f.sub fun a ha => by rcases List.mem_append.mp ha with ha | ha <;> simp [ha]), by simp⟩
    · exact ⟨p1, oa ++ ob, h1.fr (f.f0.sub (by simp +contextual)), k' H' (f.sub fun a ha => by rcases List.mem_append.mp ha with ha | ha <;> simp [ha]), by simp⟩
  | none :: σ, some d :: δ, _, _, _, h, _ => h.elim
  | [], _ :: _, _, _, _, h, _ => by simp [Envs] at h
  | _ :: _, [], _, _, _, h, _ => by simp [Envs] at h
/-- a name is stored: what it had is let go -/
theorem Envs.set : ∀ {σ : List (Option V)} {δ : DE} {o : List Addr} (i : Nat) {d : D} {v : V} {o' : List Addr}, Envs κ H σ δ o → Rep κ.K H d v o' → i < δ.length →
    ∃ o2, Envs κ H (σ.set i (some v)) (δ.set i (some d)) o2 ∧ ∀ a, o2.count a ≤ o.count a + o'.count a
  | [], [], _, _, _, _, _, h, _, hi => by simp at hi
  | s :: σ, none :: δ, o, 0, d, v, o', h, r, hi => by
    have h : Envs κ H σ δ o := by cases s <;> exact h
    exact ⟨o' ++ o, ⟨o', o, r, h, rfl⟩, fun a => by rw [List.count_append]; omega⟩
  | some w :: σ, some d0 :: δ, o, 0, d, v, o', h, r, hi => by
    obtain ⟨p1, p2, h1, h2, rfl⟩ := h
    exact ⟨o' ++ p2, ⟨o', p2, r, h2, rfl⟩, fun a => by rw [List.count_append, List.count_append]; omega⟩
  | s :: σ, none :: δ, o, i + 1, d, v, o', h, r, hi => by
    have h : Envs κ H σ δ o := by cases s <;> exact h
    obtain ⟨o2, q, c⟩ := Envs.set i h r (by simpa using hi)
    refine ⟨o2, ?_, c⟩
    cases s <;> exact q
  | some w :: σ, some d0 :: δ, o, i + 1, d, v, o', h, r, hi => by
    obtain ⟨p1, p2, h1, h2, rfl⟩ := h
    obtain ⟨o2, q, c⟩ := Envs.set i h2 r (by simpa using hi)
    exact ⟨p1 ++ o2, ⟨p1, o2, h1, q, rfl⟩, fun a => by have := c a; rw [List.count_append, List.count_append]; omega⟩
  | none :: σ, some d :: δ, _, _, _, _, _, h, _, _ => h.elim
  | [], _ :: _, _, _, _, _, _, h, _, _ => by simp [Envs] at h
  | _ :: _, [], _, _, _, _, _, h, _, _ => by simp [Envs] at h
end
end Z


set_option Elab.async false
set_option linter.all false
set_option maxRecDepth 100000
/-! what an expression does to the data -/
namespace Z
open PySem PySem.Spec PyProof.Rows L2

/-- a result: a datum of its own, or what stands at a name, some items down -/
inductive R where
  | own (d : D) | at (i : Nat) (p : List Nat)
  deriving Inhabited
def R.short : R → Bool
  | .at _ (_ :: _) => false
  | _ => true
def getP : List Nat → D → Option D
  | [], d => some d
  | j :: p, .lst xs => match xs[j]? with
    | some x => getP p x
    | none => none
  | j :: p, .obj _ _ xs => match xs[j]? with
    | some x => getP p x
    | none => none
  | _ :: _, _ => none
def setP : List Nat → D → D → Option D
  | [], _, e => some e
  | j :: p, .lst xs, e => match xs[j]? with
    | some x => match setP p x e with
      | some x' => some (.lst (xs.set j x'))
      | none => none
    | none => none
  | j :: p, .obj c ns xs, e => match xs[j]? with
    | some x => match setP p x e with
      | some x' => some (.obj c ns (xs.set j x'))
      | none => none
    | none => none
  | _ :: _, _, _ => none
def deref (δ : DE) : R → Option D
  | .own d => some d
  | .at i p => match δ[i]? with
    | some (some d) => getP p d
    | _ => none
/-- u stands at place j of what is at a -/
def Chd (H : Hp) (a : Addr) (j : Nat) (u : V) : Prop := (∃ vs, H a = some (.lst vs) ∧ vs[j]? = some u) ∨ ∃ C dx fs, H a = some (.ins C dx fs) ∧ (fs.map (·.2))[j]? = some u
def PathV (H : Hp) : List Nat → V → V → Prop
  | [], u, v => v = u
  | j :: p, u, v => ∃ a u', u = .ref a ∧ Chd H a j u' ∧ PathV H p u' v
def Held (K : Fw) (H : Hp) (σ : List (Option V)) : R → V → List Addr → Prop
  | .own d, v, ov => Rep K H d v ov
  | .at i p, v, ov => ov = [] ∧ ∃ u, σ[i]? = some (some u) ∧ PathV H p u v
section
variable {K : Fw} {κ : Kx} {H H' : Hp} {σ : List (Option V)}
theorem PathV.snocC : ∀ {p : List Nat} {u : V} {a : Addr} {j : Nat} {w : V}, PathV H p u (.ref a) → Chd H a j w → PathV H (p ++ [j]) u w
  | [], _, a, j, w, h, h1 => ⟨a, w, (show V.ref a = _ from h).symm, h1, rfl⟩
  | i :: p, _, a, j, w, h, h1 => by
    obtain ⟨b, u', e1, e2, q⟩ := h
    exact ⟨b, u', e1, e2, PathV.snocC q h1⟩
theorem PathV.snoc {p : List Nat} {u : V} {a : Addr} {vs : List V} {j : Nat} {w : V} (h : PathV H p u (.ref a)) (h1 : H a = some (.lst vs)) (h2 : vs[j]? = some w) : PathV H (p ++ [j]) u w := h.snocC (.inl ⟨vs, h1, h2⟩)
theorem PathV.keep : ∀ {p : List Nat} {u v : V}, PathV H p u v → (∀ a w, H a = some w → Nt w → H' a = some w) → PathV H' p u v
  | [], _, _, h, _ => h
  | j :: p, _, _, h, k => by
    obtain ⟨a, u', e1, e2, q⟩ := h
    refine ⟨a, u', e1, ?_, PathV.keep q k⟩
    rcases e2 with ⟨vs, e2, e3⟩ | ⟨C, dx, fs, e2, e3⟩
    · exact .inl ⟨vs, k _ _ e2 (fun _ z => nomatch z), e3⟩
    · exact .inr ⟨C, dx, fs, k _ _ e2 (fun _ z => nomatch z), e3⟩
/-- what stands at a path, and another in its stead -/
theorem Rep.path : ∀ {p : List Nat} {d : D} {v : V} {o : List Addr} {e : D} {w : V}, Rep K H d v o → getP p d = some e → PathV H p v w →
    ∃ oe or_, Rep K H e w oe ∧ (∀ a, oe.count a + or_.count a = o.count a) ∧
      ∀ H' e' oe' d', Rep K H' e' w oe' → Fr0 H H' or_ → setP p d e' = some d' → ∃ o', Rep K H' d' v o' ∧ ∀ a, o'.count a = oe'.count a + or_.count a
  | [], d, v, o, e, w, r, g, q => by
    cases (Option.some.inj g : d = e)
    cases (show w = v from q)
    refine ⟨o, [], r, by simp, fun H' e' oe' d' r' f s => ?_⟩
    cases (Option.some.inj s : e' = d')
    exact ⟨oe', r', by simp⟩
  | j :: p, d, v, o, e, w, r, g, q => by
    cases d <;> simp only [getP, reduceCtorEq] at g
    · rename_i xs
      obtain ⟨a, vs, o', rfl, ha, rs, rfl⟩ := r
      obtain ⟨a', u', e1, hch, q⟩ := q
      cases e1
      have hj : vs[j]? = some u' := by
        rcases hch with ⟨vs', ha', hj⟩ | ⟨_, _, _, ha', _⟩
        · rw [ha] at ha'; cases ha'; exact hj
        · rw [ha] at ha'; cases ha'
      cases hx : xs[j]? with
      | none => rw [hx] at g; simp at g
      | some x =>
        rw [hx] at g
        obtain ⟨vj, oa, o1, ob, ev, rx, rfl, k⟩ := rs.at hx
        rw [hj] at ev; cases ev
        obtain ⟨oe, or1, re, hc, k2⟩ := Rep.path rx g q
        refine ⟨oe, a :: (oa ++ or1 ++ ob), re, fun b => ?_, fun H' e' oe' d' r' f s => ?_⟩
        · have := hc b
          simp only [List.count_cons, List.count_append] at this ⊢
          omega
        · simp only [setP, hx] at s
          cases hs : setP p x e' with
          | none => rw [hs] at s; simp at s
          | some x' =>
            rw [hs] at s
            cases (Option.some.inj s : _ = d')
            obtain ⟨o1', rx', hc'⟩ := k2 H' e' oe' x' r' (f.sub (by simp +contextual)) hs
            have hset : vs.set j u' = vs := by
              obtain ⟨hl, e2⟩ := List.getElem?_eq_some_iff.mp hj
              rw [← e2]; exact List.set_getElem_self hl
            have k3 := k H' x' u' o1' rx' (f.sub (by intro b hb; rcases List.mem_append.mp hb with hb | hb <;> simp [hb]))
            rw [hset] at k3
            refine ⟨a :: (oa ++ o1' ++ ob), ⟨a, vs, _, rfl, (f.1 a List.mem_cons_self).trans ha, k3, rfl⟩, fun b => ?_⟩
            have := hc' b
            simp only [List.count_cons, List.count_append] at this ⊢
            omega
    · rename_i c ns xs
      obtain ⟨a, dx, vs, o', rfl, ha, hl, rs, rfl⟩ := r
      obtain ⟨a', u', e1, hch, q⟩ := q
      cases e1
      have hj : vs[j]? = some u' := by
        rcases hch with ⟨vs', ha', hj⟩ | ⟨_, _, fs, ha', hj⟩
        · rw [ha] at ha'; cases ha'
        · rw [ha] at ha'; cases ha'
          rwa [List.map_snd_zip (by rw [hl, rs.length]; exact Nat.le_refl _)] at hj
      cases hx : xs[j]? with
      | none => rw [hx] at g; simp at g
      | some x =>
        rw [hx] at g
        obtain ⟨vj, oa, o1, ob, ev, rx, rfl, k⟩ := rs.at hx
        rw [hj] at ev; cases ev
        obtain ⟨oe, or1, re, hc, k2⟩ := Rep.path rx g q
        refine ⟨oe, a :: (oa ++ or1 ++ ob), re, fun b => ?_, fun H' e' oe' d' r' f s => ?_⟩
        · have := hc b
          simp only [List.count_cons, List.count_append] at this ⊢
          omega
        · simp only [setP, hx] at s
          cases hs : setP p x e' with
          | none => rw [hs] at s; simp at s
          | some x' =>
            rw [hs] at s
            cases (Option.some.inj s : _ = d')
            obtain ⟨o1', rx', hc'⟩ := k2 H' e' oe' x' r' (f.sub (by simp +contextual)) hs
            have hset : vs.set j u' = vs := by
              obtain ⟨hl, e2⟩ := List.getElem?_eq_some_iff.mp hj
              rw [← e2]; exact List.set_getElem_self hl
            have k3 := k H' x' u' o1' rx' (f.sub (by intro b hb; rcases List.mem_append.mp hb with hb | hb <;> simp [hb]))
            rw [hset] at k3
            refine ⟨a :: (oa ++ o1' ++ ob), ⟨a, dx, vs, _, rfl, (f.1 a List.mem_cons_self).trans ha, by rw [List.length_set]; exact hl, k3, rfl⟩, fun b => ?_⟩
            have := hc' b
            simp only [List.count_cons, List.count_append] at this ⊢
            omega
theorem Held.deref {δ : DE} {o ov : List Addr} {r : R} {v : V} {d : D} (E : Envs κ H σ δ o) (h : Held κ.K H σ r v ov) (e : deref δ r = some d) : ∃ o', Rep κ.K H d v o' ∧ ∀ a, o'.count a ≤ ov.count a + o.count a := by
  cases r with
  | own d' =>
    cases (Option.some.inj e : d' = d)
    exact ⟨ov, h, fun a => by omega⟩
  | «at» i p =>
    obtain ⟨rfl, u, hu, q⟩ := h
    simp only [Z.deref] at e
    cases hi : δ[i]? with
    | none => rw [hi] at e; simp at e
    | some x =>
      cases x with
      | none => rw [hi] at e; simp at e
      | some d0 =>
        rw [hi] at e
        obtain ⟨v0, oa, o1, ob, e1, r1, rfl, _⟩ := E.at hi
        rw [hu] at e1; cases e1
        obtain ⟨oe, or_, re, hc, _⟩ := r1.path e q
        exact ⟨oe, re, fun a => by have := hc a; simp only [List.count_append, List.count_nil]; omega⟩
theorem Held.step {W ov : List Addr} {r : R} {v : V} (h : Held K H σ r v ov) (s : Step H H' W) (hW : ∀ a ∈ W, ∃ u, H a = some u ∧ ¬ Sh u) (n : ∀ a ∈ ov, a ∉ W) (hq : r.short = true ∨ W = []) : Held K H' σ r v ov := by
  cases r with
  | own d => exact Rep.step h s hW n
  | «at» i p =>
    obtain ⟨e, u, hu, q⟩ := h
    refine ⟨e, u, hu, ?_⟩
    cases p with
    | nil => exact q
    | cons j p =>
      rcases hq with hq | rfl
      · simp [R.short] at hq
      · exact q.keep fun a w e hn => s.keep a _ e (by simp) hn
end

/-! ### readings -/
abbrev Den := DE → Option (R × DE)
def Wq (q : Bool) (o : List Addr) : List Addr := if q then [] else o
theorem Wq_ok {κ : Kx} {H : Hp} {σ : List (Option V)} {δ : DE} {o : List Addr} {q : Bool} (E : Envs κ H σ δ o) : ∀ a ∈ Wq q o, ∃ u, H a = some u ∧ ¬ Sh u := fun a ha => by
  cases q
  · exact E.ok a ha
  · cases ha
theorem Wq_sub {q : Bool} {o : List Addr} : ∀ a ∈ Wq q o, a ∈ o := fun a ha => by
  cases q
  · exact ha
  · cases ha
theorem Step.mono {H H' : Hp} {W W' : List Addr} (s : Step H H' W) (h : ∀ a ∈ W, a ∈ W') : Step H H' W' := ⟨fun a u e n => s.keep a u e fun z => n (h a z), s.dom, s.tab⟩
theorem Step.seq {H H1 H2 : Hp} {qa qb : Bool} {o o1 : List Addr} (s : Step H H1 (Wq qa o)) (w : Own H o o1) (t : Step H1 H2 (Wq qb o1)) : Step H H2 (Wq (qa && qb) o) := by
  cases qa with
  | true =>
    cases qb with
    | true => exact Step.trans (o := []) (o1 := []) s (Own.refl _ _) t
    | false => exact Step.trans (s.mono fun a h => nomatch h) w t
  | false =>
    cases qb with
    | true => exact Step.trans s w (t.mono fun a h => nomatch h)
    | false => exact Step.trans s w t
structure Post (κ : Kx) (H : Hp) (σ : List (Option V)) (q : Bool) (o : List Addr) (r : R) (δ' : DE) (v : V) (H' : Hp) (o' ov : List Addr) : Prop where
  step : Step H H' (Wq q o)
  env : Envs κ H' σ δ' o'
  held : Held κ.K H' σ r v ov
  own : Own H o (ov ++ o')
def T (κ : Kx) (q : Bool) (m : Den) : TE := fun σ H Q => ∃ δ o r δ', Envs κ H σ δ o ∧ Nd o ∧ m δ = some (r, δ') ∧
  ∀ v H' o' ov, Post κ H σ q o r δ' v H' o' ov → Q v H'
structure PostA (κ : Kx) (H : Hp) (σ : List (Option V)) (q : Bool) (o : List Addr) (δ' : DE) (H' : Hp) (o' : List Addr) : Prop where
  step : Step H H' (Wq q o)
  env : Envs κ H' σ δ' o'
  own : Own H o o'
/-- a test -/
def TT (κ : Kx) (q : Bool) (m : DE → Option (Bool × DE)) : L2.TT := fun σ H Q => ∃ δ o b δ', Envs κ H σ δ o ∧ Nd o ∧ m δ = some (b, δ') ∧
  ∀ H' o', PostA κ H σ q o δ' H' o' → Q b H'
def HeldL (K : Fw) (H : Hp) (σ : List (Option V)) : List R → List V → List Addr → Prop
  | [], vs, ov => vs = [] ∧ ov = []
  | r :: rs, vs, ov => ∃ v vr o1 o2, vs = v :: vr ∧ Held K H σ r v o1 ∧ HeldL K H σ rs vr o2 ∧ ov = o1 ++ o2
/-- arguments -/
def TAr (κ : Kx) (q : Bool) (m : DE → Option (List R × DE)) : TA := fun σ H Q => ∃ δ o rs δ', Envs κ H σ δ o ∧ Nd o ∧ m δ = some (rs, δ') ∧
  ∀ vs H' o' ov, Step H H' (Wq q o) → Envs κ H' σ δ' o' → HeldL κ.K H' σ rs vs ov → Own H o (ov ++ o') → Q vs H'

theorem PE.imp {X : Cx} {e : Expr} {t t' : TE} (h : PE X e t) (i : ∀ σ H Q, t' σ H Q → t σ H Q) : PE X e t' := ⟨fun pins s σ H Q I hw => h.run pins s σ H Q I (i _ _ _ hw)⟩
theorem PT.imp {X : Cx} {e : Expr} {t t' : L2.TT} (h : PT X e t) (i : ∀ σ H Q, t' σ H Q → t σ H Q) : PT X e t' := ⟨fun pins s σ H Q I hw => h.run pins s σ H Q I (i _ _ _ hw)⟩
theorem PW.imp {X : Cx} {e : Expr} {t t' : L2.TT} (h : PW X e t) (i : ∀ σ H Q, t' σ H Q → t σ H Q) : PW X e t' := ⟨fun w pins s σ H Q I hw => h.run w pins s σ H Q I (i _ _ _ hw)⟩
theorem PA.imp {X : Cx} {e : List Expr} {t t' : TA} (h : PA X e t) (i : ∀ σ H Q, t' σ H Q → t σ H Q) : PA X e t' := ⟨fun p pins s σ H Q I hw => h.run p pins s σ H Q I (i _ _ _ hw)⟩
theorem PS.imp {X : Cx} {e : Stmt} {t t' : TS} (h : PS X e t) (i : ∀ D σ H, t' D σ H → t D σ H) : PS X e t' := ⟨fun pins s σ H D I hw => h.run pins s σ H D I (i _ _ _ hw)⟩
theorem PSs.imp {X : Cx} {e : List Stmt} {t t' : TS} (h : PSs X e t) (i : ∀ D σ H, t' D σ H → t D σ H) : PSs X e t' := ⟨fun pins s σ H D I hw => h.run pins s σ H D I (i _ _ _ hw)⟩

/-! ### names, constants -/
def dVar (i : Nat) : Den := fun δ => match δ[i]? with
  | some (some d) => if d.imm then some (.own d, δ) else some (.at i [], δ)
  | _ => none
def dC (d : D) : Den := fun δ => some (.own d, δ)
section
variable {X : Cx}
theorem own_nil {H : Hp} {o : List Addr} : Own H o ([] ++ o) := Own.refl H o
theorem z_var (i : Nat) {x : Str} {pos : Pos} (hN : X.N[i]? = some x := by rfl) (hv : Vis X.env.scope x := by first | exact Or.inl rfl | exact Or.inr (Or.inl rfl) | exact Or.inr (Or.inr rfl)) (hd : (x == ("__debug__" : Str)) = false := by decide)
    (hcd : (x == ("__classdict__" : Str)) = false := by decide) : PE X (.Name x pos) (T (kx X) true (dVar i)) := by
  refine PE.imp (pe_var hN hv hd hcd) fun σ H Q h => ?_
  obtain ⟨δ, o, r, δ', E, n, hm, q⟩ := h
  simp only [dVar] at hm
  cases hi : δ[i]? with
  | none => rw [hi] at hm; simp at hm
  | some x =>
    cases x with
    | none => rw [hi] at hm; simp at hm
    | some d =>
      rw [hi] at hm
      obtain ⟨v, oa, o1, ob, e1, r1, _, _⟩ := E.at hi
      refine ⟨v, e1, ?_⟩
      by_cases hd : d.imm = true
      · simp only [hd, if_true, Option.some.injEq, Prod.mk.injEq] at hm
        obtain ⟨rfl, rfl⟩ := hm
        have := r1.imm hd
        subst this
        exact q v H o [] ⟨Step.refl _ _, E, r1, own_nil⟩
      · simp only [hd, if_false, Option.some.injEq, Prod.mk.injEq, Bool.false_eq_true] at hm
        obtain ⟨rfl, rfl⟩ := hm
        exact q v H o [] ⟨Step.refl _ _, E, ⟨rfl, v, e1, rfl⟩, own_nil⟩
theorem z_c {e : Expr} {v : V} {d : D} (h : PE X e (tC v)) (r : ∀ K H, Rep K H d v []) : PE X e (T (kx X) true (dC d)) :=
  PE.imp h fun σ H Q h => by
    obtain ⟨δ, o, r', δ', E, n, hm, q⟩ := h
    simp only [dC, Option.some.injEq, Prod.mk.injEq] at hm
    obtain ⟨rfl, rfl⟩ := hm
    exact q v H o [] ⟨Step.refl _ _, E, r _ _, own_nil⟩
theorem z_int {i j pos} : PE X (.Constant (.int i) j pos) (T (kx X) true (dC (.int i))) := z_c pe_int fun _ _ => ⟨rfl, rfl⟩
theorem z_bl {b j pos} : PE X (.Constant (.bool b) j pos) (T (kx X) true (dC (.bl b))) := z_c pe_bl fun _ _ => ⟨rfl, rfl⟩
theorem z_non {j pos} : PE X (.Constant .none j pos) (T (kx X) true (dC .non)) := z_c pe_non fun _ _ => ⟨rfl, rfl⟩
theorem z_str {x : Str} {j pos} (hx : (decide (x.cps.size ≤ 10000) && x.cps.all (· < 0x110000)) = true := by decide +kernel) : PE X (.Constant (.str x) j pos) (T (kx X) true (dC (.str x))) :=
  z_c pe_str fun _ _ => ⟨rfl, ⟨Nat.le_trans (of_decide_eq_true (Bool.and_eq_true_iff.mp hx).1) (by decide), (Bool.and_eq_true_iff.mp hx).2⟩, rfl⟩
end

/-! ### arguments -/
def dANil : DE → Option (List R × DE) := fun δ => some ([], δ)
def dACons (q : Bool) (a : Den) (r : DE → Option (List R × DE)) : DE → Option (List R × DE) := fun δ => match a δ with
  | some (x, δ1) => match r δ1 with
    | some (xs, δ2) => if x.short || q then some (x :: xs, δ2) else none
    | none => none
  | none => none
section
variable {X : Cx} {e : Expr} {es : List Expr} {qa qb : Bool} {ma : Den} {mr : DE → Option (List R × DE)}
theorem own_app {H H1 : Hp} {W o o1 o2 ova ovb : List Addr} (w1 : Own H o (ova ++ o1)) (s : Step H H1 W) (hd : ∀ a ∈ ova, H1 a ≠ none) (w2 : Own H1 o1 (ovb ++ o2)) : Own H o ((ova ++ ovb) ++ o2) := fun a => by
  have h1 := w1 a
  have h2 := w2 a
  simp only [List.count_append] at h1 h2 ⊢
  rcases h2 with h2 | ⟨z, h2⟩
  · rcases h1 with h1 | ⟨z1, h1⟩
    · left; omega
    · right; exact ⟨z1, by omega⟩
  · have hz : ova.count a = 0 := List.count_eq_zero.mpr fun hm => hd a hm z
    exact .inr ⟨s.dom a z, by omega⟩
theorem Held.dom {K : Fw} {H : Hp} {σ : List (Option V)} {r : R} {v : V} {ov : List Addr} (h : Held K H σ r v ov) : ∀ a ∈ ov, H a ≠ none := fun a ha => by
  cases r with
  | own d => obtain ⟨u, e, _⟩ := Rep.own h a ha; rw [e]; simp
  | «at» i p => obtain ⟨rfl, _⟩ := h; cases ha
theorem HeldL.dom {K : Fw} {H : Hp} {σ : List (Option V)} : ∀ {rs : List R} {vs : List V} {ov : List Addr}, HeldL K H σ rs vs ov → ∀ a ∈ ov, H a ≠ none
  | [], _, _, h, a, ha => by rw [h.2] at ha; cases ha
  | r :: rs, _, _, h, a, ha => by
    obtain ⟨v, vr, o1, o2, rfl, h1, h2, rfl⟩ := h
    rcases List.mem_append.mp ha with ha | ha
    · exact h1.dom a ha
    · exact HeldL.dom h2 a ha
theorem HeldL.own {K : Fw} {H : Hp} {σ : List (Option V)} : ∀ {rs : List R} {vs : List V} {ov : List Addr}, HeldL K H σ rs vs ov → ∀ a ∈ ov, ∃ u, H a = some u ∧ Ow u
  | [], _, _, h, a, ha => by rw [h.2] at ha; cases ha
  | .own d :: rs, _, _, h, a, ha => by
    obtain ⟨v, vr, o1, o2, rfl, h1, h2, rfl⟩ := h
    rcases List.mem_append.mp ha with ha | ha
    · exact Rep.own h1 a ha
    · exact HeldL.own h2 a ha
  | .at i p :: rs, _, _, h, a, ha => by
    obtain ⟨v, vr, o1, o2, rfl, ⟨rfl, _⟩, h2, rfl⟩ := h
    exact HeldL.own h2 a ha
theorem own_right {H : Hp} {o ov o' : List Addr} (w : Own H o (ov ++ o')) : Own H o o' := w.sub fun a => by rw [List.count_append]; omega
theorem nd_of {H : Hp} {o ov o' : List Addr} (w : Own H o (ov ++ o')) (n : Nd o) : Nd o' := (own_right w).nd n
theorem apart_of {H : Hp} {o ov o' : List Addr} (w : Own H o (ov ++ o')) (n : Nd o) : ∀ a ∈ ov, a ∉ o' := nd_split (w.nd n)
theorem z_anil : PA X [] (TAr (kx X) true dANil) := PA.imp pa_nil fun σ H Q h => by
  obtain ⟨δ, o, rs, δ', E, n, hm, q⟩ := h
  simp only [dANil, Option.some.injEq, Prod.mk.injEq] at hm
  obtain ⟨rfl, rfl⟩ := hm
  exact q [] H o [] (Step.refl _ _) E ⟨rfl, rfl⟩ own_nil
theorem z_acons (ha : PE X e (T (kx X) qa ma)) (hr : PA X es (TAr (kx X) qb mr)) (hs : starEach (e :: es) X.env = (false, eval e X.env) :: starEach es X.env := by rfl) : PA X (e :: es) (TAr (kx X) (qa && qb) (dACons qb ma mr)) := by
  refine PA.imp (pa_cons ha hr hs) fun σ H Q h => ?_
  obtain ⟨δ, o, rs, δ', E, n, hm, q⟩ := h
  simp only [dACons] at hm
  cases h1 : ma δ with
  | none => rw [h1] at hm; simp at hm
  | some p1 =>
    obtain ⟨x, δ1⟩ := p1
    rw [h1] at hm; dsimp only at hm
    cases h2 : mr δ1 with
    | none => rw [h2] at hm; simp at hm
    | some p2 =>
      obtain ⟨xs, δ2⟩ := p2
      rw [h2] at hm; dsimp only at hm
      by_cases hc : (x.short || qb) = true
      · rw [if_pos hc] at hm
        simp only [Option.some.injEq, Prod.mk.injEq] at hm
        obtain ⟨rfl, rfl⟩ := hm
        refine ⟨δ, o, x, δ1, E, n, h1, fun v H1 o1 ov1 P1 => ?_⟩
        refine ⟨δ1, o1, xs, δ2, P1.env, nd_of P1.own n, h2, fun vs H2 o2 ov2 s2 E2 hl w2 => ?_⟩
        have ap := apart_of P1.own n
        refine q (v :: vs) H2 o2 (ov1 ++ ov2) (P1.step.seq (own_right P1.own) s2) E2 ⟨v, vs, ov1, ov2, rfl, ?_, hl, rfl⟩ (own_app P1.own P1.step P1.held.dom w2)
        refine P1.held.step s2 (Wq_ok P1.env) (fun a ha hw => ap a ha (Wq_sub a hw)) ?_
        simp only [Bool.or_eq_true] at hc
        rcases hc with hc | hc
        · exact .inl hc
        · right; subst hc; rfl
      · rw [if_neg hc] at hm; simp at hm
end
def derefs (δ : DE) : List R → Option (List D)
  | [] => some []
  | r :: rs => match deref δ r, derefs δ rs with
    | some d, some ds => some (d :: ds)
    | _, _ => none
theorem HeldL.derefs {κ : Kx} {H : Hp} {σ : List (Option V)} {δ : DE} {o : List Addr} (E : Envs κ H σ δ o) : ∀ {rs : List R} {vs : List V} {ov : List Addr} {ds : List D}, HeldL κ.K H σ rs vs ov → derefs δ rs = some ds → ∃ o', Reps κ.K H ds vs o'
  | [], _, _, _, h, e => by
    cases (Option.some.inj e)
    exact ⟨[], h.1, rfl⟩
  | r :: rs, _, _, _, h, e => by
    obtain ⟨v, vr, o1, o2, rfl, h1, h2, rfl⟩ := h
    simp only [Z.derefs] at e
    cases e1 : deref δ r with
    | none => rw [e1] at e; simp at e
    | some d =>
      cases e2 : Z.derefs δ rs with
      | none => rw [e1, e2] at e; simp at e
      | some ds =>
        rw [e1, e2] at e
        cases (Option.some.inj e)
        obtain ⟨oa, ra, _⟩ := h1.deref E e1
        obtain ⟨ob, rb⟩ := HeldL.derefs E h2 e2
        exact ⟨oa ++ ob, v, vr, oa, ob, rfl, ra, rb, rfl⟩

/-! ### operators on values that make a datum and change nothing -/
def Fresh (H : Hp) (ov : List Addr) : Prop := ∀ a, ov.count a ≤ 1 ∧ (a ∈ ov → H a = none)
theorem fresh_nil {H : Hp} : Fresh H [] := fun a => ⟨by simp, fun h => nomatch h⟩
theorem fresh_one {H : Hp} {p : Addr} (h : H p = none) : Fresh H [p] := fun a => ⟨by rw [List.count_singleton]; split <;> omega, fun z => by rw [List.mem_singleton.mp z]; exact h⟩
/-- what an operation gives, told by the data -/
def Pr (K : Fw) (f : List D → Option D) (vs : List V) (H : Hp) (Q : VK) : Prop :=
  ∃ ds o d, Reps K H ds vs o ∧ f ds = some d ∧ ∀ v H' ov, (∀ a u, H a = some u → H' a = some u) → Rep K H' d v ov → Fresh H ov → Q v H'
theorem own_fresh {H H' : Hp} {o o' ov : List Addr} {W : List Addr} (w : Own H o o') (s : Step H H' W) (f : Fresh H' ov) (hd : ∀ a ∈ o', H' a ≠ none) : Own H o (ov ++ o') := fun a => by
  rw [List.count_append]
  by_cases h : a ∈ ov
  · have h1 := (f a).2 h
    have h2 : o'.count a = 0 := List.count_eq_zero.mpr fun z => hd a z h1
    have h3 := (f a).1
    exact .inr ⟨s.dom a h1, by omega⟩
  · have h2 : ov.count a = 0 := List.count_eq_zero.mpr h
    rcases w a with w | ⟨z, w⟩
    · left; omega
    · right; exact ⟨z, by omega⟩
theorem Envs.dom {κ : Kx} {H : Hp} {σ : List (Option V)} {δ : DE} {o : List Addr} (E : Envs κ H σ δ o) : ∀ a ∈ o, H a ≠ none := fun a ha => by
  obtain ⟨vs, e, how⟩ := E.own a ha
  rw [e]; simp
theorem Step.same {H H1 H2 : Hp} {W : List Addr} (s : Step H H1 W) (k : ∀ a u, H1 a = some u → H2 a = some u) : Step H H2 W :=
  ⟨fun a u e n z => k a u (s.keep a u e n z), fun a e => s.dom a ((Step.of_same [] k).dom a e), fun P g => (Step.of_same [] k).tab P (s.tab P g)⟩
/-- behind pure work on values: the end of T -/
theorem post_pure {κ : Kx} {H H1 H2 : Hp} {σ : List (Option V)} {q : Bool} {o o1 ov1 ov : List Addr} {d : D} {δ1 : DE} {v : V} (s : Step H H1 (Wq q o)) (E : Envs κ H1 σ δ1 o1) (w : Own H o (ov1 ++ o1))
    (k : ∀ a u, H1 a = some u → H2 a = some u) (r : Rep κ.K H2 d v ov) (f : Fresh H1 ov) : Post κ H σ q o (.own d) δ1 v H2 o1 ov :=
  ⟨s.same k, E.same k, r, own_fresh (own_right w) s f E.dom⟩

def dCall (f : List D → Option D) (a : DE → Option (List R × DE)) : Den := fun δ => match a δ with
  | some (rs, δ') => match derefs δ' rs with
    | some ds => match f ds with
      | some d => some (.own d, δ')
      | none => none
    | none => none
  | none => none
theorem dCall_inv {f : List D → Option D} {m : DE → Option (List R × DE)} {δ δ' : DE} {r : R} (h : dCall f m δ = some (r, δ')) : ∃ rs ds d, m δ = some (rs, δ') ∧ derefs δ' rs = some ds ∧ f ds = some d ∧ r = .own d := by
  simp only [dCall] at h
  cases h1 : m δ with
  | none => rw [h1] at h; simp at h
  | some p =>
    obtain ⟨rs, δ1⟩ := p
    rw [h1] at h; dsimp only at h
    cases h2 : derefs δ1 rs with
    | none => rw [h2] at h; simp at h
    | some ds =>
      rw [h2] at h; dsimp only at h
      cases h3 : f ds with
      | none => rw [h3] at h; simp at h
      | some d =>
        rw [h3] at h
        simp only [Option.some.injEq, Prod.mk.injEq] at h
        obtain ⟨rfl, rfl⟩ := h
        exact ⟨rs, ds, d, rfl, h2, h3, rfl⟩
section
variable {X : Cx} {e a b : Expr} {es : List Expr} {qa qb q : Bool} {ma mb : Den} {mr : DE → Option (List R × DE)} {f : List D → Option D}
/-- a call told by the data: the arguments' reading, then f -/
theorem t_call {κ : Kx} {σ : L2.St} {H : Hp} {Q : VK} (h : T κ q (dCall f mr) σ H Q) : TAr κ q mr σ H fun vs H1 => Pr κ.K f vs H1 Q := by
  obtain ⟨δ, o, r, δ', E, n, hm, k⟩ := h
  obtain ⟨rs, ds, d, h1, h2, h3, rfl⟩ := dCall_inv hm
  refine ⟨δ, o, rs, δ', E, n, h1, fun vs H1 o1 ov1 s1 E1 hl w1 => ?_⟩
  obtain ⟨o', rp⟩ := HeldL.derefs E1 hl h2
  exact ⟨ds, o', d, rp, h3, fun v H2 ov hs r fr => k v H2 o1 ov (post_pure s1 E1 w1 hs r fr)⟩
/-- two operands as two arguments -/
theorem t_two {κ : Kx} {σ : L2.St} {H : Hp} {Q : V → V → Hp → Prop} (h : TAr κ (qa && (qb && true)) (dACons (qb && true) ma (dACons true mb dANil)) σ H fun vs H1 => ∀ x y, vs = [x, y] → Q x y H1) :
    T κ qa ma σ H fun x H1 => T κ qb mb σ H1 fun y H2 => Q x y H2 := by
  obtain ⟨δ, o, rs, δ', E, n, hm, k⟩ := h
  simp only [dACons, dANil] at hm
  cases h1 : ma δ with
  | none => rw [h1] at hm; simp at hm
  | some p1 =>
    obtain ⟨x, δ1⟩ := p1
    rw [h1] at hm; dsimp only at hm
    cases h2 : mb δ1 with
    | none => rw [h2] at hm; simp at hm
    | some p2 =>
      obtain ⟨y, δ2⟩ := p2
      rw [h2] at hm; dsimp only at hm
      simp only [Bool.or_true, if_true] at hm
      by_cases hc : (x.short || (qb && true)) = true
      · rw [if_pos hc] at hm
        simp only [Option.some.injEq, Prod.mk.injEq] at hm
        obtain ⟨rfl, rfl⟩ := hm
        refine ⟨δ, o, x, δ1, E, n, h1, fun v H1 o1 ov1 P1 => ?_⟩
        refine ⟨δ1, o1, y, δ2, P1.env, nd_of P1.own n, h2, fun w H2 o2 ov2 P2 => ?_⟩
        have ap := apart_of P1.own n
        have s := P1.step.seq (own_right P1.own) P2.step
        rw [Bool.and_true] at k hc
        refine k [v, w] H2 o2 (ov1 ++ (ov2 ++ [])) s P2.env ⟨v, [w], ov1, ov2 ++ [], rfl, ?_, ⟨w, [], ov2, [], rfl, P2.held, ⟨rfl, rfl⟩, rfl⟩, rfl⟩ (by rw [List.append_nil]; exact own_app P1.own P1.step P1.held.dom P2.own) v w rfl
        refine P1.held.step P2.step (Wq_ok P1.env) (fun a ha hw => ap a ha (Wq_sub a hw)) ?_
        simp only [Bool.or_eq_true] at hc
        rcases hc with hc | hc
        · exact .inl hc
        · right; subst hc; rfl
      · rw [if_neg hc] at hm; simp at hm
theorem TAr.imp {κ : Kx} {σ : L2.St} {H : Hp} {Q Q' : List V → Hp → Prop} (h : TAr κ q mr σ H Q) (i : ∀ vs H, Q vs H → Q' vs H) : TAr κ q mr σ H Q' := by
  obtain ⟨δ, o, rs, δ', E, n, hm, k⟩ := h
  exact ⟨δ, o, rs, δ', E, n, hm, fun vs H' o' ov a b c d => i _ _ (k vs H' o' ov a b c d)⟩
abbrev d2 (qb : Bool) (ma mb : Den) : DE → Option (List R × DE) := dACons (qb && true) ma (dACons true mb dANil)
theorem z_bin {op : Operator} {pos : Pos} (ho : OpR X (binaryOp op) fun x y => Pr X.F f [x, y]) (ha : PE X a (T (kx X) qa ma)) (hb : PE X b (T (kx X) qb mb)) : PE X (.BinOp a op b pos) (T (kx X) (qa && (qb && true)) (dCall f (d2 qb ma mb))) :=
  PE.imp (pe_op ho ha hb) fun σ H Q h => t_two (Q := fun x y H2 => Pr X.F f [x, y] H2 Q) ((t_call h).imp fun vs H1 p x y e => by rw [← e]; exact p)
theorem z_cmp {op : CmpOp} {pos : Pos} (ho : OpR X (compareOp op) fun x y => Pr X.F f [x, y]) (ha : PE X a (T (kx X) qa ma)) (hb : PE X b (T (kx X) qb mb)) (hm : behindInMarks op b = false := by first | exact nomark _ | rfl) : PE X (.Compare a [op] [b] pos) (T (kx X) (qa && (qb && true)) (dCall f (d2 qb ma mb))) :=
  PE.imp (pe_cmpR ho ha hb hm) fun σ H Q h => t_two (Q := fun x y H2 => Pr X.F f [x, y] H2 Q) ((t_call h).imp fun vs H1 p x y e => by rw [← e]; exact p)
theorem z_un {op : UnaryOp} {pos : Pos} (ho : UnR X (unaryOp op) fun x => Pr X.F f [x]) (ha : PE X a (T (kx X) qa ma)) : PE X (.UnaryOp op a pos) (T (kx X) (qa && true) (dCall f (dACons true ma dANil))) :=
  PE.imp (pe_un ho ha) fun σ H Q h => by
    obtain ⟨δ, o, r, δ', E, n, hm, k⟩ := t_call h
    simp only [dACons, dANil] at hm
    cases h1 : ma δ with
    | none => rw [h1] at hm; simp at hm
    | some p1 =>
      obtain ⟨x, δ1⟩ := p1
      rw [h1] at hm
      simp only [Bool.or_true, if_true, Option.some.injEq, Prod.mk.injEq] at hm
      obtain ⟨rfl, rfl⟩ := hm
      rw [Bool.and_true] at k
      exact ⟨δ, o, x, δ1, E, n, h1, fun v H1 o1 ov1 P1 => k [v] H1 o1 (ov1 ++ []) P1.step P1.env ⟨v, [], ov1, [], rfl, P1.held, ⟨rfl, rfl⟩, rfl⟩ (by rw [List.append_nil]; exact P1.own)⟩
theorem z_callB {id : String} {x : Str} {p pos : Pos} (hc : CallR X (.builtin id) (Pr X.F f)) (hg : Gl X x) (hm : X.mg x = none) (hv : bootBuiltins x = some (.builtin id)) (ha : PA X (e :: es) (TAr (kx X) q mr))
    (hn : x ≠ "__name__" := by decide) (hdb : (x == ("__debug__" : Str)) = false := by decide) (he : starEach (e :: es) X.env = (false, eval e X.env) :: starEach es X.env := by rfl) (hpl : (backTo pos (starEach es X.env)).any (·.1) = false := by rfl) :
    PE X (.Call (.Name x p) (e :: es) [] pos) (T (kx X) q (dCall f mr)) :=
  PE.imp (pe_callB hc hg hm hv ha hn hdb he hpl) fun σ H Q h => t_call h
theorem z_callTy {id : String} {x : Str} {p pos : Pos} (hc : CallR X (.type id) (Pr X.F f)) (hg : Gl X x) (hm : X.mg x = none) (hv : bootBuiltins x = some (.type id)) (ha : PA X (e :: es) (TAr (kx X) q mr))
    (hn : x ≠ "__name__" := by decide) (hdb : (x == ("__debug__" : Str)) = false := by decide) (he : starEach (e :: es) X.env = (false, eval e X.env) :: starEach es X.env := by rfl) (hpl : (backTo pos (starEach es X.env)).any (·.1) = false := by rfl) :
    PE X (.Call (.Name x p) (e :: es) [] pos) (T (kx X) q (dCall f mr)) :=
  PE.imp (pe_callTy hc hg hm hv ha hn hdb he hpl) fun σ H Q h => t_call h
end
end Z


set_option Elab.async false
set_option linter.all false
set_option maxRecDepth 100000
/-! displays, subscripts, tests, calls of the program's own defs -/
namespace Z
open PySem PySem.Spec PyProof.Rows L2

/-! ### operands that are held -/
def allShort : List R → Bool
  | [] => true
  | r :: rs => r.short && allShort rs
def Stk (κ : Kx) (H0 : Hp) (σ : List (Option V)) (q : Bool) (o0 : List Addr) (rs : List R) (vs : List V) (δ : DE) (H : Hp) : Prop :=
  ∃ o ov, Step H0 H (Wq q o0) ∧ Envs κ H σ δ o ∧ HeldL κ.K H σ rs vs ov ∧ Own H0 o0 (ov ++ o)
section
variable {K : Fw} {κ : Kx} {H0 H : Hp} {σ : List (Option V)} {q qa : Bool} {o0 : List Addr} {rs : List R} {vs : List V} {δ δ1 : DE} {ma : Den} {r : R}
theorem HeldL.step : ∀ {rs : List R} {vs : List V} {W ov : List Addr} {H H' : Hp}, HeldL K H σ rs vs ov → Step H H' W → (∀ a ∈ W, ∃ u, H a = some u ∧ ¬ Sh u) → (∀ a ∈ ov, a ∉ W) → (allShort rs = true ∨ W = []) → HeldL K H' σ rs vs ov
  | [], _, _, _, _, _, h, _, _, _, _ => h
  | r :: rs, _, W, _, H, H', h, s, hW, n, hq => by
    obtain ⟨v, vr, o1, o2, rfl, h1, h2, rfl⟩ := h
    refine ⟨v, vr, o1, o2, rfl, h1.step s hW (fun a ha => n a (List.mem_append_left _ ha)) ?_, HeldL.step h2 s hW (fun a ha => n a (List.mem_append_right _ ha)) ?_, rfl⟩
    · rcases hq with hq | hq
      · simp only [allShort, Bool.and_eq_true] at hq; exact .inl hq.1
      · exact .inr hq
    · rcases hq with hq | hq
      · simp only [allShort, Bool.and_eq_true] at hq; exact .inl hq.2
      · exact .inr hq
theorem Stk.start {o : List Addr} (E : Envs κ H σ δ o) : Stk κ H σ true o [] [] δ H := ⟨o, [], Step.refl _ _, E, ⟨rfl, rfl⟩, own_nil⟩
theorem Stk.push {G : VK} (n0 : Nd o0) (S : Stk κ H0 σ q o0 rs vs δ H) (hm : ma δ = some (r, δ1)) (hs : (allShort rs || qa) = true) (k : ∀ v H1, Stk κ H0 σ (q && qa) o0 (r :: rs) (v :: vs) δ1 H1 → G v H1) : T κ qa ma σ H G := by
  obtain ⟨o, ov, s, E, hl, w⟩ := S
  refine ⟨δ, o, r, δ1, E, nd_of w n0, hm, fun v H1 o1 ov1 P => k v H1 ⟨o1, ov1 ++ ov, s.seq (own_right w) P.step, P.env, ⟨v, vs, ov1, ov, rfl, P.held, ?_, rfl⟩, ?_⟩⟩
  · have ap := apart_of w n0
    refine hl.step P.step (Wq_ok E) (fun a ha hw => ap a ha (Wq_sub a hw)) ?_
    simp only [Bool.or_eq_true] at hs
    rcases hs with hs | hs
    · exact .inl hs
    · right; subst hs; rfl
  · refine (own_app w s hl.dom P.own).sub fun a => ?_
    simp only [List.count_append]; omega
theorem Stk.reps {ds : List D} (S : Stk κ H0 σ q o0 rs vs δ H) (e : derefs δ rs = some ds) : ∃ o', Reps κ.K H ds vs o' := by
  obtain ⟨o, ov, s, E, hl, w⟩ := S
  exact hl.derefs E e
/-- the end: a new datum -/
theorem Stk.pure {d : D} {G : VK} (S : Stk κ H0 σ q o0 rs vs δ H) (h : ∀ v H' o' ov, Post κ H0 σ q o0 (.own d) δ v H' o' ov → G v H') {v : V} {H2 : Hp} {ov : List Addr} (k : ∀ a u, H a = some u → H2 a = some u) (r : Rep κ.K H2 d v ov) (f : Fresh H ov) : G v H2 := by
  obtain ⟨o, ov1, s, E, hl, w⟩ := S
  exact h v H2 o ov (post_pure s E w k r f)
end

/-! ### displays -/
def owns : List R → Option (List D)
  | [] => some []
  | .own d :: rs => match owns rs with
    | some ds => some (d :: ds)
    | none => none
  | .at _ _ :: _ => none
theorem HeldL.owns {K : Fw} {H : Hp} {σ : List (Option V)} : ∀ {rs : List R} {vs : List V} {ov : List Addr} {ds : List D}, HeldL K H σ rs vs ov → owns rs = some ds → Reps K H ds vs ov
  | [], _, _, _, h, e => by cases (Option.some.inj e); exact h
  | .own d :: rs, _, _, _, h, e => by
    obtain ⟨v, vr, o1, o2, rfl, h1, h2, rfl⟩ := h
    simp only [Z.owns] at e
    cases e2 : Z.owns rs with
    | none => rw [e2] at e; simp at e
    | some ds =>
      rw [e2] at e
      cases (Option.some.inj e)
      exact ⟨v, vr, o1, o2, rfl, h1, HeldL.owns h2 e2, rfl⟩
  | .at _ _ :: rs, _, _, _, h, e => by simp [Z.owns] at e
def dTup (m : DE → Option (List R × DE)) : Den := fun δ => match m δ with
  | some (rs, δ') => match owns rs with
    | some ds => if ds.length ≤ 1000 then some (.own (.tup ds), δ') else none
    | none => none
  | none => none
def dLst (m : DE → Option (List R × DE)) : Den := fun δ => match m δ with
  | some (rs, δ') => match owns rs with
    | some ds => if ds.length ≤ 1000 then some (.own (.lst ds), δ') else none
    | none => none
  | none => none
section
variable {X : Cx} {es : List Expr} {q : Bool} {m : DE → Option (List R × DE)}
theorem small_sz {n : Nat} (h : n ≤ 1000) : n ≤ sizeLine := Nat.le_trans h (by decide)
theorem new_same {H : Hp} {p : Addr} {u : HO} (h : H p = none) : ∀ a w, H a = some w → upd H p u a = some w := fun a w e => by
  rw [upd_ne (ne_of_none e h)]; exact e
theorem Reps.same {K : Fw} {H H' : Hp} {xs : List D} {vs : List V} {o : List Addr} (h : Reps K H xs vs o) (k : ∀ a u, H a = some u → H' a = some u) : Reps K H' xs vs o :=
  h.fr ⟨fun a ha => by obtain ⟨u, e, _⟩ := h.own a ha; rw [e]; exact k _ _ e, fun a u e _ => k a u e⟩
theorem Rep.same {K : Fw} {H H' : Hp} {d : D} {v : V} {o : List Addr} (h : Rep K H d v o) (k : ∀ a u, H a = some u → H' a = some u) : Rep K H' d v o :=
  h.fr ⟨fun a ha => by obtain ⟨u, e, _⟩ := h.own a ha; rw [e]; exact k _ _ e, fun a u e _ => k a u e⟩
theorem z_tup {k : Nat} {pos : Pos} (h : PA X es (TAr (kx X) q m)) : PE X (.Tuple es k pos) (T (kx X) q (dTup m)) :=
  PE.imp (pe_tup h) fun σ H Q h => by
    obtain ⟨δ, o, r, δ', E, n, hm, k⟩ := h
    simp only [dTup] at hm
    cases h1 : m δ with
    | none => rw [h1] at hm; simp at hm
    | some p =>
      obtain ⟨rs, δ1⟩ := p
      rw [h1] at hm; dsimp only at hm
      cases h2 : owns rs with
      | none => rw [h2] at hm; simp at hm
      | some ds =>
        rw [h2] at hm; dsimp only at hm
        by_cases hc : ds.length ≤ 1000
        · rw [if_pos hc] at hm
          simp only [Option.some.injEq, Prod.mk.injEq] at hm
          obtain ⟨rfl, rfl⟩ := hm
          refine ⟨δ, o, rs, δ1, E, n, h1, fun vs H1 o1 ov1 s1 E1 hl w1 => ?_⟩
          have rp := hl.owns h2
          refine ⟨by rw [rp.length]; exact small_sz hc, fun p hp => ?_⟩
          exact k _ _ o1 ov1 ⟨s1.same (new_same hp), E1.same (new_same hp), ⟨p, vs, rfl, .of upd_same, rp.same (new_same hp)⟩, w1⟩
        · rw [if_neg hc] at hm; simp at hm
theorem z_lst {pos : Pos} (h : PA X es (TAr (kx X) q m)) : PE X (.List es pos) (T (kx X) q (dLst m)) :=
  PE.imp (pe_lst h) fun σ H Q h => by
    obtain ⟨δ, o, r, δ', E, n, hm, k⟩ := h
    simp only [dLst] at hm
    cases h1 : m δ with
    | none => rw [h1] at hm; simp at hm
    | some p =>
      obtain ⟨rs, δ1⟩ := p
      rw [h1] at hm; dsimp only at hm
      cases h2 : owns rs with
      | none => rw [h2] at hm; simp at hm
      | some ds =>
        rw [h2] at hm; dsimp only at hm
        by_cases hc : ds.length ≤ 1000
        · rw [if_pos hc] at hm
          simp only [Option.some.injEq, Prod.mk.injEq] at hm
          obtain ⟨rfl, rfl⟩ := hm
          refine ⟨δ, o, rs, δ1, E, n, h1, fun vs H1 o1 ov1 s1 E1 hl w1 => ?_⟩
          have rp := hl.owns h2
          refine ⟨by rw [rp.length]; exact small_sz hc, fun p hp => ?_⟩
          refine k _ _ o1 (p :: ov1) ⟨s1.same (new_same hp), E1.same (new_same hp), ⟨p, vs, ov1, rfl, upd_same, rp.same (new_same hp), rfl⟩, fun a => ?_⟩
          have hw := w1 a
          have d1 : ∀ a ∈ ov1 ++ o1, H1 a ≠ none := fun a ha => (List.mem_append.mp ha).elim (hl.dom a) (E1.dom a)
          by_cases ha : a = p
          · subst ha
            have z : (ov1 ++ o1).count a = 0 := List.count_eq_zero.mpr fun hm => d1 a hm hp
            rw [List.cons_append, List.count_cons_self, z]
            exact .inr ⟨s1.dom a hp, Nat.le_refl _⟩
          · rw [List.cons_append, List.count_cons_of_ne (fun z => ha z.symm)]
            exact hw
        · rw [if_neg hc] at hm; simp at hm
end

/-! ### subscripts -/
def subD : D → Int → Option D
  | .tup xs, i => atI xs i
  | .lst xs, i => atI xs i
  | .frz xs, i => atI xs i
  | .str x, i => match atI x.cps.toList i with
    | some c => some (.str ⟨#[c]⟩)
    | none => none
  | _, _ => none
def subR (r : R) (d : D) (i : Int) : Option R := match subD d i with
  | some e => if e.imm then some (.own e) else match r, d with
    | .at s p, .lst xs => match ixN xs.length i with
      | some j => some (.at s (p ++ [j]))
      | none => none
    | _, _ => none
  | none => none
def dSub (qb : Bool) (ma mb : Den) : Den := fun δ => match ma δ with
  | some (ra, δ1) => match mb δ1 with
    | some (rb, δ2) => if ra.short || qb then match deref δ2 ra, deref δ2 rb with
      | some d, some (.int i) => match subR ra d i with
        | some r => some (r, δ2)
        | none => none
      | _, _ => none
      else none
    | none => none
  | none => none
theorem strOk_mem {x : Str} (h : PyData.strOk x = true) {c : Nat} (hc : c ∈ x.cps.toList) : c < 0x110000 := by
  have h' : x.cps.all (· < 0x110000) = true := h
  rw [← Array.all_toList, List.all_eq_true] at h'
  exact of_decide_eq_true (h' c hc)
theorem strOk_of {l : List Nat} (h : ∀ c ∈ l, c < 0x110000) : PyData.strOk ⟨l.toArray⟩ = true := by
  show Array.all _ _ = true
  rw [← Array.all_toList, List.all_eq_true]
  exact fun c hc => decide_eq_true (h c hc)
theorem strOk_at {x : Str} (h : PyData.strOk x = true) {i : Int} {c : Nat} (hc : L2.atI x.cps.toList i = some c) : StrOk ⟨#[c]⟩ := by
  refine ⟨by show 1 ≤ sizeLine; decide, strOk_of (l := [c]) fun d hd => ?_⟩
  rw [List.mem_singleton.mp hd]
  unfold L2.atI at hc
  cases hj : ixN x.cps.toList.length i with
  | none => rw [hj] at hc; cases hc
  | some j =>
    rw [hj] at hc
    exact strOk_mem h (List.mem_of_getElem? (show x.cps.toList[j]? = some c from hc))
section
variable {K : Fw} {κ : Kx} {H : Hp}
theorem Reps.atI {xs : List D} {vs : List V} {o : List Addr} {i : Int} {e : D} (h : Reps K H xs vs o) (he : atI xs i = some e) : ∃ v o1, atI vs i = some v ∧ Rep K H e v o1 ∧ ∃ j, ixN xs.length i = some j ∧ vs[j]? = some v ∧ xs[j]? = some e := by
  unfold L2.atI at he ⊢
  cases hj : ixN xs.length i with
  | none => rw [hj] at he; simp at he
  | some j =>
    rw [hj] at he
    obtain ⟨v, o1, e1, r, _⟩ := h.get (i := j) (d := e) (by simpa using he)
    refine ⟨v, o1, ?_, r, j, rfl, e1, by simpa using he⟩
    rw [h.length, hj]
    exact e1
end
section
variable {X : Cx} {a b : Expr} {qa qb : Bool} {ma mb : Den}
theorem z_sub {pos : Pos} (ha : PE X a (T (kx X) qa ma)) (hb : PE X b (T (kx X) qb mb)) (hs : PlainIx b := by exact fun _ _ => rfl) : PE X (.Subscript a b pos) (T (kx X) (qa && qb) (dSub qb ma mb)) := by
  refine PE.imp (pe_ix ix_seq ha hb hs) fun σ H Q h => ?_
  obtain ⟨δ, o, r, δ', E, n, hm, k⟩ := h
  simp only [dSub] at hm
  cases h1 : ma δ with
  | none => rw [h1] at hm; simp at hm
  | some p1 =>
    obtain ⟨ra, δ1⟩ := p1
    rw [h1] at hm; dsimp only at hm
    cases h2 : mb δ1 with
    | none => rw [h2] at hm; simp at hm
    | some p2 =>
      obtain ⟨rb, δ2⟩ := p2
      rw [h2] at hm; dsimp only at hm
      by_cases hc : (ra.short || qb) = true
      · rw [if_pos hc] at hm
        cases h3 : deref δ2 ra with
        | none => rw [h3] at hm; simp at hm
        | some d =>
          cases h4 : deref δ2 rb with
          | none => rw [h3, h4] at hm; simp at hm
          | some db =>
            rw [h3, h4] at hm
            cases db <;> simp only [reduceCtorEq] at hm
            rename_i i
            cases h5 : subR ra d i with
            | none => rw [h5] at hm; simp at hm
            | some rr =>
              rw [h5] at hm
              simp only [Option.some.injEq, Prod.mk.injEq] at hm
              obtain ⟨rfl, rfl⟩ := hm
              refine (Stk.start E).push n h1 (by simp [allShort]) fun x H1 S1 => ?_
              refine S1.push n h2 (by simpa [allShort] using hc) fun y H2 S2 => ?_
              rw [Bool.true_and] at S2
              obtain ⟨o2, ov, s2, E2, ⟨y', vr, oy, oxx, e1, hy, ⟨x', vr2, ox, onil, e2, hx, ⟨e3, e4⟩, e5⟩, e6⟩, w2⟩ := S2
              subst e4 e5 e6 e3
              cases e2; cases e1
              obtain ⟨_, ry, _⟩ := hy.deref E2 h4
              obtain ⟨rfl, rfl⟩ := ry
              obtain ⟨od, rx, _⟩ := hx.deref E2 h3
              have wr : Own H o o2 := own_right w2
              have fin : ∀ (e : D) (v : V), e.imm = true → Rep X.F H2 e v [] → rr = .own e → Q v H2 := fun e v hi re er => by
                subst er
                exact k v H2 o2 [] ⟨s2, E2, re, wr.sub fun a => by simp⟩
              have seqs : ∀ (xs : List D) (vs : List V) (oo : List Addr), Reps X.F H2 xs vs oo → subD d i = atI xs i → (d = .lst xs ∨ ∀ ys, d ≠ .lst ys) → (∀ s p, ra = .at s p → d = .lst xs → ∀ v, atI vs i = some v → ∀ j, ixN xs.length i = some j → vs[j]? = some v → Held X.F H2 σ (.at s (p ++ [j])) v []) →
                  ∃ v, atI vs i = some v ∧ Q v H2 := fun xs vs oo rs hd hdl hp => by
                unfold subR at h5
                rw [hd] at h5
                cases he : atI xs i with
                | none => rw [he] at h5; simp at h5
                | some e =>
                  rw [he] at h5; dsimp only at h5
                  obtain ⟨v, o1, hv, re, j, hj, hvj, _⟩ := rs.atI he
                  refine ⟨v, hv, ?_⟩
                  by_cases hi : e.imm = true
                  · rw [if_pos hi] at h5
                    have := re.imm hi
                    subst this
                    exact fin e v hi re (Option.some.inj h5).symm
                  · rw [if_neg hi] at h5
                    cases hra : ra with
                    | own _ => rw [hra] at h5; simp at h5
                    | «at» s p =>
                      rw [hra] at h5
                      rcases hdl with hdl | hdl
                      · subst hdl
                        simp only [hj, Option.some.injEq] at h5
                        subst h5
                        exact k v H2 o2 [] ⟨s2, E2, hp s p hra rfl v hv j hj hvj, wr.sub fun a => by simp⟩
                      · cases d <;> simp only [reduceCtorEq] at h5
                        exact (hdl _ rfl).elim
              cases d with
              | tup xs =>
                obtain ⟨a1, vs, rfl, hq, rs⟩ := rx
                obtain ⟨v, hv, q⟩ := seqs xs vs _ rs rfl (.inr fun _ z => nomatch z) (fun _ _ _ z => nomatch z)
                exact .inr (.inl ⟨a1, vs, i, v, rfl, rfl, hq, hv, q⟩)
              | lst xs =>
                obtain ⟨a1, vs, o', rfl, hq, rs, _⟩ := rx
                obtain ⟨v, hv, q⟩ := seqs xs vs _ rs rfl (.inl rfl) (fun s p era _ v hv j hj hvj => by
                  subst era
                  obtain ⟨_, u, hu, hp⟩ := hx
                  exact ⟨rfl, u, hu, hp.snoc hq hvj⟩)
                exact .inl ⟨a1, vs, i, v, rfl, rfl, .of hq, hv, q⟩
              | frz xs =>
                obtain ⟨a1, vs, rfl, hq, rs, _⟩ := rx
                obtain ⟨v, hv, q⟩ := seqs xs vs _ rs rfl (.inr fun _ z => nomatch z) (fun _ _ _ z => nomatch z)
                exact .inl ⟨a1, vs, i, v, rfl, rfl, hq.sq, hv, q⟩
              | str z =>
                obtain ⟨rfl, ⟨hz, hz2⟩, _⟩ := rx
                simp only [subR, subD] at h5
                cases hc2 : atI z.cps.toList i with
                | none => rw [hc2] at h5; simp at h5
                | some c =>
                  rw [hc2] at h5
                  simp only [D.imm, if_true, Option.some.injEq] at h5
                  exact .inr (.inr ⟨z, i, c, rfl, rfl, hz, hc2, fin (.str ⟨#[c]⟩) _ rfl ⟨rfl, strOk_at hz2 hc2, rfl⟩ h5.symm⟩)
              | _ => simp [subR, subD] at h5
      · rw [if_neg hc] at hm; simp at hm
end
end Z


set_option Elab.async false
set_option linter.all false
set_option maxRecDepth 100000
/-! tests, choices, slices, calls of the program's own defs -/
namespace Z
open PySem PySem.Spec PyProof.Rows L2

theorem Step.weak {H H' : Hp} {q q' : Bool} {o : List Addr} (s : Step H H' (Wq q o)) (h : q' = true → q = true) : Step H H' (Wq q' o) := by
  cases q' with
  | true => rw [h rfl] at s; exact s
  | false => exact s.mono Wq_sub

/-! ### tests -/
abbrev DenT := DE → Option (Bool × DE)
def truthD : D → Option Bool
  | .non => some false
  | .bl b => some b
  | .int i => some (i != 0)
  | .str x => some ((x.length : Int) != 0)
  | .tup xs => some (!xs.isEmpty)
  | .lst xs => some (!xs.isEmpty)
  | .frz xs => some (!xs.isEmpty)
  | _ => none
def dTv (m : Den) : DenT := fun δ => match m δ with
  | some (r, δ1) => match deref δ1 r with
    | some d => match truthD d with
      | some b => some (b, δ1)
      | none => none
    | none => none
  | none => none
def dAnd (ma mb : DenT) : DenT := fun δ => match ma δ with
  | some (true, δ1) => mb δ1
  | x => x
def dOr (ma mb : DenT) : DenT := fun δ => match ma δ with
  | some (false, δ1) => mb δ1
  | x => x
def dNot (ma : DenT) : DenT := fun δ => match ma δ with
  | some (b, δ1) => some (!b, δ1)
  | none => none
section
variable {K : Fw} {κ : Kx} {σ : L2.St} {H : Hp} {q qa qb : Bool} {ma mb : DenT} {o : List Addr} {δ δ1 : DE} {b : Bool}
theorem empty_reps {xs : List D} {vs : List V} {o : List Addr} (h : Reps K H xs vs o) : (!vs.isEmpty) = !xs.isEmpty := by
  cases xs with
  | nil => rw [h.1]; rfl
  | cons x xs => obtain ⟨v, vr, _, _, rfl, _⟩ := h; rfl
theorem truth_ok {d : D} {v : V} {o : List Addr} {b : Bool} (r : Rep K H d v o) (h : truthD d = some b) : TruV K v H b := by
  cases d with
  | non => obtain ⟨rfl, _⟩ := r; exact (Option.some.inj h).symm
  | bl b => obtain ⟨rfl, _⟩ := r; exact (Option.some.inj h).symm
  | int i => obtain ⟨rfl, _⟩ := r; exact (Option.some.inj h).symm
  | str x => obtain ⟨rfl, hx, _⟩ := r; exact ⟨hx.1, (Option.some.inj h).symm⟩
  | tup xs =>
    obtain ⟨a, vs, rfl, hq, rs⟩ := r
    exact .inr (.inl ⟨vs, hq, by rw [empty_reps rs]; exact (Option.some.inj h).symm⟩)
  | lst xs =>
    obtain ⟨a, vs, o', rfl, hq, rs, _⟩ := r
    exact .inl ⟨vs, .of hq, by rw [empty_reps rs]; exact (Option.some.inj h).symm⟩
  | frz xs =>
    obtain ⟨a, vs, rfl, hq, rs, _⟩ := r
    exact .inl ⟨vs, hq.sq, by rw [empty_reps rs]; exact (Option.some.inj h).symm⟩
  | dic _ _ => cases h
  | obj _ _ _ => cases h
theorem PostA.seq {H1 H2 : Hp} {o1 o2 : List Addr} {δ2 : DE} (P : PostA κ H σ qa o δ1 H1 o1) (P2 : PostA κ H1 σ qb o1 δ2 H2 o2) : PostA κ H σ (qa && qb) o δ2 H2 o2 :=
  ⟨P.step.seq P.own P2.step, P2.env, P.own.trans P.step P2.own⟩
theorem PostA.weak {q' : Bool} {H1 : Hp} {o1 : List Addr} (P : PostA κ H σ q o δ1 H1 o1) (h : q' = true → q = true) : PostA κ H σ q' o δ1 H1 o1 := ⟨P.step.weak h, P.env, P.own⟩
theorem PostA.post {H1 H2 : Hp} {o1 o2 ov : List Addr} {δ2 : DE} {r : R} {v : V} (P : PostA κ H σ qa o δ1 H1 o1) (P2 : Post κ H1 σ qb o1 r δ2 v H2 o2 ov) : Post κ H σ (qa && qb) o r δ2 v H2 o2 ov :=
  ⟨P.step.seq P.own P2.step, P2.env, P2.held, P.own.trans P.step P2.own⟩
theorem Post.weak {q' : Bool} {r : R} {v : V} {H1 : Hp} {o1 ov : List Addr} (P : Post κ H σ q o r δ1 v H1 o1 ov) (h : q' = true → q = true) : Post κ H σ q' o r δ1 v H1 o1 ov := ⟨P.step.weak h, P.env, P.held, P.own⟩
/-- another test behind a test -/
theorem TT.then_ {H0 : Hp} {o0 : List Addr} {Q : Bool → Hp → Prop} (n0 : Nd o0) (P : PostA κ H0 σ qa o0 δ H o) (hm : mb δ = some (b, δ1)) (k : ∀ H' o', PostA κ H0 σ (qa && qb) o0 δ1 H' o' → Q b H') : TT κ qb mb σ H Q :=
  ⟨δ, o, b, δ1, P.env, P.own.nd n0, hm, fun H' o' P2 => k H' o' (P.seq P2)⟩
theorem T.then_ {H0 : Hp} {o0 : List Addr} {Q : VK} {m : Den} {r : R} (n0 : Nd o0) (P : PostA κ H0 σ qa o0 δ H o) (hm : m δ = some (r, δ1)) (k : ∀ v H' o' ov, Post κ H0 σ (qa && qb) o0 r δ1 v H' o' ov → Q v H') : T κ qb m σ H Q :=
  ⟨δ, o, r, δ1, P.env, P.own.nd n0, hm, fun v H' o' ov P2 => k v H' o' ov (P.post P2)⟩
end
section
variable {X : Cx} {a b c : Expr} {rest : List Expr} {q qa qb qc : Bool} {m ma' mb' : Den} {ma mb mc : DenT} {pos : Pos}
theorem z_tv (ha : PE X a (T (kx X) q m)) (he : ∀ whole, isTrue a X.env whole = (do let v ← whole; standAt a.pos; holding [v] (truthy v)) := by intro _; rfl) : PT X a (TT (kx X) q (dTv m)) :=
  PT.imp (pt_truth ha he) fun σ H Q h => by
    obtain ⟨δ, o, b, δ', E, n, hm, k⟩ := h
    simp only [dTv] at hm
    cases h1 : m δ with
    | none => rw [h1] at hm; simp at hm
    | some p =>
      obtain ⟨r, δ1⟩ := p
      rw [h1] at hm; dsimp only at hm
      cases h2 : deref δ1 r with
      | none => rw [h2] at hm; simp at hm
      | some d =>
        rw [h2] at hm; dsimp only at hm
        cases h3 : truthD d with
        | none => rw [h3] at hm; simp at hm
        | some b' =>
          rw [h3] at hm
          simp only [Option.some.injEq, Prod.mk.injEq] at hm
          obtain ⟨rfl, rfl⟩ := hm
          refine ⟨δ, o, r, δ1, E, n, h1, fun v H1 o1 ov P => ?_⟩
          obtain ⟨o', rp, _⟩ := P.held.deref P.env h2
          exact ⟨_, truth_ok rp h3, k H1 o1 ⟨P.step, P.env, own_right P.own⟩⟩
def dTb (m : Den) : DenT := fun δ => match m δ with
  | some (.own (.bl b), δ1) => some (b, δ1)
  | _ => none
theorem isbl {α : Type} {m : Den} {δ : DE} {z : α} {f : Bool → DE → Option α} {g : Option (R × DE) → Option α} (hg : ∀ b δ1, g (some (.own (.bl b), δ1)) = f b δ1) (hn : ∀ x, (∀ b δ1, x ≠ some (.own (.bl b), δ1)) → g x = none) (h : g (m δ) = some z) :
    ∃ b δ1, m δ = some (.own (.bl b), δ1) ∧ f b δ1 = some z := by
  by_cases hx : ∃ b δ1, m δ = some (.own (.bl b), δ1)
  · obtain ⟨b, δ1, e⟩ := hx
    exact ⟨b, δ1, e, by rw [← hg, ← e]; exact h⟩
  · rw [hn _ fun b δ1 e => hx ⟨b, δ1, e⟩] at h
    cases h
/-- a comparison as a test -/
theorem z_tcmp {op : CmpOp} {f : List D → Option D} (ho : OpR X (compareOp op) fun x y => Pr X.F f [x, y]) (ha : PE X a (T (kx X) qa ma')) (hb : PE X b (T (kx X) qb mb')) (hm : behindInMarks op b = false := by first | exact nomark _ | rfl) : PT X (.Compare a [op] [b] pos) (TT (kx X) (qa && (qb && true)) (dTb (dCall f (d2 qb ma' mb')))) :=
  PT.imp (pt_cmpR ho ha hb hm) fun σ H Q h => by
    obtain ⟨δ, o, b', δ', E, n, hm, k⟩ := h
    obtain ⟨c, δ1, h1, h2⟩ := isbl (m := dCall f (d2 qb ma' mb')) (δ := δ) (g := fun x => match x with | some (.own (.bl b), δ1) => some (b, δ1) | _ => none) (f := fun b δ1 => some (b, δ1))
      (fun b δ1 => rfl) (fun x hx => by split <;> first | rfl | exact (hx _ _ rfl).elim) hm
    simp only [Option.some.injEq, Prod.mk.injEq] at h2
    obtain ⟨rfl, rfl⟩ := h2
    refine t_two (Q := fun x y H2 => Pr X.F f [x, y] H2 fun x H' => ∃ k, x = .bl k ∧ Q k H') ((TAr.imp (t_call (f := f) (Q := fun x H' => ∃ k, x = .bl k ∧ Q k H') ⟨δ, o, .own (.bl c), δ1, E, n, h1, fun v H1 o1 ov P => ?_⟩)) fun vs H1 p x y e => by rw [← e]; exact p)
    obtain ⟨rfl, _⟩ := P.held
    exact ⟨c, rfl, k H1 o1 ⟨P.step, P.env, own_right P.own⟩⟩
theorem z_not (ha : PT X a (TT (kx X) qa ma)) : PT X (.UnaryOp .Not a pos) (TT (kx X) qa (dNot ma)) :=
  PT.imp (pt_not ha) fun σ H Q h => by
    obtain ⟨δ, o, b, δ', E, n, hm, k⟩ := h
    simp only [dNot] at hm
    cases h1 : ma δ with
    | none => rw [h1] at hm; simp at hm
    | some p =>
      obtain ⟨c, δ1⟩ := p
      rw [h1] at hm
      simp only [Option.some.injEq, Prod.mk.injEq] at hm
      obtain ⟨rfl, rfl⟩ := hm
      exact ⟨δ, o, c, δ1, E, n, h1, k⟩
theorem z_wor1 (ha : PT X a (TT (kx X) qa ma)) : PW X (.BoolOp .Or [a] pos) (TT (kx X) qa ma) := pw_or1 ha
theorem z_wor (ha : PT X a (TT (kx X) qa ma)) (hb : PW X (.BoolOp .Or (b :: rest) pos) (TT (kx X) qb mb)) : PW X (.BoolOp .Or (a :: b :: rest) pos) (TT (kx X) (qa && qb) (dOr ma mb)) :=
  PW.imp (pw_or ha hb) fun σ H Q h => by
    obtain ⟨δ, o, bb, δ', E, n, hm, k⟩ := h
    simp only [dOr] at hm
    cases h1 : ma δ with
    | none => rw [h1] at hm; simp at hm
    | some p =>
      obtain ⟨c, δ1⟩ := p
      rw [h1] at hm
      refine ⟨δ, o, c, δ1, E, n, h1, fun H1 o1 P => ?_⟩
      cases c with
      | false =>
        rw [if_neg Bool.false_ne_true]
        exact TT.then_ n P hm k
      | true =>
        rw [if_pos rfl]
        simp only [Option.some.injEq, Prod.mk.injEq] at hm
        obtain ⟨rfl, rfl⟩ := hm
        exact k H1 o1 (P.weak (by simp +contextual))
/-- a if c else b -/
def dIfE (mc : DenT) (ma mb : Den) : Den := fun δ => match mc δ with
  | some (true, δ1) => ma δ1
  | some (false, δ1) => mb δ1
  | none => none
/-- and, or, not as values: of True and False -/
def dAndV (ma mb : Den) : Den := fun δ => match ma δ with
  | some (.own (.bl true), δ1) => mb δ1
  | some (.own (.bl false), δ1) => some (.own (.bl false), δ1)
  | _ => none
def dOrV (ma mb : Den) : Den := fun δ => match ma δ with
  | some (.own (.bl false), δ1) => mb δ1
  | some (.own (.bl true), δ1) => some (.own (.bl true), δ1)
  | _ => none
def dNotV (ma : Den) : Den := fun δ => match ma δ with
  | some (.own (.bl b), δ1) => some (.own (.bl (!b)), δ1)
  | _ => none
theorem Post.toA {κ : Kx} {H : Hp} {σ : L2.St} {o : List Addr} {r : R} {δ1 : DE} {v : V} {H1 : Hp} {o1 ov : List Addr} (P : Post κ H σ q o r δ1 v H1 o1 ov) : PostA κ H σ q o δ1 H1 o1 := ⟨P.step, P.env, own_right P.own⟩
theorem z_one {op : BoolOp} (ha : PE X a (T (kx X) qa ma')) : PE X (.BoolOp op [a] pos) (T (kx X) qa ma') := pe_one ha
theorem z_and (ha : PE X a (T (kx X) qa ma')) (hb : PE X (.BoolOp .And (b :: rest) pos) (T (kx X) qb mb')) : PE X (.BoolOp .And (a :: b :: rest) pos) (T (kx X) (qa && qb) (dAndV ma' mb')) :=
  PE.imp (pe_and ha hb) fun σ H Q h => by
    obtain ⟨δ, o, r, δ', E, n, hm, k⟩ := h
    obtain ⟨c, δ1, h1, h2⟩ := isbl (m := ma') (δ := δ) (g := fun x => match x with | some (.own (.bl true), δ1) => mb' δ1 | some (.own (.bl false), δ1) => some (.own (.bl false), δ1) | _ => none) (f := fun b δ1 => if b then mb' δ1 else some (.own (.bl false), δ1))
      (fun b δ1 => by cases b <;> rfl) (fun x hx => by split <;> first | rfl | exact (hx _ _ rfl).elim) hm
    refine ⟨δ, o, _, δ1, E, n, h1, fun v H1 o1 ov P => ?_⟩
    obtain ⟨rfl, rfl⟩ := P.held
    refine ⟨c, rfl, ?_⟩
    cases c with
    | true =>
      rw [if_pos rfl] at h2 ⊢
      exact T.then_ n P.toA h2 k
    | false =>
      rw [if_neg Bool.false_ne_true] at h2 ⊢
      simp only [Option.some.injEq, Prod.mk.injEq] at h2
      obtain ⟨rfl, rfl⟩ := h2
      exact k _ H1 o1 [] (P.weak (by simp +contextual))
theorem z_notV (ha : PE X a (T (kx X) qa ma')) : PE X (.UnaryOp .Not a pos) (T (kx X) qa (dNotV ma')) :=
  PE.imp (pe_not ha) fun σ H Q h => by
    obtain ⟨δ, o, r, δ', E, n, hm, k⟩ := h
    obtain ⟨c, δ1, h1, h2⟩ := isbl (m := ma') (δ := δ) (g := fun x => match x with | some (.own (.bl b), δ1) => some (R.own (.bl (!b)), δ1) | _ => none) (f := fun b δ1 => some (.own (.bl (!b)), δ1))
      (fun b δ1 => rfl) (fun x hx => by split <;> first | rfl | exact (hx _ _ rfl).elim) hm
    refine ⟨δ, o, _, δ1, E, n, h1, fun v H1 o1 ov P => ?_⟩
    obtain ⟨rfl, rfl⟩ := P.held
    simp only [Option.some.injEq, Prod.mk.injEq] at h2
    obtain ⟨rfl, rfl⟩ := h2
    exact ⟨c, rfl, k _ H1 o1 [] ⟨P.step, P.env, ⟨rfl, rfl⟩, P.own⟩⟩
end
end Z


set_option Elab.async false
set_option linter.all false
set_option maxRecDepth 100000
/-! slices; calls of the program's own defs -/
namespace Z
open PySem PySem.Spec PyProof.Rows L2

/-! ### slices -/
def cutG {α : Type} (xs : List α) (lo hi : Option Int) : List α := (xs.drop (HT.sIx xs.length 0 lo)).take (HT.sIx xs.length xs.length hi - HT.sIx xs.length 0 lo)
theorem cutG_v (xs : List V) (lo hi : Option Int) : cutG xs lo hi = cutV xs lo hi := rfl
def sliceD (lo hi : Option Int) : D → Option D
  | .tup xs => if D.imms xs then some (.tup (cutG xs lo hi)) else none
  | .lst xs => if D.imms xs then some (.lst (cutG xs lo hi)) else none
  | .frz xs => some (.lst (cutG xs lo hi))
  | .str x => some (.str (cutS x lo hi))
  | _ => none
abbrev DenO := DE → Option (Option Int × DE)
def dNoP : DenO := fun δ => some (none, δ)
def dPart (m : Den) : DenO := fun δ => match m δ with
  | some (.own (.int i), δ1) => some (some i, δ1)
  | _ => none
def TOm (κ : Kx) (q : Bool) (m : DenO) : L2.TO := fun σ H Q => ∃ δ o x δ', Envs κ H σ δ o ∧ Nd o ∧ m δ = some (x, δ') ∧ ∀ H' o', PostA κ H σ q o δ' H' o' → Q x H'
def dSlice (qq : Bool) (m : Den) (ml mh : DenO) : Den := fun δ => match m δ with
  | some (r, δ1) => match ml δ1 with
    | some (lo, δ2) => match mh δ2 with
      | some (hi, δ3) => if r.short || qq then match deref δ3 r with
        | some d => match sliceD lo hi d with
          | some e => some (.own e, δ3)
          | none => none
        | none => none
        else none
      | none => none
    | none => none
  | none => none
section
variable {X : Cx} {e : Expr} {lo hi : Option Expr} {q ql qh : Bool} {m : Den} {ml mh : DenO}
theorem PO.imp' {t t' : L2.TO} (h : PO X lo t) (i : ∀ σ H Q, t' σ H Q → t σ H Q) : PO X lo t' := ⟨fun pins s σ H Q I hw => h.run pins s σ H Q I (i _ _ _ hw)⟩
theorem z_ponone : PO X none (TOm (kx X) true dNoP) := PO.imp' po_none fun σ H Q h => by
  obtain ⟨δ, o, x, δ', E, n, hm, k⟩ := h
  simp only [dNoP, Option.some.injEq, Prod.mk.injEq] at hm
  obtain ⟨rfl, rfl⟩ := hm
  exact k H o ⟨Step.refl _ _, E, Own.refl _ _⟩
theorem z_posome (h : PE X e (T (kx X) q m)) : PO X (some e) (TOm (kx X) q (dPart m)) := PO.imp' (po_some h) fun σ H Q h => by
  obtain ⟨δ, o, x, δ', E, n, hm, k⟩ := h
  by_cases hx : ∃ i δ1, m δ = some (.own (.int i), δ1)
  · obtain ⟨i, δ1, e1⟩ := hx
    simp only [dPart, e1, Option.some.injEq, Prod.mk.injEq] at hm
    obtain ⟨rfl, rfl⟩ := hm
    refine ⟨δ, o, _, δ1, E, n, e1, fun v H1 o1 ov P => ?_⟩
    obtain ⟨rfl, _⟩ := P.held
    exact ⟨i, rfl, k H1 o1 P.toA⟩
  · exfalso
    simp only [dPart] at hm
    split at hm
    · rename_i i δ1 e1; exact hx ⟨i, δ1, e1⟩
    · cases hm
theorem reps_cut {K : Fw} {H : Hp} {xs : List D} {vs : List V} (lo hi : Option Int) (h : Reps K H xs vs []) : Reps K H (cutG xs lo hi) (cutV vs lo hi) [] := by
  rw [← cutG_v]
  unfold cutG
  rw [h.length]
  exact Reps.take _ (Reps.drop _ h)
theorem cut_whole {α : Type} (xs : List α) (lo hi : Option Int) (h1 : HT.sIx xs.length 0 lo = 0) (h2 : HT.sIx xs.length xs.length hi = xs.length) : cutG xs lo hi = xs := by
  unfold cutG
  rw [h1, h2]
  simp
theorem cutS_len (x : Str) (lo hi : Option Int) : (cutS x lo hi).length ≤ x.length := cutS_length x lo hi
theorem z_slice {pos p2 : Pos} (he : PE X e (T (kx X) q m)) (hl : PO X lo (TOm (kx X) ql ml)) (hh : PO X hi (TOm (kx X) qh mh)) : PE X (.Subscript e (.Slice lo hi none p2) pos) (T (kx X) (q && (ql && qh)) (dSlice (ql && qh) m ml mh)) := by
  refine PE.imp (pe_slice (SlR.or sl_tupA (SlR.or sl_list sl_str)) he hl hh) fun σ H Q h => ?_
  obtain ⟨δ, o, r, δ', E, n, hm, k⟩ := h
  simp only [dSlice] at hm
  cases h1 : m δ with
  | none => rw [h1] at hm; simp at hm
  | some p1 =>
    obtain ⟨ra, δ1⟩ := p1
    rw [h1] at hm; dsimp only at hm
    cases h2 : ml δ1 with
    | none => rw [h2] at hm; simp at hm
    | some p2 =>
      obtain ⟨lo', δ2⟩ := p2
      rw [h2] at hm; dsimp only at hm
      cases h3 : mh δ2 with
      | none => rw [h3] at hm; simp at hm
      | some p3 =>
        obtain ⟨hi', δ3⟩ := p3
        rw [h3] at hm; dsimp only at hm
        by_cases hc : (ra.short || (ql && qh)) = true
        · rw [if_pos hc] at hm
          cases h4 : deref δ3 ra with
          | none => rw [h4] at hm; simp at hm
          | some d =>
            rw [h4] at hm; dsimp only at hm
            cases h5 : sliceD lo' hi' d with
            | none => rw [h5] at hm; simp at hm
            | some e' =>
              rw [h5] at hm
              simp only [Option.some.injEq, Prod.mk.injEq] at hm
              obtain ⟨rfl, rfl⟩ := hm
              refine ⟨δ, o, ra, δ1, E, n, h1, fun x H1 o1 ov P => ?_⟩
              refine ⟨δ1, o1, lo', δ2, P.env, nd_of P.own n, h2, fun H2 o2 P2 => ?_⟩
              refine ⟨δ2, o2, hi', δ3, P2.env, P2.own.nd (nd_of P.own n), h3, fun H3 o3 P3 => ?_⟩
              have P23 := P2.seq P3
              have hld : Held X.F H3 σ ra x ov := P.held.step P23.step (Wq_ok P.env) (fun a ha hw => apart_of P.own n a ha (Wq_sub a hw)) (by
                simp only [Bool.or_eq_true] at hc
                rcases hc with hc | hc
                · exact .inl hc
                · right; rw [hc]; rfl)
              obtain ⟨od, rx, _⟩ := hld.deref P23.env h4
              have s3 := P.step.seq (own_right P.own) P23.step
              have w3 : Own H o ([] ++ o3) := (own_right P.own).trans P.step P23.own
              have fin : ∀ (v : V) (H4 : Hp) (ov : List Addr), (∀ a u, H3 a = some u → H4 a = some u) → Rep X.F H4 e' v ov → Fresh H3 ov → Q v H4 := fun v H4 ov hs rr f => k v H4 o3 ov (post_pure (ov1 := []) s3 P23.env w3 hs rr f)
              cases d with
              | tup xs =>
                simp only [sliceD] at h5
                by_cases hi : D.imms xs = true
                · rw [if_pos hi] at h5
                  cases (Option.some.inj h5)
                  obtain ⟨a1, vs, rfl, hq, rs⟩ := rx
                  have := rs.imm hi; subst this
                  refine .inl ⟨a1, vs, rfl, hq, fun hw => ?_, fun hw p hp => ?_⟩
                  · refine fin _ H3 [] (fun _ _ e => e) ⟨a1, vs, rfl, hq, ?_⟩ fresh_nil
                    have e := cut_whole xs lo' hi' (by rw [← rs.length]; exact hw.1) (by rw [← rs.length]; exact hw.2)
                    rw [e]; exact rs
                  · exact fin _ _ [] (new_same hp) ⟨p, _, rfl, .of upd_same, (reps_cut lo' hi' rs).same (new_same hp)⟩ fresh_nil
                · rw [if_neg hi] at h5; simp at h5
              | lst xs =>
                simp only [sliceD] at h5
                by_cases hi : D.imms xs = true
                · rw [if_pos hi] at h5
                  cases (Option.some.inj h5)
                  obtain ⟨a1, vs, o', rfl, hq, rs, _⟩ := rx
                  have := rs.imm hi; subst this
                  refine .inr (.inl ⟨a1, vs, rfl, .of hq, fun p hp => ?_⟩)
                  exact fin _ _ [p] (new_same hp) ⟨p, _, [], rfl, upd_same, (reps_cut lo' hi' rs).same (new_same hp), rfl⟩ (fresh_one hp)
                · rw [if_neg hi] at h5; simp at h5
              | frz xs =>
                simp only [sliceD] at h5
                cases (Option.some.inj h5)
                obtain ⟨a1, vs, rfl, hq, rs, _⟩ := rx
                refine .inr (.inl ⟨a1, vs, rfl, hq.sq, fun p hp => ?_⟩)
                exact fin _ _ [p] (new_same hp) ⟨p, _, [], rfl, upd_same, (reps_cut lo' hi' rs).same (new_same hp), rfl⟩ (fresh_one hp)
              | str z =>
                simp only [sliceD] at h5
                cases (Option.some.inj h5)
                obtain ⟨rfl, hz, _⟩ := rx
                exact .inr (.inr ⟨z, rfl, hz.1, fin _ H3 [] (fun _ _ e => e) ⟨rfl, ⟨Nat.le_trans (cutS_len z lo' hi') hz.1, strOk_of fun c hc => strOk_mem hz.2 (List.mem_of_mem_drop (List.mem_of_mem_take hc))⟩, rfl⟩ fresh_nil⟩)
              | _ => simp [sliceD] at h5
        · rw [if_neg hc] at hm; simp at hm
end

/-! ### calls of own defs -/
def roots : List R → List Nat
  | [] => []
  | .own _ :: rs => roots rs
  | .at i _ :: rs => i :: roots rs
def rootsOk : List R → Bool
  | [] => true
  | .own _ :: rs => rootsOk rs
  | .at i _ :: rs => !(roots rs).contains i && rootsOk rs
/-- what the call left of its arguments, put back -/
def puts : DE → List R → List (Option D) → Option DE
  | δ, [], [] => some δ
  | δ, .own _ :: rs, _ :: fs => puts δ rs fs
  | δ, .at i p :: rs, f :: fs => match δ[i]? with
    | some (some d) => match puts (δ.set i none) rs fs with
      | some δ2 => match f with
        | some e => match setP p d e with
          | some d' => some (δ2.set i (some d'))
          | none => none
        | none => match p with
          | [] => some δ2
          | _ :: _ => none
      | none => none
    | _ => none
  | _, _, _ => none
theorem puts_length : ∀ {rs : List R} {δ δ2 : DE} {fs : List (Option D)}, puts δ rs fs = some δ2 → δ2.length = δ.length
  | [], δ, δ2, [], h => by cases (Option.some.inj h); rfl
  | [], _, _, _ :: _, h => by simp [puts] at h
  | .own _ :: rs, δ, δ2, [], h => by simp [puts] at h
  | .own _ :: rs, δ, δ2, f :: fs, h => puts_length (rs := rs) (fs := fs) h
  | .at i p :: rs, δ, δ2, [], h => by simp [puts] at h
  | .at i p :: rs, δ, δ2, f :: fs, h => by
    simp only [puts] at h
    split at h
    · split at h
      · rename_i d hd δ3 h3
        have ih := puts_length h3
        rw [List.length_set] at ih
        split at h
        · split at h
          · cases (Option.some.inj h); rw [List.length_set]; exact ih
          · cases h
        · split at h
          · cases (Option.some.inj h); exact ih
          · cases h
      · cases h
    · cases h
theorem deref_set {δ : DE} {i : Nat} {x : Option D} : ∀ {r : R}, (∀ p, r ≠ .at i p) → deref (δ.set i x) r = deref δ r
  | .own _, _ => rfl
  | .at j p, h => by
    have : i ≠ j := fun e => h p (by rw [e])
    simp only [deref]
    rw [List.getElem?_set_ne this]
theorem derefs_set {δ : DE} {i : Nat} {x : Option D} : ∀ {rs : List R}, i ∉ roots rs → derefs (δ.set i x) rs = derefs δ rs
  | [], _ => rfl
  | .own d :: rs, h => by
    simp only [derefs]
    rw [derefs_set (rs := rs) h]; rfl
  | .at j p :: rs, h => by
    simp only [roots, List.mem_cons, not_or] at h
    simp only [derefs]
    rw [derefs_set (rs := rs) h.2, deref_set fun q e => h.1 (by cases e; rfl)]
section
variable {K : Fw} {κ : Kx} {H : Hp} {σ : List (Option V)}
theorem take_args : ∀ {rs : List R} {vs : List V} {ov o : List Addr} {δ : DE} {ds : List D}, Envs κ H σ δ o → HeldL κ.K H σ rs vs ov → derefs δ rs = some ds → rootsOk rs = true →
    ∃ oA oR, Reps κ.K H ds vs oA ∧ (∀ a, oA.count a + oR.count a = ov.count a + o.count a) ∧
      ∀ H' fs of_, Envs ⟨κ.K, .none⟩ H' (vs.map some) fs of_ → Fr H H' oR → ∀ δ2, puts δ rs fs = some δ2 → ∃ o2, Envs κ H' σ δ2 o2 ∧ ∀ a, o2.count a ≤ of_.count a + oR.count a
  | [], vs, ov, o, δ, ds, E, hl, e, _ => by
    cases (Option.some.inj e)
    obtain ⟨rfl, rfl⟩ := hl
    refine ⟨[], o, ⟨rfl, rfl⟩, by simp, fun H' fs of_ E' f δ2 hp => ?_⟩
    cases fs with
    | nil =>
      cases (Option.some.inj hp)
      exact ⟨o, E.fr f, fun a => by omega⟩
    | cons x fs => simp [puts] at hp
  | .own d :: rs, _, _, o, δ, ds, E, hl, e, hr => by
    obtain ⟨v, vr, o1, o2, rfl, h1, h2, rfl⟩ := hl
    simp only [derefs, deref] at e
    cases e2 : derefs δ rs with
    | none => rw [e2] at e; simp at e
    | some ds' =>
      rw [e2] at e
      cases (Option.some.inj e)
      obtain ⟨oA, oR, ra, hc, k⟩ := take_args E h2 e2 hr
      refine ⟨o1 ++ oA, oR, ⟨v, vr, o1, oA, rfl, h1, ra, rfl⟩, fun a => ?_, fun H' fs of_ E' f δ2 hp => ?_⟩
      · have := hc a
        simp only [List.count_append] at this ⊢
        omega
      · cases fs with
        | nil => simp [puts] at hp
        | cons x fs =>
          cases x with
          | none => exact k H' fs of_ E' f δ2 hp
          | some x =>
            obtain ⟨p1, p2, r1, E2, rfl⟩ := E'
            obtain ⟨o3, E3, c3⟩ := k H' fs p2 E2 f δ2 hp
            exact ⟨o3, E3, fun a => by have := c3 a; rw [List.count_append]; omega⟩
  | .at i p :: rs, _, _, o, δ, ds, E, hl, e, hr => by
    obtain ⟨v, vr, o1, o2, rfl, h1, h2, rfl⟩ := hl
    simp only [derefs] at e
    cases e1 : deref δ (.at i p) with
    | none => rw [e1] at e; simp at e
    | some d1 =>
      cases e2 : derefs δ rs with
      | none => rw [e1, e2] at e; simp at e
      | some ds' =>
        rw [e1, e2] at e
        cases (Option.some.inj e)
        simp only [rootsOk, Bool.and_eq_true, Bool.not_eq_true', List.contains_eq_mem, decide_eq_false_iff_not] at hr
        obtain ⟨hi, hr⟩ := hr
        simp only [deref] at e1
        cases hd : δ[i]? with
        | none => rw [hd] at e1; simp at e1
        | some od =>
          cases od with
          | none => rw [hd] at e1; simp at e1
          | some d =>
            rw [hd] at e1
            obtain ⟨v0, oa, oi, ob, hv0, rd, rfl, _, kn⟩ := E.at hd
            obtain ⟨rfl, u, hu, hp⟩ := h1
            rw [hv0] at hu; cases hu
            obtain ⟨oe, or1, re, hc1, k2⟩ := rd.path e1 hp
            have E1 := kn H Fr.rfl
            obtain ⟨oA, oR, ra, hc, k⟩ := take_args (δ := δ.set i none) E1 h2 (by rw [derefs_set hi]; exact e2) hr
            refine ⟨oe ++ oA, or1 ++ oR, ⟨v, vr, oe, oA, rfl, re, ra, rfl⟩, fun a => ?_, fun H' fs of_ E' f δ2 hp2 => ?_⟩
            · have h3 := hc a
              have h4 := hc1 a
              simp only [List.count_append, List.nil_append] at h3 ⊢
              omega
            · cases fs with
              | nil => simp [puts] at hp2
              | cons x fs =>
                simp only [puts, hd] at hp2
                cases hp3 : puts (δ.set i none) rs fs with
                | none => rw [hp3] at hp2; simp at hp2
                | some δ3 =>
                  rw [hp3] at hp2
                  have f2 : Fr _ H' oR := f.sub fun a ha => List.mem_append_right _ ha
                  have f1 : Fr _ H' or1 := f.sub fun a ha => List.mem_append_left _ ha
                  cases x with
                  | none =>
                    cases p with
                    | nil =>
                      cases (Option.some.inj hp2)
                      obtain ⟨o3, E3, c3⟩ := k H' fs of_ E' f2 _ hp3
                      exact ⟨o3, E3, fun a => by have := c3 a; rw [List.count_append]; omega⟩
                    | cons _ _ => simp at hp2
                  | some x =>
                    dsimp only at hp2
                    cases hs : setP p d x with
                    | none => rw [hs] at hp2; simp at hp2
                    | some d' =>
                      rw [hs] at hp2
                      cases (Option.some.inj hp2)
                      obtain ⟨p1, p2, r1, E2, rfl⟩ := E'
                      obtain ⟨o3, E3, c3⟩ := k H' fs p2 E2 f2 δ3 hp3
                      obtain ⟨o'', r'', c''⟩ := k2 H' x p1 d' r1 f1 hs
                      have hlen := puts_length hp3
                      rw [List.length_set] at hlen
                      obtain ⟨hil, _⟩ := List.getElem?_eq_some_iff.mp hd
                      obtain ⟨o4, E4, c4⟩ := Envs.set i E3 r'' (by omega)
                      have hset : σ.set i (some v0) = σ := by
                        obtain ⟨hl2, e3⟩ := List.getElem?_eq_some_iff.mp hv0
                        rw [← e3]; exact List.set_getElem_self hl2
                      rw [hset] at E4
                      refine ⟨o4, E4, fun a => ?_⟩
                      have g1 := c3 a
                      have g2 := c'' a
                      have g3 := c4 a
                      simp only [List.count_append] at g1 g2 g3 ⊢
                      omega
end
/-- what a def does: its result, and what is left of its arguments (none: not told) -/
abbrev Fn := List D → Option (D × List (Option D))
def spD (K : Fw) (m : Fn) : Sp := fun vs H Q _ => ∃ ds oA r fs, Reps K H ds vs oA ∧ Nd oA ∧ Tabs ⟨K, .none⟩ H ∧ m ds = some (r, fs) ∧
  ∀ v H' ov of_, Step H H' oA → Rep K H' r v ov → Envs ⟨K, .none⟩ H' (vs.map some) fs of_ → Own H oA (ov ++ of_) → Q v H'
def dUser (m : Fn) (ma : DE → Option (List R × DE)) : Den := fun δ => match ma δ with
  | some (rs, δ1) => if rootsOk rs then match derefs δ1 rs with
    | some ds => match m ds with
      | some (r, fs) => match puts δ1 rs fs with
        | some δ2 => some (.own r, δ2)
        | none => none
      | none => none
    | none => none
    else none
  | none => none
section
variable {X : Cx} {e : Expr} {es : List Expr} {q : Bool} {mr : DE → Option (List R × DE)} {m : Fn} {k : Nat} {f : Addr} {fd : FuncData} {ps : List Str} {x : Str} {p pos : Pos}
theorem t_user {σ : L2.St} {H : Hp} {Q : VK} (h : T (kx X) false (dUser m mr) σ H Q) : TAr (kx X) q mr σ H fun vs H1 => spD X.F m (vs ++ []) H1 Q E0 := by
  obtain ⟨δ, o, r, δ', E, n, hm, k⟩ := h
  simp only [dUser] at hm
  cases h1 : mr δ with
  | none => rw [h1] at hm; simp at hm
  | some p1 =>
    obtain ⟨rs, δ1⟩ := p1
    rw [h1] at hm; dsimp only at hm
    by_cases hr : rootsOk rs = true
    · rw [if_pos hr] at hm
      cases h2 : derefs δ1 rs with
      | none => rw [h2] at hm; simp at hm
      | some ds =>
        rw [h2] at hm; dsimp only at hm
        cases h3 : m ds with
        | none => rw [h3] at hm; simp at hm
        | some p3 =>
          obtain ⟨rr, fs⟩ := p3
          rw [h3] at hm; dsimp only at hm
          cases h4 : puts δ1 rs fs with
          | none => rw [h4] at hm; simp at hm
          | some δ2 =>
            rw [h4] at hm
            simp only [Option.some.injEq, Prod.mk.injEq] at hm
            obtain ⟨rfl, rfl⟩ := hm
            refine ⟨δ, o, rs, δ1, E, n, h1, fun vs H1 o1 ov1 s1 E1 hl w1 => ?_⟩
            obtain ⟨oA, oR, ra, hc, kp⟩ := take_args E1 hl h2 hr
            have n1 := w1.nd n
            have nA : Nd oA := fun a => by have h5 := hc a; have h6 := n1 a; rw [List.count_append] at h6; omega
            rw [List.append_nil]
            refine ⟨ds, oA, rr, fs, ra, nA, E1.tabs.bare, h3, fun v H2 ov of_ s2 rv E2 w2 => ?_⟩
            have hd1 : ∀ a ∈ oR, ∃ u, H1 a = some u ∧ Ow u := fun a ha => by
              have h5 := hc a
              have h6 : 0 < oR.count a := List.count_pos_iff.mpr ha
              have h7 : 0 < ov1.count a ∨ 0 < o1.count a := by omega
              exact h7.elim (fun z => hl.own a (List.count_pos_iff.mp z)) (fun z => E1.own a (List.count_pos_iff.mp z))
            have ap : ∀ a ∈ oR, a ∉ oA := fun a ha hb => by
              have h5 := hc a
              have h6 := n1 a
              have h7 : 0 < oR.count a := List.count_pos_iff.mpr ha
              have h8 : 0 < oA.count a := List.count_pos_iff.mpr hb
              rw [List.count_append] at h6
              omega
            have f : Fr H1 H2 oR := s2.fr (fun a ha => by obtain ⟨vs, e, how⟩ := ra.own a ha; exact ⟨_, e, how.1⟩) hd1 ap
            obtain ⟨o2, E3, c3⟩ := kp H2 fs of_ E2 f δ2 h4
            have s3 : Step H H2 o := by
              refine ⟨fun a u e hn hu => ?_, fun a e => s1.dom a (s2.dom a e), fun P g => s2.tab P (s1.tab P g)⟩
              have e1 := s1.keep a u e (fun z => hn (Wq_sub a z)) hu
              refine s2.keep a u e1 (fun z => ?_) hu
              have h5 := hc a
              have h6 : 0 < oA.count a := List.count_pos_iff.mpr z
              rcases w1 a with w | ⟨w, _⟩
              · rw [List.count_append] at w
                exact hn (List.count_pos_iff.mp (by omega))
              · rw [e] at w; cases w
            refine k v H2 o2 ov ⟨s3, E3, rv, fun a => ?_⟩
            have g1 := hc a
            have g2 := c3 a
            have g3 := w1 a
            have g4 := w2 a
            simp only [List.count_append] at g1 g2 g3 g4 ⊢
            rcases g4 with g4 | ⟨z, g4⟩
            · rcases g3 with g3 | ⟨z3, g3⟩
              · left; omega
              · right; exact ⟨z3, by omega⟩
            · have hz : oR.count a = 0 := List.count_eq_zero.mpr fun hb => by
                obtain ⟨u, e, _⟩ := hd1 a hb
                rw [z] at e; cases e
              exact .inr ⟨s1.dom a z, by omega⟩
    · rw [if_neg hr] at hm; simp at hm
theorem z_call (F : FnOk X.prog X.w X.K X.mg X.base CX0 k f fd ps (spD X.F m)) (hr : Room k X.A) (hg : Gl X x) (hm : X.mg x = some (.ref f)) (hk : PySem.W.keepIn X.K (.ref f) = true) (hb : Binds X.K fd ps [])
    (ha : PA X (e :: es) (TAr (kx X) q mr)) (hdb : (x == ("__debug__" : Str)) = false := by decide) (he : starEach (e :: es) X.env = (false, eval e X.env) :: starEach es X.env := by rfl) (hpl : (backTo pos (starEach es X.env)).any (·.1) = false := by rfl) :
    PE X (.Call (.Name x p) (e :: es) [] pos) (T (kx X) false (dUser m mr)) :=
  PE.imp (pe_call F hr hg hm hk hb .nil pass0 ha hdb he hpl) fun σ H Q h => t_user h
end
end Z


set_option Elab.async false
set_option linter.all false
set_option maxRecDepth 100000
/-! statements -/
namespace Z
open PySem PySem.Spec PyProof.Rows L2

inductive Out where
  | nx (δ : DE) | bk (δ : DE) | ct (δ : DE) | rt (d : D) (δ : DE)
  deriving Inhabited
abbrev Blk := DE → Option Out
structure PS0 (κ : Kx) (H : Hp) (σ : L2.St) (kp : Nat → Bool) (o : List Addr) (δ' : DE) (σ' : L2.St) (H' : Hp) (o' : List Addr) : Prop where
  step : Step H H' o
  env : Envs κ H' σ' δ' o'
  own : Own H o o'
  kept : ∀ i, kp i = true → σ'[i]? = σ[i]?
structure PR0 (κ : Kx) (H : Hp) (σ : L2.St) (kp : Nat → Bool) (o : List Addr) (d : D) (δ' : DE) (σ' : L2.St) (v : V) (H' : Hp) (o' ov : List Addr) : Prop where
  step : Step H H' o
  env : Envs κ H' σ' δ' o'
  rep : Rep κ.K H' d v ov
  own : Own H o (ov ++ o')
  kept : ∀ i, kp i = true → σ'[i]? = σ[i]?
def Fin (κ : Kx) (H : Hp) (σ : L2.St) (kp : Nat → Bool) (o : List Addr) (D' : Ends) : Out → Prop
  | .nx δ' => ∀ σ' H' o', PS0 κ H σ kp o δ' σ' H' o' → D'.nx σ' H'
  | .bk δ' => ∀ σ' H' o', PS0 κ H σ kp o δ' σ' H' o' → D'.bk σ' H'
  | .ct δ' => ∀ σ' H' o', PS0 κ H σ kp o δ' σ' H' o' → D'.ct σ' H'
  | .rt d δ' => ∀ σ' v H' o' ov, PR0 κ H σ kp o d δ' σ' v H' o' ov → D'.rt v H'
def TSm (κ : Kx) (kp : Nat → Bool) (m : Blk) : TS := fun D' σ H => ∃ δ o out, Envs κ H σ δ o ∧ Nd o ∧ m δ = some out ∧ Fin κ H σ kp o D' out
section
variable {K : Fw} {κ : Kx} {H H1 H2 : Hp} {σ σ1 σ2 : L2.St} {kp kp' : Nat → Bool} {o o1 o2 : List Addr} {δ δ1 δ2 : DE} {D' : Ends} {out : Out}
theorem PS0.trans (a : PS0 κ H σ kp o δ1 σ1 H1 o1) (b : PS0 κ H1 σ1 kp o1 δ2 σ2 H2 o2) : PS0 κ H σ kp o δ2 σ2 H2 o2 :=
  ⟨a.step.trans a.own b.step, b.env, a.own.trans a.step b.own, fun i h => (b.kept i h).trans (a.kept i h)⟩
theorem PS0.thenR {d : D} {v : V} {ov : List Addr} (a : PS0 κ H σ kp o δ1 σ1 H1 o1) (b : PR0 κ H1 σ1 kp o1 d δ2 σ2 v H2 o2 ov) : PR0 κ H σ kp o d δ2 σ2 v H2 o2 ov :=
  ⟨a.step.trans a.own b.step, b.env, b.rep, a.own.trans a.step b.own, fun i h => (b.kept i h).trans (a.kept i h)⟩
theorem PS0.refl (E : Envs κ H σ δ o) : PS0 κ H σ kp o δ σ H o := ⟨Step.refl _ _, E, Own.refl _ _, fun _ _ => rfl⟩
theorem PS0.weak (a : PS0 κ H σ kp' o δ1 σ1 H1 o1) (h : ∀ i, kp i = true → kp' i = true) : PS0 κ H σ kp o δ1 σ1 H1 o1 := ⟨a.step, a.env, a.own, fun i z => a.kept i (h i z)⟩
theorem PR0.weak {d : D} {v : V} {ov : List Addr} (a : PR0 κ H σ kp' o d δ1 σ1 v H1 o1 ov) (h : ∀ i, kp i = true → kp' i = true) : PR0 κ H σ kp o d δ1 σ1 v H1 o1 ov := ⟨a.step, a.env, a.rep, a.own, fun i z => a.kept i (h i z)⟩
theorem Fin.shift (h : Fin κ H σ kp o D' out) (a : PS0 κ H σ kp o δ1 σ1 H1 o1) : Fin κ H1 σ1 kp o1 D' out := by
  cases out with
  | nx δ' => exact fun σ' H' o' b => h σ' H' o' (a.trans b)
  | bk δ' => exact fun σ' H' o' b => h σ' H' o' (a.trans b)
  | ct δ' => exact fun σ' H' o' b => h σ' H' o' (a.trans b)
  | rt d δ' => exact fun σ' v H' o' ov b => h σ' v H' o' ov (a.thenR b)
theorem Fin.weak (h : Fin κ H σ kp o D' out) (w : ∀ i, kp i = true → kp' i = true) : Fin κ H σ kp' o D' out := by
  cases out with
  | nx δ' => exact fun σ' H' o' b => h σ' H' o' (b.weak w)
  | bk δ' => exact fun σ' H' o' b => h σ' H' o' (b.weak w)
  | ct δ' => exact fun σ' H' o' b => h σ' H' o' (b.weak w)
  | rt d δ' => exact fun σ' v H' o' ov b => h σ' v H' o' ov (b.weak w)
/-- behind an expression -/
theorem PostA.ps {q : Bool} (P : PostA κ H σ q o δ1 H1 o1) : PS0 κ H σ kp o δ1 σ H1 o1 := ⟨P.step.mono Wq_sub, P.env, P.own, fun _ _ => rfl⟩
end
def dSeq (a b : Blk) : Blk := fun δ => match a δ with
  | some (.nx δ1) => b δ1
  | x => x
def dNx : Blk := fun δ => some (.nx δ)
section
variable {X : Cx} {st : Stmt} {rest : List Stmt} {kp kp' : Nat → Bool} {m m1 m2 : Blk} {e : Expr} {q : Bool} {me : Den} {pos : Pos}
theorem z_nil : PSs X [] (TSm (kx X) kp dNx) := PSs.imp pss_nil fun D' σ H ⟨δ, o, out, E, n, hm, f⟩ => by
  cases (Option.some.inj hm)
  exact f σ H o (.refl E)
theorem z_cons (h1 : PS X st (TSm (kx X) kp m1)) (h2 : PSs X rest (TSm (kx X) kp m2)) : PSs X (st :: rest) (TSm (kx X) kp (dSeq m1 m2)) :=
  PSs.imp (pss_cons h1 h2) fun D' σ H ⟨δ, o, out, E, n, hm, f⟩ => by
    simp only [dSeq] at hm
    cases h1 : m1 δ with
    | none => rw [h1] at hm; simp at hm
    | some x =>
      rw [h1] at hm
      cases x with
      | nx δ1 => exact ⟨δ, o, .nx δ1, E, n, h1, fun σ' H' o' P => ⟨δ1, o', out, P.env, P.own.nd n, hm, f.shift P⟩⟩
      | bk δ1 => cases (Option.some.inj hm); exact ⟨δ, o, .bk δ1, E, n, h1, f⟩
      | ct δ1 => cases (Option.some.inj hm); exact ⟨δ, o, .ct δ1, E, n, h1, f⟩
      | rt d δ1 => cases (Option.some.inj hm); exact ⟨δ, o, .rt d δ1, E, n, h1, f⟩
theorem z_sone (h1 : PS X st (TSm (kx X) kp m1)) : PSs X [st] (TSm (kx X) kp m1) := pss_one h1
def dBk : Blk := fun δ => some (.bk δ)
def dCt : Blk := fun δ => some (.ct δ)
def dDrop (m : Den) : Blk := fun δ => match m δ with
  | some (_, δ1) => some (.nx δ1)
  | none => none
theorem z_expr (he : PE X e (T (kx X) q me)) (hs : swapsWith e none pos.line X.env = pure false := by rfl) : PS X (.Expr e pos) (TSm (kx X) kp (dDrop me)) :=
  PS.imp (ps_expr he hs) fun D' σ H ⟨δ, o, out, E, n, hm, f⟩ => by
    simp only [dDrop] at hm
    cases h1 : me δ with
    | none => rw [h1] at hm; simp at hm
    | some p =>
      obtain ⟨r, δ1⟩ := p
      rw [h1] at hm
      cases (Option.some.inj hm)
      exact ⟨δ, o, r, δ1, E, n, h1, fun v H1 o1 ov P => f σ H1 o1 P.toA.ps⟩
/-- a return: a datum of its own, or a name's list, which goes -/
def dRet (kp : Nat → Bool) (m : Den) : Blk := fun δ => match m δ with
  | some (.own d, δ1) => some (.rt d δ1)
  | some (.at i [], δ1) => if kp i then none else match δ1[i]? with
    | some (some d) => some (.rt d (δ1.set i none))
    | _ => none
  | _ => none
theorem z_ret (he : PE X e (T (kx X) q me)) : PS X (.Return (some e) pos) (TSm (kx X) kp (dRet kp me)) :=
  PS.imp (ps_ret he) fun D' σ H ⟨δ, o, out, E, n, hm, f⟩ => by
    simp only [dRet] at hm
    cases h1 : me δ with
    | none => rw [h1] at hm; simp at hm
    | some p =>
      obtain ⟨r, δ1⟩ := p
      rw [h1] at hm
      refine ⟨δ, o, r, δ1, E, n, h1, fun v H1 o1 ov P => ?_⟩
      cases r with
      | own d =>
        cases (Option.some.inj hm)
        exact f σ v H1 o1 ov ⟨P.step.mono Wq_sub, P.env, P.held, P.own, fun _ _ => rfl⟩
      | «at» i p =>
        cases p with
        | cons _ _ => simp at hm
        | nil =>
          dsimp only at hm
          by_cases hk : kp i = true
          · rw [if_pos hk] at hm; simp at hm
          · rw [if_neg hk] at hm
            cases hd : δ1[i]? with
            | none => rw [hd] at hm; simp at hm
            | some x =>
              cases x with
              | none => rw [hd] at hm; simp at hm
              | some d =>
                rw [hd] at hm
                cases (Option.some.inj hm)
                obtain ⟨v0, oa, oi, ob, hv0, rd, e0, _, kn⟩ := P.env.at hd
                obtain ⟨rfl, u, hu, hp⟩ := P.held
                rw [hv0] at hu; cases hu
                cases (show v = v0 from hp)
                refine f σ v H1 (oa ++ ob) oi ⟨P.step.mono Wq_sub, kn H1 Fr.rfl, rd, P.own.sub fun a => ?_, fun _ _ => rfl⟩
                rw [e0]
                simp only [List.count_append, List.nil_append]
                omega
def dRetN : Blk := fun δ => some (.rt .non δ)
def dIf (c : DenT) (a b : Blk) : Blk := fun δ => match c δ with
  | some (true, δ1) => a δ1
  | some (false, δ1) => b δ1
  | none => none
theorem z_if {c : Expr} {a b : List Stmt} {mc : DenT} {ma mb : Blk} (hc : PT X c (TT (kx X) q mc)) (ha : PSs X a (TSm (kx X) kp ma)) (hb : PSs X b (TSm (kx X) kp mb)) : PS X (.If c a b pos) (TSm (kx X) kp (dIf mc ma mb)) :=
  PS.imp (ps_if hc ha hb) fun D' σ H ⟨δ, o, out, E, n, hm, f⟩ => by
    simp only [dIf] at hm
    cases h1 : mc δ with
    | none => rw [h1] at hm; simp at hm
    | some p =>
      obtain ⟨c, δ1⟩ := p
      rw [h1] at hm
      refine ⟨δ, o, c, δ1, E, n, h1, fun H1 o1 P => ?_⟩
      cases c with
      | true =>
        rw [if_pos rfl]
        exact ⟨δ1, o1, out, P.env, P.own.nd n, hm, f.shift P.ps⟩
      | false =>
        rw [if_neg Bool.false_ne_true]
        exact ⟨δ1, o1, out, P.env, P.own.nd n, hm, f.shift P.ps⟩
end

/-! ### targets -/
abbrev Bnd := D → DE → Option DE
abbrev Bnds := List D → DE → Option DE
def TGm (κ : Kx) (kp : Nat → Bool) (b : Bnd) : TG := fun v σ H Q => ∃ δ o d ov δ', Envs κ H σ δ o ∧ Rep κ.K H d v ov ∧ b d δ = some δ' ∧
  ∀ σ' o', Envs κ H σ' δ' o' → (∀ a, o'.count a ≤ ov.count a + o.count a) → ((∀ i, kp i = true → σ'[i]? = σ[i]?) ∧ σ'.length = σ.length) → Q σ' H
def TGsm (κ : Kx) (kp : Nat → Bool) (b : Bnds) : TGs := fun vs σ H Q => ∃ δ o ds ov δ', Envs κ H σ δ o ∧ Reps κ.K H ds vs ov ∧ b ds δ = some δ' ∧
  ∀ σ' o', Envs κ H σ' δ' o' → (∀ a, o'.count a ≤ ov.count a + o.count a) → ((∀ i, kp i = true → σ'[i]? = σ[i]?) ∧ σ'.length = σ.length) → Q σ' H
def bName (i : Nat) : Bnd := fun d δ => if i < δ.length then some (δ.set i (some d)) else none
def bNil : Bnds := fun ds δ => match ds with
  | [] => some δ
  | _ :: _ => none
def bCons (a : Bnd) (r : Bnds) : Bnds := fun ds δ => match ds with
  | [] => none
  | d :: ds => match a d δ with
    | some δ1 => r ds δ1
    | none => none
def bTup (n : Nat) (r : Bnds) : Bnd := fun d δ => match d with
  | .tup ds => if ds.length = n then r ds δ else none
  | _ => none
section
variable {X : Cx} {kp : Nat → Bool} {pos : Pos}
theorem PG.imp {e : Expr} {t t' : TG} (h : PG X e t) (i : ∀ v σ H Q, t' v σ H Q → t v σ H Q) : PG X e t' := ⟨fun pins s σ H v u Q I r hw => h.run pins s σ H v u Q I r (i _ _ _ _ hw)⟩
theorem PGs.imp {e : List Expr} {t t' : TGs} (h : PGs X e t) (i : ∀ v σ H Q, t' v σ H Q → t v σ H Q) : PGs X e t' := ⟨fun pins s σ H v u Q I r hw => h.run pins s σ H v u Q I r (i _ _ _ _ hw)⟩
theorem set_kept {σ : L2.St} {i : Nat} {x : Option V} (hk : kp i = false) : ∀ j, kp j = true → (σ.set i x)[j]? = σ[j]? := fun j hj => by
  have : i ≠ j := fun e => by rw [e, hj] at hk; cases hk
  rw [List.getElem?_set_ne this]
theorem z_gname {i : Nat} {x : Str} (hN : X.N.Nodup) (hi : X.N[i]? = some x) (hx : Loc X.env.scope x) (hk : kp i = false) (hf : X.fn x = true ∨ X.env.scope.names.lookup x = some .local := by first | exact .inl rfl | exact .inr rfl | assumption) : PG X (.Name x pos) (TGm (kx X) kp (bName i)) :=
  PG.imp (pg_name hN hi hx hf) fun v σ H Q ⟨δ, o, d, ov, δ', E, r, hb, k⟩ => by
    simp only [bName] at hb
    by_cases hl : i < δ.length
    · rw [if_pos hl] at hb
      cases (Option.some.inj hb)
      obtain ⟨o2, E2, c⟩ := Envs.set i E r hl
      exact k _ o2 E2 (fun a => by have := c a; omega) ⟨set_kept hk, List.length_set⟩
    · rw [if_neg hl] at hb; cases hb
theorem z_gsnil : PGs X [] (TGsm (kx X) kp bNil) := PGs.imp pgs_nil fun vs σ H Q ⟨δ, o, ds, ov, δ', E, r, hb, k⟩ => by
  cases ds with
  | cons _ _ => simp [bNil] at hb
  | nil =>
    cases (Option.some.inj hb)
    obtain ⟨rfl, rfl⟩ := r
    exact ⟨rfl, k σ o E (fun a => by simp) ⟨fun _ _ => rfl, rfl⟩⟩
theorem z_gscons {e : Expr} {es : List Expr} {b : Bnd} {bs : Bnds} (h1 : PG X e (TGm (kx X) kp b)) (h2 : PGs X es (TGsm (kx X) kp bs)) (hs : (assignEach (e :: es) X.env).map (·.2) = assign e X.env :: (assignEach es X.env).map (·.2) := by rfl) : PGs X (e :: es) (TGsm (kx X) kp (bCons b bs)) :=
  PGs.imp (pgs_cons h1 h2 hs) fun vs σ H Q ⟨δ, o, ds, ov, δ', E, r, hb, k⟩ => by
    cases ds with
    | nil => simp [bCons] at hb
    | cons d ds =>
      obtain ⟨v, vr, o1, o2, rfl, r1, r2, rfl⟩ := r
      simp only [bCons] at hb
      cases h3 : b d δ with
      | none => rw [h3] at hb; simp at hb
      | some δ1 =>
        rw [h3] at hb
        refine ⟨v, vr, rfl, δ, o, d, o1, δ1, E, r1, h3, fun σ1 o3 E3 c3 k3 => ?_⟩
        refine ⟨δ1, o3, ds, o2, δ', E3, r2, hb, fun σ2 o4 E4 c4 k4 => k σ2 o4 E4 (fun a => ?_) ⟨fun i hi => (k4.1 i hi).trans (k3.1 i hi), k4.2.trans k3.2⟩⟩
        have h5 := c3 a
        have h6 := c4 a
        rw [List.count_append]
        omega
theorem z_gtup {es : List Expr} {k n : Nat} {bs : Bnds} (hc : X.calm = true) (h : PGs X es (TGsm (kx X) kp bs)) (hn : (assignEach es X.env).length = n := by rfl) (hst : (assignEach es X.env).findIdx? (·.1) = none := by rfl) : PG X (.Tuple es k pos) (TGm (kx X) kp (bTup n bs)) :=
  PG.imp (pg_tup hc h hn hst) fun v σ H Q ⟨δ, o, d, ov, δ', E, r, hb, k⟩ => by
    cases d <;> simp only [bTup, reduceCtorEq] at hb
    rename_i ds
    by_cases hl : ds.length = n
    · rw [if_pos hl] at hb
      obtain ⟨a, vs, rfl, hq, rs⟩ := r
      exact ⟨a, vs, rfl, hq, rs.length.trans hl, δ, o, ds, ov, δ', E, rs, hb, k⟩
    · rw [if_neg hl] at hb; cases hb
end
def dAsg (b : Bnd) (m : Den) : Blk := fun δ => match m δ with
  | some (.own d, δ1) => match b d δ1 with
    | some δ2 => some (.nx δ2)
    | none => none
  | _ => none
section
variable {X : Cx} {kp : Nat → Bool} {pos : Pos} {tg e : Expr} {q : Bool} {m : Den} {b : Bnd}
theorem t_asg {κ : Kx} {D' : Ends} {σ : L2.St} {H : Hp} (h : TSm κ kp (dAsg b m) D' σ H) : T κ q m σ H fun x H1 => TGm κ kp b x σ H1 D'.nx := by
  obtain ⟨δ, o, out, E, n, hm, f⟩ := h
  simp only [dAsg] at hm
  cases h1 : m δ with
  | none => rw [h1] at hm; simp at hm
  | some p =>
    obtain ⟨r, δ1⟩ := p
    rw [h1] at hm
    cases r with
    | «at» _ _ => simp at hm
    | own d =>
      dsimp only at hm
      cases h2 : b d δ1 with
      | none => rw [h2] at hm; simp at hm
      | some δ2 =>
        rw [h2] at hm
        cases (Option.some.inj hm)
        refine ⟨δ, o, .own d, δ1, E, n, h1, fun v H1 o1 ov P => ?_⟩
        refine ⟨δ1, o1, d, ov, δ2, P.env, P.held, h2, fun σ' o' E' c k => f σ' H1 o' ⟨P.step.mono Wq_sub, E', P.own.sub fun a => ?_, k.1⟩⟩
        rw [List.count_append]; exact c a
theorem gname_of {κ : Kx} {i : Nat} {v : V} {σ : L2.St} {H : Hp} {Q : L2.St → Hp → Prop} (hk : kp i = false) (h : TGm κ kp (bName i) v σ H Q) : Q (σ.set i (some v)) H := by
  obtain ⟨δ, o, d, ov, δ', E, r, hb, k⟩ := h
  simp only [bName] at hb
  by_cases hl : i < δ.length
  · rw [if_pos hl] at hb
    cases (Option.some.inj hb)
    obtain ⟨o2, E2, c⟩ := Envs.set i E r hl
    exact k _ o2 E2 (fun a => by have := c a; omega) ⟨set_kept hk, List.length_set⟩
  · rw [if_neg hl] at hb; cases hb
theorem z_set {i : Nat} {x : Str} {pos' : Pos} (hN : X.N.Nodup) (hi : X.N[i]? = some x) (hx : Loc X.env.scope x) (hk : kp i = false) (he : PE X e (T (kx X) q m)) (hs : swapsWith e (some (.Name x pos')) pos.line X.env = pure false := by rfl)
    (hf : X.fn x = true ∨ X.env.scope.names.lookup x = some .local := by first | exact .inl rfl | exact .inr rfl | assumption) : PS X (.Assign [.Name x pos'] e pos) (TSm (kx X) kp (dAsg (bName i) m)) :=
  PS.imp (ps_set hN hi hx he hs hf) fun D' σ H h => by
    obtain ⟨δ, o, r, δ1, E, n, h1, k⟩ := t_asg (q := q) h
    exact ⟨δ, o, r, δ1, E, n, h1, fun v H1 o1 ov P => gname_of hk (k v H1 o1 ov P)⟩
end

/-! ### while -/
section
variable {X : Cx} {kp : Nat → Bool} {pos : Pos} {c : Expr} {body : List Stmt} {q : Bool} {mc : DenT} {mb : Blk}
end

/-! ### for -/
/-- what is walked: its items, and the names whose lists have to stay as they are -/
structure Src where
  xs : List D
  gs : List (Nat × D)
  deriving Inhabited
abbrev DenS := DE → Option (Src × DE)
def gOk : List (Nat × D) → DE → Bool
  | [], _ => true
  | (i, d) :: gs, δ => decide (δ[i]? = some (some d)) && gOk gs δ
/-- while the heap is so, the iterator gives the items -/
def SrcOk (K : Fw) (σ : L2.St) (src : Src) (J : It) (H1 : Hp) (ov : List Addr) : Prop :=
  ∀ i H', (∀ a ∈ ov, H' a = H1 a) → (∀ a u, H1 a = some u → Sh u → H' a = some u) → (∀ p ∈ src.gs, ∃ v o, σ[p.1]? = some (some v) ∧ Rep K H' p.2 v o) →
    (∀ x, src.xs[i]? = some x → J.go i H' ∧ ∀ v H'', J.yld i H' v H'' → (∀ a u, H' a = some u → H'' a = some u) ∧ Rep K H'' x v []) ∧ (src.xs.length ≤ i → J.stop i H')
def TIm (κ : Kx) (q : Bool) (m : DenS) : TI := fun σ H R => ∃ δ o src δ', Envs κ H σ δ o ∧ Nd o ∧ m δ = some (src, δ') ∧
  ∀ J H1 o1 ov, Step H H1 (Wq q o) → Envs κ H1 σ δ' o1 → Own H o (ov ++ o1) → (∀ a ∈ ov, ∃ u, H1 a = some u ∧ Ow u) → SrcOk κ.K σ src J H1 ov → src.xs.length ≤ sizeLine → R J H1
def dForL (gs : List (Nat × D)) (b : Bnd) (mb : Blk) : List D → Blk
  | [], δ => if gOk gs δ then some (.nx δ) else none
  | x :: xs, δ => if gOk gs δ then match b x δ with
    | some δ1 => match mb δ1 with
      | some (.nx δ2) => dForL gs b mb xs δ2
      | some (.ct δ2) => dForL gs b mb xs δ2
      | some (.bk δ2) => some (.nx δ2)
      | z => z
    | none => none
    else none
/-- the walked names are among the kept ones -/
def gsIn (kp : Nat → Bool) : List (Nat × D) → Bool
  | [] => true
  | p :: gs => kp p.1 && gsIn kp gs
theorem gsIn_mem {kp : Nat → Bool} : ∀ {gs : List (Nat × D)}, gsIn kp gs = true → ∀ p ∈ gs, kp p.1 = true
  | [], _, _, hp => nomatch hp
  | q :: gs, h, p, hp => by
    simp only [gsIn, Bool.and_eq_true] at h
    rcases List.mem_cons.mp hp with rfl | hp
    · exact h.1
    · exact gsIn_mem h.2 p hp
def dFor (kp : Nat → Bool) (ms : DenS) (b : Bnd) (mb : Blk) : Blk := fun δ => match ms δ with
  | some (src, δ1) => if gsIn kp src.gs then dForL src.gs b mb src.xs δ1 else none
  | none => none
theorem gOk_rep {κ : Kx} {H : Hp} {σ : L2.St} {δ : DE} {o : List Addr} (E : Envs κ H σ δ o) : ∀ {gs : List (Nat × D)}, gOk gs δ = true → ∀ p ∈ gs, ∃ v o, σ[p.1]? = some (some v) ∧ Rep κ.K H p.2 v o
  | [], _, p, hp => nomatch hp
  | (i, d) :: gs, h, p, hp => by
    simp only [gOk, Bool.and_eq_true, decide_eq_true_eq] at h
    rcases List.mem_cons.mp hp with rfl | hp
    · obtain ⟨v, oa, oi, ob, hv, r, _⟩ := E.at h.1
      exact ⟨v, oi, hv, r⟩
    · exact gOk_rep E h.2 p hp
section
variable {X : Cx} {kp kp' : Nat → Bool} {pos : Pos} {tg iter : Expr} {body : List Stmt} {q : Bool} {ms : DenS} {b : Bnd} {mb : Blk}
theorem z_for (hp : PassesOwn (model X.prog X.w) X.A X.env X.xe) (hc : X.calm = true) (hi : PI X tg iter (TIm (kx X) q ms)) (hg : PG X tg (TGm (kx X) kp' b)) (hb : PSs X body (TSm (kx X) kp' mb)) (hw : ∀ i, kp i = true → kp' i = true)
    (hs : ∀ x, foldedSetIterable iter X.env x = pure x := by intro _; rfl) : PS X (.For tg iter body [] pos) (TSm (kx X) kp (dFor kp' ms b mb)) :=
  PS.imp (ps_for hp hc hi hg hb hs) fun D' σ H ⟨δ, o, out, E, n, hm, f0⟩ => by
    have f := f0.weak hw
    simp only [dFor] at hm
    cases h1 : ms δ with
    | none => rw [h1] at hm; simp at hm
    | some p =>
      obtain ⟨src, δ1⟩ := p
      rw [h1] at hm; dsimp only at hm
      by_cases hk0 : gsIn kp' src.gs = true
      case neg => rw [if_neg hk0] at hm; cases hm
      rw [if_pos hk0] at hm
      have hk := gsIn_mem hk0
      refine ⟨δ, o, src, δ1, E, n, h1, fun J H1 o1 ov s1 E1 w1 hov S _ => ?_⟩
      have P1 : PS0 (kx X) H σ kp' o δ1 σ H1 o1 := ⟨s1.mono Wq_sub, E1, own_right w1, fun _ _ => rfl⟩
      have n1 := w1.nd n
      -- W: at turn i
      refine ⟨fun i m σ2 H2 => m + i = src.xs.length ∧ ∃ δ2 o2, PS0 (kx X) H1 σ kp' o1 δ2 σ2 H2 o2 ∧ Step H1 H2 o1 ∧ dForL src.gs b mb (src.xs.drop i) δ2 = some out, ⟨src.xs.length, rfl, δ1, o1, .refl E1, .refl _ _, hm⟩, fun i m σ2 H2 hW => ?_⟩
      obtain ⟨hl, δ2, o2, P2, s2, h2⟩ := hW
      have P12 := P1.trans P2
      have pin : ∀ a ∈ ov, H2 a = H1 a := fun a ha => by
        obtain ⟨u, e, how⟩ := hov a ha
        rw [e]
        exact s2.keep a _ e (nd_split n1 a ha) how.2
      have shr : ∀ a u, H1 a = some u → Sh u → H2 a = some u := fun a u e hu => s2.keep a u e (fun z => by
        obtain ⟨vs, e2, how⟩ := E1.own a z
        rw [e] at e2; cases e2; exact how.1 hu) hu.nt
      have gk : gOk src.gs δ2 = true → ∀ p ∈ src.gs, ∃ v o, σ[p.1]? = some (some v) ∧ Rep X.F H2 p.2 v o := fun hg p hp => by
        obtain ⟨v, o, hv, r⟩ := gOk_rep P2.env hg p hp
        exact ⟨v, o, by rw [← P2.kept _ (hk p hp)]; exact hv, r⟩
      by_cases hi : i < src.xs.length
      · have hx : src.xs[i]? = some src.xs[i] := List.getElem?_eq_getElem hi
        rw [List.drop_eq_getElem_cons hi] at h2
        simp only [dForL] at h2
        by_cases hg : gOk src.gs δ2 = true
        · rw [if_pos hg] at h2
          obtain ⟨go, _⟩ := S i H2 pin shr (gk hg)
          obtain ⟨go, yl⟩ := go _ hx
          cases h3 : b src.xs[i] δ2 with
          | none => rw [h3] at h2; simp at h2
          | some δ3 =>
            rw [h3] at h2; dsimp only at h2
            refine .inr ⟨go, fun σ' H' => ∃ δ4 o4, PS0 (kx X) H1 σ kp' o1 δ4 σ' H' o4 ∧ Step H1 H' o1 ∧ dForL src.gs b mb (src.xs.drop (i + 1)) δ4 = some out, fun σ' H' ⟨δ4, o4, P4, s4, h4⟩ => ⟨m - 1, by omega, by omega, δ4, o4, P4, s4, h4⟩, fun v H3 hy => ?_⟩
            obtain ⟨sm, rv⟩ := yl v H3 hy
            have s3 : Step H1 H3 o1 := s2.same sm
            refine ⟨δ2, o2, src.xs[i], [], δ3, P2.env.same sm, rv, h3, fun σ3 o3 E3 c3 k3 => ?_⟩
            have P3 : PS0 (kx X) H1 σ kp' o1 δ3 σ3 H3 o3 := ⟨s3, E3, P2.own.sub fun a => by have := c3 a; simp only [List.count_nil] at this; omega, fun j hj => (k3.1 j hj).trans (P2.kept j hj)⟩
            cases h4 : mb δ3 with
            | none => rw [h4] at h2; simp at h2
            | some x =>
              rw [h4] at h2
              refine ⟨δ3, o3, x, E3, P3.own.nd (own_right w1 |>.nd n), h4, ?_⟩
              cases x with
              | nx δ4 => exact fun σ4 H4 o4 P4 => ⟨δ4, o4, P3.trans P4, (P3.trans P4).step, h2⟩
              | ct δ4 => exact fun σ4 H4 o4 P4 => ⟨δ4, o4, P3.trans P4, (P3.trans P4).step, h2⟩
              | bk δ4 =>
                cases (Option.some.inj h2)
                exact fun σ4 H4 o4 P4 => f0 σ4 H4 o4 ((P1.trans (P3.trans P4)).weak hw)
              | rt d δ4 =>
                cases (Option.some.inj h2)
                exact fun σ4 v H4 o4 ov P4 => f0 σ4 v H4 o4 ov ((P1.thenR (P3.thenR P4)).weak hw)
        · rw [if_neg hg] at h2; cases h2
      · have hd : src.xs.drop i = [] := List.drop_eq_nil_of_le (by omega)
        rw [hd] at h2
        simp only [dForL] at h2
        by_cases hg : gOk src.gs δ2 = true
        · rw [if_pos hg] at h2
          cases (Option.some.inj h2)
          exact .inl ⟨(S i H2 pin shr (gk hg)).2 (by omega), f0 σ2 H2 o2 (P12.weak hw)⟩
        · rw [if_neg hg] at h2; cases h2
end
end Z


set_option Elab.async false
set_option linter.all false
set_option maxRecDepth 100000
/-! defs; what is walked; lists that change -/
namespace Z
open PySem PySem.Spec PyProof.Rows L2

/-! ### a def -/
def fins (kp : Nat → Bool) : Nat → Nat → DE → List (Option D)
  | _, 0, _ => []
  | i, n + 1, [] => none :: fins kp (i + 1) n []
  | i, n + 1, x :: δ => (if kp i then x else none) :: fins kp (i + 1) n δ
def env0 (nN np : Nat) (ds : List D) : DE := ds.map some ++ List.replicate (nN - np) none
def dFn (nN np : Nat) (kp : Nat → Bool) (m : Blk) : Fn := fun ds => if ds.length = np then match m (env0 nN np ds) with
  | some (.nx δ') => some (.non, fins kp 0 np δ')
  | some (.rt d δ') => some (d, fins kp 0 np δ')
  | _ => none
  else none
section
variable {K : Fw} {κ : Kx} {H : Hp}
theorem envs_none (tb : Tabs κ H) : ∀ (n : Nat), Envs κ H (List.replicate n none) (List.replicate n none) []
  | 0 => ⟨rfl, tb⟩
  | n + 1 => envs_none tb n
theorem envs_start : ∀ {ds : List D} {vs : List V} {o : List Addr} (n : Nat), Reps κ.K H ds vs o → Tabs κ H → Envs κ H (vs.map some ++ List.replicate n none) (ds.map some ++ List.replicate n none) o
  | [], _, _, n, h, tb => by rw [h.1, h.2]; exact envs_none tb n
  | d :: ds, _, _, n, h, tb => by
    obtain ⟨v, vr, o1, o2, rfl, h1, h2, rfl⟩ := h
    exact ⟨o1, o2, h1, envs_start n h2 tb, rfl⟩
theorem envs_fins (kp : Nat → Bool) : ∀ {vs : List V} {σ : L2.St} {δ : DE} {o : List Addr} (j : Nat), Envs κ H σ δ o → (∀ i v, vs[i]? = some v → kp (j + i) = true → σ[i]? = some (some v)) →
    ∃ o', Envs κ H (vs.map some) (fins kp j vs.length δ) o' ∧ ∀ a, o'.count a ≤ o.count a
  | [], _, _, _, j, E, _ => ⟨[], ⟨rfl, E.tabs⟩, fun a => by simp⟩
  | v :: vs, [], [], o, j, E, h => by
    obtain ⟨o', E', c⟩ := envs_fins kp (vs := vs) (σ := []) (δ := []) (o := []) (j + 1) ⟨rfl, E.2⟩ fun i w hi hk => by
      have := h (i + 1) w (by simpa using hi) (by rw [show j + (i + 1) = j + 1 + i by omega]; exact hk)
      simp at this
    refine ⟨o', E', fun a => ?_⟩
    have := c a
    simp only [List.count_nil] at this
    omega
  | v :: vs, s :: σ, x :: δ, o, j, E, h => by
    have hr : ∀ i w, vs[i]? = some w → kp (j + 1 + i) = true → σ[i]? = some (some w) := fun i w hi hk => by
      have := h (i + 1) w (by simpa using hi) (by rw [show j + (i + 1) = j + 1 + i by omega]; exact hk)
      simpa using this
    cases x with
    | none =>
      have E : Envs κ H σ δ o := by cases s <;> exact E
      obtain ⟨o', E', c⟩ := envs_fins kp (j + 1) E hr
      refine ⟨o', ?_, c⟩
      show Envs κ H (some v :: vs.map some) ((if kp j then none else none) :: _) o'
      rw [ite_self]; exact E'
    | some d =>
      cases s with
      | none => exact E.elim
      | some w =>
        obtain ⟨o1, o2, r, E2, rfl⟩ := E
        obtain ⟨o', E', c⟩ := envs_fins kp (j + 1) E2 hr
        by_cases hk : kp j = true
        · have hv := h 0 v rfl hk
          simp only [List.getElem?_cons_zero, Option.some.injEq] at hv
          subst hv
          refine ⟨o1 ++ o', ?_, fun a => by have := c a; rw [List.count_append, List.count_append]; omega⟩
          show Envs κ H (some w :: vs.map some) ((if kp j then some d else none) :: _) _
          rw [if_pos hk]
          exact ⟨o1, o', r, E', rfl⟩
        · refine ⟨o', ?_, fun a => by have := c a; rw [List.count_append]; omega⟩
          show Envs κ H (some v :: vs.map some) ((if kp j then some d else none) :: _) o'
          rw [if_neg hk]; exact E'
  | v :: vs, [], _ :: _, _, _, E, _ => by simp [Envs] at E
  | v :: vs, _ :: _, [], _, _, E, _ => by simp [Envs] at E
end
section
variable {P : Program} {w : World} {K : Fw} {κ : Kx} {mg : Str → Option Value} {base : Heap}
/-- a def of the program stands at f, its code object in the fragment -/
structure FunZ (K : PySem.W.Frag) (qual : Str) (params : Arguments) (body : List Stmt) (scope : Scope) (f : Addr) (fd : FuncData) : Prop where
  ex : ∃ (x : Str) (oc : Value) (od : Option Addr) (dV kV doc pm : Value) (an : Option Addr) (ct : Value) (osl : Array (Option Value)) (c P : Addr),
    fd = PySem.W.fnOf x qual params body scope dV kV doc pm an (.ref c) ct ∧ K.lookup f = some ⟨oc, od, .func fd, osl⟩ ∧ PySem.W.codeIn K (.ref c) qual = true ∧ PySem.W.codeHdIn K c P = true
theorem z_def {qual : Str} {params : Arguments} {body : List Stmt} {scope : Scope} {f : Addr} {fd : FuncData} {N ps : List Str} {k : Nat} {kp : Nat → Bool} {m : Blk} (F : FunZ K qual params body scope f fd) (S : FnScope N ps scope)
    (hb : ∀ (cc : Addr) (A : Around) (outer : List Env) (s : Shared) (H : Hp) (E : XK), Room k (A.deeper (envOfC qual scope s.heap.objs.size f (.ref cc))) → PSs (cxOf CX0 P w K mg base N qual scope f (.ref cc) A outer s H E).nox body (TSm ⟨K, .ref cc⟩ kp m)) :
    FnOk P w K mg base CX0 (k + 1) f fd ps (spD K (dFn N.length ps.length kp m)) := by
  obtain ⟨x, oc, od, dV, kV, doc, pm, an, ct, osl, cc, PP, rfl, lk, hcd, hhd⟩ := F.ex
  refine fn_of lk hcd S (fun vs H Q E h => ?_) fun A outer s H vs Q E hr h => ⟨_, (hb cc A outer s H E hr).nox, ?_⟩
  · obtain ⟨ds, oA, r, fs, ra, n, _, hm, _⟩ := h
    simp only [dFn] at hm
    by_cases hl : ds.length = ps.length
    · rw [ra.length]; exact hl
    · rw [if_neg hl] at hm; cases hm
  · obtain ⟨ds, oA, r, fs, ra, n, tb, hm, k⟩ := h
    simp only [dFn] at hm
    by_cases hl : ds.length = ps.length
    · rw [if_pos hl] at hm
      have hl2 : vs.length = ps.length := ra.length.trans hl
      have E0 : Envs ⟨K, .ref cc⟩ H (L2.start N vs) (env0 N.length ps.length ds) oA := by
        unfold L2.start env0
        rw [hl2]; exact envs_start _ ra ⟨tb.1, fun c e => by cases e; exact ⟨PP, .inl hhd, tb.1 _ _ hhd⟩⟩
      have kept : ∀ {σ' : L2.St}, (∀ i, kp i = true → σ'[i]? = (L2.start N vs)[i]?) → ∀ i v, vs[i]? = some v → kp (0 + i) = true → σ'[i]? = some (some v) := fun h i v hi hk => by
        rw [Nat.zero_add] at hk
        rw [h i hk]
        unfold L2.start
        obtain ⟨hlt, _⟩ := List.getElem?_eq_some_iff.mp hi
        rw [List.getElem?_append_left (by simpa using hlt), List.getElem?_map, hi]; rfl
      cases h1 : m (env0 N.length ps.length ds) with
      | none => rw [h1] at hm; simp at hm
      | some out =>
        rw [h1] at hm
        refine ⟨env0 N.length ps.length ds, oA, out, E0, n, h1, ?_⟩
        cases out with
        | nx δ' =>
          simp only [Option.some.injEq, Prod.mk.injEq] at hm
          obtain ⟨rfl, rfl⟩ := hm
          intro σ' H' o' P
          obtain ⟨of_, Ef, c⟩ := envs_fins kp 0 P.env (kept P.kept)
          rw [hl2] at Ef
          exact k .non H' [] of_ P.step ⟨rfl, rfl⟩ Ef.bare (P.own.sub c)
        | rt d δ' =>
          simp only [Option.some.injEq, Prod.mk.injEq] at hm
          obtain ⟨rfl, rfl⟩ := hm
          intro σ' v H' o' ov P
          obtain ⟨of_, Ef, c⟩ := envs_fins kp 0 P.env (kept P.kept)
          rw [hl2] at Ef
          exact k v H' ov of_ P.step P.rep Ef.bare (P.own.sub fun a => by have := c a; simp only [List.count_append]; omega)
        | bk δ' => simp at hm
        | ct δ' => simp at hm
    · rw [if_neg hl] at hm; cases hm
end

/-! ### what is walked -/
def rangeD (lo : Int) (n : Nat) : List D := (List.range n).map fun (k : Nat) => D.int (lo + (k : Int))
theorem rangeD_get {lo : Int} {n i : Nat} {x : D} (h : (rangeD lo n)[i]? = some x) : i < n ∧ x = .int (lo + i) := by
  unfold rangeD at h
  rw [List.getElem?_map] at h
  cases q : (List.range n)[i]? with
  | none => rw [q] at h; simp at h
  | some k =>
    rw [q] at h
    obtain ⟨hl, e⟩ := List.getElem?_eq_some_iff.mp q
    rw [List.getElem_range] at e
    rw [List.length_range] at hl
    subst e
    exact ⟨hl, (Option.some.inj h).symm⟩
theorem rangeD_len (lo : Int) (n : Nat) : (rangeD lo n).length = n := by simp [rangeD]
def sRange (m : DE → Option (List R × DE)) : DenS := fun δ => match m δ with
  | some ([.own (.int j)], δ') => if -1000000 ≤ j ∧ j ≤ 1000000 then some (⟨rangeD 0 j.toNat, []⟩, δ') else none
  | some ([.own (.int i), .own (.int j)], δ') => if -1000000 ≤ i ∧ i ≤ 1000000 ∧ -1000000 ≤ j ∧ j ≤ 1000000 then some (⟨rangeD i (j - i).toNat, []⟩, δ') else none
  | _ => none
theorem src_range {K : Fw} {σ : L2.St} {H : Hp} {ov : List Addr} (lo : Int) (n : Nat) : SrcOk K σ ⟨rangeD lo n, []⟩ (Itr lo n) H ov := fun i H' _ _ _ =>
  ⟨fun x hx => by
    obtain ⟨hi, rfl⟩ := rangeD_get hx
    exact ⟨hi, fun v H'' hy => by obtain ⟨rfl, rfl⟩ := hy; exact ⟨fun _ _ e => e, rfl, rfl⟩⟩, fun h => by rw [rangeD_len] at h; exact h⟩
section
variable {X : Cx} {tg a b l : Expr} {q : Bool} {m : DE → Option (List R × DE)} {ml : Den} {p pos : Pos}
theorem big_sz : 2000000 ≤ sizeLine := by decide
/-- the lists and tuples are as long as the model has them -/
def HL (K : PySem.W.Frag) (H : Hp) : Prop := (∀ a vs, SqL K H a vs → vs.length ≤ sizeLine) ∧ ∀ a vs, SqT K H a vs → vs.length ≤ sizeLine
theorem inv_hl {pins : List (Addr × Obj)} {σ : L2.St} {H : Hp} {s : Shared} (I : Inv X pins σ H s) : HL X.K H := ⟨fun a vs h => by obtain ⟨_, _, _, z⟩ := I.list h; exact z, fun a vs h => by obtain ⟨_, _, _, z⟩ := I.tuple h; exact z⟩
theorem PI.ok {iter : Expr} {t : TI} (h : PI X tg iter t) : PI X tg iter (fun σ H R => t σ H fun J H1 => HL X.K H1 → R J H1) := ⟨fun pins s σ H R I hw =>
  thn (h.run pins s σ H _ I hw) fun v s1 h1 => thn h1 fun itv s2 ⟨it, fp, tn, J, H', e1, I', T', t0, f', r⟩ => ⟨it, fp, tn, J, H', e1, I', T', t0, f', r (inv_hl I')⟩⟩
theorem PI.imp {iter : Expr} {t t' : TI} (h : PI X tg iter t) (i : ∀ σ H R, t' σ H R → t σ H R) : PI X tg iter t' := ⟨fun pins s σ H R I hw => h.run pins s σ H R I (i _ _ _ hw)⟩
theorem sRange_inv {δ δ' : DE} {src : Src} (h : sRange m δ = some (src, δ')) : (∃ j, m δ = some ([.own (.int j)], δ') ∧ (-1000000 ≤ j ∧ j ≤ 1000000) ∧ src = ⟨rangeD 0 j.toNat, []⟩) ∨
    ∃ i j, m δ = some ([.own (.int i), .own (.int j)], δ') ∧ (-1000000 ≤ i ∧ i ≤ 1000000 ∧ -1000000 ≤ j ∧ j ≤ 1000000) ∧ src = ⟨rangeD i (j - i).toNat, []⟩ := by
  unfold sRange at h
  split at h
  · rename_i j δ1 e
    split at h
    · rename_i hc
      simp only [Option.some.injEq, Prod.mk.injEq] at h
      obtain ⟨rfl, rfl⟩ := h
      exact .inl ⟨j, e, hc, rfl⟩
    · cases h
  · rename_i i j δ1 e
    split at h
    · rename_i hc
      simp only [Option.some.injEq, Prod.mk.injEq] at h
      obtain ⟨rfl, rfl⟩ := h
      exact .inr ⟨i, j, e, hc, rfl⟩
    · cases h
  · cases h
theorem z_range1 (hg : Gl X "range") (hm : X.mg "range" = none) (ha : PA X [a] (TAr (kx X) q m)) (hs : starEach [a] X.env = [(false, eval a X.env)] := by rfl) (h1 : ∀ δ rs δ', m δ = some (rs, δ') → rs.length = 1) : PI X tg (.Call (.Name "range" p) [a] [] pos) (TIm (kx X) q (sRange m)) :=
  PI.imp (pi_range1 hg hm ha hs) fun σ H R ⟨δ, o, src, δ', E, n, h, k⟩ => by
    rcases sRange_inv h with ⟨j, e, hc, rfl⟩ | ⟨i, j, e, hc, rfl⟩
    · refine ⟨δ, o, _, δ', E, n, e, fun vs H1 o1 ov s1 E1 hl w1 => ?_⟩
      obtain ⟨v, vr, oa, ob, rfl, ⟨rfl, rfl⟩, ⟨rfl, rfl⟩, rfl⟩ := hl
      exact ⟨j, rfl, by omega, by omega, k _ H1 o1 [] s1 E1 w1 (fun a ha => nomatch ha) (src_range 0 _) (by rw [rangeD_len]; exact Nat.le_trans (by omega) big_sz)⟩
    · exact absurd (h1 _ _ _ e) (by simp)
theorem z_range2 (hg : Gl X "range") (hm : X.mg "range" = none) (ha : PA X [a, b] (TAr (kx X) q m)) (h2 : ∀ δ rs δ', m δ = some (rs, δ') → rs.length = 2)
    (hs : starEach [a, b] X.env = [(false, eval a X.env), (false, eval b X.env)] := by rfl) (hs2 : starEach [b] X.env = [(false, eval b X.env)] := by rfl) : PI X tg (.Call (.Name "range" p) [a, b] [] pos) (TIm (kx X) q (sRange m)) :=
  PI.imp (pi_range2 hg hm ha hs hs2) fun σ H R ⟨δ, o, src, δ', E, n, h, k⟩ => by
    rcases sRange_inv h with ⟨j, e, hc, rfl⟩ | ⟨i, j, e, hc, rfl⟩
    · exact absurd (h2 _ _ _ e) (by simp)
    · refine ⟨δ, o, _, δ', E, n, e, fun vs H1 o1 ov s1 E1 hl w1 => ?_⟩
      obtain ⟨v, vr, oa, ob, rfl, ⟨rfl, rfl⟩, ⟨v2, vr2, oa2, ob2, rfl, ⟨rfl, rfl⟩, ⟨rfl, rfl⟩, rfl⟩, rfl⟩ := hl
      exact ⟨i, j, rfl, by omega, k _ H1 o1 [] s1 E1 w1 (fun a ha => nomatch ha) (src_range i _) (by rw [rangeD_len]; exact Nat.le_trans (by omega) big_sz)⟩
theorem acons_len1 {qb : Bool} {ma : Den} {δ δ' : DE} {rs : List R} (h : dACons qb ma dANil δ = some (rs, δ')) : rs.length = 1 := by
  simp only [dACons, dANil] at h
  split at h
  · split at h
    · simp only [Option.some.injEq, Prod.mk.injEq] at h; rw [← h.1]; rfl
    · cases h
  · cases h
theorem acons_len2 {qa qb : Bool} {ma mb : Den} {δ δ' : DE} {rs : List R} (h : dACons qa ma (dACons qb mb dANil) δ = some (rs, δ')) : rs.length = 2 := by
  rw [dACons] at h
  split at h
  · split at h
    · rename_i e
      have := acons_len1 e
      split at h
      · simp only [Option.some.injEq, Prod.mk.injEq] at h; rw [← h.1]; simp [this]
      · cases h
    · cases h
  · cases h

/-- a sequence as it comes -/
def chars (x : Str) : List D := x.cps.toList.map fun c => D.str ⟨#[c]⟩
def sSeq (m : Den) : DenS := fun δ => match m δ with
  | some (.own (.tup xs), δ') => if D.imms xs then some (⟨xs, []⟩, δ') else none
  | some (.own (.lst xs), δ') => if D.imms xs then some (⟨xs, []⟩, δ') else none
  | some (.own (.frz xs), δ') => if D.imms xs then some (⟨xs, []⟩, δ') else none
  | some (.own (.str x), δ') => some (⟨chars x, []⟩, δ')
  | some (.at i [], δ') => match δ'[i]? with
    | some (some (.lst xs)) => if D.imms xs then some (⟨xs, [(i, .lst xs)]⟩, δ') else none
    | _ => none
  | _ => none
theorem item_of {K : Fw} {H : Hp} {xs : List D} {vs : List V} {i : Nat} {x : D} (r : Reps K H xs vs []) (e : xs[i]? = some x) : ∃ v, vs[i]? = some v ∧ Rep K H x v [] := by
  obtain ⟨v, o1, e1, r1, hs⟩ := r.get e
  refine ⟨v, e1, ?_⟩
  have : o1 = [] := by
    cases o1 with
    | nil => rfl
    | cons a l => exact nomatch hs a List.mem_cons_self
  rw [this] at r1; exact r1
theorem src_list {K : Fw} {σ : L2.St} {H : Hp} {ov : List Addr} {xs : List D} {gs : List (Nat × D)} {a : Addr}
    (h : ∀ H', (∀ a ∈ ov, H' a = H a) → (∀ a u, H a = some u → Sh u → H' a = some u) → (∀ p ∈ gs, ∃ v o, σ[p.1]? = some (some v) ∧ Rep K H' p.2 v o) → ∃ vs, SqL K H' a vs ∧ Reps K H' xs vs []) : SrcOk K σ ⟨xs, gs⟩ (Itl K a) H ov := fun i H' h1 h2 h3 => by
  obtain ⟨vs, hq, r⟩ := h H' h1 h2 h3
  refine ⟨fun x hx => ?_, fun hl => ⟨vs, hq, by rw [r.length]; exact hl⟩⟩
  obtain ⟨v, hv, rv⟩ := item_of r hx
  refine ⟨⟨vs, v, hq, hv⟩, fun w H'' hy => ?_⟩
  obtain ⟨rfl, hy⟩ := hy
  have := hy vs hq
  rw [hv] at this; cases this
  exact ⟨fun _ _ e => e, rv⟩
theorem src_tup {K : Fw} {σ : L2.St} {H : Hp} {ov : List Addr} {xs : List D} {gs : List (Nat × D)} {a : Addr}
    (h : ∀ H', (∀ a ∈ ov, H' a = H a) → (∀ a u, H a = some u → Sh u → H' a = some u) → (∀ p ∈ gs, ∃ v o, σ[p.1]? = some (some v) ∧ Rep K H' p.2 v o) → ∃ vs, SqT K H' a vs ∧ Reps K H' xs vs []) : SrcOk K σ ⟨xs, gs⟩ (Itt K a) H ov := fun i H' h1 h2 h3 => by
  obtain ⟨vs, hq, r⟩ := h H' h1 h2 h3
  refine ⟨fun x hx => ?_, fun hl => ⟨vs, hq, by rw [r.length]; exact hl⟩⟩
  obtain ⟨v, hv, rv⟩ := item_of r hx
  refine ⟨⟨vs, v, hq, hv⟩, fun w H'' hy => ?_⟩
  obtain ⟨rfl, hy⟩ := hy
  have := hy vs hq
  rw [hv] at this; cases this
  exact ⟨fun _ _ e => e, rv⟩
theorem fr_of {H H' : Hp} {ov : List Addr} (h1 : ∀ a ∈ ov, H' a = H a) (h2 : ∀ a u, H a = some u → Sh u → H' a = some u) : Fr0 H H' ov := ⟨h1, h2⟩
theorem sSeq_inv {δ δ' : DE} {src : Src} (h : sSeq ml δ = some (src, δ')) : (∃ xs, ml δ = some (.own (.tup xs), δ') ∧ D.imms xs = true ∧ src = ⟨xs, []⟩) ∨ (∃ xs, ml δ = some (.own (.lst xs), δ') ∧ D.imms xs = true ∧ src = ⟨xs, []⟩) ∨
    (∃ xs, ml δ = some (.own (.frz xs), δ') ∧ D.imms xs = true ∧ src = ⟨xs, []⟩) ∨ (∃ x, ml δ = some (.own (.str x), δ') ∧ src = ⟨chars x, []⟩) ∨ (∃ i xs, ml δ = some (.at i [], δ') ∧ δ'[i]? = some (some (.lst xs)) ∧ D.imms xs = true ∧ src = ⟨xs, [(i, .lst xs)]⟩) := by
  unfold sSeq at h
  split at h
  · split at h
    · simp only [Option.some.injEq, Prod.mk.injEq] at h; obtain ⟨rfl, rfl⟩ := h; exact .inl ⟨_, by assumption, by assumption, rfl⟩
    · cases h
  · split at h
    · simp only [Option.some.injEq, Prod.mk.injEq] at h; obtain ⟨rfl, rfl⟩ := h; exact .inr (.inl ⟨_, by assumption, by assumption, rfl⟩)
    · cases h
  · split at h
    · simp only [Option.some.injEq, Prod.mk.injEq] at h; obtain ⟨rfl, rfl⟩ := h; exact .inr (.inr (.inl ⟨_, by assumption, by assumption, rfl⟩))
    · cases h
  · simp only [Option.some.injEq, Prod.mk.injEq] at h; obtain ⟨rfl, rfl⟩ := h; exact .inr (.inr (.inr (.inl ⟨_, by assumption, rfl⟩)))
  · split at h
    · split at h
      · simp only [Option.some.injEq, Prod.mk.injEq] at h; obtain ⟨rfl, rfl⟩ := h; exact .inr (.inr (.inr (.inr ⟨_, _, by assumption, by assumption, by assumption, rfl⟩)))
      · cases h
    · cases h
  · cases h
theorem z_seq (hl : PE X l (T (kx X) q ml)) : PI X tg l (TIm (kx X) q (sSeq ml)) := ⟨fun pins s σ H R I hw => by
  obtain ⟨δ, o, src, δ', E, n, h, k⟩ := hw
  rcases sSeq_inv h with ⟨xs, e, hi, rfl⟩ | ⟨xs, e, hi, rfl⟩ | ⟨xs, e, hi, rfl⟩ | ⟨x, e, rfl⟩ | ⟨i, xs, e, hd, hi, rfl⟩
  · refine (PI.ok (pi_tup hl)).run pins s σ H R I ⟨δ, o, _, δ', E, n, e, fun v H1 o1 ov P => ?_⟩
    obtain ⟨a, vs, rfl, hq, r⟩ := P.held
    have := r.imm hi; subst this
    exact ⟨a, rfl, ⟨vs, hq⟩, fun hz => k _ H1 o1 [] P.step P.env P.own (fun a ha => nomatch ha) (src_tup fun H' h1 h2 h3 => ⟨vs, (fr_of h1 h2).sqt hq, r.fr (fr_of h1 h2)⟩) (by rw [← r.length]; exact hz.2 _ _ hq)⟩
  · refine (PI.ok (pi_list hl)).run pins s σ H R I ⟨δ, o, _, δ', E, n, e, fun v H1 o1 ov P => ?_⟩
    obtain ⟨a, vs, o', rfl, hq, r, rfl⟩ := P.held
    have := r.imm hi; subst this
    refine ⟨a, rfl, ⟨vs, .of hq⟩, fun hz => k _ H1 o1 [a] P.step P.env P.own (fun b hb => by rw [List.mem_singleton.mp hb]; exact ⟨_, hq, ow_lst⟩) (src_list fun H' h1 h2 h3 => ⟨vs, .of ((h1 a List.mem_cons_self).trans hq), r.fr ((fr_of h1 h2).sub fun b hb => nomatch hb)⟩) (by rw [← r.length]; exact hz.1 _ _ (.of hq))⟩
  · refine (PI.ok (pi_list hl)).run pins s σ H R I ⟨δ, o, _, δ', E, n, e, fun v H1 o1 ov P => ?_⟩
    obtain ⟨a, vs, rfl, hq, r, rfl⟩ := P.held
    exact ⟨a, rfl, ⟨vs, hq.sq⟩, fun hz => k _ H1 o1 [] P.step P.env P.own (fun a ha => nomatch ha) (src_list fun H' h1 h2 h3 => ⟨vs, ((fr_of h1 h2).fz hq).sq, r.fr (fr_of h1 h2)⟩) (by rw [← r.length]; exact hz.1 _ _ hq.sq)⟩
  · refine (PI.ok (pi_str hl)).run pins s σ H R I ⟨δ, o, _, δ', E, n, e, fun v H1 o1 ov P => ?_⟩
    obtain ⟨rfl, hz, rfl⟩ := P.held
    refine ⟨x, rfl, fun _ => k _ H1 o1 [] P.step P.env P.own (fun a ha => nomatch ha) (fun i H' h1 h2 h3 => ⟨fun y hy => ?_, fun hl => by simpa [chars, Its] using hl⟩) (by simpa [chars, Str.length] using hz.1)⟩
    unfold chars at hy
    rw [List.getElem?_map, Array.getElem?_toList] at hy
    cases hc : x.cps[i]? with
    | none => rw [hc] at hy; simp at hy
    | some c =>
      rw [hc] at hy
      cases (Option.some.inj hy)
      refine ⟨(Array.getElem?_eq_some_iff.mp hc).1, fun v H'' hv => ?_⟩
      obtain ⟨rfl, c', hc', rfl⟩ := hv
      rw [hc] at hc'; cases hc'
      exact ⟨fun _ _ e => e, rfl, ⟨by show 1 ≤ sizeLine; decide, strOk_of (l := [c]) fun d hd => by rw [List.mem_singleton.mp hd]; exact strOk_mem hz.2 (Array.mem_toList_iff.mpr (Array.mem_of_getElem? hc))⟩, rfl⟩
  · refine (PI.ok (pi_list hl)).run pins s σ H R I ⟨δ, o, _, δ', E, n, e, fun v H1 o1 ov P => ?_⟩
    obtain ⟨rfl, u, hu, hp⟩ := P.held
    cases (show v = u from hp)
    obtain ⟨v0, oa, oi, ob, hv0, rd, e0, _, _⟩ := P.env.at hd
    rw [hu] at hv0; cases hv0
    obtain ⟨a, vs, o', rfl, hq, r, _⟩ := rd
    refine ⟨a, rfl, ⟨vs, .of hq⟩, fun hz => k _ H1 o1 [] P.step P.env P.own (fun b hb => nomatch hb) (src_list fun H' h1 h2 h3 => ?_) (by rw [← r.length]; exact hz.1 _ _ (.of hq))⟩
    obtain ⟨v2, o2, hv2, r2⟩ := h3 _ List.mem_cons_self
    rw [hu] at hv2; cases hv2
    obtain ⟨a2, vs2, o2', e2, hq2, rr2, _⟩ := r2
    cases e2
    have := rr2.imm hi; subst this
    exact ⟨vs2, .of hq2, rr2⟩⟩
end

/-! ### lists that change -/
section
variable {K : Fw} {κ : Kx} {H : Hp} {σ : L2.St}
/-- the list at a place of the names, and another content in its stead -/
theorem Envs.mut {δ : DE} {o : List Addr} {s : Nat} {p : List Nat} {d0 : D} {xs : List D} {v : V} {ov : List Addr} (E : Envs κ H σ δ o) (hh : Held κ.K H σ (.at s p) v ov) (hd : δ[s]? = some (some d0)) (hg : getP p d0 = some (.lst xs)) :
    ∃ a vs oxs, v = .ref a ∧ H a = some (.lst vs) ∧ Reps κ.K H xs vs oxs ∧ a ∈ o ∧ (∀ b, oxs.count b ≤ o.count b) ∧
      ∀ ov xs' vs' oxs' d', Nd (ov ++ o) → Reps κ.K H xs' vs' oxs' → (∀ b, oxs'.count b ≤ oxs.count b + ov.count b) → setP p d0 (.lst xs') = some d' → ∃ o', Envs κ (upd H a (.lst vs')) σ (δ.set s (some d')) o' ∧ ∀ b, o'.count b ≤ ov.count b + o.count b := by
  obtain ⟨_, u, hu, hp⟩ := hh
  obtain ⟨v0, oa, oi, ob, hv0, rd, rfl, kr, _⟩ := E.at hd
  rw [hu] at hv0; cases hv0
  obtain ⟨oe, or_, re, hc, k2⟩ := rd.path hg hp
  obtain ⟨a, vs, oxs, rfl, ha, rs, rfl⟩ := re
  have hca := hc a
  rw [List.count_cons_self] at hca
  refine ⟨a, vs, oxs, rfl, ha, rs, ?_, fun b => ?_, fun ov xs' vs' oxs' d' n r' c' hs => ?_⟩
  · refine List.count_pos_iff.mp ?_
    simp only [List.count_append]; omega
  · have h1 := hc b
    have h2 : oxs.count b ≤ (a :: oxs).count b := List.count_le_count_cons
    simp only [List.count_append]; omega
  · have nn := fun b => n b
    simp only [List.count_append] at nn
    have na := nn a
    have nax : a ∉ oxs' := fun hm => by
      have h1 := c' a
      have h2 : 0 < oxs'.count a := List.count_pos_iff.mpr hm
      omega
    have fra : ∀ (l : List Addr), a ∉ l → Fr H (upd H a (.lst vs')) l := fun l hl => ⟨fun b hb => upd_ne (fun e => hl (e ▸ hb)), fun b w e hw => by
      have : b ≠ a := fun z => by rw [z, ha] at e; cases e; exact hw
      rw [upd_ne this]; exact e, (Step.write (W := [a]) ha List.mem_cons_self).tab⟩
    have nar : a ∉ or_ := fun hm => by
      have h2 : 0 < or_.count a := List.count_pos_iff.mpr hm
      omega
    have nab : a ∉ oa ++ ob := fun hm => by
      have h2 : 0 < (oa ++ ob).count a := List.count_pos_iff.mpr hm
      rw [List.count_append] at h2
      omega
    obtain ⟨o1', r1, c1⟩ := k2 (upd H a (.lst vs')) (.lst xs') (a :: oxs') d' ⟨a, vs', oxs', rfl, upd_same, r'.fr (fra _ nax), rfl⟩ (fra _ nar) hs
    refine ⟨oa ++ o1' ++ ob, kr _ d' o1' r1 (fra _ nab), fun b => ?_⟩
    have h1 := hc b
    have h2 := c1 b
    have h3 := c' b
    simp only [List.count_append, List.count_cons] at h1 h2 h3 ⊢
    omega
end
/-- a change of the list that the first operand stands for -/
def mutD (δ : DE) (r : R) (f : List D → Option (List D)) : Option DE := match r with
  | .at s p => match δ[s]? with
    | some (some d0) => match getP p d0 with
      | some (.lst xs) => match f xs with
        | some xs' => match setP p d0 (.lst xs') with
          | some d' => some (δ.set s (some d'))
          | none => none
        | none => none
      | _ => none
    | _ => none
  | _ => none
theorem mutD_inv {δ δ' : DE} {r : R} {f : List D → Option (List D)} (h : mutD δ r f = some δ') : ∃ s p d0 xs xs' d', r = .at s p ∧ δ[s]? = some (some d0) ∧ getP p d0 = some (.lst xs) ∧ f xs = some xs' ∧ setP p d0 (.lst xs') = some d' ∧ δ' = δ.set s (some d') := by
  unfold mutD at h
  split at h
  · split at h
    · split at h
      · split at h
        · split at h
          · cases (Option.some.inj h)
            exact ⟨_, _, _, _, _, _, rfl, by assumption, by assumption, by assumption, by assumption, rfl⟩
          · cases h
        · cases h
      · cases h
    · cases h
  · cases h
def isLst (δ : DE) (r : R) : Bool := match deref δ r with
  | some (.lst _) => true
  | _ => false
def dAppend (qe : Bool) (mo me : Den) : Den := fun δ => match mo δ with
  | some (ro, δ1) => match me δ1 with
    | some (.own d, δ2) => if (ro.short || qe) && isLst δ1 ro then match mutD δ2 ro fun xs => if xs.length < 1000000 then some (xs ++ [d]) else none with
      | some δ3 => some (.own .non, δ3)
      | none => none
      else none
    | _ => none
  | none => none
theorem isLst_ty {κ : Kx} {H : Hp} {σ : L2.St} {δ : DE} {o ov : List Addr} {r : R} {v : V} (E : Envs κ H σ δ o) (h : Held κ.K H σ r v ov) (e : isLst δ r = true) : tyV κ.K "list" v H := by
  unfold isLst at e
  split at e
  · rename_i xs e1
    obtain ⟨o', ⟨a, vs, o2, rfl, hq, _⟩, _⟩ := h.deref E e1
    exact .inl ⟨rfl, vs, .of hq⟩
  · cases e
section
variable {X : Cx} {eo e : Expr} {qo qe : Bool} {mo me : Den} {apos cpos : Pos}
theorem t_append {σ : L2.St} {H : Hp} {Q : VK} (h : T (kx X) false (dAppend qe mo me) σ H Q) : tBM X.K "list" rAppend (T (kx X) qo mo) (TAr (kx X) (qe && true) (dACons true me dANil)) σ H Q := by
  obtain ⟨δ, o, r, δ', E, n, hm, k⟩ := h
  simp only [dAppend] at hm
  cases h1 : mo δ with
  | none => rw [h1] at hm; simp at hm
  | some p1 =>
    obtain ⟨ro, δ1⟩ := p1
    rw [h1] at hm; dsimp only at hm
    cases h2 : me δ1 with
    | none => rw [h2] at hm; simp at hm
    | some p2 =>
      obtain ⟨re, δ2⟩ := p2
      rw [h2] at hm
      cases re with
      | «at» _ _ => simp at hm
      | own d =>
        dsimp only at hm
        by_cases hc0 : ((ro.short || qe) && isLst δ1 ro) = true
        · rw [if_pos hc0] at hm
          obtain ⟨hc, hil⟩ := Bool.and_eq_true_iff.mp hc0
          cases h3 : mutD δ2 ro fun xs => if xs.length < 1000000 then some (xs ++ [d]) else none with
          | none => rw [h3] at hm; simp at hm
          | some δ3 =>
            rw [h3] at hm
            simp only [Option.some.injEq, Prod.mk.injEq] at hm
            obtain ⟨rfl, rfl⟩ := hm
            obtain ⟨s, p, d0, xs, xs', d', rfl, hd, hg, hf, hs, rfl⟩ := mutD_inv h3
            by_cases hlen : xs.length < 1000000
            · rw [if_pos hlen] at hf
              cases (Option.some.inj hf)
              refine ⟨δ, o, _, δ1, E, n, h1, fun v H1 o1 ov1 P1 => ⟨?_, ?_⟩⟩
              · exact isLst_ty P1.env P1.held hil
              · refine ⟨δ1, o1, [.own d], δ2, P1.env, nd_of P1.own n, by simp only [dACons, dANil, h2, Bool.or_true, if_true], fun vs H2 o2 ov2 s2 E2 hl w2 => ?_⟩
                rw [Bool.and_true] at s2
                have hh : Held X.F H2 σ (.at s p) v ov1 := P1.held.step s2 (Wq_ok P1.env) (fun a ha hw => apart_of P1.own n a ha (Wq_sub a hw)) (by
                  simp only [Bool.or_eq_true] at hc
                  rcases hc with hc | hc
                  · exact .inl hc
                  · right; subst hc; rfl)
                obtain ⟨y, vr, oy, onil, rfl, ry, ⟨rfl, rfl⟩, rfl⟩ := hl
                rw [List.append_nil] at w2
                obtain ⟨a, vs, oxs, rfl, ha, rs, hao, hcx, km⟩ := Envs.mut E2 hh hd hg
                have n2 := w2.nd (nd_of P1.own n)
                obtain ⟨o3, E3, c3⟩ := km oy (xs ++ [d]) (vs ++ [y]) (oxs ++ oy) d' n2 (rs.append (.one ry)) (fun b => Nat.le_of_eq (by rw [List.count_append])) hs
                refine ⟨a, vs, y, rfl, rfl, ha, by rw [rs.length]; exact Nat.lt_of_lt_of_le hlen (by decide), ?_⟩
                have w12 := own_app P1.own P1.step P1.held.dom w2
                have s12 : Step H H2 o := ((P1.step.seq (own_right P1.own) s2).mono Wq_sub)
                refine k _ _ o3 [] ⟨?_, E3, ⟨rfl, rfl⟩, fun b => ?_⟩
                · refine ⟨fun b u e hn hu => ?_, fun b e => ?_, fun P g => (Step.write (W := [a]) ha List.mem_cons_self).tab P (s12.tab P g)⟩
                  · have e2 := s12.keep b u e hn hu
                    have : b ≠ a := fun z => by
                      subst z
                      rcases w12 b with w | ⟨w, _⟩
                      · have h5 : 0 < o2.count b := List.count_pos_iff.mpr hao
                        simp only [List.count_append] at w
                        have h6 : 0 < o.count b := by omega
                        exact hn (List.count_pos_iff.mp h6)
                      · rw [e] at w; cases w
                    rw [upd_ne this]; exact e2
                  · by_cases z : b = a
                    · subst z; rw [upd_same] at e; cases e
                    · rw [upd_ne z] at e; exact s12.dom b e
                · have g1 := c3 b
                  have g2 := w12 b
                  simp only [List.count_append, List.nil_append] at g1 g2 ⊢
                  rcases g2 with g2 | ⟨z, g2⟩
                  · left; omega
                  · right; exact ⟨z, by omega⟩
            · rw [if_neg hlen] at hf; cases hf
        · rw [if_neg hc0] at hm; simp at hm
end
end Z


set_option Elab.async false
set_option linter.all false
set_option maxRecDepth 100000
/-! stores to items, methods of lists; operators by the data -/
namespace Z
open PySem PySem.Spec PyProof.Rows L2

section
variable {K : Fw} {κ : Kx} {H H2 : Hp} {σ : L2.St}
/-- behind a change of the list at a place -/
theorem mut_end {δ2 : DE} {o o2 ovr ov : List Addr} {s : Nat} {p : List Nat} {d0 : D} {xs : List D} {v : V} (n : Nd o) (s12 : Step H H2 o) (E2 : Envs κ H2 σ δ2 o2) (w : Own H o (ovr ++ o2)) (hh : Held κ.K H2 σ (.at s p) v ov) (hd : δ2[s]? = some (some d0)) (hg : getP p d0 = some (.lst xs)) :
    ∃ a vs oxs, v = .ref a ∧ H2 a = some (.lst vs) ∧ Reps κ.K H2 xs vs oxs ∧ (∀ b, oxs.count b ≤ o2.count b) ∧
      ∀ xs' vs' oxs' d', Reps κ.K H2 xs' vs' oxs' → (∀ b, oxs'.count b ≤ oxs.count b + ovr.count b) → setP p d0 (.lst xs') = some d' →
        ∃ o3, Step H (upd H2 a (.lst vs')) o ∧ Envs κ (upd H2 a (.lst vs')) σ (δ2.set s (some d')) o3 ∧ Own H o o3 := by
  obtain ⟨a, vs, oxs, rfl, ha, rs, hao, hcx, km⟩ := Envs.mut E2 hh hd hg
  refine ⟨a, vs, oxs, rfl, ha, rs, hcx, fun xs' vs' oxs' d' r' c' hs => ?_⟩
  obtain ⟨o3, E3, c3⟩ := km ovr xs' vs' oxs' d' (w.nd n) r' c' hs
  refine ⟨o3, ⟨fun b u e hn hu => ?_, fun b e => ?_, fun P g => (Step.write (W := [a]) ha List.mem_cons_self).tab P (s12.tab P g)⟩, E3, fun b => ?_⟩
  · have e2 := s12.keep b u e hn hu
    have : b ≠ a := fun z => by
      subst z
      rcases w b with w | ⟨w, _⟩
      · have h5 : 0 < o2.count b := List.count_pos_iff.mpr hao
        simp only [List.count_append] at w
        have h6 : 0 < o.count b := by omega
        exact hn (List.count_pos_iff.mp h6)
      · rw [e] at w; cases w
    rw [upd_ne this]; exact e2
  · by_cases z : b = a
    · subst z; rw [upd_same] at e; cases e
    · rw [upd_ne z] at e; exact s12.dom b e
  · have g1 := c3 b
    have g2 := w b
    simp only [List.count_append] at g1 g2 ⊢
    rcases g2 with g2 | ⟨z, g2⟩
    · left; omega
    · right; exact ⟨z, by omega⟩
end

/-- o[i] = e -/
def dSetI (qo qi : Bool) (mo mi me : Den) : Blk := fun δ => match me δ with
  | some (.own d, δ1) => match mo δ1 with
    | some (ro, δ2) => match mi δ2 with
      | some (.own (.int k), δ3) => if ro.short || qi then match mutD δ3 ro fun xs => match ixN xs.length k with
          | some j => some (xs.set j d)
          | none => none with
        | some δ4 => some (.nx δ4)
        | none => none
        else none
      | _ => none
    | none => none
  | _ => none
theorem dSetI_inv {qo qi : Bool} {mo mi me : Den} {δ : DE} {out : Out} (h : dSetI qo qi mo mi me δ = some out) : ∃ d δ1 ro δ2 k δ3 δ4, me δ = some (.own d, δ1) ∧ mo δ1 = some (ro, δ2) ∧ mi δ2 = some (.own (.int k), δ3) ∧ (ro.short || qi) = true ∧
    (mutD δ3 ro fun xs => match ixN xs.length k with
          | some j => some (xs.set j d)
          | none => none) = some δ4 ∧ out = .nx δ4 := by
  unfold dSetI at h
  split at h
  · split at h
    · split at h
      · split at h
        · split at h
          · cases (Option.some.inj h)
            exact ⟨_, _, _, _, _, _, _, by assumption, by assumption, by assumption, by assumption, by assumption, rfl⟩
          · cases h
        · cases h
      · cases h
    · cases h
  · cases h
theorem Reps.setI {K : Fw} {H : Hp} : ∀ {xs : List D} {vs : List V} {o : List Addr} (j : Nat) {d : D} {y : V} {oy : List Addr}, Reps K H xs vs o → Rep K H d y oy → ∃ o', Reps K H (xs.set j d) (vs.set j y) o' ∧ ∀ b, o'.count b ≤ o.count b + oy.count b
  | [], _, _, _, _, _, _, h, _ => ⟨[], by rw [h.1]; exact ⟨rfl, rfl⟩, fun b => by simp⟩
  | x :: xs, _, _, 0, d, y, oy, h, r => by
    obtain ⟨v, vr, o1, o2, rfl, h1, h2, rfl⟩ := h
    exact ⟨oy ++ o2, ⟨y, vr, oy, o2, rfl, r, h2, rfl⟩, fun b => by simp only [List.count_append]; omega⟩
  | x :: xs, _, _, j + 1, d, y, oy, h, r => by
    obtain ⟨v, vr, o1, o2, rfl, h1, h2, rfl⟩ := h
    obtain ⟨o', r', c⟩ := Reps.setI j h2 r
    exact ⟨o1 ++ o', ⟨v, vr.set j y, o1, o', rfl, h1, r', rfl⟩, fun b => by have := c b; simp only [List.count_append]; omega⟩
section
variable {X : Cx} {eo ei e : Expr} {qo qi q : Bool} {mo mi me : Den} {kp : Nat → Bool} {pos pos' : Pos}
theorem z_setI (he : PE X e (T (kx X) q me)) (ho : PE X eo (T (kx X) qo mo)) (hi : PE X ei (T (kx X) qi mi))
    (ha : ∀ v, assign (.Subscript eo ei pos') X.env v = (do
      let ov ← holding [v] (eval eo X.env)
      let iv ← holding [v, ov] (eval ei X.env)
      standAt pos'
      holding [v, ov, iv] (setItem ov iv v)
      release [v, ov, iv] []) := by intro _; rfl)
    (hs : swapsWithSole [.Subscript eo ei pos'] e pos.line X.env = pure false := by rfl) (hw : swappedStores [.Subscript eo ei pos'] e X.env = pure none := by rfl)
    (h1 : (assignEach [.Subscript eo ei pos'] X.env).map (·.2) = [assign (.Subscript eo ei pos') X.env] := by rfl) : PS X (.Assign [.Subscript eo ei pos'] e pos) (TSm (kx X) kp (dSetI qo qi mo mi me)) :=
  PS.imp (ps_asg he (pg_sub ho hi set_list ha) hs hw h1) fun D' σ H ⟨δ, o, out, E, n, hm, f⟩ => by
    obtain ⟨d, δ1, ro, δ2, k, δ3, δ4, g1, g2, g3, hc, h3, rfl⟩ := dSetI_inv hm
    obtain ⟨s, p, d0, xs, xs', d', rfl, hd, hg, hf, hst, rfl⟩ := mutD_inv h3
    refine (Stk.start E).push n g1 (by simp [allShort]) fun y H1 S1 => ?_
    refine S1.push n g2 (by simp [allShort, R.short]) fun x H2 S2 => ?_
    refine S2.push n g3 ?_ fun w H3 S3 => ?_
    · simp only [allShort, R.short, Bool.and_true]; exact hc
    · obtain ⟨o3, ov, s3, E3, ⟨w', vr, ow, ox1, e1, hw1, ⟨x', vr2, ox, oy1, e2, hx, ⟨y', vr3, oy, on, e3, hy, ⟨e4, e5⟩, e6⟩, e7⟩, e8⟩, w3⟩ := S3
      subst e5 e6 e7 e8 e4
      cases e3; cases e2; cases e1
      obtain ⟨rfl, rfl⟩ := hw1
      have hx0 := hx.1
      subst hx0
      have w4 : Own H o (oy ++ o3) := by simpa using w3
      obtain ⟨a, vs, oxs, rfl, haa, rs, _, km⟩ := mut_end n (s3.mono Wq_sub) E3 w4 hx hd hg
      cases hj : ixN xs.length k with
      | none => rw [hj] at hf; simp at hf
      | some j =>
        rw [hj] at hf
        cases (Option.some.inj hf)
        obtain ⟨o', r', c'⟩ := rs.setI j (d := d) hy
        obtain ⟨o5, s5, E5, w5⟩ := km _ _ o' d' r' c' hst
        exact ⟨a, vs, k, j, rfl, rfl, haa, by rw [rs.length]; exact hj, f σ _ o5 ⟨s5, E5, w5, fun _ _ => rfl⟩⟩
theorem z_append (ho : PE X eo (T (kx X) qo mo)) (he : PE X e (T (kx X) qi me)) {apos cpos : Pos} (hs : starEach [e] X.env = (false, eval e X.env) :: starEach [] X.env := by rfl)
    (hbase : attributeBase eo "append" X.env (eval eo X.env) = eval eo X.env := by rfl)
    (hfew : ((backTo cpos (starEach [e] X.env)).all (fun x => !x.1) && (backToKw cpos (keywordEach [] X.env)).all (fun x => x.1.isSome)
      && decide ([e].length + ([] : List Keyword).length + (if ([] : List Keyword).isEmpty then 0 else 1) < 30)) = true := by rfl)
    (hline : (apos.endLine == cpos.line) = true := by rfl) (hplain : (backTo cpos (starEach [] X.env)).any (·.1) = false := by rfl) :
    PE X (.Call (.Attribute eo "append" apos) [e] [] cpos) (T (kx X) false (dAppend qi mo me)) :=
  PE.imp (pe_bm PySem.F.plainAttrs_list PySem.F.slot_list_append PySem.F.type_list_append mt_append ho (z_acons he z_anil hs) hbase hfew hline hs hplain) fun σ H Q h => t_append h
end

/-! ### operators by the data: the rules -/
theorem pr_end {K : Fw} {f : List D → Option D} {vs : List V} {H : Hp} {Q : VK} (h : Pr K f vs H Q) : ∃ ds o d, Reps K H ds vs o ∧ f ds = some d ∧ (∀ v, Rep K H d v [] → Q v H) ∧ ∀ v H' ov, (∀ a u, H a = some u → H' a = some u) → Rep K H' d v ov → Fresh H ov → Q v H' := by
  obtain ⟨ds, o, d, r, e, k⟩ := h
  exact ⟨ds, o, d, r, e, fun v rv => k v H [] (fun _ _ e => e) rv fresh_nil, k⟩
theorem reps2 {K : Fw} {H : Hp} {ds : List D} {x y : V} {o : List Addr} (h : Reps K H ds [x, y] o) : ∃ a b oa ob, ds = [a, b] ∧ Rep K H a x oa ∧ Rep K H b y ob := by
  cases ds with
  | nil => exact absurd h.1 (by simp)
  | cons a ds =>
    obtain ⟨v, vr, o1, o2, e, h1, h2, _⟩ := h
    cases e
    cases ds with
    | nil => exact absurd h2.1 (by simp)
    | cons b ds =>
      obtain ⟨v, vr, o3, o4, e, h3, h4, _⟩ := h2
      cases e
      cases ds with
      | nil => exact ⟨a, b, o1, o3, rfl, h1, h3⟩
      | cons c ds => obtain ⟨v, vr, _, _, e, _⟩ := h4; cases e
theorem reps1 {K : Fw} {H : Hp} {ds : List D} {x : V} {o : List Addr} (h : Reps K H ds [x] o) : ∃ a oa, ds = [a] ∧ Rep K H a x oa := by
  cases ds with
  | nil => exact absurd h.1 (by simp)
  | cons a ds =>
    obtain ⟨v, vr, o1, o2, e, h1, h2, _⟩ := h
    cases e
    cases ds with
    | nil => exact ⟨a, o1, rfl, h1⟩
    | cons c ds => obtain ⟨v, vr, _, _, e, _⟩ := h2; cases e

def fAdd : List D → Option D
  | [.int i, .int j] => some (.int (i + j))
  | [.str a, .str b] => if a.length + b.length ≤ 1000000 then some (.str (a ++ b)) else none
  | [.tup a, .tup b] => if D.imms a && D.imms b && decide (a.length + b.length ≤ 1000000) then some (.tup (a ++ b)) else none
  | [.lst a, .lst b] => if D.imms a && D.imms b && decide (a.length + b.length ≤ 1000000) then some (.lst (a ++ b)) else none
  | _ => none
theorem m_sz {n : Nat} (h : n ≤ 1000000) : n ≤ sizeLine := Nat.le_trans h (by decide)
section
variable {X : Cx}
theorem Reps.imm' {K : Fw} {H : Hp} {xs : List D} {vs : List V} {o : List Addr} (r : Reps K H xs vs o) (h : D.imms xs = true) : Reps K H xs vs [] := by
  have := r.imm h
  subst this; exact r
theorem list_cat {pins : List (Addr × Obj)} {s : Shared} {σ : L2.St} {H : Hp} {Q : VK} {xs ys : List D} {vs ws : List V} {a b : Addr} (I : Inv X pins σ H s) (ha : H a = some (.lst vs)) (hb : H b = some (.lst ws)) (ra : Reps X.F H xs vs []) (rb : Reps X.F H ys ws []) (hz : xs.length + ys.length ≤ 1000000)
    (k : ∀ v H' ov, (∀ a u, H a = some u → H' a = some u) → Rep X.F H' (.lst (xs ++ ys)) v ov → Fresh H ov → Q v H') : wpAny (model X.prog X.w) X.A (binaryOp .Add (.ref a) (.ref b)) (EP X pins σ Q) X.xe s :=
  op_cat pins s σ H (.ref a) (.ref b) (.ref a) (.ref b) Q I rfl rfl ⟨a, b, vs, ws, rfl, rfl, ha, hb, by rw [ra.length, rb.length]; exact m_sz hz, fun p hp => k _ _ [p] (new_same hp) ⟨p, vs ++ ws, [], rfl, upd_same, (ra.append rb).same (new_same hp), rfl⟩ (fresh_one hp)⟩
theorem strOk_app {a b : Str} (ha : PyData.strOk a = true) (hb : PyData.strOk b = true) : PyData.strOk (a ++ b) = true := by
  have e : a ++ b = ⟨(a.cps.toList ++ b.cps.toList).toArray⟩ := by
    show (⟨a.cps ++ b.cps⟩ : Str) = _
    congr 1
    apply Array.toList_inj.mp
    simp
  rw [e]
  exact strOk_of fun c hc => (List.mem_append.mp hc).elim (strOk_mem ha) (strOk_mem hb)
theorem o_add : OpR X (binaryOp .Add) fun x y => Pr X.F fAdd [x, y] := by
  intro pins s σ H x y v u Q I rx ry h
  obtain ⟨ds, o, d, r, e, k0, k⟩ := pr_end h
  obtain ⟨a, b, oa, ob, rfl, ra, rb⟩ := reps2 r
  unfold fAdd at e
  split at e
  · rename_i i j he
    cases he
    cases (Option.some.inj e)
    obtain ⟨rfl, _⟩ := ra
    obtain ⟨rfl, _⟩ := rb
    exact op_add pins s σ H _ _ v u Q I rx ry ⟨i, j, rfl, rfl, k0 _ ⟨rfl, rfl⟩⟩
  · rename_i i j he
    cases he
    split at e
    · rename_i hl
      cases (Option.some.inj e)
      obtain ⟨rfl, si, _⟩ := ra
      obtain ⟨rfl, sj, _⟩ := rb
      exact op_add_str pins s σ H _ _ v u Q I rx ry ⟨i, j, rfl, rfl, m_sz hl, k0 _ ⟨rfl, ⟨by rw [show (i ++ j).length = i.length + j.length from Array.size_append ..]; exact m_sz hl, strOk_app si.2 sj.2⟩, rfl⟩⟩
    · cases e
  · rename_i i j he
    cases he
    split at e
    · rename_i hc
      simp only [Bool.and_eq_true, decide_eq_true_eq] at hc
      obtain ⟨⟨h1, h2⟩, h3⟩ := hc
      cases (Option.some.inj e)
      obtain ⟨pa, va, rfl, qa, sa⟩ := ra
      obtain ⟨pb, vb, rfl, qb, sb⟩ := rb
      have sa := sa.imm' h1
      have sb := sb.imm' h2
      refine op_catA pins s σ H _ _ v u Q I rx ry ⟨pa, pb, va, vb, rfl, rfl, qa, qb, by rw [sa.length, sb.length]; exact m_sz h3, fun h => k0 _ ?_, fun h h' => k0 _ ?_, fun h h' p hp => k _ _ [] (new_same hp) ⟨p, _, rfl, .of upd_same, (sa.append sb).same (new_same hp)⟩ fresh_nil⟩
      · subst h
        have : i = [] := List.eq_nil_of_length_eq_zero (by rw [← sa.length]; rfl)
        subst this
        exact ⟨pb, vb, rfl, qb, sb⟩
      · subst h'
        have : j = [] := List.eq_nil_of_length_eq_zero (by rw [← sb.length]; rfl)
        subst this
        rw [List.append_nil]
        exact ⟨pa, va, rfl, qa, sa⟩
    · cases e
  · rename_i i j he
    cases he
    split at e
    · rename_i hc
      simp only [Bool.and_eq_true, decide_eq_true_eq] at hc
      obtain ⟨⟨h1, h2⟩, h3⟩ := hc
      cases (Option.some.inj e)
      obtain ⟨pa, va, _, rfl, qa, sa, _⟩ := ra
      obtain ⟨pb, vb, _, rfl, qb, sb, _⟩ := rb
      cases rx; cases ry
      exact list_cat I qa qb (sa.imm' h1) (sb.imm' h2) h3 k
    · cases e
  · cases e
/-- two ints -/
def fI2 (g : Int → Int → Option D) : List D → Option D
  | [.int i, .int j] => g i j
  | _ => none
theorem fI2_inv {g : Int → Int → Option D} {K : Fw} {H : Hp} {x y : V} {Q : VK} (h : Pr K (fI2 g) [x, y] H Q) : ∃ i j d, x = .int i ∧ y = .int j ∧ g i j = some d ∧ (∀ v, Rep K H d v [] → Q v H) := by
  obtain ⟨ds, o, d, r, e, k0, _⟩ := pr_end h
  obtain ⟨a, b, oa, ob, rfl, ra, rb⟩ := reps2 r
  unfold fI2 at e
  split at e
  · rename_i i j he
    cases he
    obtain ⟨rfl, _⟩ := ra
    obtain ⟨rfl, _⟩ := rb
    exact ⟨i, j, d, rfl, rfl, e, k0⟩
  · cases e
theorem o_sub : OpR X (binaryOp .Sub) fun x y => Pr X.F (fI2 fun i j => some (.int (i - j))) [x, y] := by
  intro pins s σ H x y v u Q I rx ry h
  obtain ⟨i, j, d, rfl, rfl, e, k0⟩ := fI2_inv h
  cases (Option.some.inj e)
  exact op_sub pins s σ H _ _ v u Q I rx ry ⟨i, j, rfl, rfl, k0 _ ⟨rfl, rfl⟩⟩
def fMul : List D → Option D
  | [.int i, .int j] => if -(2 ^ 64) < i ∧ i < 2 ^ 64 ∨ -(2 ^ 64) < j ∧ j < 2 ^ 64 then some (.int (i * j)) else none
  | [.lst a, .int j] => if D.imms a ∧ -1000000 ≤ j ∧ j ≤ 1000000 ∧ a.length * j.toNat ≤ 1000000 then some (.lst (List.replicate j.toNat a).flatten) else none
  | _ => none
theorem reps_flat {K : Fw} {H : Hp} {xs : List D} {vs : List V} (r : Reps K H xs vs []) : ∀ n : Nat, Reps K H (List.replicate n xs).flatten (List.replicate n vs).flatten []
  | 0 => ⟨rfl, rfl⟩
  | n + 1 => by
    rw [List.replicate_succ, List.flatten_cons, List.replicate_succ, List.flatten_cons]
    exact r.append (reps_flat r n)
theorem o_mul : OpR X (binaryOp .Mult) fun x y => Pr X.F fMul [x, y] := by
  intro pins s σ H x y v u Q I rx ry h
  obtain ⟨ds, o, d, r, e, k0, k⟩ := pr_end h
  obtain ⟨a, b, oa, ob, rfl, ra, rb⟩ := reps2 r
  unfold fMul at e
  split at e
  · rename_i i j he
    cases he
    split at e
    · rename_i hc
      cases (Option.some.inj e)
      obtain ⟨rfl, _⟩ := ra
      obtain ⟨rfl, _⟩ := rb
      exact op_mul pins s σ H _ _ v u Q I rx ry ⟨i, j, rfl, rfl, hc, k0 _ ⟨rfl, rfl⟩⟩
    · cases e
  · rename_i i j he
    cases he
    split at e
    · rename_i hc
      obtain ⟨h1, h2, h3, h4⟩ := hc
      cases (Option.some.inj e)
      obtain ⟨pa, va, _, rfl, qa, sa, _⟩ := ra
      obtain ⟨rfl, _⟩ := rb
      have sa := sa.imm' h1
      refine op_rep pins s σ H _ _ v u Q I rx ry ⟨pa, j, va, rfl, rfl, qa, by omega, by omega, by rw [sa.length]; exact m_sz h4, fun p hp => ?_⟩
      exact k _ _ [p] (new_same hp) ⟨p, _, [], rfl, upd_same, (reps_flat sa _).same (new_same hp), rfl⟩ (fresh_one hp)
    · cases e
  · cases e
theorem o_fdiv : OpR X (binaryOp .FloorDiv) fun x y => Pr X.F (fI2 fun i j => if j ≠ 0 ∧ j.natAbs < 1073741824 then some (.int (i.fdiv j)) else none) [x, y] := by
  intro pins s σ H x y v u Q I rx ry h
  obtain ⟨i, j, d, rfl, rfl, e, k0⟩ := fI2_inv h
  split at e
  · rename_i hc
    cases (Option.some.inj e)
    exact op_fdivN pins s σ H _ _ v u Q I rx ry ⟨i, j, rfl, rfl, hc, k0 _ ⟨rfl, rfl⟩⟩
  · cases e
theorem o_mod : OpR X (binaryOp .Mod) fun x y => Pr X.F (fI2 fun i j => if j ≠ 0 then some (.int (i.fmod j)) else none) [x, y] := by
  intro pins s σ H x y v u Q I rx ry h
  obtain ⟨i, j, d, rfl, rfl, e, k0⟩ := fI2_inv h
  split at e
  · rename_i hc
    cases (Option.some.inj e)
    exact op_modN pins s σ H _ _ v u Q I rx ry ⟨i, j, rfl, rfl, hc, k0 _ ⟨rfl, rfl⟩⟩
  · cases e
theorem o_pow : OpR X (binaryOp .Pow) fun x y => Pr X.F (fI2 fun i j => if 0 ≤ j ∧ j ≤ 1000000 ∧ i.natAbs < 2 ^ 64 then some (.int (i ^ j.toNat)) else none) [x, y] := by
  intro pins s σ H x y v u Q I rx ry h
  obtain ⟨i, j, d, rfl, rfl, e, k0⟩ := fI2_inv h
  split at e
  · rename_i hc
    cases (Option.some.inj e)
    exact op_pow pins s σ H _ _ v u Q I rx ry ⟨i, j, rfl, rfl, hc, k0 _ ⟨rfl, rfl⟩⟩
  · cases e
end
end Z


set_option Elab.async false
set_option linter.all false
set_option maxRecDepth 100000
/-! comparisons and built-in functions by the data -/
namespace Z
open PySem PySem.Spec PyProof.Rows L2

mutual
def toPy : D → PyData
  | .non => .none
  | .bl b => .bool b
  | .int i => .int i
  | .str x => .str x
  | .tup xs => .tuple (toPys xs)
  | .lst xs => .list (toPys xs)
  | .frz xs => .list (toPys xs)
  | .dic ks vs => .dict ((toPys ks).zip (toPys vs))
  | .obj _ _ _ => .none
def toPys : List D → List PyData
  | [] => []
  | x :: xs => toPy x :: toPys xs
end
theorem toPys_map : ∀ xs : List D, toPys xs = xs.map toPy
  | [] => rfl
  | x :: xs => by rw [toPys, toPys_map xs]; rfl
mutual
/-- how deep; a dict is deeper than anything that is compared -/
def D.dp : D → Nat
  | .tup xs => D.dps xs + 1
  | .lst xs => D.dps xs + 1
  | .frz xs => D.dps xs + 1
  | .dic _ _ => 100
  | .obj _ _ _ => 100
  | _ => 0
def D.dps : List D → Nat
  | [] => 0
  | x :: xs => max (D.dp x) (D.dps xs)
end
mutual
theorem dp_eq : ∀ d : D, D.dp d < 100 → (toPy d).depth = D.dp d
  | .non, _ => by simp [toPy, PyData.depth, D.dp]
  | .bl _, _ => by simp [toPy, PyData.depth, D.dp]
  | .int _, _ => by simp [toPy, PyData.depth, D.dp]
  | .str _, _ => by simp [toPy, PyData.depth, D.dp]
  | .tup xs, h => by simp only [D.dp] at h; simp [toPy, PyData.depth, D.dp, dps_eq xs (by omega)]
  | .lst xs, h => by simp only [D.dp] at h; simp [toPy, PyData.depth, D.dp, dps_eq xs (by omega)]
  | .frz xs, h => by simp only [D.dp] at h; simp [toPy, PyData.depth, D.dp, dps_eq xs (by omega)]
  | .dic _ _, h => by simp [D.dp] at h
  | .obj _ _ _, h => by simp [D.dp] at h
theorem dps_eq : ∀ ds : List D, D.dps ds < 100 → PyData.depthAll (toPys ds) = D.dps ds
  | [], _ => by simp [toPys, PyData.depthAll, D.dps]
  | x :: xs, h => by simp only [D.dps] at h; simp [toPys, PyData.depthAll, D.dps, dp_eq x (by omega), dps_eq xs (by omega)]
end
def dep (d : D) : Bool := decide (D.dp d ≤ 60)
theorem dep_lt {d : D} (h : dep d = true) : D.dp d < 100 := by have := of_decide_eq_true h; omega
theorem dep_le {d : D} (h : dep d = true) : (toPy d).depth ≤ 60 := by have := of_decide_eq_true h; rw [dp_eq d (dep_lt h)]; exact this
def eqD (a b : D) : Bool := PyData.eqv (toPy a) (toPy b)
section
variable {K : Fw} {κ : Kx} {H : Hp}
mutual
theorem Rep.dp : ∀ {d : D} {v : V} {o : List Addr}, Rep K H d v o → D.dp d < 100 → Dp K H v (toPy d)
  | .non, _, _, h, _ => by rw [h.1]; exact .non
  | .bl b, _, _, h, _ => by rw [h.1]; exact .bl b
  | .int b, _, _, h, _ => by rw [h.1]; exact .int b
  | .str b, _, _, h, _ => by rw [h.1]; exact .str b
  | .tup xs, _, _, h, g => by
    obtain ⟨a, vs, rfl, hq, r⟩ := h
    exact .tup hq (Reps.dp r (by simp only [D.dp] at g; omega))
  | .lst xs, _, _, h, g => by
    obtain ⟨a, vs, o', rfl, hq, r, _⟩ := h
    exact .lst (.of hq) (Reps.dp r (by simp only [D.dp] at g; omega))
  | .frz xs, _, _, h, g => by
    obtain ⟨a, vs, rfl, hq, r, _⟩ := h
    exact .lst hq.sq (Reps.dp r (by simp only [D.dp] at g; omega))
  | .dic _ _, _, _, h, g => by simp [D.dp] at g
  | .obj _ _ _, _, _, h, g => by simp [D.dp] at g
theorem Reps.dp : ∀ {d : List D} {v : List V} {o : List Addr}, Reps K H d v o → D.dps d < 100 → DpAll K H v (toPys d)
  | [], _, _, h, _ => by rw [h.1]; exact .nil
  | x :: xs, _, _, h, g => by
    obtain ⟨v, vr, o1, o2, rfl, h1, h2, _⟩ := h
    exact .cons (Rep.dp h1 (by simp only [D.dps] at g; omega)) (Reps.dp h2 (by simp only [D.dps] at g; omega))
end
mutual
theorem Rep.lay : ∀ {d : D} {v : V} {o : List Addr}, Rep K H d v o → D.dp d < 100 → (toPy d).canLay0 = true
  | .non, _, _, h, _ => by simp [toPy, PyData.canLay0]
  | .bl b, _, _, h, _ => by simp [toPy, PyData.canLay0]
  | .int b, _, _, h, _ => by simp [toPy, PyData.canLay0]
  | .str b, _, _, h, _ => by simp only [toPy, PyData.canLay0]; exact h.2.1.2
  | .tup xs, _, _, h, g => by
    obtain ⟨a, vs, rfl, hq, r⟩ := h
    simp only [toPy, PyData.canLay0]; exact Reps.lay r (by simp only [D.dp] at g; omega)
  | .lst xs, _, _, h, g => by
    obtain ⟨a, vs, o', rfl, hq, r, _⟩ := h
    simp only [toPy, PyData.canLay0]; exact Reps.lay r (by simp only [D.dp] at g; omega)
  | .frz xs, _, _, h, g => by
    obtain ⟨a, vs, rfl, hq, r, _⟩ := h
    simp only [toPy, PyData.canLay0]; exact Reps.lay r (by simp only [D.dp] at g; omega)
  | .dic _ _, _, _, h, g => by simp [D.dp] at g
  | .obj _ _ _, _, _, h, g => by simp [D.dp] at g
theorem Reps.lay : ∀ {d : List D} {v : List V} {o : List Addr}, Reps K H d v o → D.dps d < 100 → PyData.canLayAll0 (toPys d) = true
  | [], _, _, h, _ => by simp [toPys, PyData.canLayAll0]
  | x :: xs, _, _, h, g => by
    obtain ⟨v, vr, o1, o2, rfl, h1, h2, _⟩ := h
    simp only [toPys, PyData.canLayAll0, Bool.and_eq_true]
    exact ⟨Rep.lay h1 (by simp only [D.dps] at g; omega), Reps.lay h2 (by simp only [D.dps] at g; omega)⟩
end
theorem Rep.shaped {d : D} {v : V} {o : List Addr} (r : Rep K H d v o) (h : dep d = true) : SeqAt.shaped (toPy d) = true := by
  show ((toPy d).canLay0 && decide ((toPy d).depth ≤ 64)) = true
  rw [Bool.and_eq_true]
  have := dep_le h
  exact ⟨r.lay (dep_lt h), decide_eq_true (by omega)⟩
theorem ents_vals {w : World} : ∀ {ks : List D} {kvs vvs : List V} {es : List DictEntry}, Ents w ks kvs vvs es → Vals kvs (es.map (·.key)) ∧ Vals vvs (es.map (·.val))
  | [], [], [], [], _ => ⟨.nil, .nil⟩
  | _ :: _, _ :: _, _ :: _, _ :: _, h => ⟨.cons h.2.1 (ents_vals h.2.2.2).1, .cons h.2.2.1 (ents_vals h.2.2.2).2⟩
  | [], [], [], _ :: _, h => h.elim
  | [], [], _ :: _, _, h => h.elim
  | [], _ :: _, _, _, h => h.elim
  | _ :: _, [], _, _, h => h.elim
  | _ :: _, _ :: _, [], _, h => h.elim
  | _ :: _, _ :: _, _ :: _, [], h => h.elim
theorem zip_both {α β : Type} : ∀ (xs : List α) (ys : List β), xs.length = ys.length → (xs.zip ys).map (·.1) = xs ∧ (xs.zip ys).map (·.2) = ys
  | [], [], _ => ⟨rfl, rfl⟩
  | x :: xs, y :: ys, h => by
    obtain ⟨h1, h2⟩ := zip_both xs ys (by simpa using h)
    exact ⟨by simp [h1], by simp [h2]⟩
  | [], _ :: _, h => by simp at h
  | _ :: _, [], h => by simp at h
theorem toPys_length : ∀ xs : List D, (toPys xs).length = xs.length := fun xs => by rw [toPys_map, List.length_map]
theorem ents_length {w : World} : ∀ {ks : List D} {kvs vvs : List V} {es : List DictEntry}, Ents w ks kvs vvs es → kvs.length = ks.length ∧ vvs.length = ks.length ∧ es.length = ks.length
  | [], [], [], [], _ => ⟨rfl, rfl, rfl⟩
  | _ :: _, _ :: _, _ :: _, _ :: _, h => by
    obtain ⟨h1, h2, h3⟩ := ents_length h.2.2.2
    simp [h1, h2, h3]
  | [], [], [], _ :: _, h => h.elim
  | [], [], _ :: _, _, h => h.elim
  | [], _ :: _, _, _, h => h.elim
  | _ :: _, [], _, _, h => h.elim
  | _ :: _, _ :: _, [], _, h => h.elim
  | _ :: _, _ :: _, _ :: _, [], h => h.elim
mutual
/-- no object in it -/
def D.ro : D → Bool
  | .tup xs => D.ros xs
  | .lst xs => D.ros xs
  | .frz xs => D.ros xs
  | .dic ks vs => D.ros ks && D.ros vs
  | .obj _ _ _ => false
  | _ => true
def D.ros : List D → Bool
  | [] => true
  | x :: xs => D.ro x && D.ros xs
end
mutual
theorem dp_ro : ∀ d : D, D.dp d < 100 → d.ro = true
  | .non, _ => rfl
  | .bl _, _ => rfl
  | .int _, _ => rfl
  | .str _, _ => rfl
  | .tup xs, h => by simp only [D.dp] at h; exact dps_ros xs (by omega)
  | .lst xs, h => by simp only [D.dp] at h; exact dps_ros xs (by omega)
  | .frz xs, h => by simp only [D.dp] at h; exact dps_ros xs (by omega)
  | .dic _ _, h => by simp [D.dp] at h
  | .obj _ _ _, h => by simp [D.dp] at h
theorem dps_ros : ∀ ds : List D, D.dps ds < 100 → D.ros ds = true
  | [], _ => rfl
  | x :: xs, h => by
    simp only [D.dps] at h
    simp only [D.ros, Bool.and_eq_true]
    exact ⟨dp_ro x (by omega), dps_ros xs (by omega)⟩
end
theorem dep_ro {d : D} (h : dep d = true) : d.ro = true := dp_ro d (dep_lt h)
mutual
theorem Rep.ro : ∀ {d : D} {v : V}, Rep K H d v [] → d.ro = true
  | .non, _, _ => rfl
  | .bl _, _, _ => rfl
  | .int _, _, _ => rfl
  | .str _, _, _ => rfl
  | .tup xs, _, h => by
    obtain ⟨a, vs, rfl, hq, r⟩ := h
    exact Reps.ro r
  | .lst xs, _, h => by
    obtain ⟨a, vs, o', rfl, hq, r, e⟩ := h
    cases e
  | .frz xs, _, h => by
    obtain ⟨a, vs, rfl, hq, r, _⟩ := h
    exact Reps.ro r
  | .dic _ _, _, h => by
    obtain ⟨a, kvs, vvs, es, rfl, hq, hd, hs, hn, rk, rv, en, e⟩ := h
    cases e
  | .obj _ _ _, _, h => by
    obtain ⟨a, dx, vs, o', rfl, hq, hl, r, e⟩ := h
    cases e
theorem Reps.ro : ∀ {d : List D} {v : List V}, Reps K H d v [] → D.ros d = true
  | [], _, _ => rfl
  | x :: xs, _, h => by
    obtain ⟨v, vr, o1, o2, rfl, h1, h2, e⟩ := h
    obtain ⟨rfl, rfl⟩ := List.append_eq_nil_iff.mp e.symm
    simp only [D.ros, Bool.and_eq_true]
    exact ⟨Rep.ro h1, Reps.ro h2⟩
end
mutual
theorem Rep.reads {X : Cx} {pins : List (Addr × Obj)} {s : Shared} {σ : L2.St} {H : Hp} (I : Inv X pins σ H s) : ∀ {d : D} {v : V} {u : Value} {o : List Addr}, Rep X.F H d v o → RelV v u → d.ro = true → ∃ as, Reads s.heap u (toPy d) as
  | .non, _, _, _, h, r, _ => by obtain ⟨rfl, _⟩ := h; cases r; exact ⟨_, Reads.none⟩
  | .bl b, _, _, _, h, r, _ => by obtain ⟨rfl, _⟩ := h; cases r; exact ⟨_, Reads.bool b⟩
  | .int b, _, u, _, h, r, _ => by obtain ⟨rfl, _⟩ := h; obtain ⟨t, rfl⟩ := (show ∃ t, u = Value.int _ t from r); exact ⟨_, Reads.int b t⟩
  | .str b, _, u, _, h, r, _ => by obtain ⟨rfl, _⟩ := h; obtain ⟨t, rfl⟩ := (show ∃ t, u = Value.str _ t from r); exact ⟨_, Reads.str b t⟩
  | .tup xs, _, _, _, h, r, w => by
    obtain ⟨a, vs, rfl, hq, rs⟩ := h
    cases r
    obtain ⟨its, rv, ⟨ob, e1, e2, n, e3⟩, _⟩ := I.tuple hq
    obtain ⟨as, g⟩ := Reps.reads I rs rv w
    exact ⟨_, Reads.tuple e1 e2 e3 (by simpa using g)⟩
  | .lst xs, _, _, _, h, r, w => by
    obtain ⟨a, vs, o', rfl, hq, rs, _⟩ := h
    cases r
    obtain ⟨its, rv, ⟨ob, n, e1, e2, _, e3⟩, _⟩ := I.list (SqL.of hq)
    obtain ⟨as, g⟩ := Reps.reads I rs rv w
    exact ⟨_, Reads.list e1 e2 e3 (by simpa using g)⟩
  | .frz xs, _, _, _, h, r, w => by
    obtain ⟨a, vs, rfl, hq, rs, _⟩ := h
    cases r
    obtain ⟨its, rv, ⟨ob, n, e1, e2, _, e3⟩, _⟩ := I.list hq.sq
    obtain ⟨as, g⟩ := Reps.reads I rs rv w
    exact ⟨_, Reads.list e1 e2 e3 (by simpa using g)⟩
  | .dic ks vs, _, _, _, h, r, w => by
    have w := Bool.and_eq_true_iff.mp (show (D.ros ks && D.ros vs) = true from w)
    obtain ⟨a, kvs, vvs, es, rfl, hq, hd, hs, hn, rk, rv, en, rfl⟩ := h
    cases r
    obtain ⟨ob, ep, e1, e2, e3⟩ := (I.hok a _ hq).1
    obtain ⟨v1, v2⟩ := ents_vals en
    obtain ⟨as, g1⟩ := Reps.reads I rk v1 w.1
    obtain ⟨bs, g2⟩ := Reps.reads I rv v2 w.2
    obtain ⟨l1, l2, _⟩ := ents_length en
    have hl : (toPys ks).length = (toPys vs).length := by rw [toPys_length, toPys_length, ← rv.length]; exact l2.symm
    obtain ⟨z1, z2⟩ := zip_both _ _ hl
    exact ⟨_, Reads.dict e1 e2.1 e3 (by rw [z1]; exact g1) (by rw [z2]; exact g2)⟩
  | .obj _ _ _, _, _, _, _, _, w => nomatch w
theorem Reps.reads {X : Cx} {pins : List (Addr × Obj)} {s : Shared} {σ : L2.St} {H : Hp} (I : Inv X pins σ H s) : ∀ {ds : List D} {vs : List V} {us : List Value} {o : List Addr}, Reps X.F H ds vs o → Vals vs us → D.ros ds = true → ∃ as, ReadsAll s.heap us (toPys ds) as
  | [], _, _, _, h, r, _ => by rw [h.1] at r; cases r; exact ⟨_, ReadsAll.nil⟩
  | x :: xs, _, _, _, h, r, w => by
    have w := Bool.and_eq_true_iff.mp (show (D.ro x && D.ros xs) = true from w)
    obtain ⟨v, vr, o1, o2, rfl, h1, h2, _⟩ := h
    cases r with
    | cons r1 r2 =>
      obtain ⟨as, g1⟩ := Rep.reads I h1 r1 w.1
      obtain ⟨bs, g2⟩ := Reps.reads I h2 r2 w.2
      exact ⟨_, ReadsAll.cons g1 g2⟩
end
end

def fEq : List D → Option D
  | [a, b] => if dep a && dep b then some (.bl (eqD a b)) else none
  | _ => none
def fNe : List D → Option D
  | [a, b] => if dep a && dep b then some (.bl (!eqD a b)) else none
  | _ => none
def isNone : D → Bool
  | .non => true
  | _ => false
def fIs : List D → Option D
  | [a, .non] => some (.bl (isNone a))
  | [.bl a, .bl b] => some (.bl (decide (a = b)))
  | _ => none
def anyEq (xs : List D) (x : D) : Bool := xs.any fun y => eqD y x
def fIn : List D → Option D
  | [x, .lst xs] => if dep x && dep (.lst xs) then some (.bl (anyEq xs x)) else none
  | [x, .frz xs] => if dep x && dep (.frz xs) then some (.bl (anyEq xs x)) else none
  | [x, .tup xs] => if dep x && dep (.tup xs) then some (.bl (anyEq xs x)) else none
  | [.str i, .str j] => some (.bl (!(Builtin.Str.occurrences j i 0 j.length 1).isEmpty))
  | _ => none
/-- can be compared by < -/
def cmpOk (a b : D) : Bool := PySem.W.alike (toPy a) (toPy b) && dep a && dep b && match a with
  | .int _ => true
  | .str _ => true
  | .bl _ => true
  | .tup _ => true
  | .lst _ => true
  | .frz _ => true
  | _ => false
def ltD (a b : D) : Bool := PySem.W.dataLt (toPy a) (toPy b)
def fCmp (g : D → D → Bool) : List D → Option D
  | [a, b] => if cmpOk a b then some (.bl (g a b)) else none
  | _ => none
section
variable {X : Cx}
theorem any_toPys (xs : List D) (x : D) : (toPys xs).any (fun z => PyData.eqv z (toPy x)) = anyEq xs x := by
  rw [toPys_map, List.any_map]; rfl
theorem o_eq (hu : X.A.units + 64 < cLine) : OpR X (compareOp .Eq) fun x y => Pr X.F fEq [x, y] := by
  intro pins s σ H x y v u Q I rx ry h
  obtain ⟨ds, o, d, r, e, k0, k⟩ := pr_end h
  obtain ⟨a, b, oa, ob, rfl, ra, rb⟩ := reps2 r
  simp only [fEq] at e
  split at e
  · rename_i hc
    simp only [Bool.and_eq_true] at hc
    cases (Option.some.inj e)
    exact op_eqD hu pins s σ H x y v u Q I rx ry ⟨_, _, ra.dp (dep_lt hc.1), rb.dp (dep_lt hc.2), ra.shaped hc.1, rb.shaped hc.2, k0 _ ⟨rfl, rfl⟩⟩
  · cases e
theorem o_ne (hu : X.A.units + 64 < cLine) : OpR X (compareOp .NotEq) fun x y => Pr X.F fNe [x, y] := by
  intro pins s σ H x y v u Q I rx ry h
  obtain ⟨ds, o, d, r, e, k0, k⟩ := pr_end h
  obtain ⟨a, b, oa, ob, rfl, ra, rb⟩ := reps2 r
  simp only [fNe] at e
  split at e
  · rename_i hc
    simp only [Bool.and_eq_true] at hc
    cases (Option.some.inj e)
    exact op_neD hu pins s σ H x y v u Q I rx ry ⟨_, _, ra.dp (dep_lt hc.1), rb.dp (dep_lt hc.2), ra.shaped hc.1, rb.shaped hc.2, k0 _ ⟨rfl, rfl⟩⟩
  · cases e
theorem rep_non {K : Fw} {H : Hp} {a : D} {x : V} {o : List Addr} (r : Rep K H a x o) : isNone a = decide (x = .non) := by
  cases a with
  | non => rw [r.1]; rfl
  | bl _ => rw [r.1]; rfl
  | int _ => rw [r.1]; rfl
  | str _ => rw [r.1]; rfl
  | tup _ => obtain ⟨_, _, rfl, _⟩ := r; rfl
  | lst _ => obtain ⟨_, _, _, rfl, _⟩ := r; rfl
  | frz _ => obtain ⟨_, _, rfl, _⟩ := r; rfl
  | dic _ _ => obtain ⟨_, _, _, _, rfl, _⟩ := r; rfl
  | obj _ _ _ => obtain ⟨_, _, _, _, rfl, _⟩ := r; rfl
theorem o_is : OpR X (compareOp .Is) fun x y => Pr X.F fIs [x, y] := by
  intro pins s σ H x y v u Q I rx ry h
  obtain ⟨ds, o, d, r, e, k0, k⟩ := pr_end h
  obtain ⟨a, b, oa, ob, rfl, ra, rb⟩ := reps2 r
  unfold fIs at e
  split at e
  · rename_i a' he
    cases he
    cases (Option.some.inj e)
    obtain ⟨rfl, _⟩ := rb
    exact op_isN pins s σ H x _ v u Q I rx ry ⟨rfl, by rw [← rep_non ra]; exact k0 _ ⟨rfl, rfl⟩⟩
  · rename_i a' b' he
    cases he
    cases (Option.some.inj e)
    obtain ⟨rfl, _⟩ := ra
    obtain ⟨rfl, _⟩ := rb
    exact op_is_bl pins s σ H _ _ v u Q I rx ry ⟨a', b', rfl, rfl, k0 _ ⟨rfl, rfl⟩⟩
  · cases e
theorem o_in (hu : X.A.units + 65 < cLine) : OpR X (compareOp .In) fun x y => Pr X.F fIn [x, y] := by
  intro pins s σ H x y v u Q I rx ry h
  obtain ⟨ds, o, d, r, e, k0, k⟩ := pr_end h
  obtain ⟨a, b, oa, ob, rfl, ra, rb⟩ := reps2 r
  have lists : ∀ (xs : List D), toPy b = .list (toPys xs) → dep a = true → dep b = true → d = .bl (anyEq xs a) → wpAny (model X.prog X.w) X.A (compareOp .In v u) (EP X pins σ Q) X.xe s := fun xs hb h1 h2 hd => by
    subst hd
    have rb2 := rb.dp (dep_lt h2)
    have sb := rb.shaped h2
    rw [hb] at rb2 sb
    exact op_inD hu pins s σ H x y v u Q I rx ry ⟨_, _, ra.dp (dep_lt h1), rb2, ra.shaped h1, sb, by rw [any_toPys]; exact k0 _ ⟨rfl, rfl⟩⟩
  unfold fIn at e
  split at e
  · rename_i a' xs he
    cases he
    split at e
    · rename_i hc
      simp only [Bool.and_eq_true] at hc
      exact lists xs rfl hc.1 hc.2 (Option.some.inj e).symm
    · cases e
  · rename_i a' xs he
    cases he
    split at e
    · rename_i hc
      simp only [Bool.and_eq_true] at hc
      exact lists xs rfl hc.1 hc.2 (Option.some.inj e).symm
    · cases e
  · rename_i a' xs he
    cases he
    split at e
    · rename_i hc
      simp only [Bool.and_eq_true] at hc
      cases (Option.some.inj e)
      obtain ⟨as, h1⟩ := Rep.reads I ra rx (dep_ro hc.1)
      obtain ⟨bs, h2⟩ := Rep.reads I rb ry (dep_ro hc.2)
      have hl := rb.lay (dep_lt hc.2)
      have hd2 := dep_le hc.1
      simp only [toPy] at h2 hl
      refine SeqAt.in_tuple_reads h2 h1 (by simpa [PyData.canLay0] using hl) (ra.lay (dep_lt hc.1)) (by have := Nat.min_le_right (PyData.depthAll (toPys xs)) (toPy a).depth; omega) ?_
      rw [any_toPys]
      exact ⟨.bl _, H, I, rfl, k0 _ ⟨rfl, rfl⟩⟩
    · cases e
  · rename_i i j he
    cases he
    cases (Option.some.inj e)
    obtain ⟨rfl, _⟩ := ra
    obtain ⟨rfl, _⟩ := rb
    exact op_in_str pins s σ H _ _ v u Q I rx ry ⟨i, j, rfl, rfl, k0 _ ⟨rfl, rfl⟩⟩
  · cases e
theorem cmp_inv {K : Fw} {g : D → D → Bool} {H : Hp} {x y : V} {Q : VK} (h : Pr K (fCmp g) [x, y] H Q) : ∃ a b oa ob, Rep K H a x oa ∧ Rep K H b y ob ∧ PySem.W.alike (toPy a) (toPy b) = true ∧ toPy a ≠ .none ∧ (dep a = true ∧ dep b = true) ∧ Q (.bl (g a b)) H := by
  obtain ⟨ds, o, d, r, e, k0, k⟩ := pr_end h
  obtain ⟨a, b, oa, ob, rfl, ra, rb⟩ := reps2 r
  simp only [fCmp] at e
  split at e
  · rename_i hc
    cases (Option.some.inj e)
    simp only [cmpOk, Bool.and_eq_true] at hc
    obtain ⟨⟨⟨h1, h2⟩, h3⟩, h4⟩ := hc
    refine ⟨a, b, oa, ob, ra, rb, h1, ?_, ⟨h2, h3⟩, k0 _ ⟨rfl, rfl⟩⟩
    cases a <;> simp_all [toPy]
  · cases e
theorem o_lt (hu : X.A.units + 64 < cLine) : OpR X (compareOp .Lt) fun x y => Pr X.F (fCmp fun a b => ltD a b) [x, y] := by
  intro pins s σ H x y v u Q I rx ry h
  obtain ⟨a, b, oa, ob, ra, rb, h1, h2, h3, q⟩ := cmp_inv h
  obtain ⟨as, g1⟩ := Rep.reads I ra rx (dep_ro h3.1)
  obtain ⟨bs, g2⟩ := Rep.reads I rb ry (dep_ro h3.2)
  have h5 := dep_le h3.1
  exact PySem.W.lt_data g1 g2 h1 h2 (by omega) ⟨.bl _, H, I, rfl, q⟩
theorem o_gt (hu : X.A.units + 64 < cLine) : OpR X (compareOp .Gt) fun x y => Pr X.F (fCmp fun a b => ltD b a) [x, y] := by
  intro pins s σ H x y v u Q I rx ry h
  obtain ⟨a, b, oa, ob, ra, rb, h1, h2, h3, q⟩ := cmp_inv h
  obtain ⟨as, g1⟩ := Rep.reads I ra rx (dep_ro h3.1)
  obtain ⟨bs, g2⟩ := Rep.reads I rb ry (dep_ro h3.2)
  have h5 := dep_le h3.1
  exact PySem.W.gt_data g1 g2 h1 h2 (by omega) ⟨.bl _, H, I, rfl, q⟩
theorem o_ge (hu : X.A.units + 64 < cLine) : OpR X (compareOp .GtE) fun x y => Pr X.F (fCmp fun a b => !ltD a b) [x, y] := by
  intro pins s σ H x y v u Q I rx ry h
  obtain ⟨a, b, oa, ob, ra, rb, h1, h2, h3, q⟩ := cmp_inv h
  obtain ⟨as, g1⟩ := Rep.reads I ra rx (dep_ro h3.1)
  obtain ⟨bs, g2⟩ := Rep.reads I rb ry (dep_ro h3.2)
  have h5 := dep_le h3.1
  exact PySem.W.ge_data g1 g2 h1 h2 (by omega) ⟨.bl _, H, I, rfl, q⟩

/-! ### built-in functions -/
def lenD : D → Option Nat
  | .str x => some x.length
  | .tup xs => some xs.length
  | .lst xs => some xs.length
  | .frz xs => some xs.length
  | _ => none
def fLen : List D → Option D
  | [a] => match lenD a with
    | some n => some (.int n)
    | none => none
  | _ => none
theorem one_inv {K : Fw} {f : List D → Option D} {vs : List V} {H : Hp} {Q : VK} (h : Pr K f vs H Q) (h1 : ∀ ds d, f ds = some d → ∃ a, ds = [a]) : ∃ a x oa d, vs = [x] ∧ Rep K H a x oa ∧ f [a] = some d ∧ (∀ v, Rep K H d v [] → Q v H) ∧ ∀ v H' ov, (∀ a u, H a = some u → H' a = some u) → Rep K H' d v ov → Fresh H ov → Q v H' := by
  obtain ⟨ds, o, d, r, e, k0, k⟩ := pr_end h
  obtain ⟨a, rfl⟩ := h1 ds d e
  obtain ⟨v, vr, o1, o2, rfl, ra, ⟨rfl, _⟩, _⟩ := r
  exact ⟨a, v, o1, d, rfl, ra, e, k0, k⟩
theorem c_len : CallR X (.builtin "len") (Pr X.F fLen) := by
  intro pins s σ H xs us Q I r h
  obtain ⟨a, x, oa, d, rfl, ra, e, k0, k⟩ := one_inv h fun ds d e => by
    cases ds with
    | nil => simp [fLen] at e
    | cons a ds => cases ds with
      | nil => exact ⟨a, rfl⟩
      | cons b ds => simp [fLen] at e
  simp only [fLen] at e
  cases hl : lenD a with
  | none => rw [hl] at e; simp at e
  | some n =>
    rw [hl] at e
    cases (Option.some.inj e)
    refine call_len pins s σ H _ us Q I r ⟨x, n, rfl, ?_, k0 _ ⟨rfl, rfl⟩⟩
    cases a <;> simp only [lenD, reduceCtorEq, Option.some.injEq] at hl
    · obtain ⟨rfl, hs, _⟩ := ra
      exact ⟨hs.1, hl.symm⟩
    · obtain ⟨p, vs, rfl, hq, rs⟩ := ra
      exact .inr ⟨vs, hq, by rw [rs.length]; exact hl.symm⟩
    · obtain ⟨p, vs, _, rfl, hq, rs, _⟩ := ra
      exact .inl ⟨vs, .of hq, by rw [rs.length]; exact hl.symm⟩
    · obtain ⟨p, vs, rfl, hq, rs, _⟩ := ra
      exact .inl ⟨vs, hq.sq, by rw [rs.length]; exact hl.symm⟩
def fInt : List D → Option D
  | [.int i] => some (.int i)
  | [.bl b] => some (.int (if b then 1 else 0))
  | _ => none
theorem c_int : CallR X (.type "int") (Pr X.F fInt) := by
  intro pins s σ H xs us Q I r h
  obtain ⟨ds, o, d, rr, e, k0, k⟩ := pr_end h
  unfold fInt at e
  split at e
  · cases (Option.some.inj e)
    obtain ⟨v, vr, o1, o2, rfl, ⟨rfl, _⟩, ⟨rfl, _⟩, _⟩ := rr
    exact call_int1 pins s σ H _ us Q I r (.inl ⟨_, rfl, k0 _ ⟨rfl, rfl⟩⟩)
  · cases (Option.some.inj e)
    obtain ⟨v, vr, o1, o2, rfl, ⟨rfl, _⟩, ⟨rfl, _⟩, _⟩ := rr
    exact call_int1 pins s σ H _ us Q I r (.inr ⟨_, rfl, k0 _ ⟨rfl, rfl⟩⟩)
  · cases e
def fTuple : List D → Option D
  | [.lst xs] => if D.imms xs then some (.tup xs) else none
  | [.frz xs] => some (.tup xs)
  | [.tup xs] => if D.imms xs then some (.tup xs) else none
  | _ => none
theorem c_tuple : CallR X (.type "tuple") (Pr X.F fTuple) := by
  intro pins s σ H xs us Q I r h
  obtain ⟨ds, o, d, rr, e, k0, k⟩ := pr_end h
  have lists : ∀ (a : Addr) (vs : List V) (ys : List D), xs = [.ref a] → SqL X.K H a vs → Reps X.F H ys vs [] → d = .tup ys → wpAny (model X.prog X.w) X.A (call (.type "tuple") us) (EP X pins σ Q) X.xe s := fun a vs ys hx hq rs hd => by
    subst hx hd
    exact call_tuple_of pins s σ H _ us Q I r ⟨a, vs, rfl, .inl ⟨hq, fun l hl => k _ _ [] (new_same hl) ⟨l, vs, rfl, .of upd_same, rs.same (new_same hl)⟩ fresh_nil⟩⟩
  unfold fTuple at e
  split at e
  · rename_i ys
    split at e
    · rename_i hi
      obtain ⟨v, vr, o1, o2, rfl, ⟨a, vs, o', rfl, hq, rs, _⟩, ⟨rfl, _⟩, _⟩ := rr
      exact lists a vs ys rfl (.of hq) (rs.imm' hi) (Option.some.inj e).symm
    · cases e
  · rename_i ys
    obtain ⟨v, vr, o1, o2, rfl, ⟨a, vs, rfl, hq, rs, _⟩, ⟨rfl, _⟩, _⟩ := rr
    exact lists a vs ys rfl hq.sq rs (Option.some.inj e).symm
  · rename_i ys
    split at e
    · rename_i hi
      obtain ⟨v, vr, o1, o2, rfl, ⟨a, vs, rfl, hq, rs⟩, ⟨rfl, _⟩, _⟩ := rr
      cases (Option.some.inj e)
      exact call_tuple_of pins s σ H _ us Q I r ⟨a, vs, rfl, .inr ⟨hq, k0 _ ⟨a, vs, rfl, hq, rs.imm' hi⟩⟩⟩
    · cases e
  · cases e
end
end Z


set_option Elab.async false
set_option linter.all false
set_option maxRecDepth 100000
/-! isinstance; least and greatest; sums -/
namespace Z
open PySem PySem.Spec PyProof.Rows L2

def fIsa (g : PyData → Bool) : List D → Option D
  | [.obj _ _ _] => none
  | [a] => some (.bl (g (toPy a)))
  | _ => none
section
variable {X : Cx} {e : Expr} {q : Bool} {m : Den} {p p2 pos : Pos}
/-- what isinstance is asked of -/
structure IsaT (T : String) (g : PyData → Bool) : Prop where
  non : ∀ {prog : Program} {w : World} {A : Around} {E Q : Value → Shared → Prop} {s : Shared}, (∀ tk, s.toks ≤ tk → Q (.bool (g .none)) { s with toks := tk }) → wpAny (model prog w) A (call (.builtin "isinstance") [.none, .type T]) Q E s
  bl : ∀ {prog : Program} {w : World} {A : Around} {E Q : Value → Shared → Prop} {s : Shared} {b : Bool}, (∀ tk, s.toks ≤ tk → Q (.bool (g (.bool b))) { s with toks := tk }) → wpAny (model prog w) A (call (.builtin "isinstance") [.bool b, .type T]) Q E s
  int : ∀ {prog : Program} {w : World} {A : Around} {E Q : Value → Shared → Prop} {s : Shared} {i : Int} {t : Nat}, (∀ tk, s.toks ≤ tk → Q (.bool (g (.int i))) { s with toks := tk }) → wpAny (model prog w) A (call (.builtin "isinstance") [.int i t, .type T]) Q E s
  str : ∀ {prog : Program} {w : World} {A : Around} {E Q : Value → Shared → Prop} {s : Shared} {x : Str} {t : Nat}, (∀ tk, s.toks ≤ tk → Q (.bool (g (.str x))) { s with toks := tk }) → wpAny (model prog w) A (call (.builtin "isinstance") [.str x t, .type T]) Q E s
  lst : ∀ {prog : Program} {w : World} {A : Around} {E Q : Value → Shared → Prop} {s : Shared} {a : Addr} {o : Obj} {xs : List PyData}, s.heap.get? a = some o → o.cls = .type "list" → (∀ tk, s.toks ≤ tk → Q (.bool (g (.list xs))) { s with toks := tk }) → wpAny (model prog w) A (call (.builtin "isinstance") [.ref a, .type T]) Q E s
  tup : ∀ {prog : Program} {w : World} {A : Around} {E Q : Value → Shared → Prop} {s : Shared} {a : Addr} {o : Obj} {xs : List PyData}, s.heap.get? a = some o → o.cls = .type "tuple" → (∀ tk, s.toks ≤ tk → Q (.bool (g (.tuple xs))) { s with toks := tk }) → wpAny (model prog w) A (call (.builtin "isinstance") [.ref a, .type T]) Q E s
  dic : ∀ {prog : Program} {w : World} {A : Around} {E Q : Value → Shared → Prop} {s : Shared} {a : Addr} {o : Obj} {xs : List (PyData × PyData)}, s.heap.get? a = some o → o.cls = .type "dict" → (∀ tk, s.toks ≤ tk → Q (.bool (g (.dict xs))) { s with toks := tk }) → wpAny (model prog w) A (call (.builtin "isinstance") [.ref a, .type T]) Q E s
theorem isa_tuple : IsaT "tuple" PyData.isTuple where
  non h := PySem.W.isinstance_tuple_data .none h
  bl h := PySem.W.isinstance_tuple_data (.bool _) h
  int h := PySem.W.isinstance_tuple_data (.int _ _) h
  str h := PySem.W.isinstance_tuple_data (.str _ _) h
  lst {_ _ _ _ _ s _ _ _} h1 h2 h := IsiPair.list_tuple h1 h2 (h _ (Nat.le_succ _))
  tup {_ _ _ _ _ s _ _ _} h1 h2 h := IsiPair.tuple_tuple h1 h2 (h s.toks (Nat.le_refl _))
  dic {_ _ _ _ _ s _ _ _} h1 h2 h := IsiPair.dict_tuple h1 h2 (h _ (Nat.le_succ _))
theorem isa_bool : IsaT "bool" PyData.isBool where
  non h := PySem.W.isinstance_bool_data .none h
  bl h := PySem.W.isinstance_bool_data (.bool _) h
  int h := PySem.W.isinstance_bool_data (.int _ _) h
  str h := PySem.W.isinstance_bool_data (.str _ _) h
  lst {_ _ _ _ _ s _ _ _} h1 h2 h := IsiPair.list_bool h1 h2 (h _ (Nat.le_succ _))
  tup {_ _ _ _ _ s _ _ _} h1 h2 h := IsiPair.tuple_bool h1 h2 (h _ (Nat.le_succ _))
  dic {_ _ _ _ _ s _ _ _} h1 h2 h := IsiPair.dict_bool h1 h2 (h _ (Nat.le_succ _))
theorem isa_int : IsaT "int" PyData.isInt where
  non h := PySem.W.isinstance_int_data .none h
  bl h := PySem.W.isinstance_int_data (.bool _) h
  int h := PySem.W.isinstance_int_data (.int _ _) h
  str h := PySem.W.isinstance_int_data (.str _ _) h
  lst {_ _ _ _ _ s _ _ _} h1 h2 h := IsiPair.list_int h1 h2 (h _ (Nat.le_succ _))
  tup {_ _ _ _ _ s _ _ _} h1 h2 h := IsiPair.tuple_int h1 h2 (h _ (Nat.le_succ _))
  dic {_ _ _ _ _ s _ _ _} h1 h2 h := IsiPair.dict_int h1 h2 (h _ (Nat.le_succ _))
theorem isa_str : IsaT "str" PyData.isStr where
  non h := PySem.W.isinstance_str_data .none h
  bl h := PySem.W.isinstance_str_data (.bool _) h
  int h := PySem.W.isinstance_str_data (.int _ _) h
  str h := PySem.W.isinstance_str_data (.str _ _) h
  lst {_ _ _ _ _ s _ _ _} h1 h2 h := IsiPair.list_str h1 h2 (h _ (Nat.le_succ _))
  tup {_ _ _ _ _ s _ _ _} h1 h2 h := IsiPair.tuple_str h1 h2 (h _ (Nat.le_succ _))
  dic {_ _ _ _ _ s _ _ _} h1 h2 h := IsiPair.dict_str h1 h2 (h _ (Nat.le_succ _))
theorem c_isa {T : String} {g : PyData → Bool} (t : IsaT T g) : CallR X (.builtin "isinstance") fun xs H Q => ∃ x, xs = [x, .ty T] ∧ Pr X.F (fIsa g) [x] H Q := by
  intro pins s σ H xs us Q I r h
  obtain ⟨x, rfl, h⟩ := h
  obtain ⟨ds, o, d, rr, e, k0, k⟩ := pr_end h
  obtain ⟨a, oa, rfl, ra⟩ := reps1 rr
  cases r with
  | cons r1 r2 =>
    cases r2 with
    | cons r3 r4 =>
      cases r4
      cases r3
      have fin : ∀ tk, s.toks ≤ tk → d = .bl (g (toPy a)) → EP X pins σ Q (.bool (g (toPy a))) { s with toks := tk } := fun tk htk ed => ⟨.bl _, H, I.tok tk, rfl, k0 _ (by rw [ed]; exact ⟨rfl, rfl⟩)⟩
      cases a with
      | non => cases (Option.some.inj e); obtain ⟨rfl, _⟩ := ra; cases r1; exact t.non fun tk h => fin tk h rfl
      | bl b => cases (Option.some.inj e); obtain ⟨rfl, _⟩ := ra; cases r1; exact t.bl fun tk h => fin tk h rfl
      | int b => cases (Option.some.inj e); obtain ⟨rfl, _⟩ := ra; obtain ⟨tt, rfl⟩ := (show ∃ t, _ = Value.int _ t from r1); exact t.int fun tk h => fin tk h rfl
      | str b => cases (Option.some.inj e); obtain ⟨rfl, _⟩ := ra; obtain ⟨tt, rfl⟩ := (show ∃ t, _ = Value.str _ t from r1); exact t.str fun tk h => fin tk h rfl
      | tup xs =>
        cases (Option.some.inj e)
        obtain ⟨p, vs, rfl, hq, rs⟩ := ra
        cases r1
        obtain ⟨its, rv, ⟨ob, e1, e2, n, e3⟩, _⟩ := I.tuple hq
        exact t.tup e1 e2 fun tk h => fin tk h rfl
      | lst xs =>
        cases (Option.some.inj e)
        obtain ⟨p, vs, o', rfl, hq, rs, _⟩ := ra
        cases r1
        obtain ⟨its, rv, ⟨ob, n, e1, e2, _, e3⟩, _⟩ := I.list (SqL.of hq)
        exact t.lst e1 e2 fun tk h => fin tk h rfl
      | frz xs =>
        cases (Option.some.inj e)
        obtain ⟨p, vs, rfl, hq, rs, _⟩ := ra
        cases r1
        obtain ⟨its, rv, ⟨ob, n, e1, e2, _, e3⟩, _⟩ := I.list hq.sq
        exact t.lst e1 e2 fun tk h => fin tk h rfl
      | dic ks vs =>
        cases (Option.some.inj e)
        obtain ⟨p, kvs, vvs, es, rfl, hq, _⟩ := ra
        cases r1
        obtain ⟨ob, ep, e1, e2, e3⟩ := (I.hok p _ hq).1
        exact t.dic e1 e2.1 fun tk h => fin tk h rfl
      | obj _ _ _ => cases e
theorem z_isa {T : String} {x : Str} {g : PyData → Bool} (t : IsaT T g) (hg : Gl X "isinstance") (hm : X.mg "isinstance" = none) (hv : bootBuiltins "isinstance" = some (.builtin "isinstance")) (hg2 : Gl X x) (hm2 : X.mg x = none) (hv2 : bootBuiltins x = some (.type T))
    (he : PE X e (Z.T (kx X) q m)) (hn2 : x ≠ "__name__" := by decide) (hdb2 : (x == ("__debug__" : Str)) = false := by decide)
    (hs : starEach [e, .Name x p2] X.env = (false, eval e X.env) :: starEach [.Name x p2] X.env := by rfl) (hs2 : starEach [.Name x p2] X.env = (false, eval (.Name x p2) X.env) :: starEach [] X.env := by rfl) (hpl : (backTo pos (starEach [.Name x p2] X.env)).any (·.1) = false := by rfl) :
    PE X (.Call (.Name "isinstance" p) [e, .Name x p2] [] pos) (Z.T (kx X) (q && true) (dCall (fIsa g) (dACons true m dANil))) :=
  PE.imp (pe_callB (c_isa t) hg hm hv (pa_cons he (pa_cons (pe_bltn (v := .ty T) hg2 hm2 hv2 rfl hn2 hdb2) pa_nil hs2) hs) (by decide) (by decide) hs hpl) fun σ H Q h => by
    obtain ⟨δ, o, r, δ', E, n, hm, k⟩ := t_call h
    simp only [dACons, dANil] at hm
    cases h1 : m δ with
    | none => rw [h1] at hm; simp at hm
    | some p1 =>
      obtain ⟨x, δ1⟩ := p1
      rw [h1] at hm
      simp only [Bool.or_true, if_true, Option.some.injEq, Prod.mk.injEq] at hm
      obtain ⟨rfl, rfl⟩ := hm
      rw [Bool.and_true] at k
      exact ⟨δ, o, x, δ1, E, n, h1, fun v H1 o1 ov1 P1 => ⟨v, rfl, k [v] H1 o1 (ov1 ++ []) P1.step P1.env ⟨v, [], ov1, [], rfl, P1.held, ⟨rfl, rfl⟩, rfl⟩ (by rw [List.append_nil]; exact P1.own)⟩⟩
end

/-! ### min, max of data -/
mutual
/-- no list in it -/
def D.nol : D → Bool
  | .tup xs => D.nols xs
  | .lst _ => false
  | .frz _ => false
  | .dic _ _ => false
  | .obj _ _ _ => false
  | _ => true
def D.nols : List D → Bool
  | [] => true
  | x :: xs => D.nol x && D.nols xs
end
theorem D.nols_iff : ∀ (xs : List D), D.nols xs = true ↔ ∀ x ∈ xs, D.nol x = true
  | [] => by simp [D.nols]
  | x :: xs => by simp [D.nols, D.nols_iff xs]
mutual
theorem D.nol_imm : ∀ (d : D), d.nol = true → d.imm = true
  | .tup xs, h => by simp only [D.nol, D.imm] at h ⊢; exact D.nols_imms xs h
  | .non, _ => rfl
  | .bl _, _ => rfl
  | .int _, _ => rfl
  | .str _, _ => rfl
  | .lst _, h => by simp [D.nol] at h
  | .frz _, h => by simp [D.nol] at h
  | .dic _ _, h => by simp [D.nol] at h
  | .obj _ _ _, h => by simp [D.nol] at h
theorem D.nols_imms : ∀ (xs : List D), D.nols xs = true → D.imms xs = true
  | [], _ => rfl
  | x :: xs, h => by
    simp only [D.nols, D.imms, Bool.and_eq_true] at h ⊢
    exact ⟨D.nol_imm x h.1, D.nols_imms xs h.2⟩
end
mutual
theorem toPy_inj : ∀ (a b : D), a.nol = true → b.nol = true → toPy a = toPy b → a = b
  | .tup xs, b, ha, hb, h => by
    cases b <;> simp only [toPy, reduceCtorEq] at h
    · simp only [PyData.tuple.injEq] at h
      rw [toPys_inj xs _ ha hb h]
    all_goals simp [D.nol] at hb
  | .non, b, _, hb, h => by cases b <;> simp_all [toPy, D.nol]
  | .bl _, b, _, hb, h => by cases b <;> simp_all [toPy, D.nol]
  | .int _, b, _, hb, h => by cases b <;> simp_all [toPy, D.nol]
  | .str _, b, _, hb, h => by cases b <;> simp_all [toPy, D.nol]
  | .lst _, _, ha, _, _ => by simp [D.nol] at ha
  | .frz _, _, ha, _, _ => by simp [D.nol] at ha
  | .dic _ _, _, ha, _, _ => by simp [D.nol] at ha
  | .obj _ _ _, _, ha, _, _ => by simp [D.nol] at ha
theorem toPys_inj : ∀ (a b : List D), D.nols a = true → D.nols b = true → toPys a = toPys b → a = b
  | [], b, _, _, h => by cases b <;> simp_all [toPys]
  | x :: xs, b, ha, hb, h => by
    cases b with
    | nil => simp [toPys] at h
    | cons y ys =>
      simp only [D.nols, Bool.and_eq_true, toPys, List.cons.injEq] at ha hb h
      rw [toPy_inj x y ha.1 hb.1 h.1, toPys_inj xs ys ha.2 hb.2 h.2]
end
/-- all can be compared with one another -/
def cmpAll (xs : List D) : Bool := D.nols xs && xs.all fun x => xs.all fun y => cmpOk x y
def maxD (x : D) (xs : List D) : D := xs.foldl (fun a y => if ltD a y then y else a) x
def itemsD : D → Option (List D)
  | .tup xs => some xs
  | .lst xs => some xs
  | .frz xs => some xs
  | _ => none
def fMax : List D → Option D
  | [a] => match itemsD a with
    | some (x :: xs) => if cmpAll (x :: xs) then some (maxD x xs) else none
    | _ => none
  | a :: b :: r => if cmpAll (a :: b :: r) then some (maxD a (b :: r)) else none
  | _ => none
theorem maxD_py (x : D) (xs : List D) : toPy (maxD x xs) = PySem.W.maxD (toPy x) (toPys xs) := by
  rw [toPys_map]
  unfold maxD PySem.W.maxD
  induction xs generalizing x with
  | nil => rfl
  | cons y ys ih =>
    rw [List.foldl_cons, List.map_cons, List.foldl_cons, ih]
    congr 1
    show toPy (if PySem.W.dataLt (toPy x) (toPy y) = true then y else x) = _
    split <;> rfl
theorem maxD_mem (x : D) (xs : List D) : maxD x xs ∈ x :: xs := by
  unfold maxD
  induction xs generalizing x with
  | nil => simp
  | cons y ys ih =>
    rw [List.foldl_cons]
    have := ih (if ltD x y then y else x)
    split at this
    · rcases List.mem_cons.mp this with h | h
      · rw [if_pos (by assumption)]; rw [h]; simp
      · rw [if_pos (by assumption)]; simp [h]
    · rcases List.mem_cons.mp this with h | h
      · rw [if_neg (by assumption)]; rw [h]; simp
      · rw [if_neg (by assumption)]; simp [h]
theorem cmpAll_alike {xs : List D} (h : cmpAll xs = true) : PySem.W.AlikeAll (toPys xs) ∧ PyData.depthAll (toPys xs) ≤ 60 := by
  simp only [cmpAll, Bool.and_eq_true, List.all_eq_true] at h
  obtain ⟨hn, h⟩ := h
  rw [toPys_map]
  refine ⟨⟨fun a ha b hb => ?_, fun a ha => ?_⟩, ?_⟩
  · obtain ⟨x, hx, rfl⟩ := List.mem_map.mp ha
    obtain ⟨y, hy, rfl⟩ := List.mem_map.mp hb
    have := h x hx y hy
    simp only [cmpOk, Bool.and_eq_true] at this
    exact this.1.1.1
  · obtain ⟨x, hx, rfl⟩ := List.mem_map.mp ha
    have := h x hx x hx
    simp only [cmpOk, Bool.and_eq_true] at this
    have h4 := this.2
    cases x <;> simp_all [toPy]
  · have hd : ∀ x ∈ xs, (toPy x).depth ≤ 60 := fun x hx => by
      have := h x hx x hx
      simp only [cmpOk, Bool.and_eq_true] at this
      exact dep_le this.1.1.2
    clear h hn
    induction xs with
    | nil => simp [PyData.depthAll]
    | cons x xs ih =>
      simp only [List.map_cons, PyData.depthAll]
      have h1 := hd x List.mem_cons_self
      have h2 := ih fun y hy => hd y (List.mem_cons_of_mem _ hy)
      omega
section
variable {X : Cx}
theorem vals_at {us : List Value} {vs : List V} {i : Nat} {u : Value} (r : Vals vs us) (h : us[i]? = some u) : ∃ v, vs[i]? = some v ∧ RelV v u := by
  cases hv : vs[i]? with
  | none => rw [r.none_of hv] at h; cases h
  | some v =>
    obtain ⟨u', h', ru⟩ := r.get hv
    rw [h] at h'; cases h'
    exact ⟨v, rfl, ru⟩
mutual
theorem Rep.layN {K : Fw} {H : Hp} : ∀ {d : D} {v : V} {o : List Addr}, Rep K H d v o → d.nol = true → (toPy d).canLay0 = true
  | .non, _, _, h, _ => by simp [toPy, PyData.canLay0]
  | .bl b, _, _, h, _ => by simp [toPy, PyData.canLay0]
  | .int b, _, _, h, _ => by simp [toPy, PyData.canLay0]
  | .str b, _, _, h, _ => by simp only [toPy, PyData.canLay0]; exact h.2.1.2
  | .tup xs, _, _, h, g => by
    obtain ⟨a, vs, rfl, hq, r⟩ := h
    simp only [toPy, PyData.canLay0]; exact Reps.layN r g
  | .lst xs, _, _, h, g => by simp [D.nol] at g
  | .frz xs, _, _, h, g => by simp [D.nol] at g
  | .dic _ _, _, _, h, g => by simp [D.nol] at g
  | .obj _ _ _, _, _, h, g => by simp [D.nol] at g
theorem Reps.layN {K : Fw} {H : Hp} : ∀ {d : List D} {v : List V} {o : List Addr}, Reps K H d v o → D.nols d = true → PyData.canLayAll0 (toPys d) = true
  | [], _, _, h, _ => by simp [toPys, PyData.canLayAll0]
  | x :: xs, _, _, h, g => by
    obtain ⟨v, vr, o1, o2, rfl, h1, h2, _⟩ := h
    simp only [D.nols, Bool.and_eq_true] at g
    simp only [toPys, PyData.canLayAll0, Bool.and_eq_true]
    exact ⟨Rep.layN h1 g.1, Reps.layN h2 g.2⟩
end
/-- an item that reads as a datum of the list is that datum -/
theorem item_eq {pins : List (Addr × Obj)} {s : Shared} {σ : L2.St} {H : Hp} {xs : List D} {vs : List V} {us : List Value} {i : Nat} {u : Value} {d : D} {h' : Heap} {bs : List Addr} (I : Inv X pins σ H s) (rs : Reps X.F H xs vs []) (rv : Vals vs us) (hn : D.nols xs = true) (hd : d.nol = true) (hi : us[i]? = some u) (hr : Reads h' u (toPy d) bs)
    (hk : ∀ b o, s.heap.get? b = some o → h'.get? b = some o) : ∃ v, RelV v u ∧ Rep X.F H d v [] := by
  obtain ⟨v, hv, ru⟩ := vals_at rv hi
  have hil : i < xs.length := by
    have := (List.getElem?_eq_some_iff.mp hv).1
    rw [rs.length] at this; exact this
  obtain ⟨v', hv', rr⟩ := item_of rs (List.getElem?_eq_getElem hil)
  rw [hv] at hv'; cases hv'
  obtain ⟨as, g⟩ := Rep.reads I rr ru rr.ro
  have e : toPy xs[i] = toPy d := SeqAt.plain_unique _ _ u as bs (PyData.plain_of_canLay0 _ (Rep.layN rr ((D.nols_iff xs).mp hn _ (List.getElem_mem hil)))) (Reads.keeps hk g) hr
  have := toPy_inj _ _ ((D.nols_iff xs).mp hn _ (List.getElem_mem hil)) hd e
  rw [this] at rr
  exact ⟨v, ru, rr⟩
theorem seq_items {K : Fw} {H : Hp} {a : D} {v : V} {o : List Addr} {xs : List D} (r : Rep K H a v o) (h : itemsD a = some xs) (hi : D.imms xs = true) : ∃ p vs, v = .ref p ∧ (SqL K H p vs ∨ SqT K H p vs) ∧ Reps K H xs vs [] := by
  cases a <;> simp only [itemsD, reduceCtorEq, Option.some.injEq] at h
  · subst h
    obtain ⟨p, vs, rfl, hq, rs⟩ := r
    exact ⟨p, vs, rfl, .inr hq, rs.imm' hi⟩
  · subst h
    obtain ⟨p, vs, _, rfl, hq, rs, _⟩ := r
    exact ⟨p, vs, rfl, .inl (.of hq), rs.imm' hi⟩
  · subst h
    obtain ⟨p, vs, rfl, hq, rs, _⟩ := r
    exact ⟨p, vs, rfl, .inl hq.sq, rs⟩
theorem plainL_isList {h : Heap} {a : Addr} {its : Array Value} (p : PlainL h a its) : h.IsList a its := by
  obtain ⟨o, n, e, c, _, d⟩ := p
  exact ⟨o, e, c, n, d⟩
theorem fMax_one (hc : X.calm = true) (hu : X.A.units + 64 < cLine) {pins : List (Addr × Obj)} {s : Shared} {σ : L2.St} {H : Hp} {Q : VK} {us : List Value} {xs : List V} (I : Inv X pins σ H s) (r : Vals xs us) (h : Pr X.F fMax xs H Q) (h1 : xs.length = 1) :
    wpAny (model X.prog X.w) X.A (call (.builtin "max") us) (EP X pins σ Q) X.xe s := by
  obtain ⟨ds, o, d, rr, e, k0, k⟩ := pr_end h
  obtain ⟨x, rfl⟩ := List.length_eq_one_iff.mp h1
  obtain ⟨a, oa, rfl, ra⟩ := reps1 rr
  simp only [fMax] at e
  split at e
  · rename_i y ys hit
    split at e
    · rename_i hcm
      cases (Option.some.inj e)
      have hn : D.nols (y :: ys) = true := by simp only [cmpAll, Bool.and_eq_true] at hcm; exact hcm.1
      obtain ⟨p, vs, rfl, hq, rs⟩ := seq_items ra hit (D.nols_imms _ hn)
      obtain ⟨hal, hdp⟩ := cmpAll_alike hcm
      simp only [toPys] at hal hdp
      cases r with
      | cons r1 r2 =>
        cases r2
        cases r1
        have hmn : (maxD y ys).nol = true := (D.nols_iff _).mp hn _ (maxD_mem y ys)
        have fin : ∀ (its : List Value), Vals vs its → ∀ (i : Nat) (v : Value) (h' : Heap) (tk : Nat) (bs : List Addr), its.toArray[i]? = some v → Reads h' v (PySem.W.maxD (toPy y) (toPys ys)) bs → (∀ b o, s.heap.get? b = some o → h'.get? b = some o) → EP X pins σ Q v { s with heap := h', toks := tk } := fun its rv i v h' tk bs hi hr hk => by
          rw [← maxD_py] at hr
          obtain ⟨w, rw', rd⟩ := item_eq I rs rv hn hmn (by simpa using hi) hr hk
          exact ⟨w, H, I.kept hk, rw', k0 _ rd⟩
        rcases hq with hq | hq
        · obtain ⟨its, rv, hp, _⟩ := I.list hq
          obtain ⟨as, g⟩ := Reps.reads I rs rv rs.ro
          simp only [toPys] at g
          exact PySem.W.max_list_data (I.ok.hd hc) (plainL_isList hp) (by simpa using g) hal (by omega) (fin its rv)
        · obtain ⟨its, rv, hp, _⟩ := I.tuple hq
          obtain ⟨as, g⟩ := Reps.reads I rs rv rs.ro
          simp only [toPys] at g
          obtain ⟨ob, e1, e2, e3⟩ := hp
          exact PySem.W.max_tuple_data (I.ok.hd hc) ⟨ob, e1, e2, e3⟩ (by simpa using g) hal (by omega) (fin its rv)
    · cases e
  · cases e
def fMax1 : List D → Option D
  | [a] => fMax [a]
  | _ => none
theorem pr_one {K : Fw} {f f1 : List D → Option D} {vs : List V} {H : Hp} {Q : VK} (h : Pr K f1 vs H Q) (h1 : ∀ ds d, f1 ds = some d → ds.length = 1 ∧ f ds = some d) : Pr K f vs H Q ∧ vs.length = 1 := by
  obtain ⟨ds, o, d, r, e, k⟩ := h
  obtain ⟨g1, g2⟩ := h1 ds d e
  exact ⟨⟨ds, o, d, r, g2, k⟩, r.length.trans g1⟩
theorem c_max1 (hc : X.calm = true) (hu : X.A.units + 64 < cLine) : CallR X (.builtin "max") (Pr X.F fMax1) := by
  intro pins s σ H xs us Q I r h
  obtain ⟨h2, h3⟩ := pr_one (f := fMax) h fun ds d e => by
    unfold fMax1 at e
    split at e
    · exact ⟨rfl, e⟩
    · cases e
  exact fMax_one hc hu I r h2 h3
end
end Z


set_option Elab.async false
set_option linter.all false
set_option maxRecDepth 100000
/-! list comprehensions -/
namespace Z
open PySem PySem.Spec PyProof.Rows L2

def wipeD (δ : DE) : List Nat → DE
  | [] => δ
  | v :: vs => (wipeD δ vs).set v none
/-- the block's own names as they were ahead of it -/
def restD (δ0 : DE) : DE → List Nat → DE
  | δ2, [] => δ2
  | δ2, v :: vs => restD δ0 (δ2.set v (match (wipeD δ0 vs)[v]? with | some x => x | none => none)) vs
section
variable {K : Fw} {κ : Kx} {H H1 H2 : Hp}
theorem wipeD_len (δ : DE) : ∀ vs : List Nat, (wipeD δ vs).length = δ.length
  | [] => rfl
  | v :: vs => by rw [wipeD, List.length_set, wipeD_len δ vs]
/-- a slot that isn't told -/
theorem Envs.sig : ∀ {σ : L2.St} {δ : DE} {o : List Addr} (v : Nat) (x : Option V), Envs κ H σ δ o → (∀ d, δ[v]? ≠ some (some d)) → Envs κ H (σ.set v x) δ o
  | [], [], _, _, _, h, _ => h
  | s :: σ, none :: δ, o, 0, x, h, _ => by
    cases x <;> cases s <;> exact h
  | some w :: σ, some d :: δ, o, 0, x, h, hn => absurd rfl (hn d)
  | none :: σ, none :: δ, o, v + 1, x, h, hn => Envs.sig (σ := σ) (δ := δ) v x h fun d e => hn d (by simpa using e)
  | some w :: σ, none :: δ, o, v + 1, x, h, hn => Envs.sig (σ := σ) (δ := δ) v x h fun d e => hn d (by simpa using e)
  | some w :: σ, some d :: δ, o, v + 1, x, h, hn => by
    obtain ⟨o1, o2, h1, h2, e⟩ := h
    exact ⟨o1, o2, h1, Envs.sig v x h2 fun d e => hn d (by simpa using e), e⟩
  | none :: σ, some d :: δ, _, _, _, h, _ => h.elim
  | [], _ :: _, _, _, _, h, _ => by simp [Envs] at h
  | _ :: _, [], _, _, _, h, _ => by simp [Envs] at h
theorem set_none_same {δ : DE} {v : Nat} (h : ∀ d, δ[v]? ≠ some (some d)) : δ.set v none = δ := by
  by_cases hl : v < δ.length
  · have e : δ[v] = none := by
      cases q : δ[v] with
      | none => rfl
      | some d => exact absurd (by rw [List.getElem?_eq_getElem hl, q]) (h d)
    rw [← e]; exact List.set_getElem_self hl
  · exact List.set_eq_of_length_le (by omega)
theorem set_none_get {δ : DE} (v : Nat) : ∀ d, (δ.set v none)[v]? ≠ some (some d) := fun d e => by
  by_cases hl : v < δ.length
  · rw [List.getElem?_set_self hl] at e; simp at e
  · rw [List.getElem?_eq_none (by simpa using hl)] at e; cases e
theorem Envs.drop {σ : L2.St} {δ : DE} {o : List Addr} (v : Nat) (E : Envs κ H σ δ o) : ∃ o', Envs κ H σ (δ.set v none) o' ∧ ∀ a, o'.count a ≤ o.count a := by
  by_cases h : ∃ d, δ[v]? = some (some d)
  · obtain ⟨d, h⟩ := h
    obtain ⟨w, oa, o1, ob, _, _, rfl, _, k⟩ := E.at h
    exact ⟨oa ++ ob, k H Fr.rfl, fun a => by simp only [List.count_append]; omega⟩
  · rw [set_none_same fun d e => h ⟨d, e⟩]
    exact ⟨o, E, fun _ => Nat.le_refl _⟩
theorem Envs.wipe : ∀ {σ : L2.St} {δ : DE} {o : List Addr} (vs : List Nat), Envs κ H σ δ o → ∃ ow, Envs κ H (wipe σ vs) (wipeD δ vs) ow ∧ ∀ a, ow.count a ≤ o.count a
  | σ, δ, o, [], E => ⟨o, E, fun _ => Nat.le_refl _⟩
  | σ, δ, o, v :: vs, E => by
    obtain ⟨ow, Ew, c⟩ := Envs.wipe vs E
    obtain ⟨o', E', c'⟩ := Ew.drop v
    refine ⟨o', ?_, fun a => Nat.le_trans (c' a) (c a)⟩
    exact Envs.sig v none E' (set_none_get v)
/-- the block's own names put back -/
theorem Envs.rest : ∀ (vs : List Nat) {σ : L2.St} {δ : DE} {o : List Addr}, Envs κ H1 σ δ o → Nd o → ∃ (ow od : List Addr), Envs κ H1 (L2.wipe σ vs) (wipeD δ vs) ow ∧ (∀ a, ow.count a + od.count a ≤ o.count a) ∧ (∀ a ∈ od, H1 a ≠ none) ∧
    ∀ {H2 : Hp} {δ2 : DE} {o2 : List Addr}, Step H1 H2 ow → Envs κ H2 (L2.wipe σ vs) δ2 o2 → ∃ o3, Envs κ H2 σ (restD δ δ2 vs) o3 ∧ ∀ a, o3.count a ≤ o2.count a + od.count a
  | [], σ, δ, o, E, n => ⟨o, [], E, fun a => by simp, (fun a ha => nomatch ha), fun {H2 δ2 o2} s E2 => ⟨o2, E2, fun a => by simp⟩⟩
  | v :: vs, σ, δ, o, E, n => by
    obtain ⟨ow, od, Ew, c, dm, k⟩ := Envs.rest vs E n
    have nw : Nd ow := fun a => by have := c a; have := n a; omega
    by_cases h : ∃ d, (wipeD δ vs)[v]? = some (some d)
    · obtain ⟨d, h⟩ := h
      obtain ⟨w, oa, o1, ob, hw, r, rfl, _, kn⟩ := Ew.at h
      have Ev := kn H1 Fr.rfl
      have hvl : v < (wipeD δ vs).length := (List.getElem?_eq_some_iff.mp h).1
      have tr : ∀ a ∈ o1, H1 a ≠ none := fun a ha => by obtain ⟨vs, e, how⟩ := r.own a ha; rw [e]; simp
      refine ⟨oa ++ ob, o1 ++ od, Envs.sig v none Ev (set_none_get v), fun a => ?_, fun a ha => (List.mem_append.mp ha).elim (tr a) (dm a), fun {H2 δ2 o2} s E2 => ?_⟩
      · have := c a; simp only [List.count_append] at this ⊢; omega
      · have hd1 : ∀ a ∈ o1, a ∉ oa ++ ob := fun a h1 h2 => by
          have g1 : 0 < o1.count a := List.count_pos_iff.mpr h1
          have g2 : 0 < (oa ++ ob).count a := List.count_pos_iff.mpr h2
          have g3 := nw a
          simp only [List.count_append] at g2 g3
          omega
        have r2 : Rep κ.K H2 d w o1 := r.step s (fun a ha => Ew.ok a (by rcases List.mem_append.mp ha with z | z <;> simp [z])) hd1
        have hl2 : δ2.length = δ.length := by
          rw [← E2.length, wipe_length, ← E.length]
        obtain ⟨o3, E3, c3⟩ := Envs.set v E2 r2 (by rw [hl2, ← wipeD_len δ vs]; exact hvl)
        have hs : (L2.wipe σ (v :: vs)).set v (some w) = L2.wipe σ vs := by
          show ((L2.wipe σ vs).set v none).set v (some w) = _
          rw [List.set_set]
          obtain ⟨hl, e⟩ := List.getElem?_eq_some_iff.mp hw
          rw [← e]; exact List.set_getElem_self hl
        rw [hs] at E3
        have s3 : Step H1 H2 (oa ++ o1 ++ ob) := s.mono fun a ha => by rcases List.mem_append.mp ha with z | z <;> simp [z]
        obtain ⟨o4, E4, c4⟩ := k s3 E3
        refine ⟨o4, ?_, fun a => ?_⟩
        · show Envs κ H2 σ (restD δ (δ2.set v (match (wipeD δ vs)[v]? with | some x => x | none => none)) vs) o4
          rw [h]; exact E4
        · have g := c3 a
          have g2 := c4 a
          rw [List.count_append]; omega
    · have hn : ∀ d, (wipeD δ vs)[v]? ≠ some (some d) := fun d e => h ⟨d, e⟩
      refine ⟨ow, od, ?_, c, dm, fun {H2 δ2 o2} s E2 => ?_⟩
      · show Envs κ H1 ((L2.wipe σ vs).set v none) ((wipeD δ vs).set v none) ow
        rw [set_none_same hn]
        exact Envs.sig v none Ew hn
      · obtain ⟨o2', E2', c2'⟩ := E2.drop v
        have E3 : Envs κ H2 (L2.wipe σ vs) (δ2.set v none) o2' := by
          have e : L2.wipe σ vs = (L2.wipe σ (v :: vs)).set v ((L2.wipe σ vs)[v]?.getD none) := by
            show _ = ((L2.wipe σ vs).set v none).set v _
            rw [List.set_set]
            by_cases hl : v < (L2.wipe σ vs).length
            · rw [List.getElem?_eq_getElem hl]; exact (List.set_getElem_self hl).symm
            · exact (List.set_eq_of_length_le (by omega)).symm
          rw [e]
          exact Envs.sig v _ E2' (set_none_get v)
        obtain ⟨o4, E4, c4⟩ := k s E3
        refine ⟨o4, ?_, fun a => ?_⟩
        · show Envs κ H2 σ (restD δ (δ2.set v (match (wipeD δ vs)[v]? with | some x => x | none => none)) vs) o4
          have : (match (wipeD δ vs)[v]? with | some x => x | none => none) = (none : Option D) := by
            cases q : (wipeD δ vs)[v]? with
            | none => rfl
            | some x => cases x with
              | none => rfl
              | some d => exact absurd q (hn d)
          rw [this]; exact E4
        · have g := c2' a
          have g2 := c4 a
          omega
end
/-- one turn after another: what the elements are -/
def dLcL (gs : List (Nat × D)) (vs : List Nat) (b : Bnd) (mt : DenT) (me : Den) : List D → DE → Option (List D × DE)
  | [], δ => if gOk gs δ then some ([], δ) else none
  | x :: xs, δ => if gOk gs δ then match b x δ with
    | some δ1 => match mt δ1 with
      | some (false, δ2) => dLcL gs vs b mt me xs (wipeD δ2 vs)
      | some (true, δ2) => match me δ2 with
        | some (.own d, δ3) => match dLcL gs vs b mt me xs (wipeD δ3 vs) with
          | some (ds, δ4) => some (d :: ds, δ4)
          | none => none
        | _ => none
      | none => none
    | none => none
    else none
def kpOut (vs : List Nat) : Nat → Bool := fun i => !vs.contains i
def dLc (vs : List Nat) (ms : DenS) (b : Bnd) (mt : DenT) (me : Den) : Den := fun δ => match ms δ with
  | some (src, δ1) => if gsIn (kpOut vs) src.gs then match dLcL src.gs vs b mt me src.xs (wipeD δ1 vs) with
    | some (ds, δ2) => some (.own (.lst ds), restD δ1 δ2 vs)
    | none => none
    else none
  | none => none
def dYes : DenT := fun δ => some (true, δ)
theorem wipe_get {σ : L2.St} {i : Nat} : ∀ {vs : List Nat}, i ∉ vs → (L2.wipe σ vs)[i]? = σ[i]?
  | [], _ => rfl
  | v :: vs, h => by
    simp only [List.mem_cons, not_or] at h
    show ((L2.wipe σ vs).set v none)[i]? = _
    rw [List.getElem?_set_ne (Ne.symm h.1), wipe_get h.2]
theorem wipe_in {σ : L2.St} {i : Nat} : ∀ {vs : List Nat}, i ∈ vs → i < σ.length → (L2.wipe σ vs)[i]? = some none
  | v :: vs, h, hl => by
    show ((L2.wipe σ vs).set v none)[i]? = _
    by_cases e : v = i
    · subst e
      rw [List.getElem?_set_self (by rw [wipe_length]; exact hl)]
    · rw [List.getElem?_set_ne e]
      exact wipe_in ((List.mem_cons.mp h).resolve_left (Ne.symm e)) hl
theorem wipe_same {σ σ2 : L2.St} {vs : List Nat} (hl : σ2.length = σ.length) (h : ∀ i, i ∉ vs → σ2[i]? = σ[i]?) : L2.wipe σ2 vs = L2.wipe σ vs := by
  apply List.ext_getElem?
  intro i
  by_cases hi : i ∈ vs
  · by_cases hn : i < σ.length
    · rw [wipe_in hi hn, wipe_in hi (by omega)]
    · rw [List.getElem?_eq_none (by rw [wipe_length]; omega), List.getElem?_eq_none (by rw [wipe_length]; omega)]
  · rw [wipe_get hi, wipe_get hi, h i hi]
theorem wipe_wipe (σ : L2.St) (vs : List Nat) : L2.wipe (L2.wipe σ vs) vs = L2.wipe σ vs := wipe_same (wipe_length σ vs) fun i hi => wipe_get hi
section
variable {X : Cx} {elt tg iter c : Expr} {ifs : List Expr} {q qt qe : Bool} {ms : DenS} {b : Bnd} {mt : DenT} {me : Den} {vs : List Nat}
theorem PTs.imp {t t' : L2.TT} (h : PTs X ifs t) (i : ∀ σ H Q, t' σ H Q → t σ H Q) : PTs X ifs t' := ⟨fun pins s σ H Q I hw => h.run pins s σ H Q I (i _ _ _ hw)⟩
theorem z_tsnil : PTs X [] (TT (kx X) true dYes) := PTs.imp pts_nil fun σ H Q ⟨δ, o, bb, δ', E, n, hm, k⟩ => by
  simp only [dYes, Option.some.injEq, Prod.mk.injEq] at hm
  obtain ⟨rfl, rfl⟩ := hm
  exact k H o ⟨Step.refl _ _, E, Own.refl _ _⟩
theorem z_tsone (h : PT X c (TT (kx X) qt mt)) : PTs X [c] (TT (kx X) qt mt) := pts_one h
/-- the reading of a comprehension -/
theorem t_lc {κ : Kx} {σ : L2.St} {H : Hp} {Q : VK} (h : T κ false (dLc vs ms b mt me) σ H Q) : tLc (TIm κ q ms) (TGm κ (kpOut vs) b) (TT κ qt mt) (T κ qe me) vs σ H Q := by
  obtain ⟨δ, o, r, δ', E, n, hm, k⟩ := h
  simp only [dLc] at hm
  cases h1 : ms δ with
  | none => rw [h1] at hm; simp at hm
  | some p =>
    obtain ⟨src, δ1⟩ := p
    rw [h1] at hm; dsimp only at hm
    by_cases hk0 : gsIn (kpOut vs) src.gs = true
    case neg => rw [if_neg hk0] at hm; cases hm
    rw [if_pos hk0] at hm
    have hk : ∀ p ∈ src.gs, p.1 ∉ vs := fun p hp => by
      have := gsIn_mem hk0 p hp
      simpa [kpOut] using this
    cases h2 : dLcL src.gs vs b mt me src.xs (wipeD δ1 vs) with
    | none => rw [h2] at hm; simp at hm
    | some p2 =>
      obtain ⟨ds, δe⟩ := p2
      rw [h2] at hm
      simp only [Option.some.injEq, Prod.mk.injEq] at hm
      obtain ⟨rfl, rfl⟩ := hm
      refine ⟨δ, o, src, δ1, E, n, h1, fun J H1 o1 ov s1 E1 w1 hov S hlen => fun D hD => ?_⟩
      have n1 := w1.nd n
      have no1 : Nd o1 := (own_right w1).nd n
      obtain ⟨ow, od, Ew, cw, hod, kr⟩ := Envs.rest vs E1 no1
      have nw : Nd ow := fun a => by have := cw a; have := no1 a; omega
      have hlw : (wipeD δ1 vs).length = σ.length := by rw [wipeD_len, ← E1.length]
      -- the heap is so at turn i
      refine ⟨fun i m H' => m + i = src.xs.length ∧ ∃ accV accD oacc δ2 o2 rest, accV.length ≤ i ∧ H' D = some (.lst accV) ∧ Reps κ.K H' accD accV oacc ∧ Envs κ H' (L2.wipe σ vs) δ2 o2 ∧ Step H1 H' ow ∧ Own H1 ow (oacc ++ o2) ∧ D ∉ oacc ++ o2 ∧
        dLcL src.gs vs b mt me (src.xs.drop i) δ2 = some (rest, δe) ∧ accD ++ rest = ds, ⟨src.xs.length, rfl, [], [], [], wipeD δ1 vs, ow, ds, Nat.le_refl _, upd_same, ⟨rfl, rfl⟩, Ew.same (new_same hD), Step.new hD, Own.refl _ _, fun hm => Ew.dom D hm hD, h2, rfl⟩, fun i m H' hW => ?_⟩
      obtain ⟨hmi, accV, accD, oacc, δ2, o2, rest, hacc, hHD, ra, E2, s2, w2, hDn, h3, hds⟩ := hW
      have n2 := w2.nd nw
      have pin : ∀ a ∈ ov, H' a = H1 a := fun a ha => by
        obtain ⟨u, e, how⟩ := hov a ha
        rw [e]
        refine s2.keep a _ e (fun hz => nd_split n1 a ha ?_) how.2
        have h5 : 0 < ow.count a := List.count_pos_iff.mpr hz
        have h6 := cw a
        exact List.count_pos_iff.mp (show 0 < o1.count a by omega)
      have shr : ∀ a u, H1 a = some u → Sh u → H' a = some u := fun a u e hu => s2.keep a u e (fun z => by
        obtain ⟨vs, e2, how⟩ := Ew.own a z
        rw [e] at e2; cases e2; exact how.1 hu) hu.nt
      have gk : gOk src.gs δ2 = true → ∀ p ∈ src.gs, ∃ v o, σ[p.1]? = some (some v) ∧ Rep κ.K H' p.2 v o := fun hg p hp => by
        obtain ⟨v, o, hv, r⟩ := gOk_rep E2 hg p hp
        exact ⟨v, o, by rw [← wipe_get (σ := σ) (hk p hp)]; exact hv, r⟩
      by_cases hi : i < src.xs.length
      · have hx : src.xs[i]? = some src.xs[i] := List.getElem?_eq_getElem hi
        rw [List.drop_eq_getElem_cons hi] at h3
        simp only [dLcL] at h3
        by_cases hg : gOk src.gs δ2 = true
        case neg => rw [if_neg hg] at h3; cases h3
        rw [if_pos hg] at h3
        obtain ⟨go, _⟩ := S i H' pin shr (gk hg)
        obtain ⟨go, yl⟩ := go _ hx
        cases h4 : b src.xs[i] δ2 with
        | none => rw [h4] at h3; simp at h3
        | some δ3 =>
          rw [h4] at h3; dsimp only at h3
          refine .inr ⟨go, fun H6 => ∃ accV accD oacc δ2 o2 rest, accV.length ≤ i + 1 ∧ H6 D = some (.lst accV) ∧ Reps κ.K H6 accD accV oacc ∧ Envs κ H6 (L2.wipe σ vs) δ2 o2 ∧ Step H1 H6 ow ∧ Own H1 ow (oacc ++ o2) ∧ D ∉ oacc ++ o2 ∧
            dLcL src.gs vs b mt me (src.xs.drop (i + 1)) δ2 = some (rest, δe) ∧ accD ++ rest = ds, fun H6 hN => ⟨m - 1, by omega, by omega, hN⟩, fun v H3 hy => ?_⟩
          obtain ⟨sm, rv⟩ := yl v H3 hy
          have s3 : Step H1 H3 ow := s2.same sm
          refine ⟨δ2, o2, src.xs[i], [], δ3, E2.same sm, rv, h4, fun σ3 o3 E3 c3 k3 => ?_⟩
          have c3' : ∀ a, o3.count a ≤ o2.count a := fun a => by have := c3 a; simp only [List.count_nil] at this; omega
          have hw3 : L2.wipe σ3 vs = L2.wipe σ vs := by
            rw [← wipe_wipe σ vs]
            exact wipe_same k3.2 fun j hj => k3.1 j (by simpa [kpOut] using hj)
          refine ⟨hw3, ?_⟩
          have w3 : Own H1 ow (oacc ++ o3) := w2.sub fun a => by rw [List.count_append, List.count_append]; have := c3' a; omega
          have hD3 : D ∉ oacc ++ o3 := fun hm => hDn (by
            rcases List.mem_append.mp hm with z | z
            · exact List.mem_append_left _ z
            · have h5 : 0 < o3.count D := List.count_pos_iff.mpr z
              have h6 := c3' D
              exact List.mem_append_right _ (List.count_pos_iff.mp (show 0 < o2.count D by omega)))
          have n3 : Nd (oacc ++ o3) := w3.nd nw
          have no3 : Nd o3 := fun a => by have := n3 a; rw [List.count_append] at this; omega
          cases h5 : mt δ3 with
          | none => rw [h5] at h3; simp at h3
          | some p5 =>
            obtain ⟨bt, δ4⟩ := p5
            rw [h5] at h3
            refine ⟨δ3, o3, bt, δ4, E3, no3, h5, fun H4 o4 P4 => ?_⟩
            -- what stays through a step of the block
            have stay : ∀ {H5 : Hp} {o5 ov5 : List Addr}, Step H3 H5 o3 → Own H3 o3 (ov5 ++ o5) → (∀ a ∈ ov5 ++ o5, H5 a ≠ none) → H5 D = some (.lst accV) ∧ Reps κ.K H5 accD accV oacc ∧ Step H1 H5 ow ∧ Own H1 ow (oacc ++ (ov5 ++ o5)) ∧ D ∉ oacc ++ (ov5 ++ o5) := fun {H5 o5 ov5} st wt hdom => by
              have hD5 : D ∉ o3 := fun z => hD3 (List.mem_append_right _ z)
              have hHD3 : H3 D = some (.lst accV) := sm _ _ hHD
              have ra3 : Reps κ.K H3 accD accV oacc := ra.same sm
              refine ⟨st.keep D _ hHD3 hD5 (fun _ z => nomatch z), ra3.step st E3.ok (nd_split n3), s3.trans (own_right w3) st, fun a => ?_, fun hm => ?_⟩
              · have g1 := w3 a
                have g2 := wt a
                simp only [List.count_append] at g1 g2 ⊢
                rcases g2 with g2 | ⟨z, g2⟩
                · rcases g1 with g1 | ⟨z1, g1⟩
                  · left; omega
                  · right; exact ⟨z1, by omega⟩
                · have : oacc.count a = 0 := List.count_eq_zero.mpr fun hm => by
                    obtain ⟨vs, e, how⟩ := ra3.own a hm
                    rw [z] at e; cases e
                  right; exact ⟨s3.dom a z, by omega⟩
              · rcases List.mem_append.mp hm with z | z
                · exact hD3 (List.mem_append_left _ z)
                · have g : 0 < (ov5 ++ o5).count D := List.count_pos_iff.mpr z
                  rcases wt D with y | ⟨y, _⟩
                  · exact hD5 (List.count_pos_iff.mp (show 0 < o3.count D by omega))
                  · rw [hHD3] at y; cases y
            cases bt with
            | false =>
              show if false = true then _ else _
              rw [if_neg Bool.false_ne_true]
              dsimp only at h3
              obtain ⟨g1, g2, g3, g4, g5⟩ := stay (ov5 := []) (P4.step.mono Wq_sub) P4.own (fun a ha => P4.env.dom a ha)
              obtain ⟨o6, E6, c6⟩ := P4.env.wipe vs
              rw [hw3] at E6
              refine ⟨accV, accD, oacc, wipeD δ4 vs, o6, rest, by omega, g1, g2, E6, g3, g4.sub fun a => ?_, fun hm => g5 ?_, h3, hds⟩
              · have := c6 a; simp only [List.count_append, List.nil_append]; omega
              · rcases List.mem_append.mp hm with z | z
                · exact List.mem_append_left _ z
                · have h7 : 0 < o6.count D := List.count_pos_iff.mpr z
                  have h8 := c6 D
                  exact List.mem_append_right _ (List.count_pos_iff.mp (show 0 < ([] ++ o4).count D by rw [List.nil_append]; omega))
            | true =>
              show if true = true then _ else _
              rw [if_pos rfl]
              dsimp only at h3
              cases h6 : me δ4 with
              | none => rw [h6] at h3; simp at h3
              | some p6 =>
                obtain ⟨re, δ5⟩ := p6
                rw [h6] at h3
                cases re with
                | «at» _ _ => simp at h3
                | own d =>
                  dsimp only at h3
                  cases h7 : dLcL src.gs vs b mt me (src.xs.drop (i + 1)) (wipeD δ5 vs) with
                  | none => rw [h7] at h3; simp at h3
                  | some p7 =>
                    obtain ⟨rest', δe'⟩ := p7
                    rw [h7] at h3
                    simp only [Option.some.injEq, Prod.mk.injEq] at h3
                    obtain ⟨rfl, rfl⟩ := h3
                    refine T.then_ (qb := qe) no3 P4 h6 fun y H5 o5 oy P5 => ?_
                    obtain ⟨g1, g2, g3, g4, g5⟩ := stay (P5.step.mono Wq_sub) P5.own (fun a ha => (List.mem_append.mp ha).elim (P5.held.dom a) (P5.env.dom a))
                    refine ⟨accV, g1, by omega, ?_⟩
                    obtain ⟨o6, E6, c6⟩ := P5.env.wipe vs
                    rw [hw3] at E6
                    have rep6 := g2.append (Reps.one P5.held)
                    have fr6 : ∀ (l : List Addr), D ∉ l → Fr H5 (upd H5 D (.lst (accV ++ [y]))) l := fun l hl => ⟨fun a ha => upd_ne (fun e => hl (e ▸ ha)), fun a w e hw => by
                      have : a ≠ D := fun z => by rw [z, g1] at e; cases e; exact hw
                      rw [upd_ne this]; exact e, (Step.write (W := [D]) g1 List.mem_cons_self).tab⟩
                    have hDo : D ∉ oacc ++ oy := fun hm => g5 (by
                      rcases List.mem_append.mp hm with z | z
                      · exact List.mem_append_left _ z
                      · exact List.mem_append_right _ (List.mem_append_left _ z))
                    have hD6 : D ∉ o6 := fun z => by
                      have h8 : 0 < o6.count D := List.count_pos_iff.mpr z
                      have h9 := c6 D
                      exact g5 (List.mem_append_right _ (List.mem_append_right _ (List.count_pos_iff.mp (show 0 < o5.count D by omega))))
                    refine ⟨accV ++ [y], accD ++ [d], oacc ++ oy, wipeD δ5 vs, o6, rest', by simp; omega, upd_same, rep6.fr (fr6 _ hDo), E6.fr (fr6 _ hD6), ⟨fun a u e hn hu => ?_, fun a e => ?_, fun P g => (Step.write (W := [D]) g1 List.mem_cons_self).tab P (g3.tab P g)⟩, g4.sub fun a => ?_, fun hm => ?_, h7, by rw [List.append_assoc]; exact hds⟩
                    · have : a ≠ D := fun z => by rw [z, hD] at e; cases e
                      rw [upd_ne this]; exact g3.keep a u e hn hu
                    · by_cases z : a = D
                      · rw [z, upd_same] at e; cases e
                      · rw [upd_ne z] at e; exact g3.dom a e
                    · have := c6 a; simp only [List.count_append]; omega
                    · rcases List.mem_append.mp hm with z | z
                      · exact hDo z
                      · exact hD6 z
      · have hd : src.xs.drop i = [] := List.drop_eq_nil_of_le (by omega)
        rw [hd] at h3
        simp only [dLcL] at h3
        by_cases hg : gOk src.gs δ2 = true
        case neg => rw [if_neg hg] at h3; cases h3
        rw [if_pos hg] at h3
        simp only [Option.some.injEq, Prod.mk.injEq] at h3
        obtain ⟨rfl, rfl⟩ := h3
        rw [List.append_nil] at hds
        subst hds
        obtain ⟨o3, E3, c3⟩ := kr s2 E2
        have sH : Step H H' o := (s1.mono Wq_sub).trans (own_right w1) (s2.mono fun a ha => by
          have h5 : 0 < ow.count a := List.count_pos_iff.mpr ha
          have h6 := cw a
          exact List.count_pos_iff.mp (show 0 < o1.count a by omega))
        refine .inl ⟨(S i H' pin shr (gk hg)).2 (by omega), k _ H' o3 (D :: oacc) ⟨sH, E3, ⟨D, accV, oacc, rfl, hHD, ra, rfl⟩, fun a => ?_⟩⟩
        have g1 := w2 a
        have g2 := c3 a
        have g3 := cw a
        have g4 := w1 a
        simp only [List.count_append] at g1 g4 ⊢
        have g5 : od.count a = 0 ∨ H1 a ≠ none := by
          by_cases z : a ∈ od
          · exact .inr (hod a z)
          · exact .inl (List.count_eq_zero.mpr z)
        by_cases ha : a = D
        · subst ha
          have z1 : oacc.count a = 0 := List.count_eq_zero.mpr fun z => hDn (List.mem_append_left _ z)
          have z2 : o2.count a = 0 := List.count_eq_zero.mpr fun z => hDn (List.mem_append_right _ z)
          have z3 : od.count a = 0 := g5.resolve_right (fun z => z hD)
          rw [List.count_cons_self]
          exact .inr ⟨s1.dom a hD, by omega⟩
        · rw [List.count_cons_of_ne (Ne.symm ha)]
          rcases g1 with g1 | ⟨z, g1⟩
          · rcases g4 with g4 | ⟨z4, g4⟩
            · left; omega
            · right; exact ⟨z4, by omega⟩
          · have z3 : od.count a = 0 := g5.resolve_right (fun y => y z)
            exact .inr ⟨s1.dom a z, by omega⟩
theorem z_lc {scope : Scope} {own : List (Str × Nat)} {pos : Pos} (hc : X.calm = true) (hN : X.N.Nodup) (hi : PI X tg iter (TIm (kx X) q ms)) (ok : BlkOk X.N X.env.scope scope own)
    (hg : ∀ (s : Shared) (H : Hp) (C : Addr) (cl : List (Str × Addr)) (fp : List Addr), PG (X.blk s H scope (compEnvC scope cl C X.env) fp) tg (TGm (kx X) (kpOut (own.map (·.2))) b)) (ht : ∀ (s : Shared) (H : Hp) (C : Addr) (cl : List (Str × Addr)) (fp : List Addr), PTs (X.blk s H scope (compEnvC scope cl C X.env) fp) ifs (TT (kx X) qt mt))
    (he : ∀ (s : Shared) (H : Hp) (C : Addr) (cl : List (Str × Addr)) (fp : List Addr), PE (X.blk s H scope (compEnvC scope cl C X.env) fp) elt (T (kx X) qe me)) (hs : ∀ x, foldedSetIterable iter X.env x = pure x := by intro _; rfl) :
    PE X (.ListComp elt [⟨tg, iter, ifs, 0⟩] scope pos) (T (kx X) false (dLc (own.map (·.2)) ms b mt me)) :=
  PE.imp (pe_lc hc hN hi ok hg ht he hs) fun σ H Q h => t_lc h
end
end Z


set_option Elab.async false
set_option linter.all false
set_option maxRecDepth 100000
/-! generator expressions: the code object, the frame -/
namespace Z
open PySem PySem.Spec PyProof.Rows L2

/-- the module of built-ins, as a new frame asks it -/
def BMod (base : Heap) (mg : Str → Option Value) : Prop := ∃ (bm : Addr) (ob : Obj), mg "__builtins__" = some (.ref bm) ∧ bm ≠ builtinsNs ∧ base.get? bm = some ob ∧ ob.cls = .type "module" ∧ ob.dict = some builtinsNs ∧ ob.data = .plain
theorem among_snoc {pos q : Pos} {c : Value} (l : List Value) (h : TriplesOk l) : codeAmong q (l ++ [rawInt pos.line, rawInt pos.col, c]) =
    match codeAmong q l with
    | some v => some v
    | none => codeAmong q [rawInt pos.line, rawInt pos.col, c] := by
  fun_induction TriplesOk l with
  | case1 => simp [codeAmong]
  | case2 a t b u x rest ih =>
    simp only [List.cons_append, codeAmong]
    split
    · rfl
    · exact ih h
  | case3 l h1 h2 => exact h.elim
theorem among_one {pos q : Pos} {c v : Value} (h : codeAmong q [rawInt pos.line, rawInt pos.col, c] = some v) : v = c := by
  simp only [codeAmong, rawInt] at h
  split at h
  · exact (Option.some.inj h).symm
  · cases h
/-- a table has a new code: all that was good is good -/
theorem GoodT.grow {H H' : Hp} {P c1 P1 : Addr} {ps : Array Value} {pos : Pos} (hP : H P = some (.tbl ps)) (hP' : H' P = some (.tbl (ps ++ #[rawInt pos.line, rawInt pos.col, .ref c1])))
    (hc : H' c1 = some (.ext fun h => PySem.W.CodeHd h c1 P1)) (h1 : H' P1 = some (.tbl #[])) (keep : ∀ a u, H a = some u → a ≠ P → H' a = some u) {Q : Addr} (g : GoodT H Q) : GoodT H' Q := by
  have new : GoodT H' P1 := .mk P1 #[] (fun _ => 0) (fun _ => 0) h1 trivial (fun pos cv h => by simp [codeAmong] at h) (fun pos cv h => by simp [codeAmong] at h)
  induction g with
  | mk Q qs cf pf e t kk _ ih =>
    have hcf : ∀ q cv, codeAmong q qs.toList = some cv → cv = .ref (cf q) ∧ H' (cf q) = some (.ext fun h => PySem.W.CodeHd h (cf q) (pf q)) := fun q cv h => by
      obtain ⟨h2, h3⟩ := kk q cv h
      refine ⟨h2, keep _ _ h3 fun z => ?_⟩
      rw [z, hP] at h3; cases h3
    by_cases hQ : Q = P
    · subst hQ
      rw [hP] at e; cases e
      have hl : (ps ++ #[rawInt pos.line, rawInt pos.col, Value.ref c1]).toList = ps.toList ++ [rawInt pos.line, rawInt pos.col, .ref c1] := by simp
      refine .mk Q _ (fun q => if (codeAmong q ps.toList).isSome then cf q else c1) (fun q => if (codeAmong q ps.toList).isSome then pf q else P1) hP' (by rw [hl]; exact TriplesOk_snoc _ _ _ _ t) (fun q cv h => ?_) fun q cv h => ?_
      · rw [hl, among_snoc _ t] at h
        cases ha : codeAmong q ps.toList with
        | some v =>
          rw [ha] at h
          dsimp only at h
          cases h
          simp only [Option.isSome_some, if_true]
          exact hcf q _ ha
        | none =>
          rw [ha] at h
          dsimp only at h
          have := among_one h
          subst this
          simp only [Option.isSome_none, Bool.false_eq_true, if_false]
          exact ⟨trivial, hc⟩
      · rw [hl, among_snoc _ t] at h
        cases ha : codeAmong q ps.toList with
        | some v =>
          simp only [Option.isSome_some, if_true]
          exact ih q v ha
        | none =>
          simp only [Option.isSome_none, Bool.false_eq_true, if_false]
          exact new
    · exact .mk Q qs cf pf (keep _ _ e hQ) t hcf ih
section
variable {X : Cx} {pins : List (Addr × Obj)} {σ : L2.St} {H : Hp} {s : Shared}
theorem hd_stable {c P : Addr} : ∀ h1 h2 : Heap, PySem.W.CodeHd h1 c P → (∀ o, h1.get? c = some o → h2.get? c = some o) → PySem.W.CodeHd h2 c P := fun h1 h2 ⟨o, vs, file, tf, flags, tg, inF, text, tt, e, r⟩ k => ⟨o, vs, file, tf, flags, tg, inF, text, tt, k _ e, r⟩
/-- the code object of a generator expression: found, or made -/
theorem gen_code {cc : Addr} {δ : DE} {o : List Addr} {gpos : Pos} {qn : Str} {scope : Scope} {E : Value → Shared → Prop} {Q : Value → Shared → Prop} (hcode : X.env.code = .ref cc) (I : Inv X pins σ H s) (En : Envs (kx X) H σ δ o)
    (hQ : ∀ c' P' H' s', Inv X pins σ H' s' → Step H H' [] → Fr H H' o → (∀ b, H b = none → b < s.heap.objs.size → H' b = none) → H' c' = some (.ext fun h => PySem.W.CodeHd h c' P') → GoodT H' P' → s.heap.objs.size ≤ s'.heap.objs.size → (∀ b o, H b = none → s.heap.get? b = some o → s'.heap.get? b = some o) → Q (.ref c') s') :
    wpAny (model X.prog X.w) X.A (genexprCode X.env gpos qn scope) Q E s := by
  obtain ⟨P, hhd, gP⟩ := En.tabs.2 cc hcode
  have hd : PySem.W.CodeHd s.heap cc P := by
    rcases hhd with z | z
    · exact PySem.W.codeHd_of_K I.kIn z
    · exact (I.hok cc _ z).1
  cases gP with
  | mk _ ps cf pf e t kk gg =>
  have hPs : s.heap.get? P = some { cls := .none, data := .fields ps } := I.hok P _ e
  cases hf : codeAmong gpos ps.toList with
  | some cv =>
    obtain ⟨rfl, hc⟩ := kk _ _ hf
    exact wpAny_genexprCode_hit hcode (hd.code hPs t) hf (hQ _ _ H s I (.refl _ _) .rfl (fun b hb _ => hb) hc (gg _ _ hf) (Nat.le_refl _) fun _ _ _ e => e)
  | none =>
    refine wpAny_genexprCodeX hcode (hd.code hPs t) (hd.tab hPs) hf fun c1 h' tk hx hge hlt hco' _ htab' ⟨P1, hP1, hco1, htab1⟩ => ?_
    have hP1' : h'.get? P1 = some { cls := .none, data := .fields #[] } := htab1.2
    have hcd1 : PySem.W.CodeHd h' c1 P1 := .of hco1 htab1
    have ne1 : c1 ≠ P1 := by
      obtain ⟨_, _, _, _, _, _, _, _, _, _, _, _, _, _, _, _, _, _, z⟩ := hcd1
      exact z
    have nf1 : H c1 = none := I.hok.fresh hge
    have nf2 : H P1 = none := I.hok.fresh hP1
    have nP1 : P ≠ c1 := ne_of_none e nf1
    have nP2 : P ≠ P1 := ne_of_none e nf2
    let H' : Hp := upd (upd (upd H P (.tbl (ps ++ #[rawInt gpos.line, rawInt gpos.col, .ref c1]))) c1 (.ext fun h => PySem.W.CodeHd h c1 P1)) P1 (.tbl #[])
    have eP : H' P = some (.tbl (ps ++ #[rawInt gpos.line, rawInt gpos.col, .ref c1])) := by
      show upd _ _ _ _ = _
      rw [upd_ne nP2, upd_ne nP1, upd_same]
    have ec : H' c1 = some (.ext fun h => PySem.W.CodeHd h c1 P1) := by
      show upd _ _ _ _ = _
      rw [upd_ne ne1, upd_same]
    have e1 : H' P1 = some (.tbl #[]) := upd_same
    have eo : ∀ b, b ≠ P → b ≠ c1 → b ≠ P1 → H' b = H b := fun b n1 n2 n3 => by
      show upd _ _ _ _ = _
      rw [upd_ne n3, upd_ne n2, upd_ne n1]
    have keep : ∀ a u, H a = some u → a ≠ P → H' a = some u := fun a u ea n => by
      rw [eo a n (ne_of_none ea nf1) (ne_of_none ea nf2)]; exact ea
    have old : ∀ b o, s.heap.get? b = some o → b ≠ c1 ∧ b ≠ P1 := fun b o eb => by
      have := Heap.lt_size eb
      exact ⟨fun z => by subst z; exact absurd (Nat.lt_of_lt_of_le this hge) (Nat.lt_irrefl _), fun z => by subst z; exact absurd (Nat.lt_of_lt_of_le this hP1) (Nat.lt_irrefl _)⟩
    have nP : ∀ b u, H b = some u → (∀ qs, u ≠ .tbl qs) → b ≠ P := fun b u eb hn z => by
      rw [z, e] at eb; cases eb; exact hn _ rfl
    have nN : ∀ b, H b = none → b ≠ P := fun b eb z => by rw [z, e] at eb; cases eb
    have un : Un X.fs [] H H' s.heap h' := by
      refine ⟨fun b o eb hb _ _ => hx b o (nN b hb) eb, fun b o eb hb _ _ => ⟨o.slots, hx b o (nN b hb) eb⟩, fun b o eb hb _ => ?_, fun b o eb _ => ?_, fun b xs eb => keep b _ eb (nP b _ eb fun _ z => nomatch z), fun b o u eb => keep b _ eb (nP b _ eb fun _ z => nomatch z), fun b qs eb => ?_⟩
      · rw [eo b (nN b hb) (old b o eb).1 (old b o eb).2]; exact hb
      · by_cases hb : b = P
        · rw [hb]; exact ⟨_, htab'.2⟩
        · exact ⟨o, hx b o hb eb⟩
      · by_cases hb : b = P
        · rw [hb, e] at eb; cases eb
          exact ⟨_, by rw [hb]; exact eP⟩
        · exact ⟨#[], by rw [keep b _ eb hb]; simp⟩
    have hok : HOk X.prog X.w H' h' := fun a u ea => by
      by_cases ha : a = P
      · rw [ha, eP] at ea; cases ea; rw [ha]; exact htab'.2
      · by_cases ha1 : a = c1
        · rw [ha1, ec] at ea; cases ea
          rw [ha1]
          obtain ⟨ob, vs, file, tf, flags, tg, inF, text, tt, eo1, r⟩ := id hcd1
          exact ⟨hcd1, ⟨ob, eo1⟩, hd_stable⟩
        · by_cases ha2 : a = P1
          · rw [ha2, e1] at ea; cases ea; rw [ha2]; exact hP1'
          · rw [eo a ha ha1 ha2] at ea
            refine (I.hok a u ea).stay (fun b v hb eb => hx b v ?_ eb) (fun b eb => keep b _ eb (nP b _ eb fun _ z => nomatch z)) fun b xs eb => keep b _ eb (nP b _ eb fun _ z => nomatch z)
            rcases hb with rfl | hb
            · exact ha
            · exact nP b _ hb fun _ z => nomatch z
    have gr : ∀ Q, GoodT H Q → GoodT H' Q := fun Q g => g.grow e eP ec e1 keep
    refine hQ c1 P1 H' _ (I.un (t' := tk) un hok) ⟨fun a u ea _ hn => keep a u ea (nP a u ea hn), fun a ea => ?_, gr⟩ ⟨fun a ha => ?_, fun a u ea hs => keep a u ea (nP a u ea hs.nt), gr⟩ (fun b hb hl => ?_) ec (.mk P1 #[] (fun _ => 0) (fun _ => 0) e1 trivial (fun _ _ h => by simp [codeAmong] at h) (fun _ _ h => by simp [codeAmong] at h)) (Nat.le_trans hge (Nat.le_of_lt hlt)) fun b o hb eb => hx b o (nN b hb) eb
    · cases q : H a with
      | none => rfl
      | some u =>
        by_cases ha : a = P
        · rw [ha, eP] at ea; cases ea
        · rw [keep a u q ha] at ea; cases ea
    · obtain ⟨vs, ea, how⟩ := En.own a ha
      rw [ea]; exact keep a _ ea (nP a _ ea how.2)
    · rw [eo b (nN b hb) (fun z => by subst z; exact absurd (Nat.lt_of_lt_of_le hl hge) (Nat.lt_irrefl _)) (fun z => by subst z; exact absurd (Nat.lt_of_lt_of_le hl hP1) (Nat.lt_irrefl _))]; exact hb
end
end Z


set_option Elab.async false
set_option linter.all false
set_option maxRecDepth 100000
/-! generator expressions: the generator's own frame -/
namespace Z
open PySem PySem.Spec PyProof.Rows L2

/-- the context of a generator's frame that was made at s -/
abbrev _root_.L2.Cx.gen (X : Cx) (A : Around) (s : Shared) (H : Hp) (scope : Scope) (cenv : Env) (fp : List Addr) : Cx :=
  { X with A := A, s_0 := s, H_0 := H, env := cenv, outer := X.stack, stack := cenv :: X.stack, ex := fp, fn := fun x => scope.names.lookup x == some .cell, pn := [], xe := fun _ _ => False }
theorem newEnv_gen {M : Model} {A : Around} {E : Value → Shared → Prop} {s : Shared} {scope : Scope} {cl : List (Str × Addr)} {env : Env} {it code : Value} {bi : Addr} {Q : Env → Shared → Prop} (hk : scope.kind = .function) (h0 : scope.names.lookup (".0" : Str) = some NameKind.local)
    (hQ : ∀ h' tk, h'.Ns s.heap.objs.size (fun y => if y = ".0" then some it else none) → Heap.SameBut s.heap.objs.size (pushCells (s.heap.push { cls := .type "frame", data := .dict #[] }) scope.names) h' →
      Q (genEnv scope (cellsFrom (s.heap.objs.size + 1) scope.names cl) s.heap.objs.size code bi env) { s with heap := h', toks := tk }) :
    wpAny M A (newFunctionEnv scope env.globals cl [((".0" : Str), it)] (env.qual ++ "<genexpr>.") none code none bi) Q E s := by
  simp only [newFunctionEnv, Option.isSome_none, Bool.false_eq_true, if_false]
  refine wpAny_bind (wpAny_alloc ?_)
  refine wpAny_bind (wpAny_layCells _ (fun name kind cells => by cases hkc : kind == NameKind.cell <;> simp [hkc]) _ _ _ _ ?_)
  rw [show ({ s with heap := s.heap.push { cls := .type "frame", data := .dict #[] } } : Shared).heap.objs.size = s.heap.objs.size + 1 from Heap.size_push ..]
  simp only [List.forIn_cons, List.forIn_nil]
  refine wpAny_bind (wpAny_bind (wpAny_bind (wpAny_storeName_local (m := fun _ => none) h0 ((Heap.Ns.new s.heap (.type "frame")).keeps (pushCells_keeps _ _)) (fun h' hn hs => ?_) (by simp [hk]))))
  exact wpAny_pure (wpAny_pure (wpAny_pure (hQ h' _ hn hs)))
section
variable {X : Cx} {pins : List (Addr × Obj)} {σ : L2.St} {H : Hp} {s : Shared}
theorem gen_start {A : Around} {scope : Scope} {own : List (Str × Nat)} {fp : List Addr} {code : Value} {it : Value} {h' h5 : Heap} {g5 : Array GenState} {t5 : Nat} (I : Inv X pins σ H s) (ok : BlkOk X.N X.env.scope scope own) (hN : X.N.Nodup) (hfp : ∀ b ∈ fp, FpOk X pins H b ∧ b < s.heap.objs.size)
    (hA : A.frames = some (genEnv scope (cellsFrom (s.heap.objs.size + 1) scope.names (cloFrom X.env.cells scope.names [])) s.heap.objs.size code builtinsNs X.env :: X.stack)) (hh : A.handled = none)
    (hn : h'.Ns s.heap.objs.size (fun y => if y = ".0" then some it else none)) (hs : Heap.SameBut s.heap.objs.size (pushCells (s.heap.push { cls := .type "frame", data := .dict #[] }) scope.names) h') (h5k : ∀ b o, h'.get? b = some o → h5.get? b = some o) (hg : AllBare g5) :
    Inv (X.gen A s H scope (genEnv scope (cellsFrom (s.heap.objs.size + 1) scope.names (cloFrom X.env.cells scope.names [])) s.heap.objs.size code builtinsNs X.env) fp) [] (wipe σ (own.map (·.2))) H { s with heap := h5, gens := g5, toks := t5 } := by
  have hfree : ∀ y ∈ scope.names, y.2 = .free → ∃ c, X.env.cells.lookup y.1 = some c := fun y hy e => by
    rcases ok.free y hy e with k | k
    · exact I.ok.has _ (.inl k)
    · exact I.ok.has _ (.inr k)
  generalize hcenv : genEnv scope (cellsFrom (s.heap.objs.size + 1) scope.names (cloFrom X.env.cells scope.names [])) s.heap.objs.size code builtinsNs X.env = cenv at *
  have hlc : ∀ b o, b ≠ s.heap.objs.size → (pushCells (s.heap.push { cls := .type "frame", data := .dict #[] }) scope.names).get? b = some o → h5.get? b = some o := fun b o hb e => h5k b o (hs.extBut b o hb e)
  have kp : ∀ b o, s.heap.get? b = some o → h5.get? b = some o := fun b o e => hlc b o (Nat.ne_of_lt (Heap.lt_size e)) (pushCells_keeps _ _ _ _ (Heap.get?_push_of_some _ e))
  have hL : cenv.locals = s.heap.objs.size := by rw [← hcenv]; rfl
  have hcl : cenv.cells = cellsFrom (s.heap.objs.size + 1) scope.names (cloFrom X.env.cells scope.names []) := by rw [← hcenv]; rfl
  have hsc : cenv.scope = scope := by rw [← hcenv]; rfl
  rw [← Heap.size_push s.heap { cls := .type "frame", data := .dict #[] }] at hcl
  have cm : ∀ {y c}, (y, c) ∈ cloFrom X.env.cells scope.names [] → X.env.cells.lookup y = some c ∧ c < s.heap.objs.size := fun {y c} hm => by
    rcases cloFrom_mem hm with hm | ⟨h1, rfl⟩
    · cases hm
    · obtain ⟨c, hc⟩ := hfree _ h1 rfl
      rw [hc]
      obtain ⟨w, z⟩ := I.cell _ _ hc
      exact ⟨rfl, z.lt⟩
  have mem : ∀ {y c}, cenv.cells.lookup y = some c → (X.env.cells.lookup y = some c ∧ c < s.heap.objs.size) ∨ (s.heap.objs.size + 1 ≤ c ∧ CellAt h5 c none) := fun {y c} e => by
    rw [hcl] at e
    rcases cells_mem (PySem.mem_of_lookup e) with hm | ⟨_, h2, o, h3, h4⟩
    · exact .inl (cm hm)
    · rw [Heap.size_push] at h2
      exact .inr ⟨h2, o, hlc c o (Nat.ne_of_gt h2) h3, h4⟩
  have look : ∀ {y}, scope.names.lookup y = some .free → ∃ c, cenv.cells.lookup y = some c ∧ X.env.cells.lookup y = some c := fun {y} hl => by
    have hy : (y, NameKind.free) ∈ scope.names := PySem.mem_of_lookup hl
    obtain ⟨c', e'⟩ := mem_lookup (cells_acc (names := scope.names) (n := (s.heap.push { cls := .type "frame", data := .dict #[] }).objs.size) (cloFrom_has (cells := X.env.cells) (acc := []) hy))
    rw [← hcl] at e'
    refine ⟨c', e', ?_⟩
    rw [hcl] at e'
    rcases cells_mem (PySem.mem_of_lookup e') with hm | ⟨h1, _, _⟩
    · exact (cm hm).1
    · have := ok.uniq _ h1
      rw [hl] at this; cases this
  have okB : (X.gen A s H scope cenv fp).Ok := by
    refine ⟨I.ok.mod, by show cenv.scope.kind = _; rw [hsc]; exact ok.kind, by show cenv.globals = _; rw [← hcenv]; exact I.ok.glob, by show cenv.builtins = _; rw [← hcenv]; rfl, by show s.heap.objs.size ≤ cenv.locals; rw [hL]; exact Nat.le_refl _,
      fun y z c e1 e2 => ?_, fun y hy => ?_, fun y c z e => ?_, fun _ => hh, hA, .inr ⟨rfl, by show cenv.frame = some cenv.locals; rw [← hcenv]; rfl⟩, fun b hb => ⟨?_, fun y c e z => ?_⟩, I.bs, Nat.le_trans I.ok.bsz I.sz, fun b o e hb => ?_, fun b hb z => ?_, I.stack, I.stkFree⟩
    · have e1 : cenv.cells.lookup y = some c := e1
      have e2 : cenv.cells.lookup z = some c := e2
      rw [hcl] at e1 e2
      refine cells_inj (fun p hp => ?_) (fun y z c a b => I.ok.inj y z c (cm a).1 (cm b).1) (PySem.mem_of_lookup e1) (PySem.mem_of_lookup e2)
      rw [Heap.size_push]
      exact Nat.lt_succ_of_lt (cm (y := p.1) (c := p.2) hp).2
    · show ∃ c, cenv.cells.lookup y = some c
      have hy : cenv.scope.names.lookup y = some .cell ∨ cenv.scope.names.lookup y = some .free := hy
      rw [hsc] at hy
      rcases hy with e | e
      · obtain ⟨c, hm⟩ := cells_has (n := (s.heap.push { cls := .type "frame", data := .dict #[] }).objs.size) (acc := cloFrom X.env.cells scope.names []) (PySem.mem_of_lookup e)
        obtain ⟨c', e'⟩ := mem_lookup hm
        exact ⟨c', by rw [hcl]; exact e'⟩
      · obtain ⟨c, h1, _⟩ := look e
        exact ⟨c, h1⟩
    · have z : (scope.names.lookup y == some NameKind.cell) = true := z
      have z : scope.names.lookup y = some .cell := by simpa using z
      have e : cenv.cells.lookup y = some c := e
      rw [hcl] at e
      rcases cells_mem (PySem.mem_of_lookup e) with hm | ⟨_, h2, _⟩
      · rcases cloFrom_mem hm with hm | ⟨h1, _⟩
        · cases hm
        · have q := ok.uniq _ h1
          rw [z] at q; cases q
      · rw [Heap.size_push] at h2
        exact Nat.le_of_succ_le h2
    · show b ≠ cenv.locals
      rw [hL]; exact Nat.ne_of_lt (hfp b hb).2
    · have e : cenv.cells.lookup y = some c := e
      rcases mem e with ⟨h1, _⟩ | ⟨h1, _⟩
      · exact (hfp b hb).1.2.2.2.2.1 y c h1 z
      · have h2 : s.heap.objs.size + 1 ≤ b := by rw [← z]; exact h1
        exact absurd (Nat.lt_of_lt_of_le (hfp b hb).2 (Nat.le_of_succ_le h2)) (Nat.lt_irrefl _)
    · rcases (hfp b hb).1.2.2.2.1 with z | z
      · exact I.ok.noex b o e z
      · exact absurd (Nat.lt_of_lt_of_le (Heap.lt_size e) (Nat.le_trans I.ok.bsz z)) (Nat.lt_irrefl _)
    · rcases List.mem_cons.mp (I.stkSub b z) with z | z
      · exact (hfp b hb).1.2.1 z
      · exact (hfp b hb).1.2.2.1 z
  refine ⟨okB, rfl, hg, Un.kept kp, ⟨(fun y => if y = ".0" then some it else none), ?_, fun i y av e1 e2 e3 => ?_⟩, fun y c e => ?_, ?_, fun y c e => ?_, fun p hp => ?_, I.hok.kept kp, by rw [wipe_length]; exact I.len⟩
  · show Heap.Ns _ cenv.locals _
    rw [hL]
    exact hn.keeps h5k
  · obtain ⟨e2, hne⟩ := wipe_some e2
    have e3 : Vis cenv.scope y := e3
    rw [hsc] at e3
    have hfr : scope.names.lookup y = some .free := by
      have no : ∀ k, scope.names.lookup y = some k → ¬ (k = .local ∨ k = .cell) := fun k e hh => by
        rcases ok.own _ (PySem.mem_of_lookup e) hh with e' | e'
        · obtain ⟨p, hp, hpy⟩ := List.mem_map.mp e'
          have e3 := ok.ix p hp
          have : p.1 = y := hpy
          rw [this] at e3
          exact hne (List.mem_map.mpr ⟨p, hp, nodup_ix hN e3 e1⟩)
        · exact e' (List.mem_of_getElem? e1)
      rcases e3 with e3 | e3 | e3
      · exact absurd (.inl rfl) (no _ e3)
      · exact absurd (.inr rfl) (no _ e3)
      · exact e3
    obtain ⟨m, hnm, hl⟩ := I.loc
    have hvis : Vis X.env.scope y := (ok.free _ (PySem.mem_of_lookup hfr) rfl).elim (fun k => .inr (.inl k)) (fun k => .inr (.inr k))
    obtain ⟨w, r, q⟩ := hl i y av e1 e2 hvis
    refine ⟨w, r, .inr ⟨.inr (by show cenv.scope.names.lookup y = _; rw [hsc]; exact hfr), ?_⟩⟩
    obtain ⟨c, h1, h2⟩ := look hfr
    rcases q with ⟨k, _⟩ | ⟨_, c', e', z⟩
    · have k : X.env.scope.names.lookup y = some .local := k
      rcases ok.free _ (PySem.mem_of_lookup hfr) rfl with k' | k' <;> rw [show X.env.scope.names.lookup y = _ from k'] at k <;> cases k
    · rw [h2] at e'; cases e'
      exact ⟨c, h1, z.keeps kp⟩
  · have e : cenv.cells.lookup y = some c := e
    rcases mem e with ⟨h1, _⟩ | ⟨_, z⟩
    · obtain ⟨w, z⟩ := I.cell y c h1
      exact ⟨w, z.keeps kp⟩
    · exact ⟨_, z⟩
  · show H cenv.locals = none
    rw [hL]; exact I.hok.fresh (Nat.le_refl _)
  · have e : cenv.cells.lookup y = some c := e
    rcases mem e with ⟨h1, _⟩ | ⟨h1, _⟩
    · exact I.freeC y c h1
    · exact I.hok.fresh (Nat.le_of_succ_le h1)
  · exact absurd (show p ∈ ([] : List (Addr × Obj)) ++ [] from hp) (by simp)
theorem over_gen {A : Around} {elt : Expr} {gs : List Comprehension} {scope : Scope} {pos : Pos} {it acc : Value} {cenv : Env} : A.over (.compLoop (.GeneratorExp elt gs scope pos) 0 it acc cenv) [] = A.deeper cenv := by rfl
end
end Z


set_option Elab.async false
set_option linter.all false
set_option maxRecDepth 100000
/-! generator expressions: the turns -/
namespace Z
open PySem PySem.Spec PyProof.Rows L2

/-- what one item of the walked thing gives: nothing told, nothing handed out, or a datum -/
def gx (vs : List Nat) (b : Bnd) (mt : DenT) (me : Den) (δw : DE) (x : D) : Option (Option D) := match b x δw with
  | some δ3 => match mt δ3 with
    | some (false, δ4) => if wipeD δ4 vs = δw then some none else none
    | some (true, δ4) => match me δ4 with
      | some (.own d, δ5) => if wipeD δ5 vs = δw ∧ d.imm = true then some (some d) else none
      | _ => none
    | none => none
  | none => none
/-- what is handed out, up to the first that ends the walk -/
def dG (stop : D → Bool) (f : D → Option (Option D)) : List D → Option (List D)
  | [] => some []
  | x :: xs => match f x with
    | none => none
    | some none => dG stop f xs
    | some (some d) => if stop d then some [d] else match dG stop f xs with
      | some r => some (d :: r)
      | none => none
theorem Envs.cv {κ : Kx} {cv : Value} {H : Hp} : ∀ {σ : List (Option V)} {δ : DE} {o : List Addr}, Envs κ H σ δ o → CodeNow κ.K cv H → Envs ⟨κ.K, cv⟩ H σ δ o
  | [], [], _, h, c => ⟨h.1, h.2.1, c⟩
  | none :: σ, none :: δ, _, h, c => Envs.cv (σ := σ) (δ := δ) h c
  | some _ :: σ, none :: δ, _, h, c => Envs.cv (σ := σ) (δ := δ) h c
  | some v :: σ, some d :: δ, _, h, c => by
    obtain ⟨o1, o2, h1, h2, e⟩ := h
    exact ⟨o1, o2, h1, Envs.cv h2 c, e⟩
  | none :: σ, some d :: δ, _, h, _ => h.elim
  | [], _ :: _, _, h, _ => by simp [Envs] at h
  | _ :: _, [], _, h, _ => by simp [Envs] at h
theorem rest_wipe (δ : DE) : ∀ vs : List Nat, restD δ (wipeD δ vs) vs = δ
  | [] => rfl
  | v :: vs => by
    show restD δ (((wipeD δ vs).set v none).set v (match (wipeD δ vs)[v]? with | some x => x | none => none)) vs = δ
    rw [List.set_set]
    have : (wipeD δ vs).set v (match (wipeD δ vs)[v]? with | some x => x | none => none) = wipeD δ vs := by
      by_cases hl : v < (wipeD δ vs).length
      · rw [List.getElem?_eq_getElem hl]; exact List.set_getElem_self hl
      · exact List.set_eq_of_length_le (by omega)
    rw [this]
    exact rest_wipe δ vs
theorem pinsAt_eq {L : List Addr} {h h' : Heap} (k : ∀ b ∈ L, ∃ o, h.get? b = some o ∧ h'.get? b = some o) : pinsAt L h' = pinsAt L h := by
  unfold pinsAt
  induction L with
  | nil => rfl
  | cons b L ih =>
    obtain ⟨o, e1, e2⟩ := k b List.mem_cons_self
    rw [List.filterMap_cons, List.filterMap_cons, e1, e2, ih fun b hb => k b (List.mem_cons_of_mem _ hb)]
theorem _root_.L2.Inv.gens {X : Cx} {pins : List (Addr × Obj)} {σ : L2.St} {H : Hp} {s : Shared} (I : Inv X pins σ H s) {g : Array GenState} (h : AllBare g) : Inv X pins σ H { s with gens := g } :=
  ⟨I.ok, I.os, h, I.base, I.loc, I.cell, I.free, I.freeC, I.pin, I.hok, I.len⟩

/-- the consumer's lists hold these data -/
def Keeps (K : Fw) (S : List Addr) (gd : List D) (H : Hp) (s : Shared) : Prop := ∀ b ∈ S, ∃ acc c gv, s.heap.get? b = some (lstObj acc c) ∧ Vals gv acc.toList ∧ Reps K H gd gv [] ∧ H b = none
/-- a generator's turn i is due: its frame's context, the names and data that it has, what is pinned -/
structure GInv (Xg : Cx) (σw : L2.St) (δw : DE) (fp : List Addr) (tn : Nat → Heap → Prop) (H1 : Hp) (ow : List Addr) (L : List Addr) (S : List Addr) (gd : List D) (pins : List (Addr × Obj)) (i : Nat) (H : Hp) (s : Shared) : Prop where
  inv : Inv Xg pins σw H s
  trn : tn i s.heap
  nof : ∀ b ∈ fp, H b = none
  env : ∃ o', Envs (kx Xg) H σw δw o' ∧ Own H1 ow o'
  step : Step H1 H ow
  live : ∀ b ∈ L, ∃ o, s.heap.get? b = some o
  apart : ∀ p ∈ pins, p.1 ∉ fp
  held : Keeps Xg.F S gd H s
/-- at the end -/
structure GEnd (Xg : Cx) (σw : L2.St) (δw : DE) (H1 : Hp) (ow : List Addr) (S : List Addr) (gd : List D) (pins : List (Addr × Obj)) (H : Hp) (s : Shared) : Prop where
  inv : Inv Xg pins σw H s
  env : ∃ o', Envs (kx Xg) H σw δw o' ∧ Own H1 ow o'
  step : Step H1 H ow
  held : Keeps Xg.F S gd H s
theorem GInv.fin {Xg : Cx} {σw : L2.St} {δw : DE} {fp : List Addr} {tn : Nat → Heap → Prop} {H1 : Hp} {ow L S : List Addr} {gd : List D} {pins : List (Addr × Obj)} {i : Nat} {H : Hp} {s : Shared} (G : GInv Xg σw δw fp tn H1 ow L S gd pins i H s) : GEnd Xg σw δw H1 ow S gd pins H s := ⟨G.inv, G.env, G.step, G.held⟩
def GPr (Xg : Cx) (σw : L2.St) (δw : DE) (H1 : Hp) (ow : List Addr) (L S : List Addr) (cd : Nat → List D) (R0 : List D) : Nat → Shared → Shared → Prop := fun n s₀ s => n = 1 ∧ ∃ H, GEnd Xg σw δw H1 ow S (cd R0.length) (pinsAt L s₀.heap) H s
def GYd (Xg : Cx) (σw : L2.St) (δw : DE) (fp : List Addr) (tn : Nat → Heap → Prop) (H1 : Hp) (ow : List Addr) (L S : List Addr) (cd : Nat → List D) (stop : D → Bool) (R0 : List D) : Protocol := fun m s₀ v s kap =>
  1 ≤ m ∧ ∃ i d x H, R0[R0.length - m]? = some d ∧ GInv Xg σw δw fp tn H1 ow L S (cd (R0.length - m)) (pinsAt L s₀.heap) i H s ∧ RelV x v ∧ Rep Xg.F H d x [] ∧
    (stop d = false → ∀ s'' H'', GInv Xg σw δw fp tn H1 ow L S (cd (R0.length - m + 1)) (pinsAt L s''.heap) i H'' s'' → kap (.send .none) s'')
section
variable {Xg : Cx} {σ : L2.St} {δw : DE} {fp : List Addr} {tn : Nat → Heap → Prop} {H1 : Hp} {ow L Sc vs : List Addr} {cd : Nat → List D} {stop : D → Bool} {R0 : List D} {Ac : Around} {cenv : Env} {elt tg iter : Expr} {ifs : List Expr} {scope : Scope} {pos : Pos} {it : Addr} {J : It} {xs : List D} {b : Bnd} {mt : DenT} {me : Den} {qt qe : Bool}
theorem seg_gen (hA : Xg.A = Ac.deeper cenv) (hE : Xg.env = cenv) (hxe : Xg.xe = fun _ _ => False) (hx : Xg.ex = fp) (hpn : Xg.pn = []) (hcm : Xg.calm = true) (hco : cenv.scope.isCoroutine = false)
    (Tn : Turn Xg.prog Xg.w Xg.K tg J fp it tn) (pg : PG Xg tg (TGm (kx Xg) (kpOut vs) b)) (pt : PTs Xg ifs (TT (kx Xg) qt mt)) (pe : PE Xg elt (T (kx Xg) qe me)) (hNow : Nd ow)
    (S : ∀ i H, Step H1 H ow → (∃ o', Envs (kx Xg) H (L2.wipe σ vs) δw o' ∧ Own H1 ow o') → (∀ x, xs[i]? = some x → J.go i H ∧ ∀ v H'', J.yld i H v H'' → (∀ a u, H a = some u → H'' a = some u) ∧ Rep Xg.F H'' x v []) ∧ (xs.length ≤ i → J.stop i H)) :
    ∀ (k i : Nat) (s₀ s : Shared) (H : Hp) (r pre : List D), xs.length - i = k → i ≤ xs.length → dG stop (gx vs b mt me δw) (xs.drop i) = some r → R0 = pre ++ r → (∀ b ∈ L, ∃ o, s₀.heap.get? b = some o) → (∀ b ∈ Sc, b ∈ L) → GInv Xg (L2.wipe σ vs) δw fp tn H1 ow L Sc (cd pre.length) (pinsAt L s₀.heap) i H s →
      Seg (model Xg.prog Xg.w) Ac (fun n s₀ r s₁ => r = .ok .next ∧ GPr Xg (L2.wipe σ vs) δw H1 ow L Sc cd R0 n s₀ s₁) (GYd Xg (L2.wipe σ vs) δw fp tn H1 ow L Sc cd stop R0) (r.length + 1) s₀
        (.compLoop (.GeneratorExp elt [⟨tg, iter, ifs, 0⟩] scope pos) 0 (.ref it) .none cenv) ((model Xg.prog Xg.w).den (.compLoop (.GeneratorExp elt [⟨tg, iter, ifs, 0⟩] scope pos) 0 (.ref it) .none cenv)) [] s := by
  have stat : ∀ {pins : List (Addr × Obj)} {σ' : L2.St} {H' : Hp} {s' : Shared}, Inv Xg pins σ' H' s' → (∀ p ∈ pins, p.1 ∉ fp) → (∀ b ∈ fp, H' b = none) → ∀ b ∈ fp, FpOk Xg pins H' b := fun {pins σ' H' s'} I' hp hn b hb => by
    have hb' : b ∈ Xg.ex := by rw [hx]; exact hb
    refine ⟨hn b hb, (I'.ok.exf b hb').1, I'.ok.exfs b hb', .inl hb', fun x c e => (I'.ok.exf b hb').2 x c e, fun p hp' => ?_⟩
    rw [hpn, List.nil_append] at hp'
    exact fun z => hp p hp' (z ▸ hb)
  intro k
  induction k with
  | zero =>
    intro i s₀ s H r pre hk hi hr hR hL hLS G
    have hin : i = xs.length := by omega
    subst hin
    rw [List.drop_length] at hr
    cases (Option.some.inj hr : [] = r)
    show Seg _ Ac _ _ _ s₀ _ ((compTurn (.GeneratorExp elt [⟨tg, iter, ifs, 0⟩] scope pos) 0 (.ref it) .none cenv).onRaise (leaving cenv)) [] s
    rw [compTurn_gen, Sem.onRaise_eq_wrap]
    refine seg_bind_wrap (wpAny_standAt ?_)
    have td := Tn.done Xg rfl rfl rfl hcm xs.length (pinsAt L s₀.heap) s _ H (fun _ _ => False) G.inv (stat G.inv G.apart G.nof) G.trn ((S xs.length H G.step G.env).2 (Nat.le_refl _))
    rw [hA] at td
    refine seg_bind_wrap ?_
    rw [over_gen]
    refine thnF td fun r s6 ⟨hr, I6⟩ => ?_
    subst hr
    exact seg_end (.ok .next) ⟨rfl, rfl, H, I6, G.env, G.step, by
      rw [hR, List.append_nil]
      intro b hb
      obtain ⟨acc, c, gv, e, va, re, hn⟩ := G.held b hb
      exact ⟨acc, c, gv, (I6.pin (b, _) (List.mem_append_right _ (mem_pinsAt (hLS b hb) (by
        obtain ⟨o, eo⟩ := hL b (hLS b hb)
        have := (G.inv.pin (b, o) (List.mem_append_right _ (mem_pinsAt (hLS b hb) eo))).1
        rw [e] at this; rw [eo, this])))).1, va, re, hn⟩⟩
  | succ k ih =>
    intro i s₀ s H r pre hk hi hr hR hL hLS G
    have hlt : i < xs.length := by omega
    have hxi : xs[i]? = some xs[i] := List.getElem?_eq_getElem hlt
    rw [List.drop_eq_getElem_cons hlt] at hr
    simp only [dG] at hr
    obtain ⟨o2, E2, w2⟩ := G.env
    obtain ⟨go, yl⟩ := (S i H G.step ⟨o2, E2, w2⟩).1 _ hxi
    show Seg _ Ac _ _ _ s₀ _ ((compTurn (.GeneratorExp elt [⟨tg, iter, ifs, 0⟩] scope pos) 0 (.ref it) .none cenv).onRaise (leaving cenv)) [] s
    rw [compTurn_gen, Sem.onRaise_eq_wrap]
    refine seg_bind_wrap (wpAny_standAt ?_)
    have ti := Tn.item Xg rfl rfl rfl hcm i (pinsAt L s₀.heap) s _ H (fun _ _ => False) G.inv (stat G.inv G.apart G.nof) G.trn go
    rw [hA] at ti
    refine seg_bind_wrap ?_
    rw [over_gen]
    refine thnF ti fun r6 s6 ⟨u, hr6, h6⟩ => ?_
    subst hr6
    dsimp only
    refine seg_bind_wrap ?_
    rw [over_gen]
    refine thnF h6 fun _ s7 ⟨x, H7, I7, r7, y7, st7, n7⟩ => ?_
    obtain ⟨sm, rv⟩ := yl x H7 y7
    have I7' := I7.pinned (stat I7 G.apart n7) (Tn.obj _ _ st7)
    cases hg : gx vs b mt me δw xs[i] with
    | none => rw [hg] at hr; simp at hr
    | some go1 =>
    rw [hg] at hr
    simp only [gx] at hg
    cases hb : b xs[i] δw with
    | none => rw [hb] at hg; simp at hg
    | some δ3 =>
    rw [hb] at hg; dsimp only at hg
    cases hm : mt δ3 with
    | none => rw [hm] at hg; simp at hg
    | some p4 =>
    obtain ⟨bt, δ4⟩ := p4
    rw [hm] at hg
    have s3 : Step H1 H7 ow := G.step.same sm
    -- the target, the tests
    have tgt : TGm (kx Xg) (kpOut vs) b x (L2.wipe σ vs) H7 (fun σ3 H3 => H3 = H7 ∧ L2.wipe σ3 vs = L2.wipe σ vs ∧ σ3.length = (L2.wipe σ vs).length ∧ ∃ o3, Envs (kx Xg) H7 σ3 δ3 o3 ∧ Own H1 ow o3) := by
      refine ⟨δw, o2, xs[i], [], δ3, E2.same sm, rv, hb, fun σ3 o3 E3 c3 k3 => ⟨rfl, ?_, k3.2, o3, E3, w2.sub fun a => ?_⟩⟩
      · rw [← wipe_wipe σ vs]
        exact wipe_same k3.2 fun j hj => k3.1 j (by simpa [kpOut] using hj)
      · have := c3 a; simp only [List.count_nil] at this; omega
    have pgr := pg.run _ s7 _ H7 x u _ I7' r7 tgt
    rw [hA, hE, hxe] at pgr
    refine seg_bind_wrap ?_
    rw [over_gen]
    refine thnF pgr fun _ s8 ⟨σ8, H8, I8, e8, hw8, hl8, o3, E3, w3⟩ => ?_
    subst e8
    have no3 : Nd o3 := w3.nd hNow
    have tst : TT (kx Xg) qt mt σ8 H8 (fun b9 H9 => b9 = bt ∧ Step H8 H9 o3 ∧ ∃ o4, Envs (kx Xg) H9 σ8 δ4 o4 ∧ Own H8 o3 o4) := ⟨δ3, o3, bt, δ4, E3, no3, hm, fun H9 o4 P4 => ⟨rfl, P4.step.mono Wq_sub, o4, P4.env, P4.own⟩⟩
    have ptr := pt.run _ s8 σ8 H8 _ I8 tst
    rw [hA, hE, hxe] at ptr
    refine seg_bind_wrap ?_
    rw [over_gen]
    refine thnF ptr fun b9 s9 ⟨H9, I9, hb9, s9', o4, E4, w4⟩ => ?_
    subst hb9
    have s4 : Step H1 H9 ow := s3.trans w3 s9'
    have w4' : Own H1 ow o4 := w3.trans s3 w4
    have keep9 : ∀ gv, Reps Xg.F H (cd pre.length) gv [] → Reps Xg.F H9 (cd pre.length) gv [] := fun gv r => (r.same sm).step s9' E3.ok fun a ha => nomatch ha
    -- behind the turn
    have fin : ∀ {s' : Shared} {H' : Hp} {δ' : DE} {o' : List Addr}, Inv Xg (pinsAt L s₀.heap ++ pinsAt fp s7.heap) σ8 H' s' → Step H1 H' ow → Envs (kx Xg) H' σ8 δ' o' → Own H1 ow o' → wipeD δ' vs = δw → (∀ gv, Reps Xg.F H (cd pre.length) gv [] → Reps Xg.F H' (cd pre.length) gv []) → GInv Xg (L2.wipe σ vs) δw fp tn H1 ow L Sc (cd pre.length) (pinsAt L s₀.heap) (i + 1) H' s' := fun {s' H' δ' o'} I' st' E' w' hw hre => by
      have pin' : ∀ b ∈ fp, ∀ o, s7.heap.get? b = some o → s'.heap.get? b = some o ∧ H' b = none := fun b hb o e =>
        let z := I'.pin (b, o) (List.mem_append_right _ (List.mem_append_right _ (mem_pinsAt hb e)))
        ⟨z.1, z.2.1⟩
      obtain ⟨o6, E6, c6⟩ := E'.wipe vs
      rw [hw8, hw] at E6
      refine ⟨(I'.unpinned).weak hl8.symm fun j v e => ?_, Tn.keep _ _ _ st7 fun b hb o e => (pin' b hb o e).1, fun b hb => ?_, ⟨o6, E6, w'.sub c6⟩, st', fun b hb => ?_, G.apart, fun b hb => ?_⟩
      · rw [← hw8] at e
        exact (wipe_some e).1
      · obtain ⟨o, e, _⟩ := Tn.obj _ _ st7 b hb
        exact (pin' b hb o e).2
      · obtain ⟨o, e⟩ := hL b hb
        exact ⟨o, (I'.pin (b, o) (List.mem_append_right _ (List.mem_append_left _ (mem_pinsAt hb e)))).1⟩
      · obtain ⟨acc, c, gv, e, va, re, _⟩ := G.held b hb
        obtain ⟨o, eo⟩ := hL b (hLS b hb)
        have e2 := (G.inv.pin (b, o) (List.mem_append_right _ (mem_pinsAt (hLS b hb) eo))).1
        rw [e] at e2
        have e3 := (I'.pin (b, o) (List.mem_append_right _ (List.mem_append_left _ (mem_pinsAt (hLS b hb) eo)))).1
        exact ⟨acc, c, gv, by rw [e3, Option.some.inj e2], va, hre gv re, (I'.pin (b, o) (List.mem_append_right _ (List.mem_append_left _ (mem_pinsAt (hLS b hb) eo)))).2.1⟩
    cases b9 with
    | false =>
      by_cases hwd : wipeD δ4 vs = δw
      case neg => dsimp only at hg; rw [if_neg hwd] at hg; cases hg
      dsimp only at hg
      rw [if_pos hwd] at hg
      cases (Option.some.inj hg : none = go1)
      simp only [Bool.false_eq_true, if_false]
      exact seg_again rfl (ih (i + 1) s₀ _ H9 r pre (by omega) hlt hr hR hL hLS (fin I9 s4 E4 w4' hwd keep9))
    | true =>
      dsimp only at hg
      cases he : me δ4 with
      | none => rw [he] at hg; simp at hg
      | some p5 =>
      obtain ⟨re, δ5⟩ := p5
      rw [he] at hg
      cases re with
      | «at» _ _ => simp at hg
      | own d =>
      dsimp only at hg
      by_cases hwd : wipeD δ5 vs = δw ∧ d.imm = true
      case neg => rw [if_neg hwd] at hg; cases hg
      rw [if_pos hwd] at hg
      cases (Option.some.inj hg : some d = go1)
      dsimp only at hr
      have no4 : Nd o4 := w4'.nd hNow
      have elr : T (kx Xg) qe me σ8 H9 (fun y H5 => Step H9 H5 o4 ∧ Rep Xg.F H5 d y [] ∧ ∃ o5, Envs (kx Xg) H5 σ8 δ5 o5 ∧ Own H9 o4 o5) := ⟨δ4, o4, .own d, δ5, E4, no4, he, fun y H5 o5 oy P5 => by
        have hoy : oy = [] := Rep.imm P5.held hwd.2
        subst hoy
        exact ⟨P5.step.mono Wq_sub, P5.held, o5, P5.env, own_right P5.own⟩⟩
      have per := pe.run _ s9 σ8 H9 _ I9 elr
      rw [hA, hE, hxe] at per
      simp only [if_true]
      have hy : ∀ v, yieldOut cenv v = yieldValue v := fun v => by simp only [yieldOut, hco, Bool.false_eq_true, if_false]
      simp only [hy]
      rw [Sem.bind_eq_wrap', Sem.bind_eq_wrap', Sem.wrap_wrap, Sem.wrap_wrap]
      refine seg_wrap ?_
      rw [over_gen]
      refine thnF per fun y s10 ⟨yv, H10, I10, r10, s10', rep, o5, E5, w5⟩ => ?_
      have s5 : Step H1 H10 ow := s4.trans w4' s10'
      have w5' : Own H1 ow o5 := w4'.trans s4 w5
      have G10 := fin I10 s5 E5 w5' hwd.1 fun gv r => (keep9 gv r).step s10' E4.ok fun a ha => nomatch ha
      have hr' : ∃ r', r = d :: r' ∧ (stop d = false → dG stop (gx vs b mt me δw) (xs.drop (i + 1)) = some r') := by
        cases hst : stop d with
        | true =>
          rw [hst, if_pos rfl] at hr
          exact ⟨[], (Option.some.inj hr).symm, fun z => nomatch z⟩
        | false =>
          rw [hst, if_neg Bool.false_ne_true] at hr
          cases hq : dG stop (gx vs b mt me δw) (xs.drop (i + 1)) with
          | none => rw [hq] at hr; simp at hr
          | some r' =>
            rw [hq] at hr
            exact ⟨r', (Option.some.inj hr).symm, fun _ => rfl⟩
      obtain ⟨r', rfl, hr2⟩ := hr'
      rw [List.length_cons]
      have hj : R0.length - (r'.length + 1) = pre.length := by rw [hR, List.length_append, List.length_cons]; omega
      refine seg_at (seg_yield rfl rfl rfl ⟨Nat.le_add_left 1 _, i + 1, d, yv, H10, ?_, by rw [hj]; exact G10, r10, rep, fun hst s'' H'' G'' => ?_⟩)
      · rw [hj, hR, List.getElem?_append_right (Nat.le_refl _), Nat.sub_self]; rfl
      · rw [hj] at G''
        exact seg_again rfl (ih (i + 1) s'' s'' H'' r' (pre ++ [d]) (by omega) hlt (hr2 hst) (by rw [hR, List.append_assoc]; rfl) G''.live hLS (by rw [List.length_append]; exact G''))
end
end Z


set_option Elab.async false
set_option linter.all false
set_option maxRecDepth 100000
/-! generator expressions: begun, asked for the next item, made -/
namespace Z
open PySem PySem.Spec PyProof.Rows L2

section
variable {Xg : Cx} {σw : L2.St} {δw : DE} {fp : List Addr} {tn : Nat → Heap → Prop} {H1 : Hp} {ow L Sc vs : List Addr} {cd : Nat → List D} {gd : List D} {stop : D → Bool} {R0 : List D}
/-- the generator g, r still to come -/
def Gat (Xg : Cx) (σw : L2.St) (δw : DE) (fp : List Addr) (tn : Nat → Heap → Prop) (H1 : Hp) (ow L Sc : List Addr) (cd : Nat → List D) (stop : D → Bool) (R0 : List D) (Ac : Around) (g i : Nat) (r : List D) (s : Shared) : Prop :=
  g < s.gens.size ∧ ∃ gs, s.gens[g]? = some gs ∧ ∀ s'' H'', GInv Xg σw δw fp tn H1 ow L Sc (cd (R0.length - r.length)) (pinsAt L s''.heap) i H'' s'' →
    gs.Goes (model Xg.prog Xg.w) Ac (fun n s₀ r s₁ => r = .ok .next ∧ GPr Xg σw δw H1 ow L Sc cd R0 n s₀ s₁) (GYd Xg σw δw fp tn H1 ow L Sc cd stop R0) (r.length + 1) (.send .none) s''
theorem GInv.gens {pins : List (Addr × Obj)} {i : Nat} {H : Hp} {s : Shared} (G : GInv Xg σw δw fp tn H1 ow L Sc gd pins i H s) {g : Array GenState} (h : AllBare g) : GInv Xg σw δw fp tn H1 ow L Sc gd pins i H { s with gens := g } :=
  ⟨G.inv.gens h, G.trn, G.nof, G.env, G.step, G.live, G.apart, G.held⟩
theorem GInv.pin {i : Nat} {H : Hp} {s₀ s : Shared} (G : GInv Xg σw δw fp tn H1 ow L Sc gd (pinsAt L s₀.heap) i H s) (hL : ∀ b ∈ L, ∃ o, s₀.heap.get? b = some o) : pinsAt L s.heap = pinsAt L s₀.heap := pinsAt_eq fun b hb => by
  obtain ⟨o, e⟩ := hL b hb
  exact ⟨o, e, (G.inv.pin (b, o) (List.mem_append_right _ (mem_pinsAt hb e))).1⟩
theorem GInv.at {i : Nat} {H : Hp} {s₀ s : Shared} {b : Addr} {o : Obj} (G : GInv Xg σw δw fp tn H1 ow L Sc gd (pinsAt L s₀.heap) i H s) (hb : b ∈ L) (e : s₀.heap.get? b = some o) : s.heap.get? b = some o := (G.inv.pin (b, o) (List.mem_append_right _ (mem_pinsAt hb e))).1
theorem GEnd.at {H : Hp} {s₀ s : Shared} {b : Addr} {o : Obj} (G : GEnd Xg σw δw H1 ow Sc gd (pinsAt L s₀.heap) H s) (hb : b ∈ L) (e : s₀.heap.get? b = some o) : s.heap.get? b = some o := (G.inv.pin (b, o) (List.mem_append_right _ (mem_pinsAt hb e))).1
theorem gen_next {A : Around} {a : Addr} {g i : Nat} {H : Hp} {s : Shared} {r pre : List D} {E : Value → Shared → Prop} {Q : Option Value → Shared → Prop} (hh : A.handled = none) (hroom : A.depth < recursionLimit) (ha : a ∈ L) (isg : s.heap.IsGen a g)
    (G : GInv Xg σw δw fp tn H1 ow L Sc (cd pre.length) (pinsAt L s.heap) i H s) (Ka : Gat Xg σw δw fp tn H1 ow L Sc cd stop R0 A.in1 g i r s) (hR : R0 = pre ++ r) (hpre : ∀ d ∈ pre, stop d = false)
    (hnil : r = [] → ∀ s' H', GEnd Xg σw δw H1 ow Sc (cd pre.length) (pinsAt L s.heap) H' s' → Q none s')
    (hcons : ∀ d r', r = d :: r' → ∀ v x i' s' H', RelV x v → Rep Xg.F H' d x [] → GInv Xg σw δw fp tn H1 ow L Sc (cd pre.length) (pinsAt L s.heap) i' H' s' → s'.heap.IsGen a g → (stop d = false → Gat Xg σw δw fp tn H1 ow L Sc cd stop R0 A.in1 g i' r' s') → Q (some v) s') :
    wpAny (model Xg.prog Xg.w) A (pyNext (.ref a)) Q E s := by
  obtain ⟨hgl, gs, hgs, goes⟩ := Ka
  have hbr : AllBare (s.setGen g .running).gens := allBare_setGen G.inv.bare rfl
  have hj : R0.length - r.length = pre.length := by rw [hR, List.length_append]; omega
  rw [hj] at goes
  have G0 : GInv Xg σw δw fp tn H1 ow L Sc (cd pre.length) (pinsAt L s.heap) i H (s.setGen g .running) := G.gens hbr
  have hgo := goes (s.setGen g .running) H G0
  have live := G.live
  refine GenW.wpAny_gsz (n := g + 1) hgl (wpAny_pyNext_genexpQ hh G.inv.nolimit hroom isg hgs hgo (fun v s₁ gs' hb hY => ?_) fun s₁ hP h' hk => ?_)
  · intro hsz
    have hs1 : g < s₁.gens.size := by
      have q : (s₁.setGen g gs').gens.size = s₁.gens.size := GenW.setGen_size _ _ _
      have hsz' : g + 1 ≤ (s₁.setGen g gs').gens.size := hsz
      omega
    obtain ⟨h1, i', d, x, H', hd, G', rx, rep, kap⟩ := hY
    cases r with
    | nil => exact absurd h1 (by simp)
    | cons d0 r' =>
      have hd0 : d = d0 := by
        have hd : R0[R0.length - (d0 :: r').length]? = some d := hd
        rw [hR, List.length_append, List.length_cons, show pre.length + (r'.length + 1) - (r'.length + 1) = pre.length by omega, List.getElem?_append_right (Nat.le_refl _), Nat.sub_self] at hd
        simpa using hd.symm
      subst hd0
      have hj2 : R0.length - (d :: r').length = pre.length := by rw [hR, List.length_append, List.length_cons]; omega
      have hj3 : R0.length - (d :: r').length + 1 = R0.length - r'.length := by rw [hj2, hR, List.length_append, List.length_cons]; omega
      have G' : GInv Xg σw δw fp tn H1 ow L Sc (cd pre.length) (pinsAt L s.heap) i' H' s₁ := by rw [← hj2]; exact G'
      have G1 : GInv Xg σw δw fp tn H1 ow L Sc (cd pre.length) (pinsAt L s.heap) i' H' (s₁.setGen g gs') := G'.gens (allBare_setGen G'.inv.bare hb)
      have isg' : (s₁.setGen g gs').heap.IsGen a g := by
        obtain ⟨o, nm, qn, ho, q⟩ := isg
        exact ⟨o, nm, qn, G'.at ha ho, q⟩
      refine hcons d r' rfl v x i' _ H' rx rep G1 isg' fun hst => ⟨by rw [GenW.setGen_size]; exact hs1, gs', setGen_at hs1, fun s'' H'' G'' => kap hst s'' H'' (by rw [← hj3] at G''; exact G'')⟩
  · intro hsz
    obtain ⟨hn, H', Ge⟩ := hP
    have hnil' : r = [] := List.length_eq_zero_iff.mp (Nat.succ.inj hn)
    have hRl : R0.length = pre.length := by rw [hR, hnil', List.append_nil]
    have Ge : GEnd Xg σw δw H1 ow Sc (cd pre.length) (pinsAt L s.heap) H' s₁ := by rw [← hRl]; exact Ge
    refine hnil hnil' _ H' ⟨?_, Ge.env, Ge.step, fun b hb => by obtain ⟨acc, c, gv, e, q⟩ := Ge.held b hb; exact ⟨acc, c, gv, hk _ _ e, q⟩⟩
    exact (Ge.inv.gens (allBare_setGen Ge.inv.bare rfl)).kept (t' := s₁.toks) hk
end
section
variable {Xg : Cx} {σ : L2.St} {δw : DE} {fp : List Addr} {tn : Nat → Heap → Prop} {H1 : Hp} {ow L Sc vs : List Addr} {cd : Nat → List D} {stop : D → Bool} {R0 : List D} {Ac : Around} {cenv : Env} {elt tg iter : Expr} {ifs : List Expr} {scope : Scope} {pos : Pos} {it : Addr} {J : It} {xs : List D} {b : Bnd} {mt : DenT} {me : Den} {qt qe : Bool}
theorem seg_gen0 (hA : Xg.A = Ac.deeper cenv) (hE : Xg.env = cenv) (hxe : Xg.xe = fun _ _ => False) (hx : Xg.ex = fp) (hpn : Xg.pn = []) (hcm : Xg.calm = true) (hco : cenv.scope.isCoroutine = false)
    (Tn : Turn Xg.prog Xg.w Xg.K tg J fp it tn) (pg : PG Xg tg (TGm (kx Xg) (kpOut vs) b)) (pt : PTs Xg ifs (TT (kx Xg) qt mt)) (pe : PE Xg elt (T (kx Xg) qe me)) (hNow : Nd ow)
    (S : ∀ i H, Step H1 H ow → (∃ o', Envs (kx Xg) H (L2.wipe σ vs) δw o' ∧ Own H1 ow o') → (∀ x, xs[i]? = some x → J.go i H ∧ ∀ v H'', J.yld i H v H'' → (∀ a u, H a = some u → H'' a = some u) ∧ Rep Xg.F H'' x v []) ∧ (xs.length ≤ i → J.stop i H))
    (s : Shared) (H : Hp) (hr : dG stop (gx vs b mt me δw) xs = some R0) (hLS : ∀ b ∈ Sc, b ∈ L) (G : GInv Xg (L2.wipe σ vs) δw fp tn H1 ow L Sc (cd 0) (pinsAt L s.heap) 0 H s) :
    Seg (model Xg.prog Xg.w) Ac (fun n s₀ r s₁ => r = .ok .next ∧ GPr Xg (L2.wipe σ vs) δw H1 ow L Sc cd R0 n s₀ s₁) (GYd Xg (L2.wipe σ vs) δw fp tn H1 ow L Sc cd stop R0) (R0.length + 1) s
        (.compStart (.GeneratorExp elt [⟨tg, iter, ifs, 0⟩] scope pos) 0 (.ref it) .none cenv) ((model Xg.prog Xg.w).den (.compStart (.GeneratorExp elt [⟨tg, iter, ifs, 0⟩] scope pos) 0 (.ref it) .none cenv)) [] s := by
  have loop := seg_gen (iter := iter) (scope := scope) (pos := pos) (R0 := R0) hA hE hxe hx hpn hcm hco Tn pg pt pe hNow S xs.length 0 s s H R0 [] (Nat.sub_zero _) (Nat.zero_le _) (by rw [List.drop_zero]; exact hr) rfl G.live hLS G
  show Seg _ Ac _ _ _ s _ ((compStart (.GeneratorExp elt [⟨tg, iter, ifs, 0⟩] scope pos) 0 (.ref it) .none cenv).onRaise (leaving cenv)) [] s
  unfold compStart
  rw [Sem.onRaise_eq_wrap]
  show Seg _ Ac _ _ _ s _ ((ask >>= _).wrap _ _ _ _) [] s
  refine seg_bind_wrap (wpAny_askSetting ?_)
  split
  · exact seg_again rfl loop
  · first
      | exact seg_bind_wrap (wpAny_rule (seg_bind_wrap (wpAny_standAt (seg_bind_wrap (Tn.self _ 0 s _ _ G.trn (seg_again rfl loop))))))
      | (refine seg_bind_wrap (wpAny_rule ?_); show Seg _ Ac _ _ _ s _ ((standAt iter.pos >>= _).wrap _ _ _ _) [] s; exact seg_bind_wrap (wpAny_standAt (seg_bind_wrap (Tn.self _ 0 s _ _ G.trn (seg_again rfl loop)))))
end
end Z


set_option Elab.async false
set_option linter.all false
set_option maxRecDepth 100000
/-! generator expressions: what a consumer sees of one -/
namespace Z
open PySem PySem.Spec PyProof.Rows L2

/-- back in the def's context -/
structure Back (X : Cx) (pins : List (Addr × Obj)) (σ : L2.St) (δ : DE) (o : List Addr) (Hx : Hp) (H : Hp) (s : Shared) : Prop where
  inv : Inv X pins σ H s
  env : ∃ o', Envs (kx X) H σ δ o' ∧ Own Hx o o'
  step : Step Hx H o
/-- the consumer has changed its own objects S, or made new ones -/
structure Chg (S : List Addr) (s s' : Shared) : Prop where
  os : s'.os = s.os
  gens : s'.gens = s.gens
  keep : ∀ b o, b ∉ S → s.heap.get? b = some o → s'.heap.get? b = some o
  own : ∀ b ∈ S, ∃ o, s'.heap.get? b = some o ∧ ∀ v, o.data ≠ .cell v
theorem Chg.refl {S : List Addr} {s : Shared} (h : ∀ b ∈ S, ∃ o, s.heap.get? b = some o ∧ ∀ v, o.data ≠ .cell v) : Chg S s s := ⟨rfl, rfl, fun _ _ _ e => e, h⟩
/-- the consumer's objects stay -/
def Sk (S : List Addr) (s s' : Shared) : Prop := ∀ b ∈ S, ∀ o, s.heap.get? b = some o → s'.heap.get? b = some o
/-- the generator a, of which r is still to come; cd: what the consumer's lists hold when it asks for the j-th -/
def GSt (X : Cx) (pins : List (Addr × Obj)) (σ : L2.St) (δ : DE) (o : List Addr) (Hx : Hp) (A : Around) (a : Addr) (stop : D → Bool) (S : List Addr) (cd : Nat → List D) : Nat → List D → Hp → Shared → Prop
  | j, [], H, s => Back X pins σ δ o Hx H s ∧ s.TypeIs (.ref a) "generator" ∧ ∀ (s'' : Shared) (E : Value → Shared → Prop) (Q : Option Value → Shared → Prop), Chg S s s'' → Keeps X.F S (cd j) H s'' →
      (∀ s' H', Back X pins σ δ o Hx H' s' → Sk S s'' s' → Keeps X.F S (cd j) H' s' → Q none s') → wpAny (model X.prog X.w) A (pyNext (.ref a)) Q E s''
  | j, d :: r, H, s => Back X pins σ δ o Hx H s ∧ s.TypeIs (.ref a) "generator" ∧ ∀ (s'' : Shared) (E : Value → Shared → Prop) (Q : Option Value → Shared → Prop), Chg S s s'' → Keeps X.F S (cd j) H s'' →
      (∀ v x s' H', RelV x v → Rep X.F H' d x [] → Back X pins σ δ o Hx H' s' → Sk S s'' s' → Keeps X.F S (cd j) H' s' → (stop d = false → GSt X pins σ δ o Hx A a stop S cd (j + 1) r H' s') → Q (some v) s') → wpAny (model X.prog X.w) A (pyNext (.ref a)) Q E s''
theorem GSt.back {X : Cx} {pins : List (Addr × Obj)} {σ : L2.St} {δ : DE} {o : List Addr} {Hx : Hp} {A : Around} {a : Addr} {stop : D → Bool} {S : List Addr} {cd : Nat → List D} {j : Nat} {r : List D} {H : Hp} {s : Shared} (h : GSt X pins σ δ o Hx A a stop S cd j r H s) : Back X pins σ δ o Hx H s := by
  cases r with
  | nil => exact h.1
  | cons d r => exact h.1
theorem GSt.ty {X : Cx} {pins : List (Addr × Obj)} {σ : L2.St} {δ : DE} {o : List Addr} {Hx : Hp} {A : Around} {a : Addr} {stop : D → Bool} {S : List Addr} {cd : Nat → List D} {j : Nat} {r : List D} {H : Hp} {s : Shared} (h : GSt X pins σ δ o Hx A a stop S cd j r H s) : s.TypeIs (.ref a) "generator" := by
  cases r with
  | nil => exact h.2.1
  | cons d r => exact h.2.1
theorem Chg.trans {S : List Addr} {s s' s'' : Shared} (h : Chg S s s') (k : Chg S s' s'') : Chg S s s'' := ⟨k.os.trans h.os, k.gens.trans h.gens, fun b o hb e => k.keep b o hb (h.keep b o hb e), k.own⟩
/-- the consumer has done something meanwhile -/
theorem GSt.chg {X : Cx} {pins : List (Addr × Obj)} {σ : L2.St} {δ : DE} {o : List Addr} {Hx : Hp} {A : Around} {a : Addr} {stop : D → Bool} {S : List Addr} {cd : Nat → List D} {j : Nat} {r : List D} {H : Hp} {s s2 : Shared} (h : GSt X pins σ δ o Hx A a stop S cd j r H s) (c : Chg S s s2) (B : Back X pins σ δ o Hx H s2) (t : s2.TypeIs (.ref a) "generator") : GSt X pins σ δ o Hx A a stop S cd j r H s2 := by
  cases r with
  | nil => exact ⟨B, t, fun s'' E Q k => h.2.2 s'' E Q (c.trans k)⟩
  | cons d r => exact ⟨B, t, fun s'' E Q k => h.2.2 s'' E Q (c.trans k)⟩
section
variable {X : Cx} {pins : List (Addr × Obj)} {σ : L2.St} {δ1 : DE} {o1 ow od : List Addr} {Hx : Hp} {sB : Shared} {vs : List Nat} {scope : Scope} {cenv : Env} {fp : List Addr} {tn : Nat → Heap → Prop} {stop : D → Bool} {S : List Addr} {cd : Nat → List D} {gd : List D} {A Ag : Around} {a g : Addr}
theorem back_of (IB : Inv X pins σ Hx sB) (hfp : ∀ b ∈ fp, FpOk X pins Hx b) (En : Envs (kx X) Hx σ δ1 o1) (cw : ∀ a, ow.count a + od.count a ≤ o1.count a) (hod : ∀ a ∈ od, Hx a ≠ none) (hok : ∀ a ∈ ow, ∃ u, Hx a = some u ∧ ¬ Sh u)
    (kr : ∀ {H2 : Hp} {δ2 : DE} {o2 : List Addr}, Step Hx H2 ow → Envs (kx X) H2 (L2.wipe σ vs) δ2 o2 → ∃ o3, Envs (kx X) H2 σ (restD δ1 δ2 vs) o3 ∧ ∀ a, o3.count a ≤ o2.count a + od.count a) {pg : List (Addr × Obj)} {H : Hp} {s : Shared}
    (G : GEnd (X.gen Ag sB Hx scope cenv fp) (L2.wipe σ vs) (wipeD δ1 vs) Hx ow S gd pg H s) : Back X pins σ δ1 o1 Hx H s := by
  obtain ⟨I, ⟨o', E', w'⟩, st, _⟩ := G
  refine ⟨IB.call' (ch := fp) I.os I.base I.hok I.bare fun b hb => ⟨(hfp b hb).2.2.2.1, (hfp b hb).2.1, (hfp b hb).2.2.2.2.1, (hfp b hb).2.2.2.2.2⟩, ?_, st.mono fun a ha => ?_⟩
  · have E2 : Envs (kx X) H (L2.wipe σ vs) (wipeD δ1 vs) o' := Envs.cv (cv := X.env.code) E' (En.tabs.step st hok).2
    obtain ⟨o3, E3, c3⟩ := kr st E2
    rw [rest_wipe] at E3
    refine ⟨o3, E3, fun a => ?_⟩
    have h1 := c3 a
    have h2 := cw a
    rcases w' a with w | ⟨z, w⟩
    · left; omega
    · have : od.count a = 0 := List.count_eq_zero.mpr fun hm => hod a hm z
      right; exact ⟨z, by omega⟩
  · have h1 : 0 < ow.count a := List.count_pos_iff.mpr ha
    have h2 := cw a
    exact List.count_pos_iff.mp (show 0 < o1.count a by omega)
theorem gst_of (IB : Inv X pins σ Hx sB) (hfp : ∀ b ∈ fp, FpOk X pins Hx b) (En : Envs (kx X) Hx σ δ1 o1) (cw : ∀ a, ow.count a + od.count a ≤ o1.count a) (hod : ∀ a ∈ od, Hx a ≠ none) (hok : ∀ a ∈ ow, ∃ u, Hx a = some u ∧ ¬ Sh u)
    (kr : ∀ {H2 : Hp} {δ2 : DE} {o2 : List Addr}, Step Hx H2 ow → Envs (kx X) H2 (L2.wipe σ vs) δ2 o2 → ∃ o3, Envs (kx X) H2 σ (restD δ1 δ2 vs) o3 ∧ ∀ a, o3.count a ≤ o2.count a + od.count a)
    (hh : A.handled = none) (hroom : A.depth < recursionLimit) (haS : a ∉ S) (hSy : ∀ b ∈ S, sB.heap.objs.size ≤ b ∧ b ≠ cenv.locals ∧ (∀ x c, cenv.cells.lookup x = some c → c ≠ b) ∧ b ∉ fp) (hTn : ∀ i h h', tn i h → (∀ b ∈ fp, ∀ o, h.get? b = some o → h'.get? b = some o) → tn i h')
    {R0 : List D} : ∀ (r pre : List D) (i : Nat) (H : Hp) (s : Shared) (gd : List D), R0 = pre ++ r → (∀ d ∈ pre, stop d = false) → s.heap.IsGen a g →
    GInv (X.gen Ag sB Hx scope cenv fp) (L2.wipe σ vs) (wipeD δ1 vs) fp tn Hx ow (a :: S) S gd (pinsAt (a :: S) s.heap) i H s → Gat (X.gen Ag sB Hx scope cenv fp) (L2.wipe σ vs) (wipeD δ1 vs) fp tn Hx ow (a :: S) S cd stop R0 A.in1 g i r s →
    GSt X pins σ δ1 o1 Hx A a stop S cd pre.length r H s := by
  have chg : ∀ {i : Nat} {H : Hp} {s s'' : Shared} {r : List D} {gd gd' : List D}, Chg S s s'' → s.heap.IsGen a g → GInv (X.gen Ag sB Hx scope cenv fp) (L2.wipe σ vs) (wipeD δ1 vs) fp tn Hx ow (a :: S) S gd (pinsAt (a :: S) s.heap) i H s → Keeps X.F S gd' H s'' → Gat (X.gen Ag sB Hx scope cenv fp) (L2.wipe σ vs) (wipeD δ1 vs) fp tn Hx ow (a :: S) S cd stop R0 A.in1 g i r s →
      s''.heap.IsGen a g ∧ GInv (X.gen Ag sB Hx scope cenv fp) (L2.wipe σ vs) (wipeD δ1 vs) fp tn Hx ow (a :: S) S gd' (pinsAt (a :: S) s''.heap) i H s'' ∧ Gat (X.gen Ag sB Hx scope cenv fp) (L2.wipe σ vs) (wipeD δ1 vs) fp tn Hx ow (a :: S) S cd stop R0 A.in1 g i r s'' := fun {i H s s'' r gd gd'} c isg G hk Ga => by
    have isg' : s''.heap.IsGen a g := by
      obtain ⟨o, nm, qn, ho, q⟩ := isg
      exact ⟨o, nm, qn, c.keep a o haS ho, q⟩
    have nP : ∀ b ∈ S, ∃ o, s.heap.get? b = some o ∧ H b = none ∧ b ≠ cenv.locals ∧ b ∉ frs X.stack := fun b hb => by
      obtain ⟨o, e⟩ := G.live b (List.mem_cons_of_mem _ hb)
      obtain ⟨_, h2, h3, h4, _⟩ := G.inv.pin (b, o) (List.mem_append_right _ (mem_pinsAt (List.mem_cons_of_mem _ hb) e))
      exact ⟨o, e, h2, h3, h4⟩
    have I0 : Inv (X.gen Ag sB Hx scope cenv fp) [] (L2.wipe σ vs) H s := G.inv.pins_of fun p hp => nomatch hp
    have nt : ∀ b u, H b = some u → b ∉ S := fun b u e hb => by obtain ⟨_, _, z, _⟩ := nP b hb; rw [e] at z; cases z
    have I1 : Inv (X.gen Ag sB Hx scope cenv fp) [] (L2.wipe σ vs) H s'' := by
      obtain ⟨hp, gn, dr, tk, os⟩ := s''
      have e : os = s.os := c.os
      subst e
      refine I0.step (g' := gn) (t' := tk) (d' := dr) (ch := S) (fun b hb => ⟨.inr (hSy b hb).1, (hSy b hb).2.1, (hSy b hb).2.2.1, fun p hp => nomatch hp⟩)
        (fun b o _ _ hc e _ => c.keep b o hc e) (fun b o _ _ hc e _ => ⟨o.slots, c.keep b o hc e⟩) (fun _ _ _ _ n => n) (fun b o hc e => ⟨o, c.keep b o hc e⟩) (fun _ _ e => e) (fun _ _ _ e => e) (fun b ps e => ⟨#[], by rw [e]; simp⟩) (fun m hm => ?_) (fun b u e => ?_) (by rw [show gn = s.gens from c.gens]; exact G.inv.bare)
      · obtain ⟨ob, es, ep, ho, r⟩ := hm
        exact ⟨ob, es, ep, c.keep _ ob (fun hb => (hSy _ hb).2.1 rfl) ho, r⟩
      · refine (I0.hok b u e).stay (fun d v hd q => c.keep d v ?_ q) (fun _ q => q) fun _ _ q => q
        rcases hd with rfl | hd
        · exact nt _ u e
        · exact nt d _ hd
    refine ⟨isg', ⟨I1.pins_of fun p hp => ?_, hTn i _ _ G.trn fun b hb o e => c.keep b o (fun hm => (hSy b hm).2.2.2 hb) e, G.nof, G.env, G.step, fun b hb => ?_, fun p hp => ?_, hk⟩, by rw [c.gens]; exact Ga.1, by rw [c.gens]; exact Ga.2⟩
    · obtain ⟨hb, e⟩ := of_pinsAt hp
      rcases List.mem_cons.mp hb with hb | hb
      · obtain ⟨o, nm, qn, ho, q1, q2, q3⟩ := isg
        have ea := c.keep a o haS ho
        rw [hb, ea] at e
        have eo : o = p.2 := Option.some.inj e
        obtain ⟨_, h2, h3, h4, h5⟩ := G.inv.pin (a, o) (List.mem_append_right _ (mem_pinsAt List.mem_cons_self ho))
        rw [hb, ← eo]
        exact ⟨ea, h2, h3, h4, h5⟩
      · obtain ⟨o, _, h2, h3, h4⟩ := nP p.1 hb
        obtain ⟨o', e', hc⟩ := c.own p.1 hb
        rw [e'] at e
        have eo : o' = p.2 := Option.some.inj e
        exact ⟨by rw [e', eo], h2, h3, h4, by rw [← eo]; exact hc⟩
    · rcases List.mem_cons.mp hb with rfl | hb
      · obtain ⟨o, nm, qn, ho, _⟩ := isg'
        exact ⟨o, ho⟩
      · obtain ⟨o', e', _⟩ := c.own b hb
        exact ⟨o', e'⟩
    · obtain ⟨hb, e⟩ := of_pinsAt hp
      rcases List.mem_cons.mp hb with hb | hb
      · obtain ⟨o, nm, qn, ho, _⟩ := isg
        have := G.apart (a, o) (mem_pinsAt List.mem_cons_self ho)
        rw [hb]; exact this
      · exact (hSy p.1 hb).2.2.2
  intro r
  induction r with
  | nil =>
    intro pre i H s gd hR hpre isg G Ga
    refine ⟨back_of IB hfp En cw hod hok kr G.fin, isg.typeIs, fun s'' E Q c hk hQ => ?_⟩
    obtain ⟨isg2, G2, Ga2⟩ := chg c isg G hk Ga
    refine gen_next (Xg := X.gen Ag sB Hx scope cenv fp) hh hroom List.mem_cons_self isg2 G2 Ga2 hR hpre (fun _ s' H' Ge => ?_) fun d r' e => nomatch e
    exact hQ s' H' (back_of IB hfp En cw hod hok kr Ge) (fun b hb o e => Ge.at (List.mem_cons_of_mem _ hb) e) Ge.held
  | cons d r ih =>
    intro pre i H s gd hR hpre isg G Ga
    refine ⟨back_of IB hfp En cw hod hok kr G.fin, isg.typeIs, fun s'' E Q c hk hQ => ?_⟩
    obtain ⟨isg2, G2, Ga2⟩ := chg c isg G hk Ga
    refine gen_next (Xg := X.gen Ag sB Hx scope cenv fp) hh hroom List.mem_cons_self isg2 G2 Ga2 hR hpre (fun e => nomatch e) fun d' r' e v x i' s' H' rx rep G' isg' Gn => ?_
    cases e
    refine hQ v x s' H' rx rep (back_of IB hfp En cw hod hok kr G'.fin) (fun b hb o e => G'.at (List.mem_cons_of_mem _ hb) e) G'.held fun hst => ?_
    have hp : pinsAt (a :: S) s'.heap = pinsAt (a :: S) s''.heap := G'.pin G2.live
    have := ih (pre ++ [d]) i' H' s' _ (by rw [hR, List.append_assoc]; rfl) (fun z hz => (List.mem_append.mp hz).elim (hpre z) fun hz => by rw [List.mem_singleton.mp hz]; exact hst) isg' (by rw [hp]; exact G') (Gn hst)
    rw [List.length_append] at this
    exact this
end
end Z


set_option Elab.async false
set_option linter.all false
set_option maxRecDepth 100000
/-! generator expressions: made -/
namespace Z
open PySem PySem.Spec PyProof.Rows L2

theorem inv_same {X : Cx} {pins : List (Addr × Obj)} {σ : L2.St} {H : Hp} {s s' : Shared} (I : Inv X pins σ H s) (h : s'.heap = s.heap) (g : s'.gens = s.gens) (o : s'.os = s.os) : Inv X pins σ H s' := by
  obtain ⟨h', g', d', t', o'⟩ := s'
  obtain ⟨h0, g0, d0, t0, o0⟩ := s
  cases h; cases g; cases o
  exact ⟨I.ok, I.os, I.bare, I.base, I.loc, I.cell, I.free, I.freeC, I.pin, I.hok, I.len⟩
/-- the generator expression's scope -/
structure GSc (scope : Scope) : Prop where
  co : scope.isCoroutine = false
  dot : scope.names.lookup (".0" : Str) = some NameKind.local
/-- the generator that stands at a may be walked -/
def GMk (X : Cx) (pins : List (Addr × Obj)) (σ : L2.St) (δ1 : DE) (o1 : List Addr) (Hx : Hp) (k : Nat) (a : Addr) (stop : D → Bool) (R0 : List D) (s5 : Shared) : Prop :=
  s5.TypeIs (.ref a) "generator" ∧ a < s5.heap.objs.size ∧ Back X pins σ δ1 o1 Hx Hx s5 ∧ ∀ (A : Around) (S : List Addr) (cd : Nat → List D) (s6 : Shared), A.handled = none → A.depth < recursionLimit → (∀ e, Room k (A.in1.deeper e)) → A.frames = some X.stack → (∀ b ∈ S, s5.heap.objs.size ≤ b) → Chg S s5 s6 → Keeps X.F S (cd 0) Hx s6 → GSt X pins σ δ1 o1 Hx A a stop S cd 0 R0 Hx s6
section
variable {X : Cx} {pins : List (Addr × Obj)} {σ : L2.St} {H : Hp} {s : Shared} {elt tg iter : Expr} {ifs : List Expr} {scope : Scope} {own : List (Str × Nat)} {pos : Pos} {ms : DenS} {b : Bnd} {mt : DenT} {me : Den} {q qt qe : Bool} {k : Nat} {stop : D → Bool}
theorem gen_make {δ : DE} {o : List Addr} {src : Src} {δ1 : DE} {R0 : List D} {Q : Value → Shared → Prop} {cc : Addr} (hr : Room (k + 1) X.A) (hcode : X.env.code = .ref cc) (hc : X.calm = true) (hN : X.N.Nodup) (hBM : BMod X.base X.mg) (gs : GSc scope)
    (hi : PI X tg iter (TIm (kx X) q ms)) (ok : BlkOk X.N X.env.scope scope own)
    (hg : ∀ (Ag : Around) (s : Shared) (H : Hp) (C c' : Addr) (cl : List (Str × Addr)) (fp : List Addr), Room k Ag → PG (X.gen Ag s H scope (genEnv scope cl C (.ref c') builtinsNs X.env) fp) tg (TGm ⟨X.F, .ref c'⟩ (kpOut (own.map (·.2))) b))
    (ht : ∀ (Ag : Around) (s : Shared) (H : Hp) (C c' : Addr) (cl : List (Str × Addr)) (fp : List Addr), Room k Ag → PTs (X.gen Ag s H scope (genEnv scope cl C (.ref c') builtinsNs X.env) fp) ifs (TT ⟨X.F, .ref c'⟩ qt mt))
    (he : ∀ (Ag : Around) (s : Shared) (H : Hp) (C c' : Addr) (cl : List (Str × Addr)) (fp : List Addr), Room k Ag → PE (X.gen Ag s H scope (genEnv scope cl C (.ref c') builtinsNs X.env) fp) elt (T ⟨X.F, .ref c'⟩ qe me))
    (hs : ∀ v, genFold iter X.env v = pure v) (I : Inv X pins σ H s) (E : Envs (kx X) H σ δ o) (n : Nd o) (hm : ms δ = some (src, δ1)) (hgo : gOk src.gs δ1 = true) (hd : dG stop (gx (own.map (·.2)) b mt me (wipeD δ1 (own.map (·.2)))) src.xs = some R0)
    (hQ : ∀ a s5 Hx o1, Step H Hx (Wq q o) → Envs (kx X) Hx σ δ1 o1 → Own H o o1 → R0.length ≤ sizeLine → GMk X pins σ δ1 o1 Hx k a stop R0 s5 → Q (.ref a) s5) :
    wpAny (model X.prog X.w) X.A (eval (.GeneratorExp elt [⟨tg, iter, ifs, 0⟩] scope pos) X.env) Q X.xe s := by
  have hfree : ∀ y ∈ scope.names, y.2 = .free → ∃ c, X.env.cells.lookup y.1 = some c := fun y hy e => by
    rcases ok.free y hy e with k | k
    · exact I.ok.has _ (.inl k)
    · exact I.ok.has _ (.inr k)
  rw [eval_GeneratorExp1 _ _ _ _ _ _ _ gs.co, closure_ok hfree]
  have hrd : TIm (kx X) q ms σ H (fun J H1 => ∃ o1 ov, Step H H1 (Wq q o) ∧ Envs (kx X) H1 σ δ1 o1 ∧ Own H o (ov ++ o1) ∧ (∀ a ∈ ov, ∃ u, H1 a = some u ∧ Ow u) ∧ SrcOk X.F σ src J H1 ov ∧ src.xs.length ≤ sizeLine) :=
    ⟨δ, o, src, δ1, E, n, hm, fun J H1 o1 ov s1 E1 w1 hov S hl => ⟨o1, ov, s1, E1, w1, hov, S, hl⟩⟩
  refine wpAny_bind (thn (hi.run pins s σ H _ I hrd) fun xv s1 h1 => ?_)
  refine wpAny_bind (wpAny_standAt ?_)
  refine wpAny_bind (wpAny_of_eq (hs xv) ?_)
  refine wpAny_bind (wpAny_holding (thn h1 fun itv s2 h2 => ?_))
  obtain ⟨it, fp, tn, J, H2, rfl, I2, Tn, st2, f2, o1, ov, s12, E2, w2, hov, S, hlen⟩ := h2
  refine wpAny_bind (wpAny_enterFrame I2.nolimit (by have := hr.dp; omega) ?_)
  refine wpAny_bind (wpAny_pure ?_)
  refine wpAny_bind (gen_code hcode I2 E2 fun c' P' H3 s3 I3 st3 fr3 nf3 hc' gP' hsz3 hk3 => ?_)
  obtain ⟨bm, ob, b1, b2, b3, b4, b5, b6⟩ := hBM
  refine wpAny_bind (wpAny_builtinsFor (m := X.mg) (by rw [I3.ok.glob]; exact I3.mod.glob.keeps I3.bk) b1 b2 (I3.bk _ _ b3) b4 b5 b6 ?_)
  refine wpAny_bind (newEnv_gen ok.kind gs.dot fun h' tk hn hs' => ?_)
  simp only [newGenerator, newFields]
  refine wpAny_bind (wpAny_newGen (wpAny_bind (wpAny_mkText (wpAny_bind (wpAny_mkText (wpAny_newObj_type ?_ (by size_fits)))))))
  suffices main : ∀ (gobj : Obj) (nm qn : Value) (tk3 : Nat), gobj.cls = .type "generator" → gobj.data = .fields #[.int s3.gens.size 0, nm, qn] → gobj.slots = #[] → (∀ h : Heap, (h.push gobj).get? h.objs.size = some gobj) →
      Q (.ref h'.objs.size) { s3 with heap := h'.push gobj, gens := s3.gens.push (.fresh (.compStart (.GeneratorExp elt [⟨tg, iter, ifs, 0⟩] scope pos) 0 (.ref it) .none (genEnv scope (cellsFrom (s3.heap.objs.size + 1) scope.names (cloFrom X.env.cells scope.names [])) s3.heap.objs.size (.ref c') builtinsNs X.env))), toks := tk3 } from
    main _ _ _ _ rfl rfl rfl fun h => Heap.get?_push_size _ rfl
  intro gobj nm qn tk3 gcl gd gsl gpush
  have no1 : Nd o1 := (own_right w2).nd n
  have E3 : Envs (kx X) H3 σ δ1 o1 := E2.fr fr3
  obtain ⟨ow, od, Ew, cw, hod, kr⟩ := Envs.rest (own.map (·.2)) E3 no1
  have nw : Nd ow := fun a => by have := cw a; have := no1 a; omega
  have sz4 : h'.objs.size = (pushCells (s3.heap.push { cls := .type "frame", data := .dict #[] }) scope.names).objs.size := hs'.1
  have sz4' : s3.heap.objs.size + 1 ≤ h'.objs.size := by
    rw [sz4]
    have := pushCells_size scope.names (s3.heap.push { cls := .type "frame", data := .dict #[] })
    rw [Heap.size_push] at this; exact this
  have k34 : ∀ b o, s3.heap.get? b = some o → h'.get? b = some o := fun b o e => hs'.extBut b o (Nat.ne_of_lt (Heap.lt_size e)) (pushCells_keeps _ _ _ _ (Heap.get?_push_of_some _ e))
  have fp3 : ∀ b ∈ fp, FpOk X pins H3 b ∧ b < s3.heap.objs.size := fun b hb => by
    obtain ⟨ob, e, _⟩ := Tn.obj _ _ st2 b hb
    have hlt := Heap.lt_size e
    exact ⟨⟨nf3 b (f2 b hb).1 hlt, (f2 b hb).2⟩, Nat.lt_of_lt_of_le hlt hsz3⟩
  have st3' : tn 0 s3.heap := Tn.keep _ _ _ st2 fun b hb o e => hk3 b o (f2 b hb).1 e
  generalize hcenv : genEnv scope (cellsFrom (s3.heap.objs.size + 1) scope.names (cloFrom X.env.cells scope.names [])) s3.heap.objs.size (.ref c') builtinsNs X.env = cenv
  have hloc : cenv.locals = s3.heap.objs.size := by rw [← hcenv]; rfl
  have hcd : cenv.code = .ref c' := by rw [← hcenv]; rfl
  have hscp : cenv.scope = scope := by rw [← hcenv]; rfl
  have gobAt : (h'.push gobj).get? h'.objs.size = some gobj := gpush h'
  have hisG : ∀ h : Heap, h.get? h'.objs.size = some gobj → h.IsGen h'.objs.size s3.gens.size := fun h e => ⟨gobj, nm, qn, e, gcl, gd, gsl⟩
  -- the generator's frame, whatever is made behind
  have start : ∀ (A : Around) (s6 : Shared), A.handled = none → A.frames = some X.stack → (∀ b o, (h'.push gobj).get? b = some o → s6.heap.get? b = some o) → s6.os = s3.os → AllBare s6.gens → Inv (X.gen (A.in1.deeper cenv) s3 H3 scope cenv fp) [] (L2.wipe σ (own.map (·.2))) H3 s6 := fun A s6 hA hfr hk6 ho hb6 => by
    subst hcenv
    refine inv_same (gen_start (A := A.in1.deeper _) (h' := h') (h5 := s6.heap) (g5 := s6.gens) (t5 := s6.toks) I3 ok hN fp3 ?_ hA hn hs' (fun b o e => hk6 b o (Heap.get?_push_of_some _ e)) hb6) rfl rfl ho
    exact Around.frames_deeper (show A.in1.frames = some X.stack from hfr)
  have nostk : ∀ b, s3.heap.objs.size ≤ b → b ∉ frs X.stack := fun b hb hm => by
    rcases List.mem_cons.mp (I3.stkSub b hm) with z | z
    · have := I3.lt; rw [← z] at this; exact absurd (Nat.lt_of_lt_of_le this hb) (Nat.lt_irrefl _)
    · exact I3.nofs hb z
  have sz5 : (h'.push gobj).objs.size = h'.objs.size + 1 := Heap.size_push ..
  have IB5 : ∀ (s6 : Shared), (∀ b o, (h'.push gobj).get? b = some o → s6.heap.get? b = some o) → s6.os = s3.os → AllBare s6.gens → Inv X pins σ H3 s6 := fun s6 hk6 ho hb6 => I3.call' (ch := []) ho (Un.kept fun b o e => hk6 b o (Heap.get?_push_of_some _ (k34 b o e))) (I3.hok.kept fun b o e => hk6 b o (Heap.get?_push_of_some _ (k34 b o e))) hb6 fun b z => by simp at z
  have bare5 : AllBare (s3.gens.push (.fresh (.compStart (.GeneratorExp elt [⟨tg, iter, ifs, 0⟩] scope pos) 0 (.ref it) .none cenv))) := I3.bare.push rfl
  have hR0 : R0.length ≤ sizeLine := Nat.le_trans (by
    have : ∀ (xs : List D) (r : List D), dG stop (gx (own.map (·.2)) b mt me (wipeD δ1 (own.map (·.2)))) xs = some r → r.length ≤ xs.length := by
      intro xs
      induction xs with
      | nil => intro r h; cases (Option.some.inj h : [] = r); exact Nat.le_refl _
      | cons x xs ih =>
        intro r h
        simp only [dG] at h
        split at h
        · cases h
        · exact Nat.le_succ_of_le (ih r h)
        · split at h
          · cases (Option.some.inj h); simp
          · split at h
            · rename_i r' e
              cases (Option.some.inj h)
              exact Nat.succ_le_succ (ih r' e)
            · cases h
    exact this _ _ hd) hlen
  have w3 : Own H o o1 := own_right w2
  have sH3 : Step H H3 (Wq q o) := ⟨fun a u e hn hu => st3.keep a u (s12.keep a u e hn hu) (by simp) hu, fun a e => s12.dom a (st3.dom a e), fun P g => st3.tab P (s12.tab P g)⟩
  refine hQ h'.objs.size _ H3 o1 sH3 E3 w3 hR0 ⟨Heap.IsGen.typeIs (s := { s3 with heap := h'.push gobj, gens := _, toks := tk3 }) (hisG _ gobAt), by show _ < (h'.push gobj).objs.size; rw [sz5]; exact Nat.lt_succ_self _, ⟨IB5 _ (fun _ _ e => e) rfl bare5, ⟨o1, E3, .refl _ _⟩, .refl _ _⟩, fun A Sx cd s6 hA hdp hrm hfr hS hC hKp => ?_⟩
  have hk6 : ∀ b o, (h'.push gobj).get? b = some o → s6.heap.get? b = some o := fun b o e => hC.keep b o (fun hm => by
    have h1 := hS b hm
    have h2 : b < (h'.push gobj).objs.size := Heap.lt_size e
    exact absurd (Nat.lt_of_lt_of_le h2 h1) (Nat.lt_irrefl _)) e
  have gn6 : s6.gens = s3.gens.push (.fresh (.compStart (.GeneratorExp elt [⟨tg, iter, ifs, 0⟩] scope pos) 0 (.ref it) .none cenv)) := hC.gens
  have Ig := start A s6 hA hfr hk6 hC.os (by rw [gn6]; exact bare5)
  have hS5 : ∀ b ∈ Sx, h'.objs.size + 1 ≤ b := fun b hb => by rw [← sz5]; exact hS b hb
  have ndS : h'.objs.size ∉ Sx := fun hm => absurd (hS5 _ hm) (Nat.not_succ_le_self _)
  have cells : ∀ x c, cenv.cells.lookup x = some c → c < (h'.push gobj).objs.size := fun x c e => by
    have I5 := start A { s3 with heap := h'.push gobj, gens := s3.gens.push (.fresh (.compStart (.GeneratorExp elt [⟨tg, iter, ifs, 0⟩] scope pos) 0 (.ref it) .none cenv)) } hA hfr (fun _ _ e => e) rfl bare5
    obtain ⟨v, z⟩ := I5.cell x c e
    exact z.lt
  have En' : Envs ⟨X.F, .ref c'⟩ H3 (L2.wipe σ (own.map (·.2))) (wipeD δ1 (own.map (·.2))) ow := Envs.cv (κ := kx X) Ew fun c e => by cases e; exact ⟨P', .inr hc', gP'⟩
  have En2 : Envs (kx (X.gen (A.in1.deeper cenv) s3 H3 scope cenv fp)) H3 (L2.wipe σ (own.map (·.2))) (wipeD δ1 (own.map (·.2))) ow := by
    show Envs ⟨X.F, cenv.code⟩ _ _ _ _
    rw [hcd]; exact En'
  have G : GInv (X.gen (A.in1.deeper cenv) s3 H3 scope cenv fp) (L2.wipe σ (own.map (·.2))) (wipeD δ1 (own.map (·.2))) fp tn H3 ow (h'.objs.size :: Sx) Sx (cd 0) (pinsAt (h'.objs.size :: Sx) s6.heap) 0 H3 s6 := by
    refine ⟨Ig.pins_of fun p hp => ?_, Tn.keep _ _ _ st3' fun b hb o e => hk6 b o (Heap.get?_push_of_some _ (k34 b o e)), fun b hb => (fp3 b hb).1.1, ⟨ow, En2, .refl _ _⟩, .refl _ _, fun b hb => ?_, fun p hp hf => ?_, hKp⟩
    · obtain ⟨hb, e⟩ := of_pinsAt hp
      have hge : s3.heap.objs.size + 1 ≤ p.1 := by
        rcases List.mem_cons.mp hb with z | z
        · rw [z]; exact sz4'
        · exact Nat.le_trans (Nat.le_succ_of_le sz4') (hS5 _ z)
      refine ⟨e, I3.hok.fresh (Nat.le_of_succ_le hge), ?_, nostk _ (Nat.le_of_succ_le hge), fun v hv => ?_⟩
      · show p.1 ≠ cenv.locals
        rw [hloc]; exact Nat.ne_of_gt hge
      · rcases List.mem_cons.mp hb with z | z
        · rw [z, hk6 _ _ gobAt] at e
          rw [← Option.some.inj e, gd] at hv; cases hv
        · obtain ⟨o', e', hn'⟩ := hC.own _ z
          rw [e'] at e
          rw [← Option.some.inj e] at hv
          exact hn' v hv
    · rcases List.mem_cons.mp hb with rfl | hb
      · exact ⟨_, hk6 _ _ gobAt⟩
      · obtain ⟨o', e', _⟩ := hC.own b hb
        exact ⟨o', e'⟩
    · obtain ⟨hb, e⟩ := of_pinsAt hp
      have hlt := (fp3 _ hf).2
      rcases List.mem_cons.mp hb with z | z
      · rw [z] at hlt; exact absurd (Nat.lt_of_lt_of_le hlt (Nat.le_of_succ_le sz4')) (Nat.lt_irrefl _)
      · exact absurd (Nat.lt_of_lt_of_le hlt (Nat.le_trans (Nat.le_of_succ_le sz4') (Nat.le_of_succ_le (hS5 _ z)))) (Nat.lt_irrefl _)
  have Srun : ∀ i H, Step H3 H ow → (∃ o', Envs (kx (X.gen (A.in1.deeper cenv) s3 H3 scope cenv fp)) H (L2.wipe σ (own.map (·.2))) (wipeD δ1 (own.map (·.2))) o' ∧ Own H3 ow o') → (∀ x, src.xs[i]? = some x → J.go i H ∧ ∀ v H'', J.yld i H v H'' → (∀ a u, H a = some u → H'' a = some u) ∧ Rep X.F H'' x v []) ∧ (src.xs.length ≤ i → J.stop i H) := fun i H st ⟨o', E', w'⟩ => by
    have E4 : Envs (kx X) H (L2.wipe σ (own.map (·.2))) (wipeD δ1 (own.map (·.2))) o' := Envs.cv (cv := X.env.code) E' (E3.tabs.step st Ew.ok).2
    obtain ⟨o3, E5, _⟩ := kr st E4
    rw [rest_wipe] at E5
    refine S i H (fun a ha => ?_) (fun a u e hu => ?_) fun p hp => gOk_rep E5 hgo p hp
    · obtain ⟨us, e, how⟩ := hov a ha
      rw [e]
      refine st.keep a _ (st3.keep a _ e (by simp) how.2) (fun hz => nd_split (w2.nd n) a ha ?_) how.2
      have h5 : 0 < ow.count a := List.count_pos_iff.mpr hz
      have h6 := cw a
      exact List.count_pos_iff.mp (show 0 < o1.count a by omega)
    · refine st.keep a u (st3.keep a u e (by simp) hu.nt) (fun hz => ?_) hu.nt
      obtain ⟨us, e2, how⟩ := Ew.own a hz
      rw [st3.keep a u e (by simp) hu.nt] at e2; cases e2; exact how.1 hu
  have Ga : Gat (X.gen (A.in1.deeper cenv) s3 H3 scope cenv fp) (L2.wipe σ (own.map (·.2))) (wipeD δ1 (own.map (·.2))) fp tn H3 ow (h'.objs.size :: Sx) Sx cd stop R0 A.in1 s3.gens.size 0 R0 s6 := by
    refine ⟨by rw [gn6, Array.size_push]; exact Nat.lt_succ_self _, _, by rw [gn6]; exact Array.getElem?_push_size .., fun s'' H'' G'' => ?_⟩
    have seg := seg_gen0 (Xg := X.gen (A.in1.deeper cenv) s3 H3 scope cenv fp) (Ac := A.in1) (cenv := cenv) (iter := iter) (scope := scope) (pos := pos) (qt := qt) (qe := qe) (R0 := R0) rfl rfl rfl rfl rfl hc (by rw [hscp]; exact gs.co) Tn
      (by have := hg (A.in1.deeper cenv) s3 H3 s3.heap.objs.size c' (cellsFrom (s3.heap.objs.size + 1) scope.names (cloFrom X.env.cells scope.names [])) fp (hrm cenv)
          rw [hcenv] at this
          show PG _ tg (TGm ⟨X.F, cenv.code⟩ _ b)
          rw [hcd]; exact this)
      (by have := ht (A.in1.deeper cenv) s3 H3 s3.heap.objs.size c' (cellsFrom (s3.heap.objs.size + 1) scope.names (cloFrom X.env.cells scope.names [])) fp (hrm cenv)
          rw [hcenv] at this
          show PTs _ ifs (TT ⟨X.F, cenv.code⟩ qt mt)
          rw [hcd]; exact this)
      (by have := he (A.in1.deeper cenv) s3 H3 s3.heap.objs.size c' (cellsFrom (s3.heap.objs.size + 1) scope.names (cloFrom X.env.cells scope.names [])) fp (hrm cenv)
          rw [hcenv] at this
          show PE _ elt (T ⟨X.F, cenv.code⟩ qe me)
          rw [hcd]; exact this) nw Srun s'' H'' hd (fun b hb => List.mem_cons_of_mem _ hb) (by rw [Nat.sub_self] at G''; exact G'')
    exact ⟨rfl, seg⟩
  refine gst_of (Ag := A.in1.deeper cenv) (scope := scope) (cenv := cenv) (tn := tn) (g := s3.gens.size) (R0 := R0) I3 (fun b hb => (fp3 b hb).1) E3 cw hod Ew.ok kr hA hdp ndS (fun b hb => ?_) (fun i h h2 t => Tn.keep i h h2 t) R0 [] 0 H3 s6 _ rfl (fun d hd => nomatch hd) (hisG _ (hk6 _ _ gobAt)) G Ga
  have h5 := hS5 b hb
  have h6 : s3.heap.objs.size < b := Nat.lt_of_lt_of_le (Nat.lt_of_succ_le sz4') (Nat.le_of_succ_le h5)
  refine ⟨Nat.le_of_lt h6, by rw [hloc]; exact Nat.ne_of_gt h6, fun x c e z => ?_, fun hf => ?_⟩
  · have := cells x c e
    rw [sz5, z] at this; exact absurd (Nat.lt_of_lt_of_le this h5) (Nat.lt_irrefl _)
  · exact absurd (Nat.lt_trans (fp3 b hf).2 h6) (Nat.lt_irrefl _)
end
end Z


set_option Elab.async false
set_option linter.all false
set_option maxRecDepth 100000
/-! all, any of a generator expression -/
namespace Z
open PySem PySem.Spec PyProof.Rows L2

/-- a plain value's truth -/
def truthS : D → Option Bool
  | .non => some false
  | .bl b => some b
  | .int i => some (i != 0)
  | .str x => some ((x.length : Int) != 0)
  | _ => none
def anyT : List D → Option Bool
  | [] => some false
  | d :: r => match truthS d with
    | some false => anyT r
    | x => x
def stopAny (d : D) : Bool := match truthS d with | some false => false | _ => true
/-- a generator expression that is walked to its end, or to the first that stops -/
def dGe (vs : List Nat) (ms : DenS) (b : Bnd) (mt : DenT) (me : Den) (stop : D → Bool) : DE → Option (List D × DE) := fun δ => match ms δ with
  | some (src, δ1) => if gOk src.gs δ1 then match dG stop (gx vs b mt me (wipeD δ1 vs)) src.xs with
    | some r => some (r, δ1)
    | none => none
    else none
  | none => none
def dFold (f : List D → Option D) (m : DE → Option (List D × DE)) : Den := fun δ => match m δ with
  | some (r, δ1) => match f r with
    | some d => some (.own d, δ1)
    | none => none
  | none => none
def fAny (r : List D) : Option D := (anyT r).map .bl
theorem truth_s {M : Program} {w : World} {A : Around} {K : Fw} {H : Hp} {d : D} {x : V} {v : Value} {o : List Addr} {b : Bool} {s : Shared} {E : Value → Shared → Prop} {Q : Bool → Shared → Prop} (h : truthS d = some b) (r : Rep K H d x o) (rx : RelV x v) (hQ : ∀ tk, Q b { s with toks := tk }) : wpAny (model M w) A (truthy v) Q E s := by
  cases d <;> simp only [truthS, reduceCtorEq, Option.some.injEq] at h
  · obtain ⟨rfl, _⟩ := r
    obtain rfl : v = Value.none := rx
    subst h
    exact truthy_none (hQ s.toks)
  · obtain ⟨rfl, _⟩ := r
    obtain rfl : v = Value.bool _ := rx
    subst h
    exact wpAny_truthy_bool (hQ s.toks)
  · obtain ⟨rfl, _⟩ := r
    obtain ⟨t, rfl⟩ := (show ∃ t, v = Value.int _ t from rx)
    subst h
    exact P.truthy_int (hQ s.toks)
  · obtain ⟨rfl, hz, _⟩ := r
    obtain ⟨t, rfl⟩ := (show ∃ t, v = Value.str _ t from rx)
    subst h
    exact P.truthy_str (by have := hz.1; have h2 : sizeLine < 2 ^ 63 := by decide
                           omega) (hQ _)
theorem iter_gen {M : Program} {w : World} {A : Around} {a : Addr} {s : Shared} {E : Value → Shared → Prop} {Q : Value → Shared → Prop} (ty : s.TypeIs (.ref a) "generator") (h : Q (.ref a) s) : wpAny (model M w) A (pyIter (.ref a)) Q E s := by
  refine wpAny_pyIter_slot ty slot_gen_iter (wpAny_call_entry slot_gen_iter ty entry_gen_iter ?_ (args_gen_iter _))
  show wpAny _ _ (ret (.ref a)) _ _ s
  exact wpAny_pure ⟨_, rfl, "generator", _, ty, slot_gen_next.lookup, h⟩
section
variable {X : Cx} {pins : List (Addr × Obj)} {σ : L2.St} {δ : DE} {o : List Addr} {Hx : Hp} {A : Around} {a : Addr}
theorem Back.tok {H : Hp} {s : Shared} (B : Back X pins σ δ o Hx H s) (t : Nat) : Back X pins σ δ o Hx H { s with toks := t } := ⟨B.inv.tok t, B.env, B.step⟩
theorem chg_tok {s : Shared} (t : Nat) : Chg [] s { s with toks := t } := ⟨rfl, rfl, fun _ _ _ e => e, fun b hb => nomatch hb⟩
theorem keeps_none {K : Fw} {gd : List D} {H : Hp} {s : Shared} : Keeps K [] gd H s := fun b hb => nomatch hb
theorem any_loop {cd : Nat → List D} {R : Result → Shared → Prop} {bo : Bool} : ∀ (r : List D) (j : Nat) (H : Hp) (s : Shared), GSt X pins σ δ o Hx A.in1 a stopAny [] cd j r H s → anyT r = some bo → (∀ s' H', Back X pins σ δ o Hx H' s' → R (.ok (.ret (.bool bo))) s') →
    codeAny (model X.prog X.w) A (.builtin "any.loop" ⟨[.ref a], []⟩) R s
  | [], j, H, s, g, hb, hR => by
    cases (Option.some.inj hb : false = bo)
    refine codeAny_builtin F.entry_any_loop ?_
    rw [Around.under_plainId F.plain_any_loop _]
    show wpAny _ A.in1 (pyNext (.ref a) >>= _) _ _ s
    refine wpAny_bind (g.2.2 s _ _ (.refl fun b hb => nomatch hb) keeps_none fun s' H' B _ _ => ?_)
    exact wpAny_bind (wpAny_rule (wpAny_pure (hR s' H' B)))
  | d :: r, j, H, s, g, hb, hR => by
    refine codeAny_builtin F.entry_any_loop ?_
    rw [Around.under_plainId F.plain_any_loop _]
    show wpAny _ A.in1 (pyNext (.ref a) >>= _) _ _ s
    refine wpAny_bind (g.2.2 s _ _ (.refl fun b hb => nomatch hb) keeps_none fun v x s' H' rx rep B _ _ gn => ?_)
    simp only [anyT] at hb
    cases ht : truthS d with
    | none => rw [ht] at hb; cases hb
    | some bt =>
      rw [ht] at hb
      refine wpAny_bind (wpAny_holding (truth_s ht rep rx fun tk => ?_))
      refine wpAny_bind (wpAny_letGo ?_)
      cases bt with
      | false =>
        simp only [Bool.false_eq_true, if_false]
        have g2 := gn (by simp [stopAny, ht])
        exact wpAny_pure ⟨plainId_quiet F.plain_any_loop _, any_loop r (j + 1) H' _ (g2.chg (chg_tok tk) (B.tok tk) g2.ty) hb hR⟩
      | true =>
        cases (Option.some.inj hb : true = bo)
        simp only [if_true]
        exact wpAny_bind (wpAny_rule (wpAny_pure (hR _ H' (B.tok tk))))
end
/-- a judgement of a generator expression that a consumer will walk -/
structure PGx (X : Cx) (k : Nat) (e : Expr) (stop : D → Bool) (m : DE → Option (List D × DE)) : Prop where
  run : ∀ (pins : List (Addr × Obj)) (s : Shared) (σ : L2.St) (H : Hp) (δ : DE) (o : List Addr) (R0 : List D) (δ1 : DE) (Q : Value → Shared → Prop), Inv X pins σ H s → Envs (kx X) H σ δ o → Nd o → m δ = some (R0, δ1) →
    (∀ a s5 Hx o1, Step H Hx o → Envs (kx X) Hx σ δ1 o1 → Own H o o1 → R0.length ≤ sizeLine → GMk X pins σ δ1 o1 Hx k a stop R0 s5 → Q (.ref a) s5) → wpAny (model X.prog X.w) X.A (eval e X.env) Q X.xe s
section
variable {X : Cx} {elt tg iter : Expr} {ifs : List Expr} {scope : Scope} {own : List (Str × Nat)} {pos : Pos} {ms : DenS} {b : Bnd} {mt : DenT} {me : Den} {q qt qe : Bool} {k : Nat} {stop : D → Bool}
theorem z_gen {cc : Addr} (hr : Room (k + 1) X.A) (hcode : X.env.code = .ref cc) (hc : X.calm = true) (hN : X.N.Nodup) (hBM : BMod X.base X.mg) (gs : GSc scope)
    (hi : PI X tg iter (TIm (kx X) q ms)) (ok : BlkOk X.N X.env.scope scope own)
    (hg : ∀ (Ag : Around) (s : Shared) (H : Hp) (C c' : Addr) (cl : List (Str × Addr)) (fp : List Addr), Room k Ag → PG (X.gen Ag s H scope (genEnv scope cl C (.ref c') builtinsNs X.env) fp) tg (TGm ⟨X.F, .ref c'⟩ (kpOut (own.map (·.2))) b))
    (ht : ∀ (Ag : Around) (s : Shared) (H : Hp) (C c' : Addr) (cl : List (Str × Addr)) (fp : List Addr), Room k Ag → PTs (X.gen Ag s H scope (genEnv scope cl C (.ref c') builtinsNs X.env) fp) ifs (TT ⟨X.F, .ref c'⟩ qt mt))
    (he : ∀ (Ag : Around) (s : Shared) (H : Hp) (C c' : Addr) (cl : List (Str × Addr)) (fp : List Addr), Room k Ag → PE (X.gen Ag s H scope (genEnv scope cl C (.ref c') builtinsNs X.env) fp) elt (T ⟨X.F, .ref c'⟩ qe me))
    (hs : ∀ v, genFold iter X.env v = pure v := by intro _; rfl) : PGx X k (.GeneratorExp elt [⟨tg, iter, ifs, 0⟩] scope pos) stop (dGe (own.map (·.2)) ms b mt me stop) := by
  refine ⟨fun pins s σ H δ o R0 δ1 Q I E n hm hQ => ?_⟩
  simp only [dGe] at hm
  cases h1 : ms δ with
  | none => rw [h1] at hm; simp at hm
  | some p =>
    obtain ⟨src, δ2⟩ := p
    rw [h1] at hm; dsimp only at hm
    by_cases hgo : gOk src.gs δ2 = true
    case neg => rw [if_neg hgo] at hm; cases hm
    rw [if_pos hgo] at hm
    cases h2 : dG stop (gx (own.map (·.2)) b mt me (wipeD δ2 (own.map (·.2)))) src.xs with
    | none => rw [h2] at hm; simp at hm
    | some r =>
      rw [h2] at hm
      simp only [Option.some.injEq, Prod.mk.injEq] at hm
      obtain ⟨rfl, rfl⟩ := hm
      exact gen_make hr hcode hc hN hBM gs hi ok hg ht he hs I E n h1 hgo h2 fun a s5 Hx o1 st E1 w1 hl g => hQ a s5 Hx o1 (st.mono Wq_sub) E1 w1 hl g
theorem room_gen {A : Around} (hr : Room (k + 1) A) : ∀ e, Room k (A.in1.in1.deeper e) := fun e => ⟨hr.hd, by have := hr.dp; show A.depth + 1 + 3 * k + 5 < _; omega, by have := hr.un; show A.units + 1 + 1 + 3 + 16 * k + 200 < _; omega⟩
/-- a generator given to a built-in function: what the call is to do -/
theorem z_fold {e : Expr} {m : DE → Option (List D × DE)} {f : List D → Option D} {nm : Str} {bid : String} {p : Pos} (hg : Gl X nm) (hm : X.mg nm = none) (hb : bootBuiltins nm = some (.builtin bid)) (he : PGx X k e stop m)
    (hcall : ∀ (pins : List (Addr × Obj)) (σ : L2.St) (δ1 : DE) (o1 : List Addr) (Hx : Hp) (a : Addr) (R0 : List D) (d : D) (s5 : Shared) (Q : Value → Shared → Prop), Inv X pins σ Hx s5 → R0.length ≤ sizeLine → GMk X pins σ δ1 o1 Hx k a stop R0 s5 → f R0 = some d → (∀ s' H' H'' v x ov, (∃ o', Envs (kx X) H' σ δ1 o' ∧ Own Hx o1 o') → Step Hx H' o1 → Inv X pins σ H'' s' → (∀ a u, H' a = some u → H'' a = some u) → RelV x v → Rep X.F H'' d x ov → Fresh H' ov → Q v s') → wpAny (model X.prog X.w) X.A (call (.builtin bid) [.ref a]) Q X.xe s5)
    (hnm : nm ≠ "__name__" := by decide) (hdb : (nm == ("__debug__" : Str)) = false := by decide) (hst : starEach [e] X.env = (false, eval e X.env) :: starEach [] X.env := by rfl) : PE X (.Call (.Name nm p) [e] [] pos) (T (kx X) false (dFold f m)) := by
  refine ⟨fun pins s σ H Q I h => ?_⟩
  obtain ⟨δ, o, r, δ', E, n, hmm, kq⟩ := h
  simp only [dFold] at hmm
  cases h1 : m δ with
  | none => rw [h1] at hmm; simp at hmm
  | some p1 =>
    obtain ⟨R0, δ1⟩ := p1
    rw [h1] at hmm; dsimp only at hmm
    cases h2 : f R0 with
    | none => rw [h2] at hmm; simp at hmm
    | some d =>
      rw [h2] at hmm
      simp only [Option.some.injEq, Prod.mk.injEq] at hmm
      obtain ⟨rfl, rfl⟩ := hmm
      refine wpAny_Call_Name_kw (ld_blt I hg hm hb ?_ hnm hdb)
      refine PyProof.Rows.callWith_builtin1 ?_ hst (by rfl)
      rw [hst]
      show wpAny _ _ (spliced ((false, eval e X.env) :: backTo pos (starEach [] X.env))) _ _ s
      refine Calls.spliced_cons (he.run pins s σ H δ o R0 δ1 _ I E n h1 fun a s5 Hx o1 st E1 w1 hl g => ?_)
      refine Calls.spliced_nil ?_
      refine hcall pins σ δ1 o1 Hx a R0 d s5 _ g.2.2.1.inv hl g h2 fun s' H' H'' v x ov Be Bs I2 hk rx rep fr => ?_
      obtain ⟨o', E', w'⟩ := Be
      refine ⟨x, H'', I2, rx, kq x H'' o' ov ⟨(st.trans w1 Bs).same hk, E'.same hk, rep, ?_⟩⟩
      exact own_fresh (w1.trans st w') (st.trans w1 Bs) fr E'.dom
theorem z_any {e : Expr} {m : DE → Option (List D × DE)} {p : Pos} (hr : Room (k + 1) X.A) (hg : Gl X "any") (hm : X.mg "any" = none) (he : PGx X k e stopAny m)
    (hst : starEach [e] X.env = (false, eval e X.env) :: starEach [] X.env := by rfl) : PE X (.Call (.Name "any" p) [e] [] pos) (T (kx X) false (dFold fAny m)) := by
  refine z_fold (bid := "any") hg hm (by decide +kernel) he (fun pins σ δ1 o1 Hx a R0 d s5 Q I hl g hf hQ => ?_) (by decide) (by decide) hst
  obtain ⟨ty, _, B5, gg⟩ := g
  simp only [fAny] at hf
  cases hb : anyT R0 with
  | none => rw [hb] at hf; cases hf
  | some bo =>
    rw [hb] at hf
    cases (Option.some.inj hf : D.bl bo = d)
    have gst := gg X.A.in1 [] (fun _ => []) s5 hr.hd (by have := hr.dp; show X.A.depth < _; omega) (room_gen hr) I.ok.frames (fun b hb => nomatch hb) (.refl fun b hb => nomatch hb) keeps_none
    refine call_function_tree F.kind_any F.plain_any F.entry_any (F.args_any1 _) ?_
    unfold Builtin.«any»
    refine wpAny_bind (m := oneArg "any" _) (wpAny_pure ?_)
    refine wpAny_bind (iter_gen ty ?_)
    exact wpAny_pure ⟨plainId_quiet F.plain_any_loop _, any_loop (A := X.A) R0 0 Hx s5 gst hb fun s' H' B => hQ s' H' H' _ (.bl bo) [] B.env B.step B.inv (fun _ _ e => e) rfl ⟨rfl, rfl⟩ fresh_nil⟩
end
end Z


set_option Elab.async false
set_option linter.all false
set_option maxRecDepth 100000
/-! tuple, sum, join of a generator expression -/
namespace Z
open PySem PySem.Spec PyProof.Rows L2
open AutoSeq1 (wpAny_loadPart')

def never (_ : D) : Bool := false
section
variable {X : Cx} {pins : List (Addr × Obj)} {σ : L2.St} {δ : DE} {o : List Addr} {Hx : Hp} {A : Around} {a : Addr}
/-- the consumer's own list changes -/
theorem Back.own {H : Hp} {s : Shared} {h' : Heap} {b : Addr} (B : Back X pins σ δ o Hx H s) (hf : FpOk X pins H b) (k : ∀ c ob, c ≠ b → s.heap.get? c = some ob → h'.get? c = some ob) (t : Nat) : Back X pins σ δ o Hx H { s with heap := h', toks := t } :=
  ⟨B.inv.turned (it := b) k hf.1 hf.2.1 hf.2.2.2.1 hf.2.2.2.2.1 hf.2.2.2.2.2, B.env, B.step⟩
theorem FpOk.at {H H' : Hp} {b : Addr} (h : FpOk X pins H b) (hn : H' b = none) : FpOk X pins H' b := ⟨hn, h.2⟩
end
section
variable {X : Cx} {k : Nat}
end
end Z


set_option Elab.async false
set_option linter.all false
set_option maxRecDepth 100000
/-! sorted -/
namespace Z
open PySem PySem.Spec PyProof.Rows L2

def isTupN : D → Bool
  | .tup _ => true
  | _ => false
def isPlainS : D → Bool
  | .bl _ => true
  | .int _ => true
  | .str _ => true
  | _ => false
mutual
theorem reads_nol {h : Heap} : ∀ {d : D} {v : Value} {as : List Addr}, d.nol = true → Reads h v (toPy d) as → as = []
  | .non, _, _, _, r => by cases r; rfl
  | .bl _, _, _, _, r => by cases r; rfl
  | .int _, _, _, _, r => by cases r; rfl
  | .str _, _, _, _, r => by cases r; rfl
  | .tup xs, _, _, n, r => by
    cases r with
    | tuple _ _ _ q => exact readsAll_nol (xs := xs) n q
  | .lst _, _, _, n, _ => by simp [D.nol] at n
  | .frz _, _, _, n, _ => by simp [D.nol] at n
  | .dic _ _, _, _, n, _ => by simp [D.nol] at n
  | .obj _ _ _, _, _, n, _ => by simp [D.nol] at n
theorem readsAll_nol {h : Heap} : ∀ {xs : List D} {vs : List Value} {as : List Addr}, D.nols xs = true → ReadsAll h vs (toPys xs) as → as = []
  | [], _, _, _, r => by cases r; rfl
  | x :: xs, _, _, n, r => by
    simp only [D.nols, Bool.and_eq_true] at n
    cases r with
    | cons r1 r2 => rw [reads_nol n.1 r1, readsAll_nol n.2 r2]; rfl
end
section
variable {X : Cx} {pins : List (Addr × Obj)} {σ : L2.St} {H : Hp} {s : Shared}
end
section
variable {X : Cx} {k : Nat}
end
end Z


set_option Elab.async false
set_option linter.all false
set_option maxRecDepth 100000
/-! sorted of a sequence; x += e -/
namespace Z
open PySem PySem.Spec PyProof.Rows L2

section
variable {X : Cx}
end
/-- x op= e, ints -/
def dAug (i : Nat) (g : Int → Int → Int) (m : Den) : Blk := fun δ => match δ[i]? with
  | some (some (.int a)) => match m δ with
    | some (.own (.int b), δ1) => if i < δ1.length then some (.nx (δ1.set i (some (.int (g a b))))) else none
    | _ => none
  | _ => none
section
variable {X : Cx} {kp : Nat → Bool} {e : Expr} {q : Bool} {m : Den} {pos : Pos}
end
end Z


set_option Elab.async false
set_option linter.all false
set_option maxRecDepth 100000
/-! list.extend of a new list -/
namespace Z
open PySem PySem.Spec PyProof.Rows L2

section
variable {X : Cx} {eo e : Expr} {qo qe : Bool} {mo me : Den} {apos cpos : Pos}
end
end Z


set_option Elab.async false
set_option linter.all false
set_option maxRecDepth 100000
set_option maxHeartbeats 4000000
/-! sets of ints and texts that are sorted -/
namespace Z
open PySem PySem.Spec PyProof.Rows L2

def keyK (e : Int × Value) : Key := match e.2 with
  | .int k _ => .inl k
  | .str x _ => .inr x
  | _ => .inl 0
def GoodK (w : World) (e : Int × Value) : Prop := ∃ k, keyIs k e.2 = true ∧ e.1 = keyH w k
/-- the set at a holds the keys of S; it can be walked -/
def SetM (w : World) (h : Heap) (a : Addr) (S : Key → Bool) (n : Nat) : Prop :=
  ∃ o es ep t, h.get? a = some o ∧ o.ExactSet ∧ o.data = .set es ep t ∧ (∀ e ∈ es.toList, GoodK w e) ∧ (es.toList.map keyK).Nodup ∧ (∀ k, S k = true ↔ k ∈ es.toList.map keyK) ∧
    es.size < scanBound ∧ t.fits es.size = true ∧ es.size = n ∧ Ris t.place.toList ∧ (w.params.followText "set-order" = true ∨ t.led = true)
theorem SetM.at {w : World} {h h' : Heap} {a : Addr} {S : Key → Bool} {n : Nat} (R : SetM w h a S n) (k : ∀ o, h.get? a = some o → h'.get? a = some o) : SetM w h' a S n := by
  obtain ⟨o, es, ep, t, ho, r⟩ := R
  exact ⟨o, es, ep, t, k o ho, r⟩
theorem SetM.congr {w : World} {h : Heap} {a : Addr} {S S' : Key → Bool} {n : Nat} (R : SetM w h a S n) (e : ∀ k, S' k = S k) : SetM w h a S' n := by
  have q : S' = S := funext e
  rw [q]; exact R
section
variable {P : Program} {w : World} {A : Around} {E : Value → Shared → Prop} {s : Shared} {a : Addr} {S : Key → Bool} {n : Nat}
end
end Z


set_option Elab.async false
set_option linter.all false
set_option maxRecDepth 100000
set_option maxHeartbeats 4000000
/-! set(..) of a sequence of keys; sorted(set(..)) -/
namespace Z
open PySem PySem.Spec PyProof.Rows L2

section
variable {P : Program} {w : World} {A : Around} {E : Value → Shared → Prop} {s : Shared}
end
end Z


set_option Elab.async false
set_option linter.all false
set_option maxRecDepth 100000
/-! sorted(set(..)) -/
namespace Z
open PySem PySem.Spec PyProof.Rows L2

end Z


set_option Elab.async false
set_option linter.all false
set_option maxRecDepth 100000
/-! sorted(set(..)): the rule -/
namespace Z
open PySem PySem.Spec PyProof.Rows L2

section
variable {X : Cx} {e : Expr} {q : Bool} {m : Den} {p p2 pos pos2 : Pos}
end
end Z


set_option Elab.async false
set_option linter.all false
set_option maxRecDepth 100000
/-! the head: what the defs' objects are, the tables at the start, the law's call -/
namespace Z
open PySem PySem.Spec PyProof.Rows L2

theorem codeHd_inv {K : PySem.W.Frag} {c P : Addr} (h : PySem.W.codeHdIn K c P = true) : ∃ od vs sl, K.lookup c = some ⟨.type "code", od, .fields vs, sl⟩ ∧ He.tabOf K c = P := by
  unfold PySem.W.codeHdIn at h
  split at h
  · rename_i od vs sl hk
    refine ⟨od, vs, sl, hk, ?_⟩
    unfold He.tabOf
    rw [hk]
    simp only [Bool.and_eq_true] at h
    have h11 := h.1.1.1.1.1
    split at h11
    · rename_i P' e
      show (match vs.getD 11 .none with | .ref P => P | _ => 0) = P
      rw [Array.getD_eq_getD_getElem?, e]
      exact beq_iff_eq.mp h11
    · cases h11
  · cases h
/-- each code object of the fragment is one of these defs' -/
def exTabs (tf : List He.Defn) (K : PySem.W.Frag) : Bool := K.all fun q => match q.2 with
  | ⟨.type c, _, .fields _, _⟩ => c != "code" || (tf.map fun p => (He.cT K p).1).contains q.1
  | _ => true
section
variable {fa : List He.Fa} {fn : List He.DefD} {ts : List He.Tab} {tf : List He.Defn} {w : World} {h : Heap} {K : PySem.W.Frag}
theorem tabs_start (c : exTabs tf K = true) {H : Hp} (hH : ∀ p ∈ tf.map (He.cT K), H p.2 = some (.tbl #[])) : Tabs ⟨⟨K, w⟩, .none⟩ H := by
  refine ⟨fun cc P hc => ?_, fun _ e => by cases e⟩
  obtain ⟨od, vs, sl, hk, ht⟩ := codeHd_inv hc
  have h1 := List.all_eq_true.mp c _ (He.lookup_mem hk)
  simp only [bne_self_eq_false, Bool.false_or, List.contains_iff_mem, List.mem_map] at h1
  obtain ⟨p, hp, e⟩ := h1
  have h2 := hH _ (List.mem_map_of_mem hp)
  have e2 : (He.cT K p).2 = P := by
    rw [← ht, ← e]; rfl
  rw [e2] at h2
  exact .mk P #[] (fun _ => 0) (fun _ => 0) h2 trivial (fun pos cv h => by simp [codeAmong] at h) fun pos cv h => by simp [codeAmong] at h
/-- a def of the top, as the others see it -/
structure Def (K : PySem.W.Frag) (mg : Str → Option Value) (x : Str) (st : Stmt) (ps : List Str) (f : Addr) (fd : FuncData) : Prop where
  fz : FunZ K x (L2.defArgs st) (L2.defBody st) (L2.defScope st) f fd
  kp : PySem.W.keepIn K (.ref f) = true
  g : mg x = some (.ref f)
  b : Binds K fd ps []
theorem funZ_of {qual x : Str} {params : Arguments} {body : List Stmt} {scope : Scope} {dvs : List V} {kws : List (Str × V)} {fd : FuncData} {p : He.Defn} (F : FunD K x qual params body scope dvs kws (He.fAd K p) fd) (hd : PySem.W.codeHdIn K (He.cT K p).1 (He.cT K p).2 = true) : FunZ K qual params body scope (He.fAd K p) fd := by
  obtain ⟨oc, od, dV, kV, doc, pm, an, cdv, ct, osl, rfl, lk, hcd, _, _⟩ := F.ex
  obtain ⟨c, rfl⟩ := He.codeIn_ref hcd
  have e := He.codeOf_eq lk rfl
  rw [show (He.cT K p).1 = c from e] at hd
  exact ⟨⟨x, oc, od, dV, kV, doc, pm, an, ct, osl, c, _, rfl, lk, hcd, hd⟩⟩
abbrev dOf (x : Str) (st : Stmt) : He.DefD := ⟨(x, none), x, x, L2.defArgs st, L2.defBody st, L2.defScope st, [], []⟩
theorem Def.of (X : K.In h) {mg : Str → Option Value} (G : h.Ns mainGlobals mg) (c : He.SaysX fa fn ts tf (exTabs tf) w h K) {x : Str} {st : Stmt} {ps : List Str} (hd : dOf x st ∈ fn) (ht : (x, none) ∈ tf) (hg : He.Fa.glo x ∈ fa)
    (hb : ∀ (kV doc pm : Value) (an : Option Addr) (cdv ct : Value) (us : List Value), us.length = ps.length → bindArgs (PySem.W.fnOf x x (L2.defArgs st) (L2.defBody st) (L2.defScope st) .none kV doc pm an cdv ct) ⟨us, []⟩ = pure (ps.zip us)) :
    ∃ fd, Def K mg x st ps (He.fAd K (x, none)) fd ∧ ∀ (s : Shared) (us : List Value), us.length = ps.length → BindsTo s fd ⟨us, []⟩ (ps.zip us) := by
  obtain ⟨fd, F⟩ := He.SaysD.defs (fa := fa) (fn := fn) c.t.d hd
  exact ⟨fd, ⟨funZ_of F (c.hd _ ht), F.kp, He.glo_ok X G (He.SaysD.facts c.t.d hg), F.bindsN hb⟩, F.bindsA hb⟩
/-- the law's def, given the walk and what its denotation answers -/
theorem lawAt {l : PySem.W.OpenLaw} {n k : Nat} {x : Str} {mg : Str → Option Value} {f : Addr} {fd : FuncData} {m : Fn} (X : K.In h) (c : He.SaysX fa fn ts tf (exTabs tf) w h K) (hne : tf ≠ [])
    (hb : ∀ (s : Shared) (u : Value), BindsTo s fd ⟨[u], []⟩ [(x, u)])
    (F : ∀ base : Heap, K.In base → base.Ns mainGlobals mg → BMod base mg → FnOk l.prog w K mg base CX0 k f fd [x] (spD ⟨K, w⟩ m))
    (hm : ∀ (ns : List Int) (c : List D → D), c = .lst ∨ c = .frz → ns.length ≤ n → (∀ z ∈ ns, Builtin.Int.intBits z ≤ 1048576) → ∃ fs, m [c (ns.map .int)] = some (.bl true, fs)) : LamX.LawAtS l w K CX0 k n x mg f h := by
  refine ⟨fd, tf.map (He.cT K), spD ⟨K, w⟩ m, fun p hp => ?_, fun p hp => ?_, fun p hp => ?_, hb, fun H a ns hl hbt hH hS => ?_, fun base hK hG hT => F base hK hG ?_⟩
  · obtain ⟨q, hq, rfl⟩ := List.mem_map.mp hp
    exact c.empty q hq
  · obtain ⟨q, hq, rfl⟩ := List.mem_map.mp hp
    exact c.out q hq
  · obtain ⟨q, hq, rfl⟩ := List.mem_map.mp hp
    exact PySem.W.codeHd_of_K X (c.hd q hq)
  · have tb := tabs_start (w := w) (K := K) c.more hH
    have ri : ∀ (js : List Int), Reps ⟨K, w⟩ H (js.map D.int) (js.map V.int) [] := fun js => by
      induction js with
      | nil => exact ⟨rfl, rfl⟩
      | cons j js ih => exact ⟨.int j, _, [], [], rfl, ⟨rfl, rfl⟩, ih, rfl⟩
    rcases hS with (hS | hS) | hS
    · obtain ⟨fs, e⟩ := hm ns .lst (.inl rfl) hl hbt
      refine ⟨[.lst (ns.map .int)], [a], .bl true, fs, ⟨.ref a, [], [a], [], rfl, ⟨a, _, [], rfl, hS, ri ns, rfl⟩, ⟨rfl, rfl⟩, rfl⟩, ?_, tb, e, fun v H' ov of_ _ r _ _ => r.1⟩
      intro b
      rw [List.count_cons, List.count_nil]
      split <;> omega
    · obtain ⟨fs, e⟩ := hm ns .frz (.inr rfl) hl hbt
      refine ⟨[.frz (ns.map .int)], [], .bl true, fs, ⟨.ref a, [], [], [], rfl, ⟨a, _, rfl, .inl hS, ri ns, rfl⟩, ⟨rfl, rfl⟩, rfl⟩, ?_, tb, e, fun v H' ov of_ _ r _ _ => r.1⟩
      simp [Nd]
    · obtain ⟨fs, e⟩ := hm ns .frz (.inr rfl) hl hbt
      refine ⟨[.frz (ns.map .int)], [], .bl true, fs, ⟨.ref a, [], [], [], rfl, ⟨a, _, rfl, .inr hS, ri ns, rfl⟩, ⟨rfl, rfl⟩, rfl⟩, ?_, tb, e, fun v H' ov of_ _ r _ _ => r.1⟩
      simp [Nd]
  · cases tf with
    | nil => exact absurd rfl hne
    | cons p tf =>
      have := hT (He.cT K p) (List.mem_cons_self ..)
      obtain ⟨bm, ob, e1, e2, e3, e4, e5, e6, e7, e8⟩ := this.bm
      exact ⟨bm, ob, e1, e2, e5, e6, e7, e8⟩
/-- a deeper place has room for a line's work -/
theorem hu_of {k : Nat} {A : Around} (r : Room k A) : A.units + 70 < cLine := by
  have := r.un; unfold cLine at *; omega
end
end Z


set_option Elab.async false
set_option linter.all false
set_option maxRecDepth 100000
/-! short names for what is printed -/
namespace Z
open PySem PySem.Spec PyProof.Rows L2
theorem h64 {k : Nat} {A : Around} (r : Room k A) : A.units + 64 < cLine := by have := hu_of r; omega
theorem h65 {k : Nat} {A : Around} (r : Room k A) : A.units + 65 < cLine := by have := hu_of r; omega
abbrev fSub : List D → Option D := fI2 fun i j => some (.int (i - j))
abbrev fFdiv : List D → Option D := fI2 fun i j => if j ≠ 0 ∧ j.natAbs < 1073741824 then some (.int (i.fdiv j)) else none
abbrev fMod : List D → Option D := fI2 fun i j => if j ≠ 0 then some (.int (i.fmod j)) else none
abbrev fPow : List D → Option D := fI2 fun i j => if 0 ≤ j ∧ j ≤ 1000000 ∧ i.natAbs < 2 ^ 64 then some (.int (i ^ j.toNat)) else none
abbrev fLt : List D → Option D := fCmp fun a b => ltD a b
abbrev fGt : List D → Option D := fCmp fun a b => ltD b a
abbrev fLe : List D → Option D := fCmp fun a b => !ltD b a
abbrev fGe : List D → Option D := fCmp fun a b => !ltD a b
theorem bb_len : bootBuiltins "len" = some (.builtin "len") := by decide +kernel
theorem bb_isinstance : bootBuiltins "isinstance" = some (.builtin "isinstance") := by decide +kernel
theorem bb_max : bootBuiltins "max" = some (.builtin "max") := by decide +kernel
theorem bb_int : bootBuiltins "int" = some (.type "int") := by decide +kernel
theorem bb_tuple : bootBuiltins "tuple" = some (.type "tuple") := by decide +kernel
theorem bb_str : bootBuiltins "str" = some (.type "str") := by decide +kernel
theorem bb_bool : bootBuiltins "bool" = some (.type "bool") := by decide +kernel
/-- the slots of a list -/
def kpL (l : List Nat) : Nat → Bool := fun i => l.contains i
theorem kpL_sub {a b : List Nat} (h : a.all (b.contains ·) = true) : ∀ i, kpL a i = true → kpL b i = true := fun i hi => by
  unfold kpL at hi ⊢
  exact List.all_eq_true.mp h i (List.contains_iff_mem.mp hi)
/-- a def of which nothing is asked -/
theorem fn_none {P : Program} {w : World} {K : PySem.W.Frag} {mg : Str → Option Value} {base : Heap} {k : Nat} {f : Addr} {fd : FuncData} {ps : List Str} : FnOk P w K mg base CX0 k f fd ps (spD ⟨K, w⟩ fun _ => none) := by
  constructor
  · intro vs H Q E h
    obtain ⟨ds, oA, r, fs, _, _, _, e, _⟩ := h
    cases e
  · intro A outer s H args us vs Q E hr h0 hb hv h
    obtain ⟨ds, oA, r, fs, _, _, _, e, _⟩ := h
    cases e
end Z


set_option Elab.async false
set_option linter.all false
set_option maxRecDepth 100000
/-! plain laws of what the denotations compute by -/
namespace Z
open PySem PySem.Spec PyProof.Rows L2

/-! ### equality, depth -/
mutual
/-- no bool in it: equality is sameness -/
def D.cl : D → Bool
  | .non => true
  | .int _ => true
  | .str _ => true
  | .tup xs => D.cls xs
  | .lst xs => D.cls xs
  | _ => false
def D.cls : List D → Bool
  | [] => true
  | x :: xs => D.cl x && D.cls xs
end
mutual
theorem eqD_cl : ∀ (a b : D), a.cl = true → b.cl = true → (eqD a b = true ↔ a = b)
  | .non, b, _, h => by cases b <;> simp [D.cl] at h <;> simp [eqD, toPy, PyData.eqv]
  | .int i, b, _, h => by cases b <;> simp [D.cl] at h <;> simp [eqD, toPy, PyData.eqv]
  | .str x, b, _, h => by cases b <;> simp [D.cl] at h <;> simp [eqD, toPy, PyData.eqv]
  | .tup xs, b, g, h => by
    cases b <;> simp [D.cl] at h <;> simp [eqD, toPy, PyData.eqv]
    exact eqDs_cl xs _ (by simpa [D.cl] using g) h
  | .lst xs, b, g, h => by
    cases b <;> simp [D.cl] at h <;> simp [eqD, toPy, PyData.eqv]
    exact eqDs_cl xs _ (by simpa [D.cl] using g) h
  | .bl _, _, g, _ => by simp [D.cl] at g
  | .frz _, _, g, _ => by simp [D.cl] at g
  | .dic _ _, _, g, _ => by simp [D.cl] at g
  | .obj _ _ _, _, g, _ => by simp [D.cl] at g
theorem eqDs_cl : ∀ (a b : List D), D.cls a = true → D.cls b = true → (PyData.eqvAll (toPys a) (toPys b) = true ↔ a = b)
  | [], [], _, _ => by simp [toPys, PyData.eqvAll]
  | [], _ :: _, _, _ => by simp [toPys, PyData.eqvAll]
  | _ :: _, [], _, _ => by simp [toPys, PyData.eqvAll]
  | x :: xs, y :: ys, g, h => by
    simp only [D.cls, Bool.and_eq_true] at g h
    have h1 := eqD_cl x y g.1 h.1
    have h2 := eqDs_cl xs ys g.2 h.2
    simp only [toPys, PyData.eqvAll, Bool.and_eq_true, List.cons.injEq]
    exact and_congr h1 h2
end
theorem eqD_eq {a b : D} (ha : a.cl = true) (hb : b.cl = true) : eqD a b = decide (a = b) := by
  rw [Bool.eq_iff_iff, eqD_cl a b ha hb, decide_eq_true_eq]
theorem dep_of {d : D} (h : d.dp ≤ 60) : dep d = true := decide_eq_true h
theorem dep_int (i : Int) : dep (.int i) = true := dep_of (by simp [D.dp])
/-! ### the operators -/
theorem fEq_cl {a b : D} (ha : a.cl = true) (hb : b.cl = true) (da : a.dp ≤ 60) (db : b.dp ≤ 60) : fEq [a, b] = some (.bl (decide (a = b))) := by
  simp only [fEq, dep_of da, dep_of db, Bool.and_self, if_true, eqD_eq ha hb]
theorem fEq_int (i j : Int) : fEq [.int i, .int j] = some (.bl (decide (i = j))) := by
  rw [fEq_cl (by simp [D.cl]) (by simp [D.cl]) (by simp [D.dp]) (by simp [D.dp])]; simp
theorem fEq_str (i j : Str) : fEq [.str i, .str j] = some (.bl (decide (i = j))) := by
  rw [fEq_cl (by simp [D.cl]) (by simp [D.cl]) (by simp [D.dp]) (by simp [D.dp])]; simp
theorem fNe_int (i j : Int) : fNe [.int i, .int j] = some (.bl (decide (i ≠ j))) := by
  simp only [fNe, dep_int, Bool.and_self, if_true, eqD_eq (a := .int i) (b := .int j) (by simp [D.cl]) (by simp [D.cl])]
  simp
theorem cmp_int (i j : Int) : cmpOk (.int i) (.int j) = true := by simp [cmpOk, toPy, PySem.W.alike, dep_int]
theorem ltD_int (i j : Int) : ltD (.int i) (.int j) = decide (i < j) := by
  unfold ltD; exact PySem.W.dataLt_int i j
theorem fLt_int (i j : Int) : fLt [.int i, .int j] = some (.bl (decide (i < j))) := by simp only [fCmp, cmp_int, if_true, ltD_int]
theorem fGt_int (i j : Int) : fGt [.int i, .int j] = some (.bl (decide (j < i))) := by simp only [fCmp, cmp_int, if_true, ltD_int]
theorem not_dec {p q : Prop} [Decidable p] [Decidable q] (h : ¬ p ↔ q) : (!decide p) = decide q := by
  by_cases hp : p
  · have : ¬ q := fun hq => h.mpr hq hp
    simp [hp, this]
  · simp [hp, h.mp hp]
theorem fLe_int (i j : Int) : fLe [.int i, .int j] = some (.bl (decide (i ≤ j))) := by
  simp only [fCmp, cmp_int, if_true, ltD_int]
  exact congrArg (fun b => some (D.bl b)) (not_dec (by omega))
theorem fGe_int (i j : Int) : fGe [.int i, .int j] = some (.bl (decide (j ≤ i))) := by
  simp only [fCmp, cmp_int, if_true, ltD_int]
  exact congrArg (fun b => some (D.bl b)) (not_dec (by omega))
/-! ### loops -/
/-- a for loop that never leaves, by what holds behind each part of its items; gs: the walked lists that must stand -/
theorem dForL_inv {gs : List (Nat × D)} {b : Bnd} {mb : Blk} (J : List D → DE → Prop) : ∀ (xs pre : List D) (δ : DE), (∀ p δ, J p δ → gOk gs δ = true) → (∀ p x q δ, pre ++ xs = p ++ x :: q → J p δ → ∃ δ1 δ2, b x δ = some δ1 ∧ (mb δ1 = some (.nx δ2) ∨ mb δ1 = some (.ct δ2)) ∧ J (p ++ [x]) δ2) →
    J pre δ → ∃ δ', dForL gs b mb xs δ = some (.nx δ') ∧ J (pre ++ xs) δ'
  | [], pre, δ, hg, _, h => ⟨δ, by simp only [dForL, hg _ _ h, if_true], by rw [List.append_nil]; exact h⟩
  | x :: xs, pre, δ, hg, hs, h => by
    obtain ⟨δ1, δ2, e1, e2, h2⟩ := hs pre x xs δ rfl h
    obtain ⟨δ', e3, h3⟩ := dForL_inv J xs (pre ++ [x]) δ2 hg (fun p y q δ e => hs p y q δ (by rw [← e]; simp)) h2
    refine ⟨δ', ?_, by simpa using h3⟩
    simp only [dForL, hg _ _ h, if_true, e1]
    rcases e2 with e2 | e2 <;> rw [e2] <;> exact e3
end Z


set_option Elab.async false
set_option linter.all false
set_option maxRecDepth 100000
/-! enumerate of a list or a tuple -/
namespace Z
open PySem PySem.Spec PyProof.Rows L2

/-- a list (true) or a tuple (false) -/
def SqB (b : Bool) (K : PySem.W.Frag) (H : Hp) (a : Addr) (xs : List V) : Prop := match b with
  | true => SqL K H a xs
  | false => SqT K H a xs
def IsB (b : Bool) (h : Heap) (a : Addr) (its : Array Value) : Prop := match b with
  | true => h.IsList a its
  | false => h.IsTuple a its
def IsBI (b : Bool) (h : Heap) (it a : Addr) (i : Nat) : Prop := match b with
  | true => h.IsListIter it a i
  | false => h.IsTupleIter it a i
def itB (b : Bool) (a : Addr) : Obj := match b with
  | true => { cls := .type "list_iterator", data := .fields #[.ref a, .int 0 0] }
  | false => { cls := .type "tuple_iterator", data := .fields #[.ref a, .int 0 0] }
theorem begins_b (b : Bool) (a : Addr) (its : Array Value) : Begins (.ref a) (itB b a) fun h => IsB b h a its := by
  cases b
  · exact begins_tuple a its
  · exact begins_list a its
theorem isBI_new {b : Bool} {a it : Addr} {h : Heap} (e : h.get? it = some (itB b a)) : IsBI b h it a 0 := by
  cases b
  · exact ⟨_, e, rfl, rfl⟩
  · exact ⟨_, e, rfl, rfl⟩
theorem isBI_at {b : Bool} {a it : Addr} {i : Nat} {h h' : Heap} (s : IsBI b h it a i) (k : ∀ o, h.get? it = some o → h'.get? it = some o) : IsBI b h' it a i := by
  cases b
  · obtain ⟨o, e, c, d⟩ := s; exact ⟨o, k o e, c, d⟩
  · obtain ⟨o, e, c, d⟩ := s; exact ⟨o, k o e, c, d⟩
theorem isBI_obj {b : Bool} {a it : Addr} {i : Nat} {h : Heap} (s : IsBI b h it a i) : ∃ o, h.get? it = some o ∧ ∀ v, o.data ≠ .cell v := by
  cases b
  · obtain ⟨o, e, c, d⟩ := s; exact ⟨o, e, fun v q => by rw [d] at q; cases q⟩
  · obtain ⟨o, e, c, d⟩ := s; exact ⟨o, e, fun v q => by rw [d] at q; cases q⟩
theorem draws_b {P : Program} {w : World} {A : Around} (b : Bool) (hh : A.handled = none) (it a : Addr) (hne : a ≠ it) (its : Array Value) :
    Draws P w A it [it, a] its.size (fun i v => its[i]? = some v) (fun i h => IsBI b h it a i ∧ IsB b h a its) := by
  cases b
  · exact Draws.tuple hh it a hne its
  · exact Draws.list hh it a hne its
theorem drawsEnd_b {P : Program} {w : World} {A : Around} (b : Bool) (hh : A.handled = none) (it a : Addr) (its : Array Value) (i : Nat) (hi : its.size ≤ i) :
    Draws P w A it [it, a] i (fun _ _ => True) (fun j h => j = i ∧ IsBI b h it a i ∧ IsB b h a its) where
  live := fun j h st => by obtain ⟨o, e, _⟩ := isBI_obj st.2.1; exact ⟨o, e⟩
  frame := fun j h h' st hk => by
    refine ⟨st.1, isBI_at st.2.1 fun o e => hk it (by simp) o e, ?_⟩
    have h2 := st.2.2
    cases b
    · obtain ⟨o, e, r⟩ := h2; exact ⟨o, hk a (by simp) o e, r⟩
    · obtain ⟨o, e, r⟩ := h2; exact ⟨o, hk a (by simp) o e, r⟩
  item := fun j s Q E hj st hQ => absurd st.1 (by omega)
  done := fun s Q E st hE => by
    cases b
    · exact wpAny_nextOf_tuple_end hh st.2.1 st.2.2 (by simpa using hi) hE
    · exact wpAny_nextOf_list_end hh st.2.1 st.2.2 (by simpa using hi) hE
section
variable {X : Cx} {pins : List (Addr × Obj)} {σ : L2.St} {H : Hp} {s : Shared}
theorem inv_b {b : Bool} {a : Addr} {xs : List V} (I : Inv X pins σ H s) (h : SqB b X.K H a xs) : ∃ its : List Value, Vals xs its ∧ IsB b s.heap a its.toArray ∧ xs.length ≤ sizeLine := by
  cases b
  · exact I.tuple h
  · obtain ⟨its, r, p, z⟩ := I.list h
    exact ⟨its, r, p.isList, z⟩
theorem inv_b_inj {b : Bool} {a : Addr} {xs ys : List V} (I : Inv X pins σ H s) (h : SqB b X.K H a xs) (h' : SqB b X.K H a ys) : xs = ys := by
  cases b
  · exact I.tuple_inj h h'
  · exact I.list_inj h h'
end
theorem lt_of_isB {b : Bool} {h : Heap} {a : Addr} {its : Array Value} (s : IsB b h a its) : a < h.objs.size := by
  cases b
  · obtain ⟨o, e, _⟩ := s; exact Heap.lt_size e
  · obtain ⟨o, e, _⟩ := s; exact Heap.lt_size e
/-- the items of the list or tuple at a in new pairs -/
def IteB (b : Bool) (K : PySem.W.Frag) (a : Addr) : It :=
  ⟨fun i H => ∃ (xs : List V) (x : V), SqB b K H a xs ∧ xs[i]? = some x, fun i H v H' => ∃ T x, v = .ref T ∧ H T = none ∧ H' = upd H T (.tup [.int (i : Nat), x]) ∧ ∀ xs, SqB b K H a xs → xs[i]? = some x, fun i H => ∃ xs : List V, SqB b K H a xs ∧ xs.length ≤ i⟩
theorem turn_enumB {P : Program} {w : World} {K : PySem.W.Frag} {elts : List Expr} {kk : Nat} {tpos : Pos} (b : Bool) (a e it : Addr) (hei : e ≠ it) (hae : a ≠ e) (hai : a ≠ it) :
    Turn P w K (.Tuple elts kk tpos) (IteB b K a) [e, it] e (fun i h => (∃ old, IsEnum h e it ((i : Nat) : Int) old) ∧ IsBI b h it a i) where
  mem := by simp
  obj := fun i h st c hc => by
    obtain ⟨⟨old, he⟩, hi⟩ := st
    have e' : c = e ∨ c = it := by simpa using hc
    rcases e' with z | z
    · rw [z]; exact ⟨_, he, fun v q => nomatch q⟩
    · rw [z]; exact isBI_obj hi
  keep := fun i h h' st k => let ⟨⟨old, he⟩, hi⟩ := st; ⟨⟨old, k e (by simp) _ he⟩, isBI_at hi fun o q => k it (by simp) o q⟩
  item := by
    intro X hP hw hK hc i pins s σ H E I hf st hg
    subst hP hw hK
    obtain ⟨⟨old, he⟩, hit⟩ := st
    obtain ⟨xs, x, hq, hx⟩ := hg
    obtain ⟨its, rv, p, hz⟩ := inv_b I hq
    obtain ⟨u, hu, ru⟩ := rv.get hx
    have hl := rv.length
    have hlt : i < its.toArray.size := by
      have := (List.getElem?_eq_some_iff.mp hx).1
      simp; omega
    have G := GoesN.enumFrom (elts := elts) (x1 := kk) (pos := tpos) 0 (draws_b (P := X.prog) (w := X.w) (A := X.A.in1) b (show X.A.in1.handled = none from I.ok.hd hc) it a hai its.toArray) e hei (by simp [hei, Ne.symm hae]) (by simp)
    refine G.goes i s _ E hlt ⟨⟨old, by rw [Int.zero_add]; exact he⟩, hit, p⟩ fun v h' tk ⟨T, t, y, ev, hT, hy, hIs⟩ st' hk htk => ?_
    subst ev
    have hyu : y = u := by
      have h1 : its.toArray[i]? = some u := by simpa using hu
      rw [h1] at hy
      exact (Option.some.inj hy).symm
    subst hyu
    obtain ⟨⟨old', he'⟩, hit', _⟩ := st'
    obtain ⟨o, ho, hcl, n, hd⟩ := hIs
    have new : ObjOk X.prog X.w (upd H T (.tup [.int (i : Nat), x])) h' T (.tup [.int (i : Nat), x]) :=
      ⟨by show 2 ≤ sizeLine; decide, [.int (0 + (i : Int)) t, y], .cons ⟨t, by rw [Int.zero_add]⟩ (.cons ru .nil), ⟨o, ho, hcl, n, hd⟩⟩
    have I1 : Inv X pins σ (upd H T (.tup [.int (i : Nat), x])) { s with heap := h', toks := tk } := I.turnedNew (ch := [e, it]) hk hf hT new
    refine ⟨.ref T, _, I1, rfl, ⟨T, x, rfl, I.hok.fresh hT, rfl, fun ys hy => by rw [inv_b_inj I hy hq]; exact hx⟩, ⟨⟨old', ?_⟩, hit'⟩, fun c hc => ?_⟩
    · have e1 : (0 : Int) + ((i + 1 : Nat) : Int) = ((i + 1 : Nat) : Int) := by omega
      rw [e1] at he'; exact he'
    · have hb' : c < s.heap.objs.size := by
        have e' : c = e ∨ c = it := by simpa using hc
        rcases e' with z | z
        · rw [z]; exact Heap.lt_size he
        · rw [z]; obtain ⟨o, q, _⟩ := isBI_obj hit; exact Heap.lt_size q
      rw [upd_ne (Nat.ne_of_lt (Nat.lt_of_lt_of_le hb' hT))]
      exact (hf c hc).1
  done := by
    intro X hP hw hK hc i pins s σ H E I hf st hg
    subst hP hw hK
    obtain ⟨⟨old, he⟩, hit⟩ := st
    obtain ⟨xs, hq, hx⟩ := hg
    obtain ⟨its, rv, p, hz⟩ := inv_b I hq
    have hl := rv.length
    have D := drawsEnd_b (P := X.prog) (w := X.w) (A := X.A.in1) b (show X.A.in1.handled = none from I.ok.hd hc) it a its.toArray i (by simp; omega)
    exact wpAny_pyNext_enum_endD D he ⟨rfl, hit, p⟩ fun h' hk => ⟨rfl, I.turnedL (t' := s.toks) (ch := [e, it]) (fun c o hc y => hk c o (fun z => hc (by simp [z])) y) hf⟩
  self := fun A i s Q E st h => let ⟨⟨_, he⟩, _⟩ := st; wpAny_pyIter_enum he h
end Z


set_option Elab.async false
set_option linter.all false
set_option maxRecDepth 100000
/-! enumerate as what is walked -/
namespace Z
open PySem PySem.Spec PyProof.Rows L2
open PySem.AutoSeq1 (wpAny_loadPart')

set_option maxHeartbeats 1000000 in
theorem meets_enum1 {v : Value} {o : Obj} {H : Heap → Prop} (B : Begins v o H) :
    Meets (Builtin.«enumerate.__new__» ⟨[.type "enumerate", v], []⟩) (fun _ R s => H s.heap ∧
      R (.ok (.ret (.ref (s.heap.push o).objs.size))) { s with heap := (s.heap.push o).push { cls := .type "enumerate", data := .fields #[.none, .bool false, .ref s.heap.objs.size, rawInt 0, .none, .none] } }) :=
  .of_wp fun prog w A R s h => by
    obtain ⟨hp, g, d, tk, os⟩ := s; obtain ⟨h1, h⟩ := h
    have hsub := sub_enumerate
    have q1 : ∀ {A' : Around} {E : Value → Shared → Prop} {Q : Value → Shared → Prop}, Q (.ref hp.objs.size) ⟨hp.push o, g, d, tk, os⟩ → wpAny (model prog w) A' (pyIter v) Q E ⟨hp, g, d, tk, os⟩ :=
      fun q => B.iter prog w _ _ ⟨hp, g, d, tk, os⟩ _ h1 q
    wp_walk using q1
    refine wpAny_stack_any fun st => wpAny_pure ?_
    split
    · rename_i c _ _ _ _ _
      cases (c == Value.type "enumerate")
      · wp_walk using q1
        exact ⟨_, rfl, h⟩
      · wp_walk using q1
        exact ⟨_, rfl, h⟩
    · wp_walk using q1
      exact ⟨_, rfl, h⟩
theorem enum_begins1 {prog : Program} {w : World} {A : Around} {E : Value → Shared → Prop} {s : Shared} {v : Value} {o : Obj} {H : Heap → Prop} {Q : Value → Shared → Prop} (B : Begins v o H) (h1 : H s.heap)
    (h : ∀ h', IsEnum h' (s.heap.objs.size + 1) s.heap.objs.size 0 .none → h'.get? s.heap.objs.size = some o → h'.objs.size = s.heap.objs.size + 2 →
      (∀ b o, s.heap.get? b = some o → h'.get? b = some o) → Q (.ref (s.heap.objs.size + 1)) { s with heap := h' }) :
    wpAny (model prog w) A (call (.type "enumerate") [v]) Q E s := by
  refine callType_new F.called_enumerate (by decide) (F.typeCall_enumerate_1 _) (F.newCall_enumerate_1 _) (fun obj => F.args_object_init_2 obj _) F.entry_enumerate_new
    (meets_enum1 B) ⟨h1, ?_⟩
  have hz : (s.heap.push o).objs.size = s.heap.objs.size + 1 := Heap.size_push ..
  show _ ∧ _
  rw [hz]
  have he : IsEnum ((s.heap.push o).push { cls := .type "enumerate", data := .fields #[.none, .bool false, .ref s.heap.objs.size, rawInt 0, .none, .none] }) (s.heap.objs.size + 1) s.heap.objs.size 0 .none := by
    have := Heap.get?_push_size (s.heap.push o) (o := { cls := .type "enumerate", data := .fields #[.none, .bool false, .ref s.heap.objs.size, rawInt 0, .none, .none] }) rfl
    rw [hz] at this; exact this
  refine ⟨⟨_, he, rfl⟩, h _ he (Heap.get?_push_of_some _ (Heap.get?_push_size _ B.free)) (by rw [Heap.size_push, hz]) fun b o x => Heap.get?_push_of_some _ (Heap.get?_push_of_some _ x)⟩
end Z


set_option Elab.async false
set_option linter.all false
set_option maxRecDepth 100000
/-! for .. in enumerate(a list or a tuple) -/
namespace Z
open PySem PySem.Spec PyProof.Rows L2

def iEnumB (b : Bool) (K : PySem.W.Frag) (ta : TA) : TI := fun σ H R => ta σ H fun vs H1 => ∃ a xs, vs = [.ref a] ∧ SqB b K H1 a xs ∧ R (IteB b K a) H1
section
variable {X : Cx} {e l : Expr} {ta : TA} {p pos tpos : Pos} {elts : List Expr} {kk : Nat} {q : Bool} {ml : Den}
theorem pi_enumB (b : Bool) (hg : Gl X "enumerate") (hm : X.mg "enumerate" = none) (ha : PA X [e] ta) (hs : starEach [e] X.env = [(false, eval e X.env)] := by rfl) :
    PI X (.Tuple elts kk tpos) (.Call (.Name "enumerate" p) [e] [] pos) (iEnumB b X.K ta) := by
  refine ⟨fun pins s σ H R I h => ?_⟩
  refine Call_ (ld_blt I hg hm boot_enumerate (PyProof.Rows.callWith_type1 (thn (ha.run pos pins s σ H _ I h) fun us s1 ⟨vs, H1, I1, r1, q1⟩ => ?_) hs rfl))
  obtain ⟨a, xs, ex, hq, q⟩ := q1
  subst ex
  cases r1 with
  | cons r rr =>
    cases rr
    cases r
    obtain ⟨its, rv, p', hz⟩ := inv_b I1 hq
    have hal := lt_of_isB p'
    refine enum_begins1 (begins_b b a its.toArray) p' fun h' he hit hsz hk => wpAny_pyIter_enum he ?_
    have I2 : Inv X pins σ H1 { s1 with heap := h' } := I1.kept (t' := s1.toks) hk
    refine ⟨s1.heap.objs.size + 1, [s1.heap.objs.size + 1, s1.heap.objs.size], _, _, H1, rfl, I2, turn_enumB b a (s1.heap.objs.size + 1) s1.heap.objs.size (Nat.succ_ne_self _) (Nat.ne_of_lt (Nat.lt_succ_of_lt hal)) (Nat.ne_of_lt hal), ⟨⟨.none, he⟩, isBI_new hit⟩, fun c hc => ?_, q⟩
    have e' : c = s1.heap.objs.size + 1 ∨ c = s1.heap.objs.size := by simpa using hc
    have hle : s1.heap.objs.size ≤ c := by
      rcases e' with z | z
      · rw [z]; exact Nat.le_add_right _ _
      · rw [z]; exact Nat.le_refl _
    exact I1.fpOk hle (I1.hok.fresh hle)
/-- the items with their places -/
def enumD (k : Nat) : List D → List D
  | [] => []
  | x :: xs => .tup [.int k, x] :: enumD (k + 1) xs
theorem enumD_len : ∀ (k : Nat) (xs : List D), (enumD k xs).length = xs.length
  | _, [] => rfl
  | k, x :: xs => by simp [enumD, enumD_len (k + 1) xs]
theorem enumD_get : ∀ (k : Nat) (xs : List D) (i : Nat), (enumD k xs)[i]? = (xs[i]?).map fun x => .tup [.int ((k + i : Nat) : Int), x]
  | _, [], i => by simp [enumD]
  | k, x :: xs, 0 => by simp [enumD]
  | k, x :: xs, i + 1 => by
    simp only [enumD, List.getElem?_cons_succ, enumD_get (k + 1) xs i]
    rw [show k + 1 + i = k + (i + 1) by omega]
def sEnum (m : Den) : DenS := fun δ => match m δ with
  | some (.own (.tup xs), δ') => if D.imms xs then some (⟨enumD 0 xs, []⟩, δ') else none
  | some (.own (.lst xs), δ') => if D.imms xs then some (⟨enumD 0 xs, []⟩, δ') else none
  | some (.own (.frz xs), δ') => if D.imms xs then some (⟨enumD 0 xs, []⟩, δ') else none
  | some (.at i [], δ') => match δ'[i]? with
    | some (some (.lst xs)) => if D.imms xs then some (⟨enumD 0 xs, [(i, .lst xs)]⟩, δ') else none
    | _ => none
  | _ => none
theorem src_enum {K : Fw} {σ : L2.St} {H : Hp} {ov : List Addr} {xs : List D} {gs : List (Nat × D)} {a : Addr} {b : Bool}
    (h : ∀ H', (∀ a ∈ ov, H' a = H a) → (∀ a u, H a = some u → Sh u → H' a = some u) → (∀ p ∈ gs, ∃ v o, σ[p.1]? = some (some v) ∧ Rep K H' p.2 v o) → ∃ vs, SqB b K H' a vs ∧ Reps K H' xs vs []) : SrcOk K σ ⟨enumD 0 xs, gs⟩ (IteB b K a) H ov := fun i H' h1 h2 h3 => by
  obtain ⟨vs, hq, r⟩ := h H' h1 h2 h3
  refine ⟨fun x hx => ?_, fun hl => ⟨vs, hq, by rw [r.length]; simpa [enumD_len] using hl⟩⟩
  rw [enumD_get] at hx
  cases hy : xs[i]? with
  | none => rw [hy] at hx; simp at hx
  | some y =>
    rw [hy] at hx
    simp only [Option.map_some, Option.some.injEq, Nat.zero_add] at hx
    subst hx
    obtain ⟨v, hv, rv⟩ := item_of r hy
    refine ⟨⟨vs, v, hq, hv⟩, fun w H'' hw => ?_⟩
    obtain ⟨T, x, rfl, hT, rfl, hx⟩ := hw
    have := hx vs hq
    rw [hv] at this; cases this
    have keep : ∀ c u, H' c = some u → upd H' T (.tup [.int (i : Nat), v]) c = some u := fun c u e => by
      rw [upd_ne (ne_of_none e hT)]; exact e
    refine ⟨keep, T, [.int (i : Nat), v], rfl, .inl (.inl upd_same), ?_⟩
    exact ⟨.int (i : Nat), [v], [], [], rfl, ⟨rfl, rfl⟩, ⟨v, [], [], [], rfl, rv.fr (fr_of (fun a ha => nomatch ha) fun c u e _ => keep c u e), ⟨rfl, rfl⟩, rfl⟩, rfl⟩
theorem sEnum_inv {δ δ' : DE} {src : Src} (h : sEnum ml δ = some (src, δ')) : (∃ xs, ml δ = some (.own (.tup xs), δ') ∧ D.imms xs = true ∧ src = ⟨enumD 0 xs, []⟩) ∨ (∃ xs, ml δ = some (.own (.lst xs), δ') ∧ D.imms xs = true ∧ src = ⟨enumD 0 xs, []⟩) ∨
    (∃ xs, ml δ = some (.own (.frz xs), δ') ∧ D.imms xs = true ∧ src = ⟨enumD 0 xs, []⟩) ∨ (∃ i xs, ml δ = some (.at i [], δ') ∧ δ'[i]? = some (some (.lst xs)) ∧ D.imms xs = true ∧ src = ⟨enumD 0 xs, [(i, .lst xs)]⟩) := by
  unfold sEnum at h
  split at h
  · split at h
    · simp only [Option.some.injEq, Prod.mk.injEq] at h; obtain ⟨rfl, rfl⟩ := h; exact .inl ⟨_, by assumption, by assumption, rfl⟩
    · cases h
  · split at h
    · simp only [Option.some.injEq, Prod.mk.injEq] at h; obtain ⟨rfl, rfl⟩ := h; exact .inr (.inl ⟨_, by assumption, by assumption, rfl⟩)
    · cases h
  · split at h
    · simp only [Option.some.injEq, Prod.mk.injEq] at h; obtain ⟨rfl, rfl⟩ := h; exact .inr (.inr (.inl ⟨_, by assumption, by assumption, rfl⟩))
    · cases h
  · split at h
    · split at h
      · simp only [Option.some.injEq, Prod.mk.injEq] at h; obtain ⟨rfl, rfl⟩ := h; exact .inr (.inr (.inr ⟨_, _, by assumption, by assumption, by assumption, rfl⟩))
      · cases h
    · cases h
  · cases h
theorem z_enum (hg : Gl X "enumerate") (hm : X.mg "enumerate" = none) (hl : PE X l (T (kx X) q ml)) (hs : starEach [l] X.env = [(false, eval l X.env)] := by rfl) (hs1 : starEach [l] X.env = (false, eval l X.env) :: starEach [] X.env := by rfl) :
    PI X (.Tuple elts kk tpos) (.Call (.Name "enumerate" p) [l] [] pos) (TIm (kx X) q (sEnum ml)) := ⟨fun pins s σ H R I hw => by
  obtain ⟨δ, o, src, δ', E, n, h, k⟩ := hw
  rcases sEnum_inv h with ⟨xs, e, hi, rfl⟩ | ⟨xs, e, hi, rfl⟩ | ⟨xs, e, hi, rfl⟩ | ⟨i, xs, e, hd, hi, rfl⟩
  · refine (PI.ok (pi_enumB false hg hm (pa_cons hl pa_nil hs1) hs)).run pins s σ H R I ⟨δ, o, _, δ', E, n, e, fun v H1 o1 ov P => ?_⟩
    obtain ⟨a, vs, rfl, hq, r⟩ := P.held
    have := r.imm hi; subst this
    exact ⟨a, vs, rfl, hq, fun hz => k _ H1 o1 [] P.step P.env P.own (fun a ha => nomatch ha) (src_enum fun H' h1 h2 h3 => ⟨vs, (fr_of h1 h2).sqt hq, r.fr (fr_of h1 h2)⟩) (by rw [enumD_len, ← r.length]; exact hz.2 _ _ hq)⟩
  · refine (PI.ok (pi_enumB true hg hm (pa_cons hl pa_nil hs1) hs)).run pins s σ H R I ⟨δ, o, _, δ', E, n, e, fun v H1 o1 ov P => ?_⟩
    obtain ⟨a, vs, o', rfl, hq, r, rfl⟩ := P.held
    have := r.imm hi; subst this
    refine ⟨a, vs, rfl, .of hq, fun hz => k _ H1 o1 [a] P.step P.env P.own (fun b hb => by rw [List.mem_singleton.mp hb]; exact ⟨_, hq, ow_lst⟩) (src_enum fun H' h1 h2 h3 => ⟨vs, .of ((h1 a List.mem_cons_self).trans hq), r.fr ((fr_of h1 h2).sub fun b hb => nomatch hb)⟩) (by rw [enumD_len, ← r.length]; exact hz.1 _ _ (.of hq))⟩
  · refine (PI.ok (pi_enumB true hg hm (pa_cons hl pa_nil hs1) hs)).run pins s σ H R I ⟨δ, o, _, δ', E, n, e, fun v H1 o1 ov P => ?_⟩
    obtain ⟨a, vs, rfl, hq, r, rfl⟩ := P.held
    exact ⟨a, vs, rfl, hq.sq, fun hz => k _ H1 o1 [] P.step P.env P.own (fun a ha => nomatch ha) (src_enum fun H' h1 h2 h3 => ⟨vs, ((fr_of h1 h2).fz hq).sq, r.fr (fr_of h1 h2)⟩) (by rw [enumD_len, ← r.length]; exact hz.1 _ _ hq.sq)⟩
  · refine (PI.ok (pi_enumB true hg hm (pa_cons hl pa_nil hs1) hs)).run pins s σ H R I ⟨δ, o, _, δ', E, n, e, fun v H1 o1 ov P => ?_⟩
    obtain ⟨rfl, u, hu, hp⟩ := P.held
    cases (show v = u from hp)
    obtain ⟨v0, oa, oi, ob, hv0, rd, e0, _, _⟩ := P.env.at hd
    rw [hu] at hv0; cases hv0
    obtain ⟨a, vs, o', rfl, hq, r, _⟩ := rd
    refine ⟨a, vs, rfl, .of hq, fun hz => k _ H1 o1 [] P.step P.env P.own (fun b hb => nomatch hb) (src_enum fun H' h1 h2 h3 => ?_) (by rw [enumD_len, ← r.length]; exact hz.1 _ _ (.of hq))⟩
    obtain ⟨v2, o2, hv2, r2⟩ := h3 _ List.mem_cons_self
    rw [hu] at hv2; cases hv2
    obtain ⟨a2, vs2, o2', e2, hq2, rr2, _⟩ := r2
    cases e2
    have := rr2.imm hi; subst this
    exact ⟨vs2, .of hq2, rr2⟩⟩
end
end Z


set_option Elab.async false
set_option linter.all false
set_option maxRecDepth 100000
/-! unary minus -/
namespace Z
open PySem PySem.Spec PyProof.Rows L2
def fNeg : List D → Option D
  | [.int i] => some (.int (-i))
  | _ => none
section
variable {X : Cx}
theorem o_neg : UnR X (unaryOp .USub) fun x => Pr X.F fNeg [x] := by
  intro pins s σ H x v Q I rx h
  obtain ⟨ds, o, d, r, e, k0, _⟩ := pr_end h
  cases ds with
  | nil => simp [fNeg] at e
  | cons a l =>
    cases l with
    | cons b l => cases a <;> simp [fNeg] at e
    | nil =>
      cases a <;> simp [fNeg] at e
      rename_i i
      subst e
      obtain ⟨w, vr, o1, o2, h1, h2, h3, rfl⟩ := r
      simp only [List.cons.injEq] at h1
      obtain ⟨rfl, rfl⟩ := h1
      obtain ⟨rfl, _⟩ := h2
      exact un_neg pins s σ H _ v Q I rx ⟨i, rfl, k0 _ ⟨rfl, rfl⟩⟩
end
end Z


set_option Elab.async false
set_option linter.all false
set_option maxRecDepth 100000
/-! zip of two or three lists or tuples -/
namespace Z
open PySem PySem.Spec PyProof.Rows L2
structure Zs2 (z TI TO i1 i2 a1 a2 : Addr) : Prop where
  s : ZipSep2 z TI TO i1 i2 [i1, a1] [i2, a2]
  n1 : a1 ≠ i1
  n2 : a2 ≠ i2
end Z


set_option Elab.async false
set_option linter.all false
set_option maxRecDepth 100000
/-! for .. in zip(..) -/
namespace Z
open PySem PySem.Spec PyProof.Rows L2
section
variable {K : Fw} {κ : Kx} {H : Hp} {σ : L2.St} {δ : DE} {o : List Addr}
end
section
variable {X : Cx} {e e2 : Expr} {ta : TA} {p pos tpos : Pos} {elts : List Expr} {kk : Nat} {q : Bool} {ml : DE → Option (List R × DE)}
end
end Z


set_option Elab.async false
set_option linter.all false
set_option maxRecDepth 100000
/-! zip of three -/
namespace Z
open PySem PySem.Spec PyProof.Rows L2
structure Zs3 (z TI TO i1 i2 i3 a1 a2 a3 : Addr) : Prop where
  s : ZipSep3 z TI TO i1 i2 i3 [i1, a1] [i2, a2] [i3, a3]
  n1 : a1 ≠ i1
  n2 : a2 ≠ i2
  n3 : a3 ≠ i3
section
variable {X : Cx} {e e2 e3 : Expr} {ta : TA} {p pos tpos : Pos} {elts : List Expr} {kk : Nat} {q : Bool} {ml : DE → Option (List R × DE)}
end
end Z


set_option Elab.async false
set_option linter.all false
set_option maxRecDepth 100000
/-! methods that change a list of data that cannot be changed -/
namespace Z
open PySem PySem.Spec PyProof.Rows L2
/-- what a method makes of a list and its arguments: the list behind it, the answer -/
abbrev MethD := List D → List D → Option (List D × D)
structure MethR (K : Fw) (r : V → List V → Hp → VK → Prop) (g : MethD) : Prop where
  run : ∀ (l : Addr) (vs us : List V) (H : Hp) (Q : VK) (xs ds xs' : List D) (d : D), D.imms xs = true → D.imms ds = true → g xs ds = some (xs', d) → Reps K H xs vs [] → Reps K H ds us [] → H l = some (.lst vs) →
    (∀ vs' w, Reps K H xs' vs' [] → Rep K H d w [] → Q w (upd H l (.lst vs'))) → r (.ref l) us H Q
section
variable {X : Cx} {eo e : Expr} {es : List Expr} {qo qe : Bool} {mo : Den} {ma : DE → Option (List R × DE)} {g : MethD} {r : V → List V → Hp → VK → Prop} {apos cpos : Pos}
end
/-! ### pop, remove -/
section
variable {X : Cx} {eo e : Expr} {qo qe : Bool} {mo : Den} {ma : DE → Option (List R × DE)} {apos cpos : Pos}
end
end Z


set_option Elab.async false
set_option linter.all false
set_option maxRecDepth 100000
/-! a < b < c -/
namespace Z
open PySem PySem.Spec PyProof.Rows L2
section
variable {κ : Kx} {σ : L2.St} {H : Hp} {Q : VK} {f1 f2 : List D → Option D} {ma mb mc : Den}
end
section
variable {X : Cx} {a b c : Expr} {pos : Pos} {f1 f2 : List D → Option D} {ma mb mc : Den} {op op' : CmpOp}
end
end Z


set_option Elab.async false
set_option linter.all false
set_option maxRecDepth 100000
/-! list.index, list.remove -/
namespace Z
open PySem PySem.Spec PyProof.Rows L2
section
variable {X : Cx} {eo e : Expr} {qo qe : Bool} {mo : Den} {ma : DE → Option (List R × DE)} {apos cpos : Pos}
end
/-! remove: numbers alone -/
section
variable {X : Cx} {eo e : Expr} {qo qe : Bool} {mo : Den} {ma : DE → Option (List R × DE)} {apos cpos : Pos}
end
end Z


set_option Elab.async false
set_option linter.all false
set_option maxRecDepth 100000
/-! len(set(..)) -/
namespace Z
open PySem PySem.Spec PyProof.Rows L2
section
variable {X : Cx} {e : Expr} {q : Bool} {m : Den} {p p2 pos pos2 : Pos}
end
end Z


set_option Elab.async false
set_option linter.all false
set_option maxRecDepth 100000
set_option maxHeartbeats 1000000
/-! sets whose members are rows: the table -/
namespace Z
open PySem PySem.Spec PyProof.Rows L2
/-- v is the row k -/
structure NK (h : Heap) (k : NestedKey) (v : Value) : Prop where
  is : NestedIs h k v
  dp : k.depth ≤ 8
  ref : ∃ a, v = .ref a
section
variable {P : Program} {w : World} {A : Around} {E : Value → Shared → Prop} {s : Shared}
/-- what is stored of a member -/
def cellOf (w : World) (p : NestedKey × Value) : Int × Value := (p.1.hash w, p.2)
/-- the set at a has the members L, in the order of its table -/
structure NSet (w : World) (h : Heap) (a : Addr) (L : List (NestedKey × Value)) (es : Array (Int × Value)) (ep : Nat) (t : SetTable) : Prop where
  obj : ∃ o, h.get? a = some o ∧ o.ExactSet ∧ o.data = .set es ep t
  cells : es.toList = L.map (cellOf w)
  tab : TabOk t (L.map fun p => p.1.hash w)
  nodup : (L.map (·.1)).Nodup
  mem : ∀ p ∈ L, NK h p.1 p.2
  led : w.params.followText "set-order" = true ∨ t.led = true
  room : L.length * 5 < t.mask * 3
  few : L.length < 64
variable {a : Addr} {L : List (NestedKey × Value)} {es : Array (Int × Value)} {ep : Nat} {t : SetTable}
theorem NSet.size (S : NSet w s.heap a L es ep t) : es.size = L.length := by rw [← Array.length_toList, S.cells, List.length_map]
theorem fits_of_tab {t : SetTable} {hs : List Int} {n : Nat} (T : TabOk t hs) (hn : n = hs.length) (hl : n ≤ t.mask) : t.fits n = true := by
  have h1 := T.sz
  simp only [SetTable.fits, SetTable.fill, T.dm, Bool.and_eq_true, beq_iff_eq, decide_eq_true_eq, Array.size_empty, Nat.add_zero]
  omega
theorem NSet.fits (S : NSet w s.heap a L es ep t) : t.fits es.size = true := fits_of_tab S.tab (by rw [S.size, List.length_map]) (by rw [S.size]; have := S.room; omega)
end
end Z


set_option Elab.async false
set_option linter.all false
set_option maxRecDepth 100000
set_option maxHeartbeats 1000000
/-! sets whose members are rows: adding -/
namespace Z
open PySem PySem.Spec PyProof.Rows L2
section
variable {P : Program} {w : World} {A : Around} {E : Value → Shared → Prop} {s : Shared} {a : Addr} {L : List (NestedKey × Value)} {es : Array (Int × Value)} {ep : Nat} {t : SetTable}
end
end Z


set_option Elab.async false
set_option linter.all false
set_option maxRecDepth 100000
set_option maxHeartbeats 4000000
/-! set(..) of a sequence of rows -/
namespace Z
open PySem PySem.Spec PyProof.Rows L2
mutual
theorem dNK_inj : ∀ (a b : D), a.nol = true → b.nol = true → a.cl = true → b.cl = true → dNK a = dNK b → a = b
  | .non, b, _, hb, _, cb, e => by cases b <;> simp_all [dNK, D.nol, D.cl]
  | .int i, b, _, hb, _, cb, e => by cases b <;> simp_all [dNK, D.nol, D.cl]
  | .str i, b, _, hb, _, cb, e => by cases b <;> simp_all [dNK, D.nol, D.cl]
  | .bl i, b, _, hb, ca, cb, e => by simp [D.cl] at ca
  | .tup xs, b, ha, hb, ca, cb, e => by
    cases b with
    | tup ys =>
      simp only [dNK, NestedKey.tup.injEq] at e
      rw [dNKs_inj xs ys ha hb ca cb e]
    | _ => simp_all [dNK, D.nol, D.cl]
  | .lst _, _, ha, _, _, _, _ => by cases ha
  | .frz _, _, ha, _, _, _, _ => by cases ha
  | .dic _ _, _, ha, _, _, _, _ => by cases ha
  | .obj _ _ _, _, ha, _, _, _, _ => by cases ha
theorem dNKs_inj : ∀ (a b : List D), D.nols a = true → D.nols b = true → D.cls a = true → D.cls b = true → dNKs a = dNKs b → a = b
  | [], [], _, _, _, _, _ => rfl
  | [], _ :: _, _, _, _, _, e => by simp [dNKs] at e
  | _ :: _, [], _, _, _, _, e => by simp [dNKs] at e
  | x :: xs, y :: ys, ha, hb, ca, cb, e => by
    simp only [D.nols, Bool.and_eq_true] at ha hb
    simp only [D.cls, Bool.and_eq_true] at ca cb
    simp only [dNKs, List.cons.injEq] at e
    rw [dNK_inj x y ha.1 hb.1 ca.1 cb.1 e.1, dNKs_inj xs ys ha.2 hb.2 ca.2 cb.2 e.2]
end
mutual
theorem dNK_depth : ∀ (a : D), (dNK a).depth ≤ a.dp
  | .non => by simp [dNK, NestedKey.depth]
  | .int i => by simp [dNK, NestedKey.depth]
  | .str i => by simp [dNK, NestedKey.depth]
  | .bl i => by simp [dNK, NestedKey.depth]
  | .tup xs => by simp only [dNK, NestedKey.depth, D.dp]; have := dNKs_depth xs; omega
  | .lst _ => by simp [dNK, NestedKey.depth]
  | .frz _ => by simp [dNK, NestedKey.depth]
  | .dic _ _ => by simp [dNK, NestedKey.depth]
  | .obj _ _ _ => by simp [dNK, NestedKey.depth]
theorem dNKs_depth : ∀ (a : List D), NestedKey.depthAll (dNKs a) ≤ D.dps a
  | [] => by simp [dNKs, NestedKey.depthAll]
  | x :: xs => by simp only [dNKs, NestedKey.depthAll, D.dps]; have := dNK_depth x; have := dNKs_depth xs; omega
end
mutual
theorem nested_reads {h : Heap} : ∀ (d : D) (u : Value) (as : List Addr), d.nol = true → Reads h u (toPy d) as → NestedIs h (dNK d) u
  | .non, u, as, _, r => by simp only [toPy] at r; cases r; exact .none
  | .int i, u, as, _, r => by simp only [toPy] at r; cases r; exact .int _ _
  | .str i, u, as, _, r => by simp only [toPy] at r; cases r; exact .text _ _
  | .bl i, u, as, _, r => by simp only [toPy] at r; cases r; exact .bool rfl
  | .tup xs, u, as, n, r => by
    simp only [toPy] at r
    cases r with
    | tuple h1 h2 h3 h4 => exact .tup h1 h2 h3 (nested_readsAll xs _ _ n h4)
  | .lst _, _, _, n, _ => by cases n
  | .frz _, _, _, n, _ => by cases n
  | .dic _ _, _, _, n, _ => by cases n
  | .obj _ _ _, _, _, n, _ => by cases n
theorem nested_readsAll {h : Heap} : ∀ (ds : List D) (us : List Value) (as : List Addr), D.nols ds = true → ReadsAll h us (toPys ds) as → NestedAll h (dNKs ds) us
  | [], us, as, _, r => by simp only [toPys] at r; cases r; exact .nil
  | x :: xs, us, as, n, r => by
    simp only [toPys] at r
    simp only [D.nols, Bool.and_eq_true] at n
    cases r with
    | cons h1 h2 => exact .cons (nested_reads x _ _ n.1 h1) (nested_readsAll xs _ _ n.2 h2)
end
/-- of the first i items all are members, and nothing else is -/
structure GotN (ks : List NestedKey) (vs : List Value) (i : Nat) (L : List (NestedKey × Value)) : Prop where
  few : L.length ≤ i
  mem : ∀ k, k ∈ L.map (·.1) ↔ k ∈ ks.take i
  val : ∀ p ∈ L, ∃ j : Nat, ks[j]? = some p.1 ∧ vs[j]? = some p.2
section
variable {P : Program} {w : World} {A : Around} {E : Value → Shared → Prop} {s : Shared}
end
end Z


set_option Elab.async false
set_option linter.all false
set_option maxRecDepth 100000
set_option maxHeartbeats 1000000
/-! sorted(set(..)), len(set(..)) of rows -/
namespace Z
open PySem PySem.Spec PyProof.Rows L2
def isTup : D → Bool
  | .tup _ => true
  | _ => false
def keyT (d : D) : Bool := isTup d && d.nol && d.cl && decide (d.dp ≤ 8)
section
variable {X : Cx} {e : Expr} {q : Bool} {m : Den} {p p2 pos pos2 : Pos}
end
end Z


set_option Elab.async false
set_option linter.all false
set_option maxRecDepth 100000
/-! sorted(set(..)), len(set(..)) of numbers, texts or rows -/
namespace Z
open PySem PySem.Spec PyProof.Rows L2
section
variable {X : Cx} {e : Expr} {q : Bool} {m : Den} {p p2 pos pos2 : Pos}
end
end Z


set_option Elab.async false
set_option linter.all false
set_option maxRecDepth 100000
/-! min, max of two data of any kind -/
namespace PySem
open PyProof.Rows
section
variable {prog : Program} {w : World} {A : Around} {E : Value → Shared → Prop} {s : Shared}

end
end PySem
namespace Z
open PySem PySem.Spec PyProof.Rows L2

end Z


set_option Elab.async false
set_option linter.all false
set_option maxRecDepth 100000
set_option maxHeartbeats 1000000
/-! comprehensions with two clauses -/
namespace Z
open PySem PySem.Spec PyProof.Rows L2
/-- a list under making at L, and all that is owned -/
structure BS (κ : Kx) (H1 : Hp) (ow : List Addr) (L : Addr) (σ : L2.St) (H' : Hp) (accV : List V) (accD : List D) (oacc : List Addr) (δ : DE) (o : List Addr) : Prop where
  list : H' L = some (.lst accV)
  reps : Reps κ.K H' accD accV oacc
  env : Envs κ H' σ δ o
  step : Step H1 H' ow
  own : Own H1 ow (L :: (oacc ++ o))
section
variable {κ : Kx} {H1 H3 H5 : Hp} {ow : List Addr} {L : Addr} {σ : L2.St} {accV : List V} {accD : List D} {oacc : List Addr} {δ : DE} {o3 : List Addr}
theorem BS.nd (B : BS κ H1 ow L σ H3 accV accD oacc δ o3) (n : Nd ow) : Nd (L :: (oacc ++ o3)) := B.own.nd n
theorem nd_cons {a : Addr} {l : List Addr} (n : Nd (a :: l)) : a ∉ l ∧ Nd l :=
  ⟨fun h => by have := n a; rw [List.count_cons_self] at this; have := List.count_pos_iff.mpr h; omega, fun b => by have := n b; have : l.count b ≤ (a :: l).count b := List.count_le_count_cons; omega⟩
/-- a step of the names' own -/
theorem BS.stay (B : BS κ H1 ow L σ H3 accV accD oacc δ o3) (n : Nd ow) {ov5 o5 : List Addr} (st : Step H3 H5 o3) (w : Own H3 o3 (ov5 ++ o5)) :
    H5 L = some (.lst accV) ∧ Reps κ.K H5 accD accV oacc ∧ Step H1 H5 ow ∧ Own H1 ow (L :: (oacc ++ (ov5 ++ o5))) := by
  obtain ⟨hL, nn⟩ := nd_cons (B.nd n)
  have hLo : L ∉ o3 := fun h => hL (List.mem_append_right _ h)
  refine ⟨st.keep L _ B.list hLo (fun _ z => nomatch z), B.reps.step st B.env.ok (nd_split nn), B.step.trans (B.own.sub fun a => ?_) st, fun a => ?_⟩
  · rw [List.count_cons, List.count_append]; omega
  · have g1 := B.own a
    have g2 := w a
    simp only [List.count_cons, List.count_append] at g1 g2 ⊢
    rcases g2 with g2 | ⟨z, g2⟩
    · rcases g1 with g1 | ⟨z1, g1⟩
      · left; omega
      · right; exact ⟨z1, by omega⟩
    · have h1 : oacc.count a = 0 := List.count_eq_zero.mpr fun hm => by
        obtain ⟨vs, e, how⟩ := B.reps.own a hm
        rw [z] at e; cases e
      have h2 : (L == a) = false := by
        rw [beq_eq_false_iff_ne]
        intro e
        have e : @Eq Nat L a := e
        rw [← e, B.list] at z; cases z
      rw [h2]
      right; exact ⟨B.step.dom a z, by simp; omega⟩
/-- one more at its end -/
theorem BS.push {y : V} {d : D} {oy o5 : List Addr} {δ5 : DE} (n : Nd ow) (g1 : H5 L = some (.lst accV)) (g2 : Reps κ.K H5 accD accV oacc) (g3 : Step H1 H5 ow) (g4 : Own H1 ow (L :: (oacc ++ (oy ++ o5)))) (rd : Rep κ.K H5 d y oy) (E : Envs κ H5 σ δ5 o5) (hL : H1 L = none ∨ L ∈ ow) :
    BS κ H1 ow L σ (upd H5 L (.lst (accV ++ [y]))) (accV ++ [y]) (accD ++ [d]) (oacc ++ oy) δ5 o5 := by
  obtain ⟨hLn, nn⟩ := nd_cons (g4.nd n)
  have wr : Step H5 (upd H5 L (.lst (accV ++ [y]))) [L] := Step.write g1 List.mem_cons_self
  have fr6 : ∀ (l : List Addr), L ∉ l → Fr H5 (upd H5 L (.lst (accV ++ [y]))) l := fun l hl => ⟨fun a ha => upd_ne (fun e => hl (e ▸ ha)), fun a w e hw => by
    have : a ≠ L := fun z => by rw [z, g1] at e; cases e; exact hw
    rw [upd_ne this]; exact e, wr.tab⟩
  have hDo : L ∉ oacc ++ oy := fun hm => hLn (by
    rcases List.mem_append.mp hm with z | z
    · exact List.mem_append_left _ z
    · exact List.mem_append_right _ (List.mem_append_left _ z))
  have hD6 : L ∉ o5 := fun z => hLn (List.mem_append_right _ (List.mem_append_right _ z))
  refine ⟨upd_same, (g2.append (Reps.one rd)).fr (fr6 _ hDo), E.fr (fr6 _ hD6), ⟨fun a u e hn hu => ?_, fun a e => ?_, fun P g => wr.tab P (g3.tab P g)⟩, g4.sub fun a => ?_⟩
  · have : a ≠ L := fun z => by
      rcases hL with hL | hL
      · rw [z, hL] at e; cases e
      · rw [z] at hn; exact hn hL
    rw [upd_ne this]; exact g3.keep a u e hn hu
  · by_cases z : a = L
    · rw [z, upd_same] at e; cases e
    · rw [upd_ne z] at e; exact g3.dom a e
  · simp only [List.count_cons, List.count_append]; omega
/-- the names' own in another stead -/
theorem BS.wipe (B : BS κ H1 ow L σ H3 accV accD oacc δ o3) (vs : List Nat) : ∃ o4, BS κ H1 ow L (L2.wipe σ vs) H3 accV accD oacc (wipeD δ vs) o4 := by
  obtain ⟨o4, E, c⟩ := B.env.wipe vs
  exact ⟨o4, B.list, B.reps, E, B.step, B.own.sub fun a => by have := c a; simp only [List.count_cons, List.count_append]; omega⟩
/-- told from further back -/
theorem BS.back {Hb : Hp} {ob : List Addr} (B : BS κ Hb ob L σ H3 accV accD oacc δ o3) (s : Step H1 Hb ow) (w : Own H1 ow ob) : BS κ H1 ow L σ H3 accV accD oacc δ o3 :=
  ⟨B.list, B.reps, B.env, s.trans w B.step, w.trans s B.own⟩
end
/-! the innermost -/
/-! a loop in it -/
/-! the whole -/
section
variable {X : Cx} {elt tg iter tg1 iter1 : Expr} {ifs ifs1 : List Expr} {q qt q1 qt1 qe : Bool} {ms ms1 : DenS} {b b1 : Bnd} {mt mt1 : DenT} {me : Den} {vs vs1 : List Nat}
end
end Z


set_option Elab.async false
set_option linter.all false
set_option maxRecDepth 100000
/-! a name's list, taken away from it -/
namespace Z
open PySem PySem.Spec PyProof.Rows L2
def dTake (i : Nat) : Den := fun δ => match δ[i]? with
  | some (some d) => if d.imm then some (.own d, δ) else some (.own d, δ.set i none)
  | _ => none
theorem z_take {X : Cx} (i : Nat) {x : Str} {pos : Pos} (hN : X.N[i]? = some x := by rfl) (hv : Vis X.env.scope x := by first | exact Or.inl rfl | exact Or.inr (Or.inl rfl) | exact Or.inr (Or.inr rfl)) (hd : (x == ("__debug__" : Str)) = false := by decide)
    (hcd : (x == ("__classdict__" : Str)) = false := by decide) : PE X (.Name x pos) (T (kx X) false (dTake i)) := by
  refine PE.imp (pe_var hN hv hd hcd) fun σ H Q h => ?_
  obtain ⟨δ, o, r, δ', E, n, hm, q⟩ := h
  simp only [dTake] at hm
  cases hi : δ[i]? with
  | none => rw [hi] at hm; simp at hm
  | some x =>
    cases x with
    | none => rw [hi] at hm; simp at hm
    | some d =>
      rw [hi] at hm
      obtain ⟨v, oa, o1, ob, e1, r1, rfl, _, kn⟩ := E.at hi
      refine ⟨v, e1, ?_⟩
      by_cases hd : d.imm = true
      · simp only [hd, if_true, Option.some.injEq, Prod.mk.injEq] at hm
        obtain ⟨rfl, rfl⟩ := hm
        have := r1.imm hd
        subst this
        exact q v H _ [] ⟨Step.refl _ _, E, r1, own_nil⟩
      · simp only [hd, if_false, Option.some.injEq, Prod.mk.injEq, Bool.false_eq_true] at hm
        obtain ⟨rfl, rfl⟩ := hm
        exact q v H (oa ++ ob) o1 ⟨Step.refl _ _, kn H Fr.rfl, r1, fun a => .inl (by simp only [List.count_append]; omega)⟩
end Z


set_option Elab.async false
set_option linter.all false
set_option maxRecDepth 100000
set_option maxHeartbeats 1000000
/-! x[::-1] -/
namespace PyProof.Rows
open PySem
section
variable {prog : Program} {w : World} {A : Around} {E : Value → Shared → Prop} {s : Shared}
end
end PyProof.Rows
namespace Z
open PySem PySem.Spec PyProof.Rows L2
def RevR (X : Cx) (r : V → Hp → VK → Prop) : Prop :=
  ∀ (pins : List (Addr × Obj)) (s : Shared) (σ : L2.St) (H : Hp) (x : V) (v vk : Value) (sl : Addr) (Q : VK), Inv X pins σ H s → L2.RelV x v → s.heap.IsSliceOf sl .none .none vk → IsPart vk (some (-1)) → r x H Q →
    ∃ T id, typeLookup (.type T) "__getitem__" = pure (some (.builtin id)) ∧ s.TypeIs v T ∧ wpAny (model X.prog X.w) X.A (getItem v (.ref sl)) (EP X pins σ Q) X.xe s
section
variable {X : Cx} {e st : Expr} {te : TE} {p2 pos : Pos}
theorem RevR.or {r r' : V → Hp → VK → Prop} (h : RevR X r) (h' : RevR X r') : RevR X (fun x H Q => r x H Q ∨ r' x H Q) := by
  intro pins s σ H x v vk sl Q I rx hs pk q
  rcases q with q | q
  · exact h pins s σ H x v vk sl Q I rx hs pk q
  · exact h' pins s σ H x v vk sl Q I rx hs pk q
end
end Z


set_option Elab.async false
set_option linter.all false
set_option maxRecDepth 100000
/-! lambdas as keys: the code object, the function, its call -/
namespace Z
open PySem PySem.Spec PyProof.Rows L2

section
variable {X : Cx} {pins : List (Addr × Obj)} {σ : L2.St} {H : Hp} {s : Shared}
/-- a lambda as a value: the function's object f, whose code object has a name -/
structure LamAt (X : Cx) (params : Arguments) (body : Expr) (scope : Scope) (f : Addr) (h : Heap) : Prop where
  ex : ∃ (fd : FuncData) (pm ctv : Value) (c' : Addr) (oc : Obj) (vs : Array Value), h.get? f = some { cls := .type "function", data := .func fd } ∧ fd = PySem.W.kla_fn "<lambda>" (X.env.qual ++ "<lambda>") params body scope (cloFrom X.env.cells scope.names []) pm (.ref c') ctv ∧
    h.get? c' = some oc ∧ oc.data = .fields vs ∧ 1 < vs.size
theorem LamAt.keeps {params : Arguments} {body : Expr} {scope : Scope} {f : Addr} {h h' : Heap} (l : LamAt X params body scope f h) (k : ∀ b o, h.get? b = some o → h'.get? b = some o) : LamAt X params body scope f h' := by
  obtain ⟨fd, pm, ctv, c', oc, vs, e1, e2, e3, e4, e5⟩ := l
  exact ⟨fd, pm, ctv, c', oc, vs, k _ _ e1, e2, k _ _ e3, e4, e5⟩
end
end Z
namespace Z
open PySem PySem.Spec PyProof.Rows L2

/-- a lambda's frame, called with u -/
structure LF (X : Cx) (scope : Scope) (s0 s : Shared) (env : Env) (v : Str) (u : Value) : Prop where
  sc : env.scope = scope
  kind : scope.kind = .function
  vl : scope.names.lookup v = some .local
  ns : ∃ m, s.heap.Ns env.locals m ∧ m v = some u
  glob : env.globals = mainGlobals
  blt : env.builtins = builtinsNs
  cells : env.cells = cloFrom X.env.cells scope.names []
  keep : ∀ b o, s0.heap.get? b = some o → s.heap.get? b = some o
theorem LF.keeps {X : Cx} {scope : Scope} {s0 s : Shared} {env : Env} {v : Str} {u : Value} {h' : Heap} {tk : Nat} (l : LF X scope s0 s env v u) (k : ∀ b o, s.heap.get? b = some o → h'.get? b = some o) : LF X scope s0 { s with heap := h', toks := tk } env v u :=
  ⟨l.sc, l.kind, l.vl, let ⟨m, a, b⟩ := l.ns; ⟨m, a.keeps k, b⟩, l.glob, l.blt, l.cells, fun b o e => k b o (l.keep b o e)⟩
section
variable {X : Cx} {scope : Scope} {v : Str}
end
end Z

namespace Z
open PySem PySem.Spec PyProof.Rows L2
section
variable {prog : Program} {w : World} {A : Around} {R : Result → Shared → Prop} {s : Shared}
end
/-- the names of a lambda with one parameter -/
structure LamSc (X : Cx) (scope : Scope) (v : Str) : Prop where
  kind : scope.kind = .function
  co : scope.isCoroutine = false
  gen : scope.isGenerator = false
  cell : ∀ y ∈ scope.names, y.2 ≠ .cell
  vl : scope.names.lookup v = some .local
  free : ∀ y ∈ scope.names, y.2 = .free → X.env.scope.names.lookup y.1 = some .cell ∨ X.env.scope.names.lookup y.1 = some .free
theorem LamSc.has {X : Cx} {scope : Scope} {v : Str} (L : LamSc X scope v) (ok : X.Ok) : ∀ y ∈ scope.names, y.2 = .free → ∃ c, X.env.cells.lookup y.1 = some c := fun y hy e => by
  rcases L.free y hy e with k | k
  · exact ok.has _ (.inl k)
  · exact ok.has _ (.inr k)
section
variable {X : Cx} {pins : List (Addr × Obj)} {σ : L2.St} {H : Hp} {s0 s : Shared}
end
end Z


set_option Elab.async false
set_option linter.all false
set_option maxRecDepth 100000
/-! sorted(xs, key=lambda v: ..) of a list -/
namespace Z
open PySem PySem.Spec PyProof.Rows L2

section
variable {X : Cx}
end
section
variable {X : Cx} {scope : Scope} {v : Str}
end
end Z


set_option Elab.async false
set_option linter.all false
set_option maxRecDepth 100000
/-! sum of a list, of a tuple, of a generator expression -/
namespace Z
open PySem PySem.Spec PyProof.Rows L2

def intsD : List D → Option (List Int)
  | [] => some []
  | .int i :: r => match intsD r with
    | some is => some (i :: is)
    | none => none
  | _ => none
theorem intsD_eq : ∀ {ds : List D} {is : List Int}, intsD ds = some is → ds = is.map .int
  | [], is, h => by cases (Option.some.inj h : [] = is); rfl
  | d :: r, is, h => by
    cases d <;> simp only [intsD, reduceCtorEq] at h
    rename_i i
    cases h1 : intsD r with
    | none => rw [h1] at h; simp at h
    | some ks =>
      rw [h1] at h
      cases (Option.some.inj h)
      rw [intsD_eq h1]; rfl
theorem intsD_map : ∀ is : List Int, intsD (is.map .int) = some is
  | [] => rfl
  | i :: r => by simp only [List.map_cons, intsD, intsD_map r]
theorem reps_ints {K : Fw} {H : Hp} : ∀ {is : List Int} {vs : List V} {o : List Addr}, Reps K H (is.map .int) vs o → vs = is.map .int ∧ o = []
  | [], _, _, h => h
  | i :: r, _, _, h => by
    obtain ⟨v, vr, o1, o2, rfl, ⟨rfl, rfl⟩, h2, rfl⟩ := h
    obtain ⟨rfl, rfl⟩ := reps_ints h2
    exact ⟨rfl, rfl⟩
section
variable {prog : Program} {w : World} {A : Around} {E : Value → Shared → Prop} {s : Shared} {l : Addr}
end
section
variable {X : Cx}
end
section
variable {X : Cx} {pins : List (Addr × Obj)} {σ : L2.St} {δ : DE} {o : List Addr} {Hx : Hp} {A : Around} {a : Addr}
end
end Z


set_option Elab.async false
set_option linter.all false
set_option maxRecDepth 100000
/-! sum of a generator expression -/
namespace Z
open PySem PySem.Spec PyProof.Rows L2
section
variable {X : Cx} {k : Nat}
end
end Z


set_option Elab.async false
set_option linter.all false
set_option maxRecDepth 100000
/-! a < b < c as a test; x, y = a, b -/
namespace Z
open PySem PySem.Spec PyProof.Rows L2
section
variable {X : Cx} {a b c : Expr} {pos : Pos} {f1 f2 : List D → Option D} {ma mb mc : Den} {op op' : CmpOp}
end
section
variable {X : Cx} {kp : Nat → Bool} {pos : Pos} {q : Bool} {m : DE → Option (List R × DE)}
end
end Z


set_option Elab.async false
set_option linter.all false
set_option maxRecDepth 100000
/-! min, max of a generator expression that hands out ints -/
namespace Z
open PySem PySem.Spec PyProof.Rows L2
theorem _root_.PySem.wpAny_gt_int {prog : Program} {w : World} {A : Around} {E : Value → Shared → Prop} {s : Shared} {a b : Int} {t u : Tok} {Q : Value → Shared → Prop} (h : Q (.bool (decide (b < a))) s) : wpAny (model prog w) A (richCompare .Gt (.int a t) (.int b u)) Q E s :=
  PyProof.Rows.gt_int h

/-- the greater of two, and what the walk holds -/
def maxI (a y : Int) : Int := if a < y then y else a
def maxH : List Int → List D
  | [] => []
  | x :: r => [.int (r.foldl maxI x), .int (r.foldl maxI x)]
def fmaxG (r : List D) : Option D := match intsD r with
  | some (x :: is) => some (.int (is.foldl maxI x))
  | _ => none
section
variable {X : Cx} {pins : List (Addr × Obj)} {σ : L2.St} {δ : DE} {o : List Addr} {Hx : Hp} {A : Around} {a : Addr}
theorem max_loop (kw : List (Str × Value)) {R : Result → Shared → Prop} {is : List Int} {S0 : Addr} (hSa : S0 ≠ a) {Hf : Hp} (hf : FpOk X pins Hf S0) (hR : ∀ s' H' t m, maxH is = [.int m, .int m] → Back X pins σ δ o Hx H' s' → R (.ok (.ret (.int m t))) s') :
    ∀ (r : List Int) (j : Nat) (H : Hp) (s : Shared) (m : Int), maxH (is.take j) = [.int m, .int m] → is = is.take j ++ r → j + r.length = is.length → GSt X pins σ δ o Hx A.in1 a never [S0] (fun j => maxH (is.take j)) j (r.map .int) H s → Keeps X.F [S0] (maxH (is.take j)) H s →
    codeAny (model X.prog X.w) A (.builtin "max.loop" ⟨[.ref a, .none, .ref S0], kw⟩) R s
  | r, j, H, s, m, hm, hr, hj, g, hk => by
    have hname : (toString "max" ++ toString ".loop" : String) = "max.loop" := by decide
    have hlive : ∀ b ∈ [S0], ∃ ob, s.heap.get? b = some ob ∧ ∀ v, ob.data ≠ .cell v := fun b hb => by
      obtain ⟨acc, c, gv, e, _⟩ := hk b hb
      exact ⟨_, e, fun v z => nomatch z⟩
    obtain ⟨acc, c, gv, e, va, re, hn⟩ := hk S0 List.mem_cons_self
    rw [hm] at re
    obtain ⟨rfl, _⟩ := reps_ints (is := [m, m]) re
    have hacc : ∃ t1 t2, acc = #[.int m t1, .int m t2] := by
      have va : Vals [V.int m, V.int m] acc.toList := va
      generalize hq : acc.toList = l at va
      cases va with
      | cons h1 h2 =>
        cases h2 with
        | cons h2 h3 =>
        cases h3
        obtain ⟨t1, rfl⟩ := h1
        obtain ⟨t2, rfl⟩ := h2
        exact ⟨t1, t2, by rw [← Array.toArray_toList (xs := acc), hq]⟩
    obtain ⟨t1, t2, rfl⟩ := hacc
    refine codeAny_builtin F.entry_max_loop ?_
    rw [Around.under_plainId F.plain_max_loop _]
    show wpAny _ A.in1 (seqItems? (.ref S0) >>= _) _ _ s
    refine wpAny_bind (wpAny_seqItems e rfl ?_)
    show wpAny _ A.in1 (tryCatch (pyNext (.ref a)) _ >>= _) _ _ s
    cases r with
    | nil =>
      refine wpAny_bind (wpAny_tryCatch (g.2.2 s _ _ (.refl hlive) hk fun s' H' B sk hk' => ?_))
      have e' := sk S0 List.mem_cons_self _ e
      have hn' : H' S0 = none := by obtain ⟨_, _, _, _, _, _, z⟩ := hk' S0 List.mem_cons_self; exact z
      show wpAny _ A.in1 (updateSeq S0 (fun _ => #[]) >>= _) _ _ _
      refine wpAny_bind (wpAny_updateSeq e' rfl (wpAny_bind (wpAny_letGo (wpAny_pure ?_))))
      rw [List.append_nil] at hr
      have B2 := B.own (h' := s'.heap.update S0 (Obj.mapSeq fun _ => #[])) ⟨hn', hf.2⟩ (fun b ob hb eb => (Heap.get?_update_other _ _ (Ne.symm hb)).trans eb) s'.toks
      exact hR _ H' t1 m (by rw [hr]; exact hm) B2
    | cons d r =>
    refine wpAny_bind (wpAny_tryCatch (g.2.2 s _ _ (.refl hlive) hk fun v x s' H' rx rep B sk hk' gn => ?_))
    obtain ⟨rfl, _⟩ := rep
    obtain ⟨tv, rfl⟩ := (show ∃ t, v = Value.int _ t from rx)
    have e' := sk S0 List.mem_cons_self _ e
    have hn' : H' S0 = none := by obtain ⟨_, _, _, _, _, _, z⟩ := hk' S0 List.mem_cons_self; exact z
    rw [List.length_cons] at hj
    have ht : is.take (j + 1) = is.take j ++ [d] := by
      have : is[j]? = some d := by
        rw [hr, List.getElem?_append_right (by rw [List.length_take]; omega), List.length_take, show j - min j is.length = 0 by omega]; rfl
      rw [List.take_add_one, this]; rfl
    have hmx : maxH (is.take (j + 1)) = [.int (maxI m d), .int (maxI m d)] := by
      rw [ht]
      cases hq : is.take j with
      | nil => rw [hq] at hm; cases hm
      | cons x l =>
        rw [hq] at hm
        simp only [maxH, List.cons.injEq, D.int.injEq] at hm
        simp only [List.cons_append, maxH, List.foldl_append, hm.1, List.foldl_cons, List.foldl_nil]
    have g2 := gn rfl
    -- behind the turn
    have fin : ∀ (h' : Heap) (tk : Nat) (t3 t4 : Nat) (c' : Nat), (∀ b ob, b ≠ S0 → s'.heap.get? b = some ob → h'.get? b = some ob) → h'.get? S0 = some (lstObj #[Value.int (maxI m d) t3, Value.int (maxI m d) t4] c') →
        codeAny (model X.prog X.w) A (.builtin "max.loop" ⟨[.ref a, .none, .ref S0], kw⟩) R { s' with heap := h', toks := tk } := by
      intro h' tk t3 t4 c' kp e2
      have B2 := B.own ⟨hn', hf.2⟩ kp tk
      have ty2 : Shared.TypeIs { s' with heap := h', toks := tk } (.ref a) "generator" := by
        obtain ⟨ob, e, q⟩ := g2.ty
        exact ⟨ob, kp a ob (Ne.symm hSa) e, q⟩
      have ch : Chg [S0] s' { s' with heap := h', toks := tk } := ⟨rfl, rfl, fun b ob hb eb => kp b ob (fun z => hb (by rw [z]; exact List.mem_cons_self)) eb, fun b hb => by
        rw [List.mem_singleton.mp hb]
        exact ⟨_, e2, fun v z => nomatch z⟩⟩
      refine max_loop kw hSa hf hR r (j + 1) H' _ (maxI m d) hmx (by rw [ht, List.append_assoc]; exact hr) (by omega) (g2.chg ch B2 ty2) fun b hb => ?_
      rw [List.mem_singleton.mp hb]
      refine ⟨_, _, [V.int (maxI m d), V.int (maxI m d)], e2, .cons ⟨t3, rfl⟩ (.cons ⟨t4, rfl⟩ .nil), ?_, hn'⟩
      show Reps X.F H' (maxH (is.take (j + 1))) _ []
      rw [hmx]
      exact ⟨_, _, [], [], rfl, ⟨rfl, rfl⟩, Reps.one (o := []) ⟨rfl, rfl⟩, rfl⟩
    show wpAny _ A.in1 (tryCatch (holding [.int d tv, .int d tv] (richCompare .Gt (.int d tv) (.int m t2) >>= _)) _ >>= _) _ _ _
    refine wpAny_bind (wpAny_tryCatch (wpAny_holding (wpAny_bind (wpAny_gt_int ?_))))
    refine wpAny_bind (wpAny_holding (wpAny_truthy_bool ?_))
    refine wpAny_bind (wpAny_letGo (wpAny_pure ?_))
    by_cases hb : m < d
    · rw [decide_eq_true hb]
      simp only [if_true]
      refine wpAny_bind (wpAny_updateSeq e' rfl (wpAny_bind (wpAny_letGo ?_)))
      rw [hname]
      refine wpAny_pure ⟨plainId_quiet F.plain_max_loop _, fin _ _ tv tv c (fun b ob hb eb => (Heap.get?_update_other _ _ (Ne.symm hb)).trans eb) ?_⟩
      have := Heap.get?_update_self (Obj.mapSeq fun _ => #[Value.int d tv, Value.int d tv]) e' rfl
      rw [show maxI m d = d from if_pos hb]
      exact this
    · rw [decide_eq_false hb]
      simp only [Bool.false_eq_true, if_false]
      refine wpAny_bind (wpAny_letGo ?_)
      rw [hname]
      refine wpAny_pure ⟨plainId_quiet F.plain_max_loop _, fin s'.heap s'.toks t1 t2 c (fun b ob hb eb => eb) ?_⟩
      rw [show maxI m d = m from if_neg hb]
      exact e'
  termination_by r => r.length
theorem max_first (kw : List (Str × Value)) {R : Result → Shared → Prop} {is : List Int} {S0 : Addr} (hSa : S0 ≠ a) {Hf : Hp} (hf : FpOk X pins Hf S0) (hR : ∀ s' H' t m, maxH is = [.int m, .int m] → Back X pins σ δ o Hx H' s' → R (.ok (.ret (.int m t))) s') :
    ∀ (d : Int) (r : List Int) (H : Hp) (s : Shared), is = d :: r → GSt X pins σ δ o Hx A.in1 a never [S0] (fun j => maxH (is.take j)) 0 (is.map .int) H s → Keeps X.F [S0] [] H s →
    codeAny (model X.prog X.w) A (.builtin "max.loop" ⟨[.ref a, .none, .ref S0], kw⟩) R s := by
  intro d r H s hr g hk
  subst hr
  have hname : (toString "max" ++ toString ".loop" : String) = "max.loop" := by decide
  have hlive : ∀ b ∈ [S0], ∃ ob, s.heap.get? b = some ob ∧ ∀ v, ob.data ≠ .cell v := fun b hb => by
    obtain ⟨acc, c, gv, e, _⟩ := hk b hb
    exact ⟨_, e, fun v z => nomatch z⟩
  obtain ⟨acc, c, gv, e, va, re, hn⟩ := hk S0 List.mem_cons_self
  obtain ⟨rfl, _⟩ := reps_ints (is := []) re
  have hacc : acc = #[] := by
    generalize hq : acc.toList = l at va
    cases va
    rw [← Array.toArray_toList (xs := acc), hq]
  subst hacc
  refine codeAny_builtin F.entry_max_loop ?_
  rw [Around.under_plainId F.plain_max_loop _]
  show wpAny _ A.in1 (seqItems? (.ref S0) >>= _) _ _ s
  refine wpAny_bind (wpAny_seqItems e rfl ?_)
  show wpAny _ A.in1 (tryCatch (pyNext (.ref a)) _ >>= _) _ _ s
  refine wpAny_bind (wpAny_tryCatch (g.2.2 s _ _ (.refl hlive) hk fun v x s' H' rx rep B sk hk' gn => ?_))
  obtain ⟨rfl, _⟩ := rep
  obtain ⟨tv, rfl⟩ := (show ∃ t, v = Value.int _ t from rx)
  have e' := sk S0 List.mem_cons_self _ e
  have hn' : H' S0 = none := by obtain ⟨_, _, _, _, _, _, z⟩ := hk' S0 List.mem_cons_self; exact z
  have g2 := gn rfl
  show wpAny _ A.in1 (updateSeq S0 (fun _ => #[.int d tv, .int d tv]) >>= _) _ _ _
  refine wpAny_bind (wpAny_updateSeq e' rfl ?_)
  rw [hname]
  have e2 := Heap.get?_update_self (Obj.mapSeq fun _ => #[Value.int d tv, Value.int d tv]) e' rfl
  have kp : ∀ b ob, b ≠ S0 → s'.heap.get? b = some ob → (s'.heap.update S0 (Obj.mapSeq fun _ => #[Value.int d tv, Value.int d tv])).get? b = some ob := fun b ob hb eb => (Heap.get?_update_other _ _ (Ne.symm hb)).trans eb
  have B2 := B.own ⟨hn', hf.2⟩ kp s'.toks
  have ty2 : Shared.TypeIs { s' with heap := s'.heap.update S0 (Obj.mapSeq fun _ => #[Value.int d tv, Value.int d tv]), toks := s'.toks } (.ref a) "generator" := by
    obtain ⟨ob, e, q⟩ := g2.ty
    exact ⟨ob, kp a ob (Ne.symm hSa) e, q⟩
  have ch : Chg [S0] s' { s' with heap := s'.heap.update S0 (Obj.mapSeq fun _ => #[Value.int d tv, Value.int d tv]), toks := s'.toks } := ⟨rfl, rfl, fun b ob hb eb => kp b ob (fun z => hb (by rw [z]; exact List.mem_cons_self)) eb, fun b hb => by
    rw [List.mem_singleton.mp hb]
    exact ⟨_, e2, fun v z => nomatch z⟩⟩
  have h1 : maxH ((d :: r).take 1) = [.int d, .int d] := rfl
  have gc := g2.chg ch B2 ty2
  refine wpAny_pure ⟨plainId_quiet F.plain_max_loop _, max_loop kw hSa hf hR r 1 H' _ d h1 rfl (by simp; omega) gc fun b hb => ?_⟩
  rw [List.mem_singleton.mp hb]
  refine ⟨_, _, [V.int d, V.int d], e2, .cons ⟨tv, rfl⟩ (.cons ⟨tv, rfl⟩ .nil), ?_, hn'⟩
  show Reps X.F H' (maxH ((d :: r).take 1)) _ []
  rw [h1]
  exact ⟨_, _, [], [], rfl, ⟨rfl, rfl⟩, Reps.one (o := []) ⟨rfl, rfl⟩, rfl⟩
end
section
variable {X : Cx} {k : Nat}
theorem z_maxG {e : Expr} {m : DE → Option (List D × DE)} {p pos : Pos} (hr : Room (k + 1) X.A) (hg : Gl X "max") (hm : X.mg "max" = none) (he : PGx X k e never m)
    (hst : starEach [e] X.env = (false, eval e X.env) :: starEach [] X.env := by rfl) : PE X (.Call (.Name "max" p) [e] [] pos) (T (kx X) false (dFold fmaxG m)) := by
  refine z_fold (bid := "max") hg hm bb_max he (fun pins σ δ1 o1 Hx a R0 d s5 Q I hl g hf hQ => ?_) (by decide) (by decide) hst
  obtain ⟨ty, hlt, B5, gg⟩ := g
  simp only [fmaxG] at hf
  split at hf
  · rename_i x0 is0 hb
    cases (Option.some.inj hf)
    obtain rfl := intsD_eq hb
    refine call_function_tree F.kind_max F.plain_max F.entry_max (F.args_max1 _) (?_)
    have hname : (toString "max" ++ toString ".loop" : String) = "max.loop" := by decide
    show wpAny _ X.A.in1 (Builtin.Builtins.bindParams "max" ["key", "default"] 0 ⟨[], []⟩ >>= _) _ _ s5
    refine wpAny_bind (wpAny_of_eq (show Builtin.Builtins.bindParams "max" ["key", "default"] 0 ⟨[], []⟩ = pure [none, none] from rfl) ?_)
    show wpAny _ X.A.in1 (pyIter (.ref a) >>= _) _ _ s5
    refine wpAny_bind (iter_gen ty ?_)
    refine wpAny_bind (wpAny_newObj_type ?_)
    have hSa : s5.heap.objs.size ≠ a := Nat.ne_of_gt hlt
    have hfp : FpOk X pins Hx s5.heap.objs.size := B5.inv.fpOk (Nat.le_refl _) (B5.inv.hok.fresh (Nat.le_refl _))
    have B6 := B5.own (h' := s5.heap.push (lstObj #[] 0)) hfp (fun c ob _ eb => Heap.get?_push_of_some _ eb) s5.toks
    have ch : Chg [s5.heap.objs.size] s5 { s5 with heap := s5.heap.push (lstObj #[] 0), toks := s5.toks } := ⟨rfl, rfl, fun b ob _ eb => Heap.get?_push_of_some _ eb, fun b hb => by
      rw [List.mem_singleton.mp hb]
      exact ⟨_, Heap.get?_push_size _ rfl, fun v z => nomatch z⟩⟩
    have kpS : Keeps X.F [s5.heap.objs.size] [] Hx { s5 with heap := s5.heap.push (lstObj #[] 0), toks := s5.toks } := fun b hb => by
      rw [List.mem_singleton.mp hb]
      exact ⟨_, _, [], Heap.get?_push_size _ rfl, .nil, ⟨rfl, rfl⟩, hfp.1⟩
    have gst := gg X.A.in1 [s5.heap.objs.size] (fun j => maxH ((x0 :: is0).take j)) _ hr.hd (by have := hr.dp; show X.A.depth < _; omega) (room_gen hr) I.ok.frames (fun b hb => by rw [List.mem_singleton.mp hb]; exact Nat.le_refl _) ch kpS
    rw [hname]
    exact wpAny_pure ⟨plainId_quiet F.plain_max_loop _, max_first [] (A := X.A) (is := x0 :: is0) hSa hfp (fun s' H' t m hm B => by
      simp only [maxH, List.cons.injEq, D.int.injEq] at hm
      obtain ⟨rfl, _⟩ := hm
      exact hQ s' H' H' _ (.int (is0.foldl maxI x0)) [] B.env B.step B.inv (fun _ _ e => e) ⟨_, rfl⟩ ⟨rfl, rfl⟩ fresh_nil) x0 is0 Hx _ rfl gst kpS⟩
  · cases hf
end

section
variable {X : Cx} {pins : List (Addr × Obj)} {σ : L2.St} {δ : DE} {o : List Addr} {Hx : Hp} {A : Around} {a : Addr}
end
section
variable {X : Cx} {k : Nat}
end
end Z


set_option Elab.async false
set_option linter.all false
set_option maxRecDepth 100000
/-! lambdas as keys: names from outside, subscripts -/
namespace Z
open PySem PySem.Spec PyProof.Rows L2
section
variable {X : Cx} {scope : Scope} {v : Str}
end
end Z


set_option Elab.async false
set_option linter.all false
set_option maxRecDepth 100000
/-! sorted(range(n), key=lambda v: ..) -/
namespace Z
open PySem PySem.Spec PyProof.Rows L2
section
variable {prog : Program} {w : World} {A : Around} {s : Shared} {E : Value → Shared → Prop}
end
section
variable {X : Cx}
end
end Z


set_option Elab.async false
set_option linter.all false
set_option maxRecDepth 100000
/-! list.count of ints -/
namespace Z
open PySem PySem.Spec PyProof.Rows L2
section
variable {X : Cx} {eo e : Expr} {qo qe : Bool} {mo : Den} {ma : DE → Option (List R × DE)} {apos cpos : Pos}
end
end Z


set_option Elab.async false
set_option linter.all false
set_option maxRecDepth 100000
/-! generator expressions with two clauses: phases, the consumer's side -/
namespace Z
open PySem PySem.Spec PyProof.Rows L2
/-- where a generator's frame stands: its names, its data, its iterators' objects and how these are -/
structure Ph where
  σ : L2.St
  δ : DE
  fp : List Addr
  tn : Heap → Prop
  ex : Hp → Prop
structure PhOk (σw : L2.St) (δw : DE) (vs : List Nat) (P : Ph) : Prop where
  wσ : L2.wipe P.σ vs = σw
  wδ : wipeD P.δ vs = δw
  len : P.σ.length = σw.length
  keep : ∀ h h', P.tn h → (∀ b ∈ P.fp, ∀ o, h.get? b = some o → h'.get? b = some o) → P.tn h'
structure GInvP (Xg : Cx) (σw : L2.St) (δw : DE) (vs : List Nat) (P : Ph) (H1 : Hp) (ow : List Addr) (L : List Addr) (S : List Addr) (gd : List D) (pins : List (Addr × Obj)) (H : Hp) (s : Shared) : Prop where
  ok : PhOk σw δw vs P
  inv : Inv Xg pins P.σ H s
  trn : P.tn s.heap
  xt : P.ex H
  nof : ∀ b ∈ P.fp, H b = none
  env : ∃ o', Envs (kx Xg) H P.σ P.δ o' ∧ Own H1 ow o'
  step : Step H1 H ow
  live : ∀ b ∈ L, ∃ o, s.heap.get? b = some o
  apart : ∀ p ∈ pins, p.1 ∉ P.fp
  held : Keeps Xg.F S gd H s
theorem GInvP.fin {Xg : Cx} {σw : L2.St} {δw : DE} {vs : List Nat} {P : Ph} {H1 : Hp} {ow L S : List Addr} {gd : List D} {pins : List (Addr × Obj)} {H : Hp} {s : Shared} (G : GInvP Xg σw δw vs P H1 ow L S gd pins H s) : GEnd Xg σw δw H1 ow S gd pins H s := by
  refine ⟨G.inv.weak G.ok.len.symm fun j v e => ?_, ?_, G.step, G.held⟩
  · rw [← G.ok.wσ] at e
    exact (wipe_some e).1
  · obtain ⟨o', E', w'⟩ := G.env
    obtain ⟨o6, E6, c6⟩ := E'.wipe vs
    rw [G.ok.wσ, G.ok.wδ] at E6
    exact ⟨o6, E6, w'.sub c6⟩
section
variable {Xg : Cx} {σw : L2.St} {δw : DE} {P : Ph} {H1 : Hp} {ow L Sc : List Addr} {vs : List Nat} {cd : Nat → List D} {gd : List D} {stop : D → Bool} {R0 : List D}

theorem GInvP.gens {pins : List (Addr × Obj)} {H : Hp} {s : Shared} (G : GInvP Xg σw δw vs P H1 ow L Sc gd pins H s) {g : Array GenState} (h : AllBare g) : GInvP Xg σw δw vs P H1 ow L Sc gd pins H { s with gens := g } :=
  ⟨G.ok, G.inv.gens h, G.trn, G.xt, G.nof, G.env, G.step, G.live, G.apart, G.held⟩
theorem GInvP.pin {H : Hp} {s₀ s : Shared} (G : GInvP Xg σw δw vs P H1 ow L Sc gd (pinsAt L s₀.heap) H s) (hL : ∀ b ∈ L, ∃ o, s₀.heap.get? b = some o) : pinsAt L s.heap = pinsAt L s₀.heap := pinsAt_eq fun b hb => by
  obtain ⟨o, e⟩ := hL b hb
  exact ⟨o, e, (G.inv.pin (b, o) (List.mem_append_right _ (mem_pinsAt hb e))).1⟩
theorem GInvP.at {H : Hp} {s₀ s : Shared} {b : Addr} {o : Obj} (G : GInvP Xg σw δw vs P H1 ow L Sc gd (pinsAt L s₀.heap) H s) (hb : b ∈ L) (e : s₀.heap.get? b = some o) : s.heap.get? b = some o := (G.inv.pin (b, o) (List.mem_append_right _ (mem_pinsAt hb e))).1
end
end Z


set_option Elab.async false
set_option linter.all false
set_option maxRecDepth 100000
/-! generator expressions with two clauses: what a consumer sees -/
namespace Z
open PySem PySem.Spec PyProof.Rows L2
section
variable {X : Cx} {pins : List (Addr × Obj)} {σ : L2.St} {δ1 : DE} {o1 ow od : List Addr} {Hx : Hp} {sB : Shared} {vs : List Nat} {scope : Scope} {cenv : Env} {fp : List Addr} {stop : D → Bool} {S : List Addr} {cd : Nat → List D} {gd : List D} {A Ag : Around} {a g : Addr}
end
end Z


set_option Elab.async false
set_option linter.all false
set_option maxRecDepth 100000
/-! generator expressions with two clauses: the code, where it runs -/
namespace Z
open PySem PySem.Spec PyProof.Rows L2
end Z


set_option Elab.async false
set_option linter.all false
set_option maxRecDepth 100000
/-! generator expressions with two clauses: the inner loop's turns -/
namespace Z
open PySem PySem.Spec PyProof.Rows L2
section
variable {Xg : Cx} {σw σ8 : L2.St} {δw δi : DE} {fpO fp1 : List Addr} {tnO : Heap → Prop} {tn1 : Nat → Heap → Prop} {H1 Hb : Hp} {ow ob L Sc : List Addr} {vs vs1 : List Nat} {cd : Nat → List D} {stop : D → Bool} {R0 : List D} {Ac : Around} {cenv : Env} {elt t0 i0 t1 i1 : Expr} {ifs0 ifs1 : List Expr} {scope : Scope} {pos : Pos} {it it1 : Addr} {J1 : It} {xs1 : List D} {b1 : Bnd} {mt1 : DenT} {me : Den} {qt qe : Bool} {k0 : Result → Sem PySem.Fin} {lv : List Value} {p0 : Pos}
end
end Z


set_option Elab.async false
set_option linter.all false
set_option maxRecDepth 100000
/-! generator expressions with two clauses: the outer loop, begun -/
namespace Z
open PySem PySem.Spec PyProof.Rows L2
/-- the names let go: the outer loop's phase -/
theorem GInvP.wiped {Xg : Cx} {σw : L2.St} {δw : DE} {vs : List Nat} {P : Ph} {H1 : Hp} {ow L S : List Addr} {gd : List D} {pins : List (Addr × Obj)} {H : Hp} {s : Shared} (G : GInvP Xg σw δw vs P H1 ow L S gd pins H s) (hw : L2.wipe σw vs = σw) (hd : wipeD δw vs = δw) : GInvP Xg σw δw vs ⟨σw, δw, P.fp, P.tn, fun _ => True⟩ H1 ow L S gd pins H s := by
  have F := G.fin
  exact ⟨⟨hw, hd, rfl, G.ok.keep⟩, F.inv, G.trn, trivial, G.nof, F.env, F.step, G.live, G.apart, F.held⟩
end Z


set_option Elab.async false
set_option linter.all false
set_option maxRecDepth 100000
/-! generator expressions with two clauses: the outer loop's turns -/
namespace Z
open PySem PySem.Spec PyProof.Rows L2
section
variable {Xg : Cx} {σ : L2.St} {δw : DE} {fp : List Addr} {tn : Nat → Heap → Prop} {H1 : Hp} {ow L Sc : List Addr} {vs vs1 : List Nat} {cd : Nat → List D} {stop : D → Bool} {R0 : List D} {Ac : Around} {cenv : Env} {elt t0 i0 t1 i1 : Expr} {ifs0 ifs1 : List Expr} {scope : Scope} {pos : Pos} {it : Addr} {J : It} {xs : List D} {b b1 : Bnd} {mt mt1 : DenT} {ms1 : DenS} {me : Den} {qt q1 qt1 qe : Bool}
end
end Z


set_option Elab.async false
set_option linter.all false
set_option maxRecDepth 100000
/-! generator expressions with two clauses: begun, made -/
namespace Z
open PySem PySem.Spec PyProof.Rows L2
section
variable {Xg : Cx} {σ : L2.St} {δw : DE} {fp : List Addr} {tn : Nat → Heap → Prop} {H1 : Hp} {ow L Sc : List Addr} {vs vs1 : List Nat} {cd : Nat → List D} {stop : D → Bool} {R0 : List D} {Ac : Around} {cenv : Env} {elt t0 i0 t1 i1 : Expr} {ifs0 ifs1 : List Expr} {scope : Scope} {pos : Pos} {it : Addr} {J : It} {xs : List D} {b b1 : Bnd} {mt mt1 : DenT} {ms1 : DenS} {me : Den} {qt q1 qt1 qe : Bool}
end
section
variable {X : Cx} {pins : List (Addr × Obj)} {σ : L2.St} {H : Hp} {s : Shared} {elt tg iter t1 i1 : Expr} {ifs ifs1 : List Expr} {scope : Scope} {own : List (Str × Nat)} {pos : Pos} {ms ms1 : DenS} {b b1 : Bnd} {mt mt1 : DenT} {me : Den} {q qt q1 qt1 qe : Bool} {vs1 : List Nat} {k : Nat} {stop : D → Bool}
end
end Z


set_option Elab.async false
set_option linter.all false
set_option maxRecDepth 100000
/-! all, any, and others of a generator expression with two clauses -/
namespace Z
open PySem PySem.Spec PyProof.Rows L2
/-- a judgement of a generator expression that a consumer will walk; nothing is told of its length -/
structure PGy (X : Cx) (k : Nat) (e : Expr) (stop : D → Bool) (m : DE → Option (List D × DE)) : Prop where
  run : ∀ (pins : List (Addr × Obj)) (s : Shared) (σ : L2.St) (H : Hp) (δ : DE) (o : List Addr) (R0 : List D) (δ1 : DE) (Q : Value → Shared → Prop), Inv X pins σ H s → Envs (kx X) H σ δ o → Nd o → m δ = some (R0, δ1) →
    (∀ a s5 Hx o1, Step H Hx o → Envs (kx X) Hx σ δ1 o1 → Own H o o1 → GMk X pins σ δ1 o1 Hx k a stop R0 s5 → Q (.ref a) s5) → wpAny (model X.prog X.w) X.A (eval e X.env) Q X.xe s
section
variable {X : Cx} {elt tg iter t1 i1 : Expr} {ifs ifs1 : List Expr} {scope : Scope} {own : List (Str × Nat)} {pos : Pos} {ms ms1 : DenS} {b b1 : Bnd} {mt mt1 : DenT} {me : Den} {q qt q1 qt1 qe : Bool} {vs1 : List Nat} {k : Nat} {stop : D → Bool}
end
end Z


set_option Elab.async false
set_option linter.all false
set_option maxRecDepth 100000
/-! dicts: what stands at an address -/
namespace Z
open PySem PySem.Spec PyProof.Rows L2
def keyA : D → Bool
  | .int _ => true
  | .str _ => true
  | _ => false
def kA : D → L2.Key
  | .int i => .inl i
  | .str x => .inr x
  | _ => .inl 0
/-- keys of one kind -/
def famOk (ks : List D) : Bool := ks.all keyT || ks.all keyA
section
variable {κ : Type} [DecidableEq κ] {K : Fw} {H : Hp}
end
section
variable {X : Cx} {pins : List (Addr × Obj)} {σ : L2.St} {H : Hp} {s : Shared}
/-- the dict at a, in the heap, of one or the other kind; the key k is of that kind -/
inductive DV (X : Cx) (s : Shared) (a : Addr) (k : D) (ks : List D) (kvs vvs : List V) : Prop
  | t (xs : List (NestedKey × Addr × Value)) (hk : ∀ x ∈ k :: ks, keyT x = true) (d : s.heap.DictOfH (nestedKind X.prog X.w) a xs) (k1 : xs.map (·.1) = ks.map dNK) (k2 : kvs = xs.map (fun x => V.ref x.2.1)) (v : Vals vvs (xs.map (·.2.2)))
  | a (ps : List (L2.Key × Value)) (hk : ∀ x ∈ k :: ks, keyA x = true) (d : s.heap.DictOf (mixKind X.prog X.w) a ps) (k1 : ps.map (·.1) = ks.map kA) (v : Vals vvs (ps.map (·.2)))
end
end Z


set_option Elab.async false
set_option linter.all false
set_option maxRecDepth 100000
/-! dicts: d[k], k in d, len(d) -/
namespace Z
open PySem PySem.Spec PyProof.Rows L2
section
variable {X : Cx}
end
end Z


set_option Elab.async false
set_option linter.all false
set_option maxRecDepth 100000
/-! dicts: {}, {k: v}, d[k] = v -/
namespace Z
open PySem PySem.Spec PyProof.Rows L2
section
variable {X : Cx} {pins : List (Addr × Obj)} {σ : L2.St} {H : Hp} {s : Shared}
end
end Z


set_option Elab.async false
set_option linter.all false
set_option maxRecDepth 100000
/-! dicts: the rules for what makes and changes them -/
namespace Z
open PySem PySem.Spec PyProof.Rows L2
section
variable {X : Cx}
end
end Z


set_option Elab.async false
set_option linter.all false
set_option maxRecDepth 100000
/-! dicts: {k: v} -/
namespace Z
open PySem PySem.Spec PyProof.Rows L2
section
variable {X : Cx}
end
end Z


set_option Elab.async false
set_option linter.all false
set_option maxRecDepth 100000
/-! dicts: sorted(d) -/
namespace Z
open PySem PySem.Spec PyProof.Rows L2
section
variable {X : Cx}
end
theorem z_defF {P : Program} {w : World} {K : PySem.W.Frag} {mg : Str → Option Value} {base : Heap} {qual : Str} {params : Arguments} {body : List Stmt} {scope : Scope} {f : Addr} {fd : FuncData} {N ps : List Str} {k : Nat} {kp : Nat → Bool} {m : Blk} (F : FunZ K qual params body scope f fd) (S : FnScope N ps scope)
    (hb : ∀ (cc : Addr) (A : Around) (outer : List Env) (s : Shared) (H : Hp) (E : XK), Room k (A.deeper (envOfC qual scope s.heap.objs.size f (.ref cc))) → PSs (cxOf CX0 P w K mg base N qual scope f (.ref cc) A outer s H E).nox body (TSm ⟨⟨K, w⟩, .ref cc⟩ kp m)) :
    FnOk P w K mg base CX0 (k + 1) f fd ps (spD ⟨K, w⟩ (dFn N.length ps.length kp m)) := z_def (K := ⟨K, w⟩) F S hb
end Z


set_option Elab.async false
set_option linter.all false
set_option maxRecDepth 100000
set_option maxHeartbeats 4000000
/-! row * number -/
namespace Z
open PySem PySem.Spec PyProof.Rows L2
section
variable {X : Cx}
end
end Z


set_option Elab.async false
set_option linter.all false
set_option maxRecDepth 100000
/-! list.count of data -/
namespace Z
open PySem PySem.Spec PyProof.Rows L2
section
variable {X : Cx} {eo e : Expr} {qo qe : Bool} {mo : Den} {ma : DE → Option (List R × DE)} {apos cpos : Pos}
end
end Z


set_option Elab.async false
set_option linter.all false
set_option maxRecDepth 100000
/-! a new list that nobody will change -/
namespace Z
open PySem PySem.Spec PyProof.Rows L2
section
variable {X : Cx} {e : Expr} {q : Bool} {m : Den}
end
end Z


set_option Elab.async false
set_option linter.all false
set_option maxRecDepth 100000
set_option maxHeartbeats 4000000
/-! lists of both kinds, one behind the other; not of any value -/
namespace Z
open PySem PySem.Spec PyProof.Rows L2
section
variable {X : Cx}
end
section
variable {X : Cx} {a : Expr} {q : Bool} {m : Den} {pos : Pos}
end
end Z


set_option Elab.async false
set_option linter.all false
set_option maxRecDepth 100000
/-! list(range(n)) -/
namespace Z
open PySem PySem.Spec PyProof.Rows L2
section
variable {X : Cx} {a : Expr} {q : Bool} {m : Den} {p p2 pos pos2 : Pos}
end
end Z


set_option Elab.async false
set_option linter.all false
set_option maxRecDepth 100000
/-! a statement that is not reached; and, or by the truth of values -/
namespace Z
open PySem PySem.Spec PyProof.Rows L2
section
variable {X : Cx} {a b c : Expr} {rest : List Expr} {q qa qb qc : Bool} {m ma' mb' : Den} {pos : Pos}
end
end Z


set_option Elab.async false
set_option linter.all false
set_option maxRecDepth 100000
/-! min, max of a generator expression that hands out data of one kind -/
namespace Z
open PySem PySem.Spec PyProof.Rows L2

/-- the greater of two data, and what the walk holds -/
def maxX (a y : D) : D := if ltD a y = true then y else a
def maxXH : List D → List D
  | [] => []
  | x :: r => [r.foldl maxX x, r.foldl maxX x]
def fmaxX (r : List D) : Option D := match r with
  | x :: xs => if cmpAll (x :: xs) = true then some (xs.foldl maxX x) else none
  | _ => none
section
variable {X : Cx} {pins : List (Addr × Obj)} {σ : L2.St} {δ : DE} {o : List Addr} {Hx : Hp} {A : Around} {a : Addr}
theorem maxX_loop {R : Result → Shared → Prop} {is : List D} {S0 : Addr} (hc : cmpAll is = true) (hu : A.in1.units + 61 < cLine) (hSa : S0 ≠ a) {Hf : Hp} (hf : FpOk X pins Hf S0) (hR : ∀ s' H' m v u, maxXH is = [m, m] → Back X pins σ δ o Hx H' s' → RelV v u → Rep X.F H' m v [] → R (.ok (.ret u)) s') :
    ∀ (r : List D) (j : Nat) (H : Hp) (s : Shared) (m : D), maxXH (is.take j) = [m, m] → m ∈ is → is = is.take j ++ r → j + r.length = is.length → GSt X pins σ δ o Hx A.in1 a never [S0] (fun j => maxXH (is.take j)) j r H s → Keeps X.F [S0] (maxXH (is.take j)) H s →
    codeAny (model X.prog X.w) A (.builtin "max.loop" ⟨[.ref a, .none, .ref S0], []⟩) R s
  | r, j, H, s, m, hm, hmi, hr, hj, g, hk => by
    have hname : (toString "max" ++ toString ".loop" : String) = "max.loop" := by decide
    have hlive : ∀ b ∈ [S0], ∃ ob, s.heap.get? b = some ob ∧ ∀ v, ob.data ≠ .cell v := fun b hb => by
      obtain ⟨acc, c, gv, e, _⟩ := hk b hb
      exact ⟨_, e, fun v z => nomatch z⟩
    obtain ⟨acc, c, gv, e, va, re, hn⟩ := hk S0 List.mem_cons_self
    rw [hm] at re
    have hacc : ∃ t1 t2, acc = #[t1, t2] := by
      have hl : acc.toList.length = 2 := by have h1 := va.length; have h2 := re.length; simp only [List.length_cons, List.length_nil] at h2; omega
      generalize hq : acc.toList = l at hl
      match l, hl with
      | [x, y], _ => exact ⟨x, y, by rw [← Array.toArray_toList (xs := acc), hq]⟩
    obtain ⟨t1, t2, rfl⟩ := hacc
    refine codeAny_builtin F.entry_max_loop ?_
    rw [Around.under_plainId F.plain_max_loop _]
    show wpAny _ A.in1 (seqItems? (.ref S0) >>= _) _ _ s
    refine wpAny_bind (wpAny_seqItems e rfl ?_)
    show wpAny _ A.in1 (tryCatch (pyNext (.ref a)) _ >>= _) _ _ s
    cases r with
    | nil =>
      refine wpAny_bind (wpAny_tryCatch (g.2.2 s _ _ (.refl hlive) hk fun s' H' B sk hk' => ?_))
      have e' := sk S0 List.mem_cons_self _ e
      obtain ⟨acc2, c2, gv2, e2, va2, re2, hn'⟩ := hk' S0 List.mem_cons_self
      rw [e'] at e2
      cases (Option.some.inj e2)
      have re2 : Reps X.F H' (maxXH (is.take j)) gv2 [] := re2
      rw [hm] at re2
      show wpAny _ A.in1 (updateSeq S0 (fun _ => #[]) >>= _) _ _ _
      refine wpAny_bind (wpAny_updateSeq e' rfl (wpAny_bind (wpAny_letGo (wpAny_pure ?_))))
      rw [List.append_nil] at hr
      have B2 := B.own (h' := s'.heap.update S0 (Obj.mapSeq fun _ => #[])) ⟨hn', hf.2⟩ (fun b ob hb eb => (Heap.get?_update_other _ _ (Ne.symm hb)).trans eb) s'.toks
      obtain ⟨v1, vr, oa, ob2, rfl, rp, _, ho⟩ := re2
      have ha : oa = [] := (List.append_eq_nil_iff.mp ho.symm).1
      subst ha
      cases va2 with
      | cons r1 _ => exact hR _ H' m v1 t1 (by rw [hr]; exact hm) B2 r1 rp
    | cons d r =>
    refine wpAny_bind (wpAny_tryCatch (g.2.2 s _ _ (.refl hlive) hk fun v x s' H' rx rep B sk hk' gn => ?_))
    have e' := sk S0 List.mem_cons_self _ e
    obtain ⟨acc2, c2, gv2, e2, va2, re2, hn'⟩ := hk' S0 List.mem_cons_self
    rw [e'] at e2
    cases (Option.some.inj e2)
    have re2 : Reps X.F H' (maxXH (is.take j)) gv2 [] := re2
    rw [hm] at re2
    obtain ⟨v1, vr, oa, ob2, rfl, rp1, re3, ho⟩ := re2
    have ha : oa = [] := (List.append_eq_nil_iff.mp ho.symm).1
    have hb3 : ob2 = [] := (List.append_eq_nil_iff.mp ho.symm).2
    subst ha hb3
    obtain ⟨v2, vr2, oa2, ob4, rfl, rp2, _, ho2⟩ := re3
    have ha2 : oa2 = [] := (List.append_eq_nil_iff.mp ho2.symm).1
    subst ha2
    have rl2 : RelV v2 t2 := by
      cases va2 with
      | cons _ h2 => cases h2 with
        | cons h3 _ => exact h3
    rw [List.length_cons] at hj
    have hdi : d ∈ is := by rw [hr]; simp
    have ht : is.take (j + 1) = is.take j ++ [d] := by
      have : is[j]? = some d := by
        rw [hr, List.getElem?_append_right (by rw [List.length_take]; omega), List.length_take, show j - min j is.length = 0 by omega]; rfl
      rw [List.take_add_one, this]; rfl
    have hmx : maxXH (is.take (j + 1)) = [maxX m d, maxX m d] := by
      rw [ht]
      cases hq : is.take j with
      | nil => rw [hq] at hm; cases hm
      | cons x l =>
        rw [hq] at hm
        simp only [maxXH, List.cons.injEq] at hm
        simp only [List.cons_append, maxXH, List.foldl_append, hm.1, List.foldl_cons, List.foldl_nil]
    have hmi2 : maxX m d ∈ is := by unfold maxX; split <;> assumption
    have g2 := gn rfl
    -- behind the turn
    have fin : ∀ (h' : Heap) (tk : Nat) (t3 t4 : Value) (w3 w4 : V) (c' : Nat), (∀ b ob, b ≠ S0 → s'.heap.get? b = some ob → h'.get? b = some ob) → h'.get? S0 = some (lstObj #[t3, t4] c') → RelV w3 t3 → RelV w4 t4 → Rep X.F H' (maxX m d) w3 [] → Rep X.F H' (maxX m d) w4 [] →
        codeAny (model X.prog X.w) A (.builtin "max.loop" ⟨[.ref a, .none, .ref S0], []⟩) R { s' with heap := h', toks := tk } := by
      intro h' tk t3 t4 w3 w4 c' kp e2 q3 q4 p3 p4
      have B2 := B.own ⟨hn', hf.2⟩ kp tk
      have ty2 : Shared.TypeIs { s' with heap := h', toks := tk } (.ref a) "generator" := by
        obtain ⟨ob, e, q⟩ := g2.ty
        exact ⟨ob, kp a ob (Ne.symm hSa) e, q⟩
      have ch : Chg [S0] s' { s' with heap := h', toks := tk } := ⟨rfl, rfl, fun b ob hb eb => kp b ob (fun z => hb (by rw [z]; exact List.mem_cons_self)) eb, fun b hb => by
        rw [List.mem_singleton.mp hb]
        exact ⟨_, e2, fun v z => nomatch z⟩⟩
      refine maxX_loop hc hu hSa hf hR r (j + 1) H' _ (maxX m d) hmx hmi2 (by rw [ht, List.append_assoc]; exact hr) (by omega) (g2.chg ch B2 ty2) fun b hb => ?_
      rw [List.mem_singleton.mp hb]
      refine ⟨_, _, [w3, w4], e2, .cons q3 (.cons q4 .nil), ?_, hn'⟩
      show Reps X.F H' (maxXH (is.take (j + 1))) _ []
      rw [hmx]
      exact ⟨_, _, [], [], rfl, p3, Reps.one (o := []) p4, rfl⟩
    have hck : cmpOk d m = true := by
      simp only [cmpAll, Bool.and_eq_true, List.all_eq_true] at hc
      exact hc.2 d hdi m hmi
    simp only [cmpOk, Bool.and_eq_true] at hck
    obtain ⟨⟨⟨hal, hd1⟩, hd2⟩, hkind⟩ := hck
    have hnn : toPy d ≠ .none := by
      intro e9
      cases d <;> first | (cases e9; done) | cases hkind
    obtain ⟨as1, rd1⟩ := Rep.reads B.inv rep rx rep.ro
    obtain ⟨as2, rd2⟩ := Rep.reads B.inv rp2 rl2 rp2.ro
    show wpAny _ A.in1 (tryCatch (holding [v, v] (richCompare .Gt v t2 >>= _)) _ >>= _) _ _ _
    refine wpAny_bind (wpAny_tryCatch (wpAny_holding (wpAny_bind (PySem.W.rcGt_alike _ _ A.in1 s' v t2 _ _ rd1 rd2 hal hnn (by have := dep_le hd1; have := Nat.min_le_left (toPy d).depth (toPy m).depth; omega) _ _ _ _ ?_))))
    refine wpAny_bind (wpAny_holding (wpAny_truthy_bool ?_))
    refine wpAny_bind (wpAny_letGo (wpAny_pure ?_))
    by_cases hb : PySem.W.dataLt (toPy m) (toPy d) = true
    · rw [hb]
      simp only [if_true]
      refine wpAny_bind (wpAny_updateSeq e' rfl (wpAny_bind (wpAny_letGo ?_)))
      rw [hname]
      have hx : maxX m d = d := if_pos hb
      refine wpAny_pure ⟨plainId_quiet F.plain_max_loop _, fin _ _ v v x x c (fun b ob hb eb => (Heap.get?_update_other _ _ (Ne.symm hb)).trans eb) ?_ rx rx (by rw [hx]; exact rep) (by rw [hx]; exact rep)⟩
      exact Heap.get?_update_self (Obj.mapSeq fun _ => #[v, v]) e' rfl
    · have hb' : PySem.W.dataLt (toPy m) (toPy d) = false := by simpa using hb
      rw [hb']
      simp only [Bool.false_eq_true, if_false]
      refine wpAny_bind (wpAny_letGo ?_)
      rw [hname]
      have hx : maxX m d = m := if_neg hb
      refine wpAny_pure ⟨plainId_quiet F.plain_max_loop _, fin s'.heap s'.toks t1 t2 v1 v2 c (fun b ob hb eb => eb) e' (by
        cases va2 with
        | cons h1 _ => exact h1) rl2 (by rw [hx]; exact rp1) (by rw [hx]; exact rp2)⟩
  termination_by r => r.length
theorem maxX_first {R : Result → Shared → Prop} {is : List D} {S0 : Addr} (hc : cmpAll is = true) (hu : A.in1.units + 61 < cLine) (hSa : S0 ≠ a) {Hf : Hp} (hf : FpOk X pins Hf S0) (hR : ∀ s' H' m v u, maxXH is = [m, m] → Back X pins σ δ o Hx H' s' → RelV v u → Rep X.F H' m v [] → R (.ok (.ret u)) s') :
    ∀ (d : D) (r : List D) (H : Hp) (s : Shared), is = d :: r → GSt X pins σ δ o Hx A.in1 a never [S0] (fun j => maxXH (is.take j)) 0 is H s → Keeps X.F [S0] [] H s →
    codeAny (model X.prog X.w) A (.builtin "max.loop" ⟨[.ref a, .none, .ref S0], []⟩) R s := by
  intro d r H s hr g hk
  subst hr
  have hname : (toString "max" ++ toString ".loop" : String) = "max.loop" := by decide
  have hlive : ∀ b ∈ [S0], ∃ ob, s.heap.get? b = some ob ∧ ∀ v, ob.data ≠ .cell v := fun b hb => by
    obtain ⟨acc, c, gv, e, _⟩ := hk b hb
    exact ⟨_, e, fun v z => nomatch z⟩
  obtain ⟨acc, c, gv, e, va, re, hn⟩ := hk S0 List.mem_cons_self
  have hacc : acc = #[] := by
    have hl : acc.toList.length = 0 := by have h1 := va.length; have h2 := re.length; simp only [List.length_nil] at h2; omega
    rw [← Array.toArray_toList (xs := acc), List.eq_nil_of_length_eq_zero hl]
  subst hacc
  refine codeAny_builtin F.entry_max_loop ?_
  rw [Around.under_plainId F.plain_max_loop _]
  show wpAny _ A.in1 (seqItems? (.ref S0) >>= _) _ _ s
  refine wpAny_bind (wpAny_seqItems e rfl ?_)
  show wpAny _ A.in1 (tryCatch (pyNext (.ref a)) _ >>= _) _ _ s
  refine wpAny_bind (wpAny_tryCatch (g.2.2 s _ _ (.refl hlive) hk fun v x s' H' rx rep B sk hk' gn => ?_))
  have e' := sk S0 List.mem_cons_self _ e
  have hn' : H' S0 = none := by obtain ⟨_, _, _, _, _, _, z⟩ := hk' S0 List.mem_cons_self; exact z
  have g2 := gn rfl
  show wpAny _ A.in1 (updateSeq S0 (fun _ => #[v, v]) >>= _) _ _ _
  refine wpAny_bind (wpAny_updateSeq e' rfl ?_)
  rw [hname]
  have e2 := Heap.get?_update_self (Obj.mapSeq fun _ => #[v, v]) e' rfl
  have kp : ∀ b ob, b ≠ S0 → s'.heap.get? b = some ob → (s'.heap.update S0 (Obj.mapSeq fun _ => #[v, v])).get? b = some ob := fun b ob hb eb => (Heap.get?_update_other _ _ (Ne.symm hb)).trans eb
  have B2 := B.own ⟨hn', hf.2⟩ kp s'.toks
  have ty2 : Shared.TypeIs { s' with heap := s'.heap.update S0 (Obj.mapSeq fun _ => #[v, v]), toks := s'.toks } (.ref a) "generator" := by
    obtain ⟨ob, e, q⟩ := g2.ty
    exact ⟨ob, kp a ob (Ne.symm hSa) e, q⟩
  have ch : Chg [S0] s' { s' with heap := s'.heap.update S0 (Obj.mapSeq fun _ => #[v, v]), toks := s'.toks } := ⟨rfl, rfl, fun b ob hb eb => kp b ob (fun z => hb (by rw [z]; exact List.mem_cons_self)) eb, fun b hb => by
    rw [List.mem_singleton.mp hb]
    exact ⟨_, e2, fun v z => nomatch z⟩⟩
  have h1 : maxXH ((d :: r).take 1) = [d, d] := rfl
  have gc := g2.chg ch B2 ty2
  refine wpAny_pure ⟨plainId_quiet F.plain_max_loop _, maxX_loop hc hu hSa hf hR r 1 H' _ d h1 List.mem_cons_self rfl (by simp; omega) gc fun b hb => ?_⟩
  rw [List.mem_singleton.mp hb]
  refine ⟨_, _, [x, x], e2, .cons rx (.cons rx .nil), ?_, hn'⟩
  show Reps X.F H' (maxXH ((d :: r).take 1)) _ []
  rw [h1]
  exact ⟨_, _, [], [], rfl, rep, Reps.one (o := []) rep, rfl⟩
end
section
variable {X : Cx} {k : Nat}
theorem z_maxX {e : Expr} {m : DE → Option (List D × DE)} {p pos : Pos} (hr : Room (k + 1) X.A) (hg : Gl X "max") (hm : X.mg "max" = none) (he : PGx X k e never m)
    (hst : starEach [e] X.env = (false, eval e X.env) :: starEach [] X.env := by rfl) : PE X (.Call (.Name "max" p) [e] [] pos) (T (kx X) false (dFold fmaxX m)) := by
  refine z_fold (bid := "max") hg hm bb_max he (fun pins σ δ1 o1 Hx a R0 d s5 Q I hl g hf hQ => ?_) (by decide) (by decide) hst
  obtain ⟨ty, hlt, B5, gg⟩ := g
  cases R0 with
  | nil => cases hf
  | cons x0 is0 =>
    simp only [fmaxX] at hf
    by_cases hc : cmpAll (x0 :: is0) = true
    case neg => rw [if_neg hc] at hf; cases hf
    rw [if_pos hc] at hf
    cases (Option.some.inj hf)
    refine call_function_tree F.kind_max F.plain_max F.entry_max (F.args_max1 _) (?_)
    have hname : (toString "max" ++ toString ".loop" : String) = "max.loop" := by decide
    show wpAny _ X.A.in1 (Builtin.Builtins.bindParams "max" ["key", "default"] 0 ⟨[], []⟩ >>= _) _ _ s5
    refine wpAny_bind (wpAny_of_eq (show Builtin.Builtins.bindParams "max" ["key", "default"] 0 ⟨[], []⟩ = pure [none, none] from rfl) ?_)
    show wpAny _ X.A.in1 (pyIter (.ref a) >>= _) _ _ s5
    refine wpAny_bind (iter_gen ty ?_)
    refine wpAny_bind (wpAny_newObj_type ?_)
    have hSa : s5.heap.objs.size ≠ a := Nat.ne_of_gt hlt
    have hfp : FpOk X pins Hx s5.heap.objs.size := B5.inv.fpOk (Nat.le_refl _) (B5.inv.hok.fresh (Nat.le_refl _))
    have B6 := B5.own (h' := s5.heap.push (lstObj #[] 0)) hfp (fun c ob _ eb => Heap.get?_push_of_some _ eb) s5.toks
    have ch : Chg [s5.heap.objs.size] s5 { s5 with heap := s5.heap.push (lstObj #[] 0), toks := s5.toks } := ⟨rfl, rfl, fun b ob _ eb => Heap.get?_push_of_some _ eb, fun b hb => by
      rw [List.mem_singleton.mp hb]
      exact ⟨_, Heap.get?_push_size _ rfl, fun v z => nomatch z⟩⟩
    have kpS : Keeps X.F [s5.heap.objs.size] [] Hx { s5 with heap := s5.heap.push (lstObj #[] 0), toks := s5.toks } := fun b hb => by
      rw [List.mem_singleton.mp hb]
      exact ⟨_, _, [], Heap.get?_push_size _ rfl, .nil, ⟨rfl, rfl⟩, hfp.1⟩
    have gst := gg X.A.in1 [s5.heap.objs.size] (fun j => maxXH ((x0 :: is0).take j)) _ hr.hd (by have := hr.dp; show X.A.depth < _; omega) (room_gen hr) I.ok.frames (fun b hb => by rw [List.mem_singleton.mp hb]; exact Nat.le_refl _) ch kpS
    rw [hname]
    exact wpAny_pure ⟨plainId_quiet F.plain_max_loop _, maxX_first (A := X.A) (is := x0 :: is0) hc (by have := hr.un; show X.A.units + 1 + 61 < _; omega) hSa hfp (fun s' H' m v u hm B q1 q2 => by
      simp only [maxXH, List.cons.injEq] at hm
      obtain ⟨rfl, _⟩ := hm
      exact hQ s' H' H' u v [] B.env B.step B.inv (fun _ _ e => e) q1 q2 fresh_nil) x0 is0 Hx _ rfl gst kpS⟩
end

section
variable {X : Cx} {pins : List (Addr × Obj)} {σ : L2.St} {δ : DE} {o : List Addr} {Hx : Hp} {A : Around} {a : Addr}
end
section
variable {X : Cx} {k : Nat}
end
end Z


set_option Elab.async false
set_option linter.all false
set_option maxRecDepth 100000
/-! list.remove of data -/
namespace Z
open PySem PySem.Spec PyProof.Rows L2
section
variable {X : Cx} {eo e : Expr} {qo qe : Bool} {mo : Den} {ma : DE → Option (List R × DE)} {apos cpos : Pos}
end
end Z


set_option Elab.async false
set_option linter.all false
set_option maxRecDepth 100000
/-! names at the top that stand for a text or a number -/
namespace Z
open PySem PySem.Spec PyProof.Rows L2
section
variable {X : Cx} {x z : Str} {i : Int} {pos : Pos}
end
end Z


set_option Elab.async false
set_option linter.all false
set_option maxRecDepth 100000
/-! ranges that go down by one -/
namespace Z
open PySem PySem.Spec PyProof.Rows L2
section
variable {X : Cx} {tg a b c : Expr} {q : Bool} {m : DE → Option (List R × DE)} {p pos : Pos}
end
end Z


set_option Elab.async false
set_option linter.all false
set_option maxRecDepth 100000
/-! ''.join of a list of texts -/
namespace Z
open PySem PySem.Spec PyProof.Rows L2
section
variable {X : Cx} {e : Expr} {q : Bool} {m : Den} {s : Str} {j : Option Str} {p2 apos pos : Pos}
end
end Z


set_option Elab.async false
set_option linter.all false
set_option maxRecDepth 100000
/-! index, count of texts -/
namespace Z
open PySem PySem.Spec PyProof.Rows L2
section
variable {X : Cx} {eo e : Expr} {qo qe : Bool} {mo me : Den} {f : Str → Str → Option D}
end
end Z


set_option Elab.async false
set_option linter.all false
set_option maxRecDepth 100000
/-! enumerate of a text -/
namespace Z
open PySem PySem.Spec PyProof.Rows L2
section
variable {X : Cx} {e l : Expr} {ta : TA} {p pos tpos : Pos} {elts : List Expr} {kk : Nat} {q : Bool} {ml : Den}
end
end Z


set_option Elab.async false
set_option linter.all false
set_option maxRecDepth 100000
/-! ''.join of a generator expression -/
namespace Z
open PySem PySem.Spec PyProof.Rows L2
open PySem.Builtin PySem.Builtin.Str
section
variable {X : Cx} {pins : List (Addr × Obj)} {σ : L2.St} {δ : DE} {o : List Addr} {Hx : Hp} {A : Around} {a : Addr}
end
section
variable {X : Cx} {k : Nat}
end
end Z


set_option Elab.async false
set_option linter.all false
set_option maxRecDepth 100000
/-! x += a text -/
namespace Z
open PySem PySem.Spec PyProof.Rows L2
section
variable {X : Cx} {kp : Nat → Bool} {e : Expr} {q : Bool} {m : Den} {pos : Pos}
end
end Z


set_option Elab.async false
set_option linter.all false
set_option maxRecDepth 100000
set_option maxHeartbeats 4000000
/-! set of a text -/
namespace Z
open PySem PySem.Spec PyProof.Rows L2
section
variable {P : Program} {w : World} {A : Around} {E : Value → Shared → Prop} {s : Shared}
end
end Z


set_option Elab.async false
set_option linter.all false
set_option maxRecDepth 100000
set_option maxHeartbeats 1000000
/-! sorted(set(a text)) -/
namespace Z
open PySem PySem.Spec PyProof.Rows L2
section
variable {X : Cx} {e : Expr} {q : Bool} {m : Den} {p p2 pos pos2 : Pos}
end
end Z


set_option Elab.async false
set_option linter.all false
set_option maxRecDepth 100000
/-! dicts: list(d) -/
namespace Z
open PySem PySem.Spec PyProof.Rows L2
section
variable {X : Cx}
end
end Z


set_option Elab.async false
set_option linter.all false
set_option maxRecDepth 100000
/-! dicts: d.get(k) of a name -/
namespace Z
open PySem PySem.Spec PyProof.Rows L2
section
variable {X : Cx} {pins : List (Addr × Obj)} {σ : L2.St} {H : Hp}
end
end Z


set_option Elab.async false
set_option linter.all false
set_option maxRecDepth 100000
/-! list of a text -/
namespace Z
open PySem PySem.Spec PyProof.Rows L2
section
variable {X : Cx}
end
end Z


set_option Elab.async false
set_option linter.all false
set_option maxRecDepth 100000
/-! a text, so many times -/
namespace Z
open PySem PySem.Spec PyProof.Rows L2
def repS (x : Str) (j : Nat) : Str := ⟨(List.replicate j x.cps.toList).flatten.toArray⟩
theorem rep_ok {x : Str} (h : PyData.strOk x = true) (j : Nat) : PyData.strOk (repS x j) = true := strOk_of fun c hc => by
  obtain ⟨l, hl, hc⟩ := List.mem_flatten.mp hc
  rw [List.eq_of_mem_replicate hl] at hc
  exact strOk_mem h hc
section
variable {X : Cx}
end
end Z


set_option Elab.async false
set_option linter.all false
set_option maxRecDepth 100000
/-! objects of classes: fields read and set -/
namespace Z
open PySem PySem.Spec PyProof.Rows L2
/-- the place of a field -/
def fIx : List Str → Str → Option Nat
  | [], _ => none
  | n :: ns, f => if n = f then some 0 else (fIx ns f).map (· + 1)
theorem fIx_lt : ∀ {ns : List Str} {f : Str} {j : Nat}, fIx ns f = some j → j < ns.length
  | [], f, j, h => by cases h
  | n :: ns, f, j, h => by
    rw [fIx] at h
    by_cases e : n = f
    · rw [if_pos e] at h; cases h; simp
    · rw [if_neg e] at h
      obtain ⟨i, hi, rfl⟩ := Option.map_eq_some_iff.mp h
      have := fIx_lt hi
      simp; omega
theorem lookup_fIx : ∀ {ns : List Str} {vs : List V} {f : Str} {j : Nat} {w : V}, fIx ns f = some j → vs[j]? = some w → (ns.zip vs).lookup f = some w
  | [], vs, f, j, w, h, _ => by cases h
  | n :: ns, [], f, j, w, h, hw => by simp at hw
  | n :: ns, v :: vs, f, j, w, h, hw => by
    rw [fIx] at h
    rw [List.zip_cons_cons, List.lookup_cons]
    by_cases e : n = f
    · rw [if_pos e] at h; cases h
      have : (f == n) = true := beq_iff_eq.mpr e.symm
      rw [this]; simpa using hw
    · rw [if_neg e] at h
      obtain ⟨i, hi, rfl⟩ := Option.map_eq_some_iff.mp h
      have : (f == n) = false := beq_eq_false_iff_ne.mpr fun z => e z.symm
      rw [this]
      exact lookup_fIx hi (by simpa using hw)
theorem lookup_no : ∀ {ns : List Str} {vs : List V} {f : Str}, fIx ns f = none → (ns.zip vs).lookup f = none
  | [], vs, f, h => by simp
  | n :: ns, [], f, h => by simp
  | n :: ns, v :: vs, f, h => by
    rw [fIx] at h
    by_cases e : n = f
    · rw [if_pos e] at h; cases h
    · rw [if_neg e] at h
      have : (f == n) = false := beq_eq_false_iff_ne.mpr fun z => e z.symm
      rw [List.zip_cons_cons, List.lookup_cons, this]
      exact lookup_no (Option.map_eq_none_iff.mp h)
theorem putF_at : ∀ {ns : List Str} {vs : List V} {f : Str} {j : Nat} {y : V}, fIx ns f = some j → ns.length = vs.length → putF f y (ns.zip vs) = ns.zip (vs.set j y)
  | [], vs, f, j, y, h, _ => by cases h
  | n :: ns, [], f, j, y, h, hl => by cases hl
  | n :: ns, v :: vs, f, j, y, h, hl => by
    rw [fIx] at h
    rw [List.zip_cons_cons, putF]
    by_cases e : n = f
    · rw [if_pos e] at h; cases h
      rw [if_pos e]; rfl
    · rw [if_neg e] at h
      obtain ⟨i, hi, rfl⟩ := Option.map_eq_some_iff.mp h
      rw [if_neg e, putF_at hi (by simpa using hl)]; rfl
theorem putF_new : ∀ {ns : List Str} {vs : List V} {f : Str} {y : V}, fIx ns f = none → ns.length = vs.length → putF f y (ns.zip vs) = (ns ++ [f]).zip (vs ++ [y])
  | [], [], f, y, _, _ => rfl
  | [], _ :: _, f, y, _, hl => by cases hl
  | n :: ns, [], f, y, h, hl => by cases hl
  | n :: ns, v :: vs, f, y, h, hl => by
    rw [fIx] at h
    by_cases e : n = f
    · rw [if_pos e] at h; cases h
    · rw [if_neg e] at h
      rw [List.zip_cons_cons, putF, if_neg e, putF_new (Option.map_eq_none_iff.mp h) (by simpa using hl)]; rfl
/-- a field with a new datum -/
def putO (c : Str) (ns : List Str) (xs : List D) (f : Str) (d : D) : D := match fIx ns f with
  | some j => .obj c ns (xs.set j d)
  | none => .obj c (ns ++ [f]) (xs ++ [d])
def fldR (r : R) (j : Nat) (e : D) : Option R := if e.imm then some (.own e) else match r with
  | .at s p => some (.at s (p ++ [j]))
  | _ => none
/-- o.f -/
def dFld (cn f : Str) (m : Den) : Den := fun δ => match m δ with
  | some (r, δ1) => match deref δ1 r with
    | some (.obj c ns xs) => if c = cn then match fIx ns f with
      | some j => match xs[j]? with
        | some e => match fldR r j e with
          | some r' => some (r', δ1)
          | none => none
        | none => none
      | none => none
      else none
    | _ => none
  | none => none
theorem dFld_inv {cn f : Str} {m : Den} {δ δ' : DE} {rr : R} (h : dFld cn f m δ = some (rr, δ')) : ∃ r ns xs j e, m δ = some (r, δ') ∧ deref δ' r = some (.obj cn ns xs) ∧ fIx ns f = some j ∧ xs[j]? = some e ∧ fldR r j e = some rr := by
  unfold dFld at h
  split at h
  · split at h
    · split at h
      · rename_i hc
        split at h
        · split at h
          · split at h
            · cases h
              subst hc
              exact ⟨_, _, _, _, _, by assumption, by assumption, by assumption, by assumption, by assumption⟩
            · cases h
          · cases h
        · cases h
      · cases h
    · cases h
  · cases h
section
variable {X : Cx} {e : Expr} {q : Bool} {m : Den} {pos : Pos} {cn f : Str}
theorem z_fld (c : Cls X.K (He.ga X.K cn)) (n : NoAttr X.K (He.ga X.K cn) f) (he : PE X e (T (kx X) q m)) (hb : attributeBase e f X.env (eval e X.env) = eval e X.env := by rfl) : PE X (.Attribute e f pos) (T (kx X) q (dFld cn f m)) :=
  PE.imp (pe_fld he hb) fun σ H Q h => by
    obtain ⟨δ, o, rr, δ', E, nn, hm, k⟩ := h
    obtain ⟨r, ns, xs, j, d, h1, h2, h3, h4, h5⟩ := dFld_inv hm
    refine ⟨δ, o, r, δ', E, nn, h1, fun v H1 o1 ov1 P => ?_⟩
    obtain ⟨o', rd, _⟩ := P.held.deref P.env h2
    obtain ⟨a, dx, vs, ox, rfl, hq, hl, rs, _⟩ := rd
    obtain ⟨w, oj, hw, rw_, _⟩ := rs.get h4
    refine ⟨a, _, dx, _, w, rfl, hq, c, n, lookup_fIx h3 hw, ?_⟩
    unfold fldR at h5
    have wr : Own H o o1 := own_right P.own
    by_cases hi : d.imm = true
    · rw [if_pos hi] at h5
      cases h5
      have := rw_.imm hi
      subst this
      exact k w H1 o1 [] ⟨P.step, P.env, rw_, wr.sub fun a => by simp⟩
    · rw [if_neg hi] at h5
      cases r with
      | own _ => simp at h5
      | «at» s p =>
        cases h5
        obtain ⟨_, u, hu, hp⟩ := P.held
        refine k w H1 o1 [] ⟨P.step, P.env, ⟨rfl, u, hu, hp.snocC (.inr ⟨_, dx, _, hq, ?_⟩)⟩, wr.sub fun a => by simp⟩
        rw [List.map_snd_zip (by rw [hl, rs.length]; exact Nat.le_refl _)]; exact hw
end
section
variable {κ : Kx} {H : Hp} {σ : L2.St}
/-- the object at a place of the names, and another content in its stead -/
theorem Envs.mutO {δ : DE} {o : List Addr} {s : Nat} {p : List Nat} {d0 : D} {cn : Str} {ns : List Str} {xs : List D} {v : V} {ov : List Addr} (E : Envs κ H σ δ o) (hh : Held κ.K H σ (.at s p) v ov) (hd : δ[s]? = some (some d0)) (hg : getP p d0 = some (.obj cn ns xs)) :
    ∃ a dx vs oxs, v = .ref a ∧ H a = some (.ins (He.ga κ.K.K cn) dx (ns.zip vs)) ∧ ns.length = xs.length ∧ Reps κ.K H xs vs oxs ∧ a ∈ o ∧ (∀ b, oxs.count b ≤ o.count b) ∧
      ∀ ov ns' xs' vs' oxs' d', Nd (ov ++ o) → ns'.length = xs'.length → Reps κ.K H xs' vs' oxs' → (∀ b, oxs'.count b ≤ oxs.count b + ov.count b) → setP p d0 (.obj cn ns' xs') = some d' → ∃ o', Envs κ (upd H a (.ins (He.ga κ.K.K cn) dx (ns'.zip vs'))) σ (δ.set s (some d')) o' ∧ ∀ b, o'.count b ≤ ov.count b + o.count b := by
  obtain ⟨_, u, hu, hp⟩ := hh
  obtain ⟨v0, oa, oi, ob, hv0, rd, rfl, kr, _⟩ := E.at hd
  rw [hu] at hv0; cases hv0
  obtain ⟨oe, or_, re, hc, k2⟩ := rd.path hg hp
  obtain ⟨a, dx, vs, oxs, rfl, ha, hl, rs, rfl⟩ := re
  have hca := hc a
  rw [List.count_cons_self] at hca
  refine ⟨a, dx, vs, oxs, rfl, ha, hl, rs, ?_, fun b => ?_, fun ov ns' xs' vs' oxs' d' n hl' r' c' hs => ?_⟩
  · refine List.count_pos_iff.mp ?_
    simp only [List.count_append]; omega
  · have h1 := hc b
    have h2 : oxs.count b ≤ (a :: oxs).count b := List.count_le_count_cons
    simp only [List.count_append]; omega
  · have nn := fun b => n b
    simp only [List.count_append] at nn
    have na := nn a
    have nax : a ∉ oxs' := fun hm => by
      have h1 := c' a
      have h2 : 0 < oxs'.count a := List.count_pos_iff.mpr hm
      omega
    have fra : ∀ (l : List Addr), a ∉ l → Fr H (upd H a (.ins (He.ga κ.K.K cn) dx (ns'.zip vs'))) l := fun l hl => ⟨fun b hb => upd_ne (fun e => hl (e ▸ hb)), fun b w e hw => by
      have : b ≠ a := fun z => by rw [z, ha] at e; cases e; exact hw
      rw [upd_ne this]; exact e, (Step.writeO (W := [a]) ha ow_ins List.mem_cons_self).tab⟩
    have nar : a ∉ or_ := fun hm => by
      have h2 : 0 < or_.count a := List.count_pos_iff.mpr hm
      omega
    have nab : a ∉ oa ++ ob := fun hm => by
      have h2 : 0 < (oa ++ ob).count a := List.count_pos_iff.mpr hm
      rw [List.count_append] at h2
      omega
    obtain ⟨o1', r1, c1⟩ := k2 (upd H a (.ins (He.ga κ.K.K cn) dx (ns'.zip vs'))) (.obj cn ns' xs') (a :: oxs') d' ⟨a, dx, vs', oxs', rfl, upd_same, hl', r'.fr (fra _ nax), rfl⟩ (fra _ nar) hs
    refine ⟨oa ++ o1' ++ ob, kr _ d' o1' r1 (fra _ nab), fun b => ?_⟩
    have h1 := hc b
    have h2 := c1 b
    have h3 := c' b
    simp only [List.count_append, List.count_cons] at h1 h2 h3 ⊢
    omega
end
/-- o.f = e -/
def dSetF (cn f : Str) (mo me : Den) : Blk := fun δ => match me δ with
  | some (.own d, δ1) => match mo δ1 with
    | some (.at s p, δ2) => match δ2[s]? with
      | some (some d0) => match getP p d0 with
        | some (.obj c ns xs) => if c = cn ∧ ns.length < 1000 then match setP p d0 (putO cn ns xs f d) with
          | some d' => some (.nx (δ2.set s (some d')))
          | none => none
          else none
        | _ => none
      | _ => none
    | _ => none
  | _ => none
theorem dSetF_inv {cn f : Str} {mo me : Den} {δ : DE} {out : Out} (h : dSetF cn f mo me δ = some out) : ∃ d δ1 s p δ2 d0 ns xs d', me δ = some (.own d, δ1) ∧ mo δ1 = some (.at s p, δ2) ∧ δ2[s]? = some (some d0) ∧ getP p d0 = some (.obj cn ns xs) ∧ ns.length < 1000 ∧ setP p d0 (putO cn ns xs f d) = some d' ∧ out = .nx (δ2.set s (some d')) := by
  unfold dSetF at h
  split at h
  · split at h
    · split at h
      · split at h
        · split at h
          · rename_i hc
            split at h
            · cases h
              obtain ⟨rfl, hn⟩ := hc
              exact ⟨_, _, _, _, _, _, _, _, _, by assumption, by assumption, by assumption, by assumption, hn, by assumption, rfl⟩
            · cases h
          · cases h
        · cases h
      · cases h
    · cases h
  · cases h
section
variable {X : Cx} {o value : Expr} {qo q : Bool} {mo me : Den} {pos pos' : Pos} {cn f : Str} {kp : Nat → Bool}
theorem z_setF (c : Cls X.K (He.ga X.K cn)) (n : NoAttr X.K (He.ga X.K cn) f) (hv : PE X value (T (kx X) q me)) (ho : PE X o (T (kx X) qo mo)) (hs : swapsWith value (some (.Attribute o f pos')) pos.line X.env = pure false := by rfl) : PS X (.Assign [.Attribute o f pos'] value pos) (TSm (kx X) kp (dSetF cn f mo me)) :=
  PS.imp (ps_fld ho hv hs) fun D' σ H ⟨δ, o, out, E, nn, hm, k⟩ => by
    obtain ⟨d, δ1, s, p, δ2, d0, ns, xs, d', g1, g2, hd, hg, hlen, hsp, rfl⟩ := dSetF_inv hm
    refine (Stk.start E).push nn g1 (by simp [allShort]) fun y H1 S1 => ?_
    refine S1.push nn g2 (by simp [allShort, R.short]) fun x H2 S2 => ?_
    obtain ⟨o3, ov, s3, E3, ⟨x', vr2, ox, oy1, e2, hx, ⟨y', vr3, oy, on, e3, hy, ⟨e4, e5⟩, e6⟩, e7⟩, w3⟩ := S2
    subst e5 e6 e7 e4
    cases e3; cases e2
    have hx0 : ox = [] := hx.1
    subst hx0
    obtain ⟨a, dx, vs, oxs, rfl, ha, hl, rs, hao, hcx, km⟩ := Envs.mutO E3 hx hd hg
    have hy : Rep X.F H2 d y oy := hy
    simp only [List.nil_append, List.append_nil] at w3
    have n3 := w3.nd nn
    have hlv : ns.length = vs.length := by rw [hl, rs.length]
    refine ⟨a, _, dx, _, rfl, ha, c, n, ?_, ?_⟩
    · rw [List.length_zip]
      exact Nat.lt_of_le_of_lt (Nat.min_le_left _ _) hlen
    · have key : ∀ ns' xs' vs' oxs', putO cn ns xs f d = .obj cn ns' xs' → putF f y (ns.zip vs) = ns'.zip vs' → ns'.length = xs'.length → Reps X.F H2 xs' vs' oxs' → (∀ b, oxs'.count b ≤ oxs.count b + oy.count b) → D'.nx σ (upd H2 a (.ins (He.ga X.K cn) dx (putF f y (ns.zip vs)))) := fun ns' xs' vs' oxs' e1 e2 e3 r' c' => by
        rw [e1] at hsp
        obtain ⟨o4, E4, c4⟩ := km oy ns' xs' vs' oxs' d' n3 e3 r' c' hsp
        rw [e2]
        refine k σ _ o4 ⟨⟨fun b u e hn2 hu3 => ?_, fun b e => ?_, fun P g => (Step.writeO (W := [a]) ha ow_ins List.mem_cons_self).tab P (s3.tab P g)⟩, E4, fun b => ?_, fun _ _ => rfl⟩
        · have e2 := s3.keep b u e (fun hm => hn2 (Wq_sub b hm)) hu3
          have : b ≠ a := fun z => by
            subst z
            rcases w3 b with w | ⟨w, _⟩
            · have h5 : 0 < o3.count b := List.count_pos_iff.mpr hao
              rw [List.count_append] at w
              exact hn2 (List.count_pos_iff.mp (by omega))
            · rw [e] at w; cases w
          rw [upd_ne this]; exact e2
        · by_cases z : b = a
          · subst z; rw [upd_same] at e; cases e
          · rw [upd_ne z] at e; exact s3.dom b e
        · have g1 := c4 b
          rcases w3 b with w | ⟨z, w⟩
          · rw [List.count_append] at w
            exact .inl (by omega)
          · rw [List.count_append] at w
            exact .inr ⟨z, by omega⟩
      unfold putO at key
      cases hf : fIx ns f with
      | some j =>
        rw [hf] at key
        have hj := fIx_lt hf
        obtain ⟨w, oa, o1, ob, e1, r1, rfl, kk⟩ := rs.at (i := j) (List.getElem?_eq_getElem (by omega))
        refine key ns _ _ _ rfl (putF_at hf hlv) (by rw [List.length_set]; exact hl) (kk H2 d y oy hy ⟨fun _ _ => rfl, fun _ _ e _ => e⟩) fun b => ?_
        simp only [List.count_append]; omega
      | none =>
        rw [hf] at key
        refine key _ _ _ _ rfl (putF_new hf hlv) (by simp [hl]) (rs.append (.one hy)) fun b => ?_
        rw [List.count_append]; omega
end
end Z


set_option Elab.async false
set_option linter.all false
set_option maxRecDepth 100000
/-! objects of classes: methods, new ones -/
namespace Z
open PySem PySem.Spec PyProof.Rows L2
/-- o.m(..): the def with the object ahead of the arguments -/
def dMethU (cn mn : Str) (q : Bool) (m : Fn) (mo : Den) (ma : DE → Option (List R × DE)) : Den := fun δ => match mo δ with
  | some (r, δ1) => match deref δ1 r with
    | some (.obj c ns _) => if c = cn ∧ fIx ns mn = none then dUser m (dACons q mo ma) δ else none
    | _ => none
  | none => none
theorem dMethU_inv {cn mn : Str} {q : Bool} {m : Fn} {mo : Den} {ma : DE → Option (List R × DE)} {δ δ' : DE} {rr : R} (h : dMethU cn mn q m mo ma δ = some (rr, δ')) : ∃ r δ1 ns xs, mo δ = some (r, δ1) ∧ deref δ1 r = some (.obj cn ns xs) ∧ fIx ns mn = none ∧ dUser m (dACons q mo ma) δ = some (rr, δ') := by
  unfold dMethU at h
  split at h
  · split at h
    · split at h
      · rename_i hc
        obtain ⟨rfl, hn⟩ := hc
        exact ⟨_, _, _, _, by assumption, by assumption, hn, h⟩
      · cases h
    · cases h
  · cases h
section
variable {X : Cx} {o e : Expr} {es : List Expr} {qo q : Bool} {mo : Den} {mr : DE → Option (List R × DE)} {m : Fn} {k : Nat} {f : Addr} {fd : FuncData} {ps : List Str} {cn mn x : Str} {p pos apos : Pos}
theorem user_core {σ : L2.St} {H : Hp} {Q : VK} {δ δ1 δ2 : DE} {o : List Addr} {rs : List R} {ds : List D} {rr : D} {fs : List (Option D)} (n : Nd o) (hr : rootsOk rs = true) (h2 : derefs δ1 rs = some ds) (h3 : m ds = some (rr, fs)) (h4 : puts δ1 rs fs = some δ2)
    (k : ∀ v H' o' ov, Post (kx X) H σ false o (.own rr) δ2 v H' o' ov → Q v H') (vs : List V) (H1 : Hp) (o1 ov1 : List Addr) (s1 : Step H H1 (Wq q o)) (E1 : Envs (kx X) H1 σ δ1 o1) (hl : HeldL X.F H1 σ rs vs ov1) (w1 : Own H o (ov1 ++ o1)) : spD X.F m (vs ++ []) H1 Q E0 := by
  obtain ⟨oA, oR, ra, hc, kp⟩ := take_args E1 hl h2 hr
  have n1 := w1.nd n
  have nA : Nd oA := fun a => by have h5 := hc a; have h6 := n1 a; rw [List.count_append] at h6; omega
  rw [List.append_nil]
  refine ⟨ds, oA, rr, fs, ra, nA, E1.tabs.bare, h3, fun v H2 ov of_ s2 rv E2 w2 => ?_⟩
  have hd1 : ∀ a ∈ oR, ∃ u, H1 a = some u ∧ Ow u := fun a ha => by
    have h5 := hc a
    have h6 : 0 < oR.count a := List.count_pos_iff.mpr ha
    have h7 : 0 < ov1.count a ∨ 0 < o1.count a := by omega
    exact h7.elim (fun z => hl.own a (List.count_pos_iff.mp z)) (fun z => E1.own a (List.count_pos_iff.mp z))
  have ap : ∀ a ∈ oR, a ∉ oA := fun a ha hb => by
    have h5 := hc a
    have h6 := n1 a
    have h7 : 0 < oR.count a := List.count_pos_iff.mpr ha
    have h8 : 0 < oA.count a := List.count_pos_iff.mpr hb
    rw [List.count_append] at h6
    omega
  have f : Fr H1 H2 oR := s2.fr (fun a ha => by obtain ⟨vs, e, how⟩ := ra.own a ha; exact ⟨_, e, how.1⟩) hd1 ap
  obtain ⟨o2, E3, c3⟩ := kp H2 fs of_ E2 f δ2 h4
  have s3 : Step H H2 o := by
    refine ⟨fun a u e hn hu => ?_, fun a e => s1.dom a (s2.dom a e), fun P g => s2.tab P (s1.tab P g)⟩
    have e1 := s1.keep a u e (fun z => hn (Wq_sub a z)) hu
    refine s2.keep a u e1 (fun z => ?_) hu
    have h5 := hc a
    have h6 : 0 < oA.count a := List.count_pos_iff.mpr z
    rcases w1 a with w | ⟨w, _⟩
    · rw [List.count_append] at w
      exact hn (List.count_pos_iff.mp (by omega))
    · rw [e] at w; cases w
  refine k v H2 o2 ov ⟨s3, E3, rv, fun a => ?_⟩
  have g1 := hc a
  have g2 := c3 a
  have g3 := w1 a
  have g4 := w2 a
  simp only [List.count_append] at g1 g2 g3 g4 ⊢
  rcases g4 with g4 | ⟨z, g4⟩
  · rcases g3 with g3 | ⟨z3, g3⟩
    · left; omega
    · right; exact ⟨z3, by omega⟩
  · have hz : oR.count a = 0 := List.count_eq_zero.mpr fun hb => by
      obtain ⟨u, e, _⟩ := hd1 a hb
      rw [z] at e; cases e
    exact .inr ⟨s1.dom a z, by omega⟩
theorem dUser_inv {ma : DE → Option (List R × DE)} {δ δ' : DE} {r : R} (h : dUser m ma δ = some (r, δ')) : ∃ rs δ1 ds rr fs, ma δ = some (rs, δ1) ∧ rootsOk rs = true ∧ derefs δ1 rs = some ds ∧ m ds = some (rr, fs) ∧ puts δ1 rs fs = some δ' ∧ r = .own rr := by
  unfold dUser at h
  split at h
  · split at h
    · split at h
      · split at h
        · split at h
          · cases h
            exact ⟨_, _, _, _, _, by assumption, by assumption, by assumption, by assumption, by assumption, rfl⟩
          · cases h
        · cases h
      · cases h
    · cases h
  · cases h
theorem t_methO {σ : L2.St} {H : Hp} {Q : VK} (h : T (kx X) false (dMethU cn mn q m mo mr) σ H Q) : tMeth (He.ga X.K cn) mn (spD X.F m) [] E0 (T (kx X) qo mo) (TAr (kx X) q mr) σ H Q := by
  obtain ⟨δ, o, rr, δ', E, n, hm, k⟩ := h
  obtain ⟨r, δ1, ns, xs, h1, h2, h3, h4⟩ := dMethU_inv hm
  obtain ⟨rs, δ3, ds, rr, fs, g1, g2, g3, g4, g5, rfl⟩ := dUser_inv h4
  simp only [dACons, h1] at g1
  cases h5 : mr δ1 with
  | none => rw [h5] at g1; simp at g1
  | some p2 =>
    obtain ⟨xs2, δ2⟩ := p2
    rw [h5] at g1; dsimp only at g1
    by_cases hc : (r.short || q) = true
    · rw [if_pos hc] at g1
      simp only [Option.some.injEq, Prod.mk.injEq] at g1
      obtain ⟨rfl, rfl⟩ := g1
      refine ⟨δ, o, r, δ1, E, n, h1, fun v H1 o1 ov1 P1 => ?_⟩
      obtain ⟨o', rd, _⟩ := P1.held.deref P1.env h2
      obtain ⟨a, dx, vs, ox, rfl, hq, hl, rs0, _⟩ := rd
      refine ⟨a, dx, _, rfl, hq, lookup_no h3, ?_⟩
      refine ⟨δ1, o1, xs2, δ2, P1.env, nd_of P1.own n, h5, fun vs2 H2 o2 ov2 s2 E2 hl2 w2 => ?_⟩
      have ap := apart_of P1.own n
      refine user_core (q := qo && q) (δ := δ) n g2 g3 g4 g5 k (.ref a :: vs2) H2 o2 (ov1 ++ ov2) (P1.step.seq (own_right P1.own) s2) E2 ⟨.ref a, vs2, ov1, ov2, rfl, ?_, hl2, rfl⟩ (own_app P1.own P1.step P1.held.dom w2)
      refine P1.held.step s2 (Wq_ok P1.env) (fun a ha hw => ap a ha (Wq_sub a hw)) ?_
      simp only [Bool.or_eq_true] at hc
      rcases hc with hc | hc
      · exact .inl hc
      · right; subst hc; rfl
    · rw [if_neg hc] at g1; simp at g1
theorem z_methO {pl : Sem Bool} (c : Cls X.K (He.ga X.K cn)) (hm : Meth X.K (He.ga X.K cn) mn f) (F : FnOk X.prog X.w X.K X.mg X.base CX0 k f fd ps (spD X.F m)) (hr : Room k X.A) (hb : Binds X.K fd ps []) (ho : PE X o (T (kx X) qo mo)) (ha : PA X (e :: es) (TAr (kx X) q mr))
    (hst : starEach (e :: es) X.env = (false, eval e X.env) :: starEach es X.env := by rfl) (hpl : (backTo pos (starEach es X.env)).any (·.1) = false := by rfl)
    (ht : eval (.Call (.Attribute o mn apos) (e :: es) [] pos) X.env = (do
      let ov ← eval o X.env
      standAt apos.atName
      let (f, first) ← holding [ov] (getMethod ov mn pl)
      callWith pos f first (backTo pos (starEach (e :: es) X.env)) (backToKw pos (keywordEach [] X.env))) := by rfl) :
    PE X (.Call (.Attribute o mn apos) (e :: es) [] pos) (T (kx X) false (dMethU cn mn q m mo mr)) :=
  PE.imp (pe_meth ho c hm F hr hb .nil pass0 ha hst hpl ht) fun σ H Q h => t_methO h
/-- C(..) -/
def dMake (cn : Str) (m : Fn) (ma : DE → Option (List R × DE)) : Den := fun δ => match ma δ with
  | some (rs, δ1) => if rootsOk rs then match derefs δ1 rs with
    | some ds => match m (.obj cn [] [] :: ds) with
      | some (.non, some self :: fs) => match puts δ1 rs fs with
        | some δ2 => some (.own self, δ2)
        | none => none
      | _ => none
    | none => none
    else none
  | none => none
theorem dMake_inv {ma : DE → Option (List R × DE)} {δ δ' : DE} {r : R} (h : dMake cn m ma δ = some (r, δ')) : ∃ rs δ1 ds self fs, ma δ = some (rs, δ1) ∧ rootsOk rs = true ∧ derefs δ1 rs = some ds ∧ m (.obj cn [] [] :: ds) = some (.non, some self :: fs) ∧ puts δ1 rs fs = some δ' ∧ r = .own self := by
  unfold dMake at h
  split at h
  · split at h
    · split at h
      · split at h
        · split at h
          · cases h
            exact ⟨_, _, _, _, _, by assumption, by assumption, by assumption, by assumption, by assumption, rfl⟩
          · cases h
        · cases h
      · cases h
    · cases h
  · cases h
theorem t_make {σ : L2.St} {H : Hp} {Q : VK} (h : T (kx X) false (dMake cn m mr) σ H Q) : tMake (He.ga X.K cn) (spD X.F m) [] E0 (TAr (kx X) q mr) σ H Q := by
  obtain ⟨δ, o, r, δ2, E, n, hm, k⟩ := h
  obtain ⟨rs, δ1, ds, self, fs, h1, hr, h2, h3, h4, rfl⟩ := dMake_inv hm
  refine ⟨δ, o, rs, δ1, E, n, h1, fun vs H1 o1 ov1 s1 E1 hl w1 => ?_⟩
  intro x dx hx hdx hne
  rw [List.append_nil]
  obtain ⟨oA, oR, ra, hc, kp⟩ := take_args E1 hl h2 hr
  have n1 := w1.nd n
  have nA : Nd oA := fun a => by have h5 := hc a; have h6 := n1 a; rw [List.count_append] at h6; omega
  have hdom : ∀ a ∈ ov1 ++ o1, H1 a ≠ none := fun a ha => (List.mem_append.mp ha).elim (hl.dom a) (E1.dom a)
  have hxA : ∀ z, H1 z = none → oA.count z = 0 ∧ oR.count z = 0 := fun z hz => by
    have h5 := hc z
    have h6 : (ov1 ++ o1).count z = 0 := List.count_eq_zero.mpr fun hm => hdom z hm hz
    rw [List.count_append] at h6; omega
  have same : ∀ a u, H1 a = some u → (upd (upd H1 dx (.own x)) x (.ins (He.ga X.K cn) dx [])) a = some u := fun a u e => by
    rw [upd_ne (ne_of_none e hx), upd_ne (ne_of_none e hdx)]; exact e
  have st0 : ∀ W, Step H1 (upd (upd H1 dx (.own x)) x (.ins (He.ga X.K cn) dx [])) W := fun W => Step.of_same W same
  have hfr : ∀ b, (upd (upd H1 dx (.own x)) x (.ins (He.ga X.K cn) dx [])) b = none → H1 b = none := fun b e => (st0 []).dom b e
  refine ⟨.obj cn [] [] :: ds, x :: oA, .non, some self :: fs, ⟨.ref x, vs, [x], oA, rfl, ⟨x, dx, [], [], rfl, upd_same, rfl, ⟨rfl, rfl⟩, rfl⟩, ra.same same, rfl⟩, fun a => ?_, (E1.same same).tabs.bare, h3, fun v H2 ov of_ s2 rv E2 w2 => ?_⟩
  · have := nA a
    by_cases ha : x = a
    · subst ha
      have := (hxA x hx).1
      rw [List.count_cons_self]; omega
    · rw [List.count_cons_of_ne ha]; exact this
  · obtain ⟨rfl, rfl⟩ := rv
    refine ⟨rfl, ?_⟩
    obtain ⟨p1, p2, r1, E3, rfl⟩ := E2
    have hd1 : ∀ a ∈ oR, ∃ u, H1 a = some u ∧ Ow u := fun a ha => by
      have h5 := hc a
      have h6 : 0 < oR.count a := List.count_pos_iff.mpr ha
      have h7 : 0 < ov1.count a ∨ 0 < o1.count a := by omega
      exact h7.elim (fun z => hl.own a (List.count_pos_iff.mp z)) (fun z => E1.own a (List.count_pos_iff.mp z))
    have ap : ∀ a ∈ oR, a ∉ x :: oA := fun a ha hb => by
      have h5 := hc a
      have h6 := n1 a
      have h7 : 0 < oR.count a := List.count_pos_iff.mpr ha
      rcases List.mem_cons.mp hb with rfl | hb
      · have := (hxA a hx).2; omega
      · have h8 : 0 < oA.count a := List.count_pos_iff.mpr hb
        rw [List.count_append] at h6
        omega
    have f1 : Fr H1 (upd (upd H1 dx (.own x)) x (.ins (He.ga X.K cn) dx [])) oR := ⟨fun a ha => by obtain ⟨u, e, _⟩ := hd1 a ha; rw [e]; exact same a u e, fun a u e _ => same a u e, (st0 []).tab⟩
    have f2 : Fr (upd (upd H1 dx (.own x)) x (.ins (He.ga X.K cn) dx [])) H2 oR := s2.fr (fun a ha => by
      rcases List.mem_cons.mp ha with rfl | ha
      · exact ⟨_, upd_same, ow_ins.1⟩
      · obtain ⟨vs, e, how⟩ := ra.own a ha; exact ⟨_, same _ _ e, how.1⟩) (fun a ha => by obtain ⟨u, e, how⟩ := hd1 a ha; exact ⟨u, same a u e, how⟩) ap
    have f : Fr H1 H2 oR := ⟨fun a ha => (f2.left a ha).trans (f1.left a ha), fun a u e hs => f2.right a u (f1.right a u e hs) hs, fun P g => f2.tab P (f1.tab P g)⟩
    obtain ⟨o2, E4, c3⟩ := kp H2 fs p2 E3 f δ2 h4
    have s3 : Step H H2 o := by
      refine ⟨fun a u e hn hu => ?_, fun a e => s1.dom a (hfr a (s2.dom a e)), fun P g => s2.tab P ((st0 []).tab P (s1.tab P g))⟩
      have e1 := s1.keep a u e (fun z => hn (Wq_sub a z)) hu
      refine s2.keep a u (same a u e1) (fun z => ?_) hu
      rcases List.mem_cons.mp z with rfl | z
      · rw [hx] at e1; cases e1
      · have h5 := hc a
        have h6 : 0 < oA.count a := List.count_pos_iff.mpr z
        rcases w1 a with w | ⟨w, _⟩
        · rw [List.count_append] at w
          exact hn (List.count_pos_iff.mp (by omega))
        · rw [e] at w; cases w
    refine k (.ref x) H2 o2 p1 ⟨s3, E4, r1, fun a => ?_⟩
    have g1 := hc a
    have g2 := c3 a
    have g3 := w1 a
    have g4 := w2 a
    simp only [List.count_append, List.nil_append] at g1 g2 g3 g4 ⊢
    by_cases ha : x = a
    · subst ha
      rw [List.count_cons_self] at g4
      have hz := hxA x hx
      refine .inr ⟨s1.dom x hx, ?_⟩
      rcases g4 with g4 | ⟨z, g4⟩ <;> omega
    · rw [List.count_cons_of_ne ha] at g4
      rcases g4 with g4 | ⟨z, g4⟩
      · rcases g3 with g3 | ⟨z3, g3⟩
        · left; omega
        · right; exact ⟨z3, by omega⟩
      · have z1 := hfr a z
        have hz := hxA a z1
        exact .inr ⟨s1.dom a z1, by omega⟩
theorem z_make (M : Mk X.K (He.ga X.K cn) f) (F : FnOk X.prog X.w X.K X.mg X.base CX0 k f fd ps (spD X.F m)) (hr : Room (k + 1) X.A) (hg : Gl X x) (hm : X.mg x = some (.ref (He.ga X.K cn))) (hb : Binds X.K fd ps [])
    (ha : PA X (e :: es) (TAr (kx X) q mr)) (hdb : (x == ("__debug__" : Str)) = false := by decide) (he : starEach (e :: es) X.env = (false, eval e X.env) :: starEach es X.env := by rfl) (hpl : (backTo pos (starEach es X.env)).any (·.1) = false := by rfl) :
    PE X (.Call (.Name x p) (e :: es) [] pos) (T (kx X) false (dMake cn m mr)) :=
  PE.imp (pe_make M F hr hg hm hb .nil pass0 ha hdb he hpl) fun σ H Q h => t_make h
end
end Z


set_option Elab.async false
set_option linter.all false
set_option maxRecDepth 100000
/-! d[k] = v where the dict stands some items down -/
namespace Z
open PySem PySem.Spec PyProof.Rows L2
section
variable {X : Cx}
end
end Z


set_option Elab.async false
set_option linter.all false
set_option maxRecDepth 100000
/-! the head: methods -/
namespace Z
open PySem PySem.Spec PyProof.Rows L2
/-- a method, as the others see it -/
structure MDef (K : PySem.W.Frag) (C m q : Str) (st : Stmt) (ps : List Str) (f : Addr) (fd : FuncData) : Prop where
  fz : FunZ K q (L2.defArgs st) (L2.defBody st) (L2.defScope st) f fd
  mt : Meth K (He.ga K C) m f
  b : Binds K fd ps []
abbrev mOf (C m q : Str) (st : Stmt) : He.DefD := ⟨(C, some m), m, q, L2.defArgs st, L2.defBody st, L2.defScope st, [], []⟩
section
variable {fa : List He.Fa} {fn : List He.DefD} {ts : List He.Tab} {tf : List He.Defn} {w : World} {h : Heap} {K : PySem.W.Frag}
theorem MDef.of (X : K.In h) (c : He.SaysX fa fn ts tf (exTabs tf) w h K) {C m q : Str} {st : Stmt} {ps : List Str} (hd : mOf C m q st ∈ fn) (ht : (C, some m) ∈ tf) (hg : He.Fa.meth C m ∈ fa)
    (hb : ∀ (kV doc pm : Value) (an : Option Addr) (cdv ct : Value) (us : List Value), us.length = ps.length → bindArgs (PySem.W.fnOf m q (L2.defArgs st) (L2.defBody st) (L2.defScope st) .none kV doc pm an cdv ct) ⟨us, []⟩ = pure (ps.zip us)) :
    ∃ fd, MDef K C m q st ps (He.ma K (He.ga K C) m) fd := by
  obtain ⟨fd, F⟩ := He.SaysD.defs (fa := fa) (fn := fn) c.t.d hd
  exact ⟨fd, ⟨funZ_of F (c.hd _ ht), He.meth_ok (He.SaysD.facts c.t.d hg), F.bindsN hb⟩⟩
end
end Z


set_option Elab.async false
set_option linter.all false
set_option maxRecDepth 100000
/-! from denotations to typed functions: what is known of an environment -/
namespace Y
open PySem PySem.Spec PyProof.Rows L2 Z
/-- what is known of a name's place -/
inductive Sl where
  | any | is (d : D)
structure Agr (A : List Sl) (δ : DE) : Prop where
  len : δ.length = A.length
  get : ∀ (i : Nat) (d : D), A[i]? = some (.is d) → δ[i]? = some (some d)
theorem Agr.set {A : List Sl} {δ : DE} (h : Agr A δ) (i : Nat) (d : D) : Agr (A.set i (.is d)) (δ.set i (some d)) where
  len := by simp [h.len]
  get j e hj := by
    rw [List.getElem?_set] at hj ⊢
    by_cases hij : i = j
    · subst hij
      rw [if_pos rfl] at hj ⊢
      by_cases hl : i < A.length
      · rw [if_pos hl] at hj
        rw [if_pos (by rw [h.len]; exact hl)]
        injection hj with hj; injection hj with hj; rw [hj]
      · rw [if_neg hl] at hj; cases hj
    · rw [if_neg hij] at hj ⊢
      exact h.get j e hj
theorem Agr.setAny {A : List Sl} {δ : DE} (h : Agr A δ) (i : Nat) (x : Option D) : Agr (A.set i .any) (δ.set i x) where
  len := by simp [h.len]
  get j e hj := by
    rw [List.getElem?_set] at hj ⊢
    by_cases hij : i = j
    · subst hij
      rw [if_pos rfl] at hj
      by_cases hl : i < A.length
      · rw [if_pos hl] at hj; cases hj
      · rw [if_neg hl] at hj; cases hj
    · rw [if_neg hij] at hj ⊢
      exact h.get j e hj
/-- less is known -/
inductive Le : List Sl → List Sl → Prop
  | nil : Le [] []
  | any {s : Sl} {A B : List Sl} : Le A B → Le (s :: A) (.any :: B)
  | eq {s : Sl} {A B : List Sl} : Le A B → Le (s :: A) (s :: B)
theorem Le.refl : ∀ A : List Sl, Le A A
  | [] => .nil
  | _ :: A => .eq (Le.refl A)
theorem Le.len {A B : List Sl} (h : Le A B) : A.length = B.length := by induction h <;> simp_all
theorem Le.get {A B : List Sl} (h : Le A B) : ∀ (i : Nat) (d : D), B[i]? = some (.is d) → A[i]? = some (.is d) := by
  induction h with
  | nil => intro i d e; cases e
  | any h ih => intro i d e; cases i with
    | zero => simp at e
    | succ i => exact ih i d e
  | eq h ih => intro i d e; cases i with
    | zero => exact e
    | succ i => exact ih i d e
theorem Agr.le {A B : List Sl} {δ : DE} (h : Agr A δ) (l : Le A B) : Agr B δ := ⟨h.len.trans l.len, fun i d e => h.get i d (l.get i d e)⟩
def setSl (A : List Sl) : List Nat → List Sl
  | [] => A
  | v :: vs => (setSl A vs).set v .any
theorem Agr.wipe {A : List Sl} {δ : DE} (h : Agr A δ) : ∀ vs : List Nat, Agr (setSl A vs) (wipeD δ vs)
  | [] => h
  | v :: vs => (Agr.wipe h vs).setAny v none

/-! ### expressions -/
/-- whatever else stands there: x comes out, and A' is known behind; p: nothing is changed -/
def RX {α : Type} (p : Bool) (A : List Sl) (m : DE → Option (α × DE)) (x : α) (A' : List Sl) : Prop := ∀ δ, Agr A δ → ∃ δ', m δ = some (x, δ') ∧ Agr A' δ' ∧ (p = true → δ' = δ)
abbrev RV (p : Bool) (A : List Sl) (m : Den) (r : R) (A' : List Sl) : Prop := RX p A m r A'
abbrev RA (p : Bool) (A : List Sl) (m : DE → Option (List R × DE)) (rs : List R) (A' : List Sl) : Prop := RX p A m rs A'
abbrev RT (p : Bool) (A : List Sl) (m : DenT) (b : Bool) (A' : List Sl) : Prop := RX p A m b A'
abbrev RO (p : Bool) (A : List Sl) (m : DenO) (b : Option Int) (A' : List Sl) : Prop := RX p A m b A'
abbrev RS (p : Bool) (A : List Sl) (m : DenS) (s : Src) (A' : List Sl) : Prop := RX p A m s A'
def Drf (A : List Sl) (r : R) (d : D) : Prop := ∀ δ, Agr A δ → deref δ r = some d
def Drfs (A : List Sl) (rs : List R) (ds : List D) : Prop := ∀ δ, Agr A δ → derefs δ rs = some ds
theorem pp {p1 p2 : Bool} {δ δ1 δ2 : DE} (h1 : p1 = true → δ1 = δ) (h2 : p2 = true → δ2 = δ1) (h : (p1 && p2) = true) : δ2 = δ := by
  simp only [Bool.and_eq_true] at h
  rw [h2 h.2, h1 h.1]
section
variable {p p1 p2 p3 : Bool} {A A1 A2 A3 : List Sl} {m ma mb mc : Den} {r ra rb : R} {rs : List R} {d e : D} {ds : List D} {q : Bool}
theorem drf_own : Drf A (.own d) d := fun _ _ => rfl
theorem drf_at {i : Nat} (h : A[i]? = some (.is d)) : Drf A (.at i []) d := fun δ a => by
  simp only [deref, a.get i d h, getP]
theorem drf_path {i : Nat} {p : List Nat} (h : A[i]? = some (.is d)) (g : getP p d = some e) : Drf A (.at i p) e := fun δ a => by
  simp only [deref, a.get i d h, g]
theorem drfs_nil : Drfs A [] [] := fun _ _ => rfl
theorem drfs_cons (h : Drf A r d) (t : Drfs A rs ds) : Drfs A (r :: rs) (d :: ds) := fun δ a => by
  simp only [derefs, h δ a, t δ a]
theorem r_var {i : Nat} (h : A[i]? = some (.is d)) (g : d.imm = true) : RV true A (dVar i) (.own d) A := fun δ a => ⟨δ, by simp only [dVar, a.get i d h, g, if_true], a, fun _ => rfl⟩
theorem r_varM {i : Nat} (h : A[i]? = some (.is d)) (g : d.imm = false) : RV true A (dVar i) (.at i []) A := fun δ a => ⟨δ, by simp only [dVar, a.get i d h, g]; rfl, a, fun _ => rfl⟩
theorem r_c : RV true A (dC d) (.own d) A := fun δ a => ⟨δ, rfl, a, fun _ => rfl⟩
theorem r_anil : RA true A dANil [] A := fun δ a => ⟨δ, rfl, a, fun _ => rfl⟩
theorem r_acons {mr : DE → Option (List R × DE)} (h : RV p1 A m r A1) (t : RA p2 A1 mr rs A2) (s : (r.short || q) = true) : RA (p1 && p2) A (dACons q m mr) (r :: rs) A2 := fun δ a => by
  obtain ⟨δ1, e1, a1, u1⟩ := h δ a
  obtain ⟨δ2, e2, a2, u2⟩ := t δ1 a1
  exact ⟨δ2, by simp only [dACons, e1, e2, s, if_true], a2, pp u1 u2⟩
theorem r_call {f : List D → Option D} {mr : DE → Option (List R × DE)} (t : RA p A mr rs A1) (g : Drfs A1 rs ds) (h : f ds = some d) : RV p A (dCall f mr) (.own d) A1 := fun δ a => by
  obtain ⟨δ1, e1, a1, u1⟩ := t δ a
  exact ⟨δ1, by simp only [dCall, e1, g δ1 a1, h], a1, u1⟩
theorem r_tup {mr : DE → Option (List R × DE)} (t : RA p A mr rs A1) (g : owns rs = some ds) (h : ds.length ≤ 1000) : RV p A (dTup mr) (.own (.tup ds)) A1 := fun δ a => by
  obtain ⟨δ1, e1, a1, u1⟩ := t δ a
  exact ⟨δ1, by simp only [dTup, e1, g, h, if_true], a1, u1⟩
theorem r_lst {mr : DE → Option (List R × DE)} (t : RA p A mr rs A1) (g : owns rs = some ds) (h : ds.length ≤ 1000) : RV p A (dLst mr) (.own (.lst ds)) A1 := fun δ a => by
  obtain ⟨δ1, e1, a1, u1⟩ := t δ a
  exact ⟨δ1, by simp only [dLst, e1, g, h, if_true], a1, u1⟩
theorem r_sub {i : Int} (h : RV p1 A ma ra A1) (t : RV p2 A1 mb rb A2) (s : (ra.short || q) = true) (g : Drf A2 ra d) (g2 : Drf A2 rb (.int i)) (u : subR ra d i = some r) : RV (p1 && p2) A (dSub q ma mb) r A2 := fun δ a => by
  obtain ⟨δ1, e1, a1, u1⟩ := h δ a
  obtain ⟨δ2, e2, a2, u2⟩ := t δ1 a1
  exact ⟨δ2, by simp only [dSub, e1, e2, s, g δ2 a2, g2 δ2 a2, u, if_true], a2, pp u1 u2⟩
theorem r_nop : RO true A dNoP none A := fun δ a => ⟨δ, rfl, a, fun _ => rfl⟩
theorem r_part {i : Int} (h : RV p A m (.own (.int i)) A1) : RO p A (dPart m) (some i) A1 := fun δ a => by
  obtain ⟨δ1, e1, a1, u1⟩ := h δ a
  exact ⟨δ1, by simp only [dPart, e1], a1, u1⟩
theorem r_slice {ml mh : DenO} {lo hi : Option Int} (h : RV p1 A m r A1) (l : RO p2 A1 ml lo A2) (u : RO p3 A2 mh hi A3) (s : (r.short || q) = true) (g : Drf A3 r d) (f : sliceD lo hi d = some e) : RV (p1 && (p2 && p3)) A (dSlice q m ml mh) (.own e) A3 := fun δ a => by
  obtain ⟨δ1, e1, a1, u1⟩ := h δ a
  obtain ⟨δ2, e2, a2, u2⟩ := l δ1 a1
  obtain ⟨δ3, e3, a3, u3⟩ := u δ2 a2
  exact ⟨δ3, by simp only [dSlice, e1, e2, e3, s, g δ3 a3, f, if_true], a3, pp u1 (pp u2 u3)⟩
/-! tests -/
theorem r_tv {b : Bool} (h : RV p A m r A1) (g : Drf A1 r d) (t : truthD d = some b) : RT p A (dTv m) b A1 := fun δ a => by
  obtain ⟨δ1, e1, a1, u1⟩ := h δ a
  exact ⟨δ1, by simp only [dTv, e1, g δ1 a1, t], a1, u1⟩
theorem r_tb {b : Bool} (h : RV p A m (.own (.bl b)) A1) : RT p A (dTb m) b A1 := fun δ a => by
  obtain ⟨δ1, e1, a1, u1⟩ := h δ a
  exact ⟨δ1, by simp only [dTb, e1], a1, u1⟩
theorem r_not {ta : DenT} {x : Bool} (h : RT p A ta x A1) : RT p A (dNot ta) (!x) A1 := fun δ a => by
  obtain ⟨δ1, e1, a1, u1⟩ := h δ a
  exact ⟨δ1, by simp only [dNot, e1], a1, u1⟩
theorem r_yes : RT true A dYes true A := fun δ a => ⟨δ, rfl, a, fun _ => rfl⟩
/-! a call of a def -/
inductive Puts : Bool → List Sl → List R → List (Option D) → List Sl → Prop
  | nil {A : List Sl} : Puts true A [] [] A
  | own {p : Bool} {A A2 : List Sl} {d : D} {f : Option D} {rs : List R} {fs : List (Option D)} : Puts p A rs fs A2 → Puts p A (.own d :: rs) (f :: fs) A2
  | same {p : Bool} {A A2 : List Sl} {i : Nat} {d : D} {rs : List R} {fs : List (Option D)} : A[i]? = some (.is d) → Puts p (A.set i .any) rs fs A2 → Puts p A (.at i [] :: rs) (some d :: fs) (A2.set i (.is d))
  | pth {p : Bool} {A A2 : List Sl} {i : Nat} {l : List Nat} {d e d' : D} {rs : List R} {fs : List (Option D)} : A[i]? = some (.is d) → Puts p (A.set i .any) rs fs A2 → setP l d e = some d' → Puts false A (.at i l :: rs) (some e :: fs) (A2.set i (.is d'))
theorem Puts.ok {rs : List R} {fs : List (Option D)} (h : Puts p A rs fs A2) : ∀ δ, Agr A δ → ∃ δ2, puts δ rs fs = some δ2 ∧ Agr A2 δ2 ∧ (p = true → δ2 = δ) := by
  induction h with
  | nil => exact fun δ a => ⟨δ, rfl, a, fun _ => rfl⟩
  | own h ih =>
      intro δ a
      obtain ⟨δ2, e, a2, u⟩ := ih δ a
      exact ⟨δ2, by simp only [puts, e], a2, u⟩
  | @same p A A2 i d rs fs h1 h2 ih =>
      intro δ a
      obtain ⟨δ2, e, a2, u⟩ := ih (δ.set _ none) (a.setAny _ none)
      refine ⟨δ2.set i (some d), by simp only [puts, a.get _ _ h1, e, setP], a2.set _ _, fun hp => ?_⟩
      rw [u hp, List.set_set]
      have := a.get _ _ h1
      apply List.ext_getElem?
      intro j
      rw [List.getElem?_set]
      by_cases hij : i = j
      · subst hij
        have hl : i < δ.length := (List.getElem?_eq_some_iff.mp this).1
        rw [if_pos rfl, if_pos hl, this]
      · rw [if_neg hij]
  | pth h1 h2 h3 ih =>
      intro δ a
      obtain ⟨δ2, e, a2, u⟩ := ih (δ.set _ none) (a.setAny _ none)
      exact ⟨δ2.set _ (some _), by simp only [puts, a.get _ _ h1, e, h3], a2.set _ _, fun h => by cases h⟩
theorem r_user {f : Fn} {mr : DE → Option (List R × DE)} {fs : List (Option D)} (t : RA p1 A mr rs A1) (ro : rootsOk rs = true) (g : Drfs A1 rs ds) (h : f ds = some (d, fs)) (pu : Puts p2 A1 rs fs A2) : RV (p1 && p2) A (dUser f mr) (.own d) A2 := fun δ a => by
  obtain ⟨δ1, e1, a1, u1⟩ := t δ a
  obtain ⟨δ2, e2, a2, u2⟩ := pu.ok δ1 a1
  exact ⟨δ2, by simp only [dUser, e1, ro, if_true, g δ1 a1, h, e2], a2, pp u1 u2⟩
theorem RX.weak {α : Type} {m : DE → Option (α × DE)} {x : α} (h : RX p A m x A1) (l : Le A1 A2) : RX p A m x A2 := fun δ a => by
  obtain ⟨δ1, e1, a1, u⟩ := h δ a
  exact ⟨δ1, e1, a1.le l, u⟩
end
/-! ### blocks -/
/-- how a block with ends of all kinds ends -/
inductive Res (β ρ : Type) where
  | nx (b : β) | bk (b : β) | ct (b : β) | rt (r : ρ)
  deriving DecidableEq
def RB {τ : Type} (A : List Sl) (m : Blk) (n : Option τ) (S : τ → Out → Prop) : Prop := ∀ t, n = some t → ∀ δ, Agr A δ → ∃ out, m δ = some out ∧ S t out
def Nx {β : Type} (A : β → List Sl) : β → Out → Prop := fun b out => ∃ δ, out = .nx δ ∧ Agr (A b) δ
def Rt {ρ : Type} (er : ρ → D) (A : ρ → List Sl) : ρ → Out → Prop := fun r out => ∃ δ, out = .rt (er r) δ ∧ Agr (A r) δ
def Rs {β ρ : Type} (A : β → List Sl) (T : ρ → Out → Prop) : Res β ρ → Out → Prop
  | .nx b, out => ∃ δ, out = .nx δ ∧ Agr (A b) δ
  | .bk b, out => ∃ δ, out = .bk δ ∧ Agr (A b) δ
  | .ct b, out => ∃ δ, out = .ct δ ∧ Agr (A b) δ
  | .rt r, out => T r out ∧ ∃ d δ, out = .rt d δ
/-- behind a value that may not be -/
def bnd {α β : Type} : Option α → (α → Option β) → Option β
  | none, _ => none
  | some a, f => f a
@[simp] theorem bnd_some {α β : Type} (a : α) (f : α → Option β) : bnd (some a) f = f a := rfl
@[simp] theorem bnd_none {α β : Type} (f : α → Option β) : bnd none f = none := rfl
/-- a name for a value -/
def lv {α β : Type} (a : α) (f : α → β) : β := f a
section
variable {p p1 p2 p3 : Bool} {τ β ρ α : Type} {A A1 A2 A3 : List Sl} {m ma mb rest : Blk} {S : τ → Out → Prop} {t : τ} {n : Option τ} {me : Den} {d : D} {r : R}
theorem bnd_eq {x : Option α} {f : α → Option β} {y : β} (h : bnd x f = some y) : ∃ a, x = some a ∧ f a = some y := by
  cases x with
  | none => cases h
  | some a => exact ⟨a, rfl, h⟩
theorem k_bnd {x : Option α} {f : α → Option τ} (h : ∀ a, x = some a → RB A m (f a) S) : RB A m (bnd x f) S := fun t e => by
  obtain ⟨a, h1, h2⟩ := bnd_eq e
  exact h a h1 t h2
theorem dSeq_dNx (m : Blk) : dSeq m dNx = m := by
  funext δ
  unfold dSeq
  cases e : m δ with
  | none => rfl
  | some o => cases o <;> rfl
theorem k_last (h : RB A (dSeq m dNx) n S) : RB A m n S := by rwa [dSeq_dNx] at h
theorem k_nil (h : RB A rest n S) : RB A (dSeq dNx rest) n S := h
theorem k_nx (h : ∀ δ, Agr A δ → S t (.nx δ)) : RB A dNx (some t) S := fun t' e δ a => by
  cases (Option.some.inj e)
  exact ⟨_, rfl, h δ a⟩
theorem k_ret {kp : Nat → Bool} (h : RV p A me (.own d) A1) (g : ∀ δ, Agr A1 δ → S t (.rt d δ)) : RB A (dSeq (dRet kp me) rest) (some t) S := fun t' e δ a => by
  cases (Option.some.inj e)
  obtain ⟨δ1, e1, a1, _⟩ := h δ a
  exact ⟨_, by simp only [dSeq, dRet, e1], g δ1 a1⟩
theorem k_asg {i : Nat} (h : RV p A me (.own d) A1) (hi : i < A1.length) (g : RB (A1.set i (.is d)) rest n S) : RB A (dSeq (dAsg (bName i) me) rest) n S := fun t' e δ a => by
  obtain ⟨δ1, e1, a1, _⟩ := h δ a
  have hl : i < δ1.length := by rw [a1.len]; exact hi
  simp only [dSeq, dAsg, e1, bName, hl, if_true]
  exact g t' e _ (a1.set i d)
/-- names for what a target takes -/
def Bd (vs : List Nat) (A : List Sl) (b : Bnd) (d : D) (A' : List Sl) : Prop := ∀ δ, Agr A δ → ∃ δ', b d δ = some δ' ∧ Agr A' δ' ∧ δ'.length = δ.length ∧ ∀ i, i ∉ vs → δ'[i]? = δ[i]?
def Bds (vs : List Nat) (A : List Sl) (b : Bnds) (d : List D) (A' : List Sl) : Prop := ∀ δ, Agr A δ → ∃ δ', b d δ = some δ' ∧ Agr A' δ' ∧ δ'.length = δ.length ∧ ∀ i, i ∉ vs → δ'[i]? = δ[i]?
theorem b_name {i : Nat} (hi : i < A.length) : Bd [i] A (bName i) d (A.set i (.is d)) := fun δ a =>
  ⟨δ.set i (some d), by simp only [bName, (show i < δ.length by rw [a.len]; exact hi), if_true], a.set i d, by simp, fun j hj => by rw [List.getElem?_set_ne (fun e => hj (by simp [e]))]⟩
theorem b_nil : Bds [] A bNil [] A := fun δ a => ⟨δ, rfl, a, rfl, fun _ _ => rfl⟩
theorem b_cons {vs vt : List Nat} {b : Bnd} {bs : Bnds} {ds : List D} (h : Bd vs A b d A1) (g : Bds vt A1 bs ds A2) : Bds (vs ++ vt) A (bCons b bs) (d :: ds) A2 := fun δ a => by
  obtain ⟨δ1, e1, a1, l1, k1⟩ := h δ a
  obtain ⟨δ2, e2, a2, l2, k2⟩ := g δ1 a1
  exact ⟨δ2, by simp only [bCons, e1, e2], a2, l2.trans l1, fun i hi => by
    simp only [List.mem_append, not_or] at hi
    rw [k2 i hi.2, k1 i hi.1]⟩
theorem b_tup {vs : List Nat} {k : Nat} {bs : Bnds} {ds : List D} (g : Bds vs A bs ds A1) (hl : ds.length = k) : Bd vs A (bTup k bs) (.tup ds) A1 := fun δ a => by
  obtain ⟨δ1, e1, a1, l1, k1⟩ := g δ a
  exact ⟨δ1, by simp only [bTup, hl, if_true, e1], a1, l1, k1⟩
theorem k_expr (h : RV p A me r A1) (g : RB A1 rest n S) : RB A (dSeq (dDrop me) rest) n S := fun t' e δ a => by
  obtain ⟨δ1, e1, a1, _⟩ := h δ a
  simp only [dSeq, dDrop, e1]
  exact g t' e _ a1
theorem mutD_root {δ : DE} {i : Nat} {xs xs' : List D} {f : List D → Option (List D)} (h : δ[i]? = some (some (.lst xs))) (e : f xs = some xs') : mutD δ (.at i []) f = some (δ.set i (some (.lst xs'))) := by
  simp only [mutD, h, getP, e, setP]
theorem isLst_root {δ : DE} {i : Nat} {xs : List D} (h : δ[i]? = some (some (.lst xs))) : isLst δ (.at i []) = true := by
  simp only [isLst, deref, h, getP]
/-- append to a list that a name holds -/
theorem r_append {i : Nat} {mo : Den} {xs : List D} {q : Bool} (ho : RV p1 A mo (.at i []) A1) (g1 : A1[i]? = some (.is (.lst xs))) (h : RV p2 A1 me (.own d) A2) (g : A2[i]? = some (.is (.lst xs))) (hl : xs.length < 1000000) :
    RV false A (dAppend q mo me) (.own .non) (A2.set i (.is (.lst (xs ++ [d])))) := fun δ a => by
  obtain ⟨δ1, e1, a1, _⟩ := ho δ a
  obtain ⟨δ2, e2, a2, _⟩ := h δ1 a1
  refine ⟨_, ?_, a2.set i _, fun h => by cases h⟩
  simp only [dAppend, e1, e2, R.short, Bool.true_or, isLst_root (a1.get _ _ g1), Bool.and_self, if_true]
  rw [mutD_root (a2.get _ _ g) (xs' := xs ++ [d]) (by simp only [hl, if_true])]
theorem k_setI {i : Nat} {mo mi : Den} {xs : List D} {qo qi : Bool} {k : Int} {j : Nat} (h : RV p1 A me (.own d) A1) (ho : RV p2 A1 mo (.at i []) A2) (hi : RV p3 A2 mi (.own (.int k)) A3) (g : A3[i]? = some (.is (.lst xs))) (hj : ixN xs.length k = some j)
    (c : RB (A3.set i (.is (.lst (xs.set j d)))) rest n S) : RB A (dSeq (dSetI qo qi mo mi me) rest) n S := fun t' e δ a => by
  obtain ⟨δ1, e1, a1, _⟩ := h δ a
  obtain ⟨δ2, e2, a2, _⟩ := ho δ1 a1
  obtain ⟨δ3, e3, a3, _⟩ := hi δ2 a2
  simp only [dSeq, dSetI, e1, e2, e3, R.short, Bool.true_or, if_true]
  rw [mutD_root (a3.get _ _ g) (xs' := xs.set j d) (by simp only [hj])]
  exact c t' e _ (a3.set i _)
/-- both ways go on -/
theorem k_ifJ {c : DenT} {b : Bool} {na nb : Option β} {A' : β → List Sl} {k : β → Option τ} (h : RT p A c b A1) (h1 : b = true → RB A1 ma na (Nx A')) (h2 : b = false → RB A1 mb nb (Nx A')) (g : ∀ x, RB (A' x) rest (k x) S) :
    RB A (dSeq (dIf c ma mb) rest) (bnd (if b = true then na else nb) k) S := fun t' e δ a => by
  obtain ⟨δ1, e1, a1, _⟩ := h δ a
  obtain ⟨x, h3, h4⟩ := bnd_eq e
  cases b with
  | true =>
    obtain ⟨out, e2, δ2, rfl, a2⟩ := h1 rfl x h3 δ1 a1
    simp only [dSeq, dIf, e1, e2]
    exact g x t' h4 _ a2
  | false =>
    obtain ⟨out, e2, δ2, rfl, a2⟩ := h2 rfl x h3 δ1 a1
    simp only [dSeq, dIf, e1, e2]
    exact g x t' h4 _ a2
/-- both ways with what follows -/
theorem k_if {c : DenT} {b : Bool} {na nb : Option τ} (h : RT p A c b A1) (h1 : b = true → RB A1 (dSeq ma rest) na S) (h2 : b = false → RB A1 (dSeq mb rest) nb S) :
    RB A (dSeq (dIf c ma mb) rest) (if b = true then na else nb) S := fun t' e δ a => by
  obtain ⟨δ1, e1, a1, _⟩ := h δ a
  cases b with
  | true =>
    obtain ⟨out, e2, s⟩ := h1 rfl t' e δ1 a1
    refine ⟨out, ?_, s⟩
    simp only [dSeq, dIf, e1] at e2 ⊢
    exact e2
  | false =>
    obtain ⟨out, e2, s⟩ := h2 rfl t' e δ1 a1
    refine ⟨out, ?_, s⟩
    simp only [dSeq, dIf, e1] at e2 ⊢
    exact e2
end
end Y


set_option Elab.async false
set_option linter.all false
set_option maxRecDepth 100000
/-! loops, blocks in brackets -/
namespace Y
open PySem PySem.Spec PyProof.Rows L2 Z
def forN {α β : Type} (f : α → β → Option β) : List α → β → Option β
  | [], b => some b
  | x :: xs, b => match f x b with
    | some b' => forN f xs b'
    | none => none
def forR {α β ρ : Type} (f : α → β → Option (Res β ρ)) : List α → β → Option (Res β ρ)
  | [], b => some (.nx b)
  | x :: xs, b => match f x b with
    | some (.nx b') => forR f xs b'
    | some (.ct b') => forR f xs b'
    | some (.bk b') => some (.nx b')
    | some (.rt r) => some (.rt r)
    | none => none
def onR {β ρ τ : Type} (j : ρ → Option τ) (k : β → Option τ) : Res β ρ → Option τ
  | .nx b => k b
  | .rt r => j r
  | _ => none
def lcO {α β : Type} (t : α → Option Bool) (e : α → Option β) : List α → Option (List β)
  | [] => some []
  | x :: xs => match t x with
    | some true => match e x with
      | some y => match lcO t e xs with
        | some ys => some (y :: ys)
        | none => none
      | none => none
    | some false => lcO t e xs
    | none => none
def lcS {α β σ : Type} (t : α → σ → Option (Bool × σ)) (e : α → σ → Option (β × σ)) : List α → σ → Option (List β × σ)
  | [], s => some ([], s)
  | x :: xs, s => match t x s with
    | some (true, s1) => match e x s1 with
      | some (y, s2) => match lcS t e xs s2 with
        | some (ys, s3) => some (y :: ys, s3)
        | none => none
      | none => none
    | some (false, s1) => lcS t e xs s1
    | none => none
def anyO {α : Type} (t e : α → Option Bool) : List α → Option Bool
  | [] => some false
  | x :: xs => match t x with
    | some true => match e x with
      | some false => anyO t e xs
      | some true => some true
      | none => none
    | some false => anyO t e xs
    | none => none
/-- the guards of a loop stand -/
def Gd (A : List Sl) (gs : List (Nat × D)) : Prop := ∀ δ, Agr A δ → gOk gs δ = true
theorem gd_nil {A : List Sl} : Gd A [] := fun _ _ => rfl
theorem gd_cons {A : List Sl} {i : Nat} {d : D} {gs : List (Nat × D)} (h : A[i]? = some (.is d)) (g : Gd A gs) : Gd A ((i, d) :: gs) := fun δ a => by
  simp only [gOk, a.get i d h, decide_true, g δ a, Bool.and_self]
section
variable {p p1 p2 p3 : Bool} {α β σ τ ρ : Type} {A A1 A2 A3 : List Sl} {m ma mb rest : Blk} {S : τ → Out → Prop} {n : Option τ} {me : Den} {mt : DenT} {ms : DenS} {bd : Bnd} {kp : Nat → Bool} {gs : List (Nat × D)} {A0 : β → List Sl}
theorem dForL_N {vs : List Nat} {e : α → D} {f : α → β → Option β} (hg : ∀ b, Gd (A0 b) gs) {B : α → β → List Sl} (hb : ∀ x b, Bd vs (A0 b) bd (e x) (B x b)) (hm : ∀ x b, RB (B x b) mb (f x b) (Nx A0)) :
    ∀ (xs : List α) (b b' : β), forN f xs b = some b' → ∀ δ, Agr (A0 b) δ → ∃ δ', dForL gs bd mb (xs.map e) δ = some (.nx δ') ∧ Agr (A0 b') δ'
  | [], b, b', h, δ, a => by
    cases (Option.some.inj h)
    exact ⟨δ, by simp only [List.map_nil, dForL, hg b δ a, if_true], a⟩
  | x :: xs, b, b', h, δ, a => by
    simp only [forN] at h
    cases h1 : f x b with
    | none => rw [h1] at h; cases h
    | some b1 =>
      rw [h1] at h
      obtain ⟨δ1, e1, a1, _⟩ := hb x b δ a
      obtain ⟨out, e2, δ2, rfl, a2⟩ := hm x b b1 h1 δ1 a1
      obtain ⟨δ3, e3, a3⟩ := dForL_N hg hb hm xs b1 b' h δ2 a2
      exact ⟨δ3, by simp only [List.map_cons, dForL, hg b δ a, if_true, e1, e2, e3], a3⟩
theorem k_forN {vs : List Nat} {xs : List α} {e : α → D} {f : α → β → Option β} {b0 : β} {B : α → β → List Sl} {k : β → Option τ} (A0 : β → List Sl) (hs : RS p A ms ⟨xs.map e, gs⟩ A1) (l : Le A1 (A0 b0)) (hk : gsIn kp gs = true) (hg : ∀ b, Gd (A0 b) gs)
    (hb : ∀ x b, Bd vs (A0 b) bd (e x) (B x b)) (hm : ∀ x b, RB (B x b) mb (f x b) (Nx A0)) (hr : ∀ b, RB (A0 b) rest (k b) S) : RB A (dSeq (dFor kp ms bd mb) rest) (bnd (forN f xs b0) k) S := fun t e δ a => by
  obtain ⟨b, h1, h2⟩ := bnd_eq e
  obtain ⟨δ1, e1, a1, _⟩ := hs δ a
  obtain ⟨δ2, e2, a2⟩ := dForL_N hg hb hm xs b0 b h1 δ1 (a1.le l)
  simp only [dSeq, dFor, e1, hk, if_true, e2]
  exact hr b t h2 δ2 a2
theorem dForL_R {vs : List Nat} {e : α → D} {f : α → β → Option (Res β ρ)} {T : ρ → Out → Prop} (hg : ∀ b, Gd (A0 b) gs) {B : α → β → List Sl} (hb : ∀ x b, Bd vs (A0 b) bd (e x) (B x b)) (hm : ∀ x b, RB (B x b) mb (f x b) (Rs A0 T)) :
    ∀ (xs : List α) (b : β) (r : Res β ρ), forR f xs b = some r → ∀ δ, Agr (A0 b) δ → ∃ out, dForL gs bd mb (xs.map e) δ = some out ∧ match r with | .nx b' => ∃ δ', out = .nx δ' ∧ Agr (A0 b') δ' | .rt r => T r out ∧ ∃ d δ, out = .rt d δ | _ => False
  | [], b, b', h, δ, a => by
    cases (Option.some.inj h)
    exact ⟨_, by simp only [List.map_nil, dForL, hg b δ a, if_true], δ, rfl, a⟩
  | x :: xs, b, b', h, δ, a => by
    simp only [forR] at h
    cases h1 : f x b with
    | none => rw [h1] at h; cases h
    | some b1 =>
      rw [h1] at h
      obtain ⟨δ1, e1, a1, _⟩ := hb x b δ a
      obtain ⟨out, e2, s⟩ := hm x b b1 h1 δ1 a1
      cases b1 with
      | nx b1 =>
        obtain ⟨δ2, rfl, a2⟩ := s
        obtain ⟨o3, e3, a3⟩ := dForL_R hg hb hm xs b1 b' h δ2 a2
        exact ⟨o3, by simp only [List.map_cons, dForL, hg b δ a, if_true, e1, e2, e3], a3⟩
      | ct b1 =>
        obtain ⟨δ2, rfl, a2⟩ := s
        obtain ⟨o3, e3, a3⟩ := dForL_R hg hb hm xs b1 b' h δ2 a2
        exact ⟨o3, by simp only [List.map_cons, dForL, hg b δ a, if_true, e1, e2, e3], a3⟩
      | bk b1 =>
        obtain ⟨δ2, rfl, a2⟩ := s
        cases (Option.some.inj h)
        exact ⟨.nx δ2, by simp only [List.map_cons, dForL, hg b δ a, if_true, e1, e2], δ2, rfl, a2⟩
      | rt r1 =>
        cases (Option.some.inj h)
        obtain ⟨s1, d, δ2, rfl⟩ := s
        exact ⟨_, by simp only [List.map_cons, dForL, hg b δ a, if_true, e1, e2], s1, d, δ2, rfl⟩
theorem k_forR {vs : List Nat} {xs : List α} {e : α → D} {f : α → β → Option (Res β ρ)} {b0 : β} {B : α → β → List Sl} {k : β → Option τ} {j : ρ → Option τ} (T : ρ → Out → Prop) (A0 : β → List Sl) (hs : RS p A ms ⟨xs.map e, gs⟩ A1) (l : Le A1 (A0 b0)) (hk : gsIn kp gs = true) (hg : ∀ b, Gd (A0 b) gs)
    (hb : ∀ x b, Bd vs (A0 b) bd (e x) (B x b)) (hm : ∀ x b, RB (B x b) mb (f x b) (Rs A0 T)) (hj : ∀ r t out, j r = some t → T r out → (∃ d δ, out = .rt d δ) → S t out) (hr : ∀ b, RB (A0 b) rest (k b) S) : RB A (dSeq (dFor kp ms bd mb) rest) (bnd (forR f xs b0) (onR j k)) S := fun t e δ a => by
  obtain ⟨b, h1, h2⟩ := bnd_eq e
  obtain ⟨δ1, e1, a1, _⟩ := hs δ a
  obtain ⟨o2, e2, a2⟩ := dForL_R hg hb hm xs b0 b h1 δ1 (a1.le l)
  simp only [dSeq, dFor, e1, hk, if_true, e2]
  cases b with
  | nx b =>
    obtain ⟨δ2, rfl, a2⟩ := a2
    exact hr b t h2 δ2 a2
  | rt r =>
    obtain ⟨s, d, δ2, rfl⟩ := a2
    exact ⟨_, rfl, hj r t _ h2 s ⟨d, δ2, rfl⟩⟩
  | bk b => exact a2.elim
  | ct b => exact a2.elim
/-! leaves -/
theorem nx_le {b : β} (l : Le A (A0 b)) : ∀ δ, Agr A δ → Nx A0 b (.nx δ) := fun δ a => ⟨δ, rfl, a.le l⟩
theorem rs_nx {T : ρ → Out → Prop} {b : β} (l : Le A (A0 b)) : ∀ δ, Agr A δ → Rs A0 T (.nx b) (.nx δ) := fun δ a => ⟨δ, rfl, a.le l⟩
theorem rs_rt {T : ρ → Out → Prop} {r : ρ} {d : D} (h : ∀ δ, Agr A δ → T r (.rt d δ)) : ∀ δ, Agr A δ → Rs A0 T (.rt r) (.rt d δ) := fun δ a => ⟨h δ a, d, δ, rfl⟩
theorem rt_le {er : ρ → D} {Ar : ρ → List Sl} {r : ρ} (l : Le A (Ar r)) : ∀ δ, Agr A δ → Rt er Ar r (.rt (er r) δ) := fun δ a => ⟨δ, rfl, a.le l⟩
theorem j_some {T : ρ → Out → Prop} : ∀ r t out, (some r : Option ρ) = some t → T r out → (∃ d δ, out = .rt d δ) → T t out := fun r t out e h _ => by cases e; exact h
theorem j_rs {T : ρ → Out → Prop} : ∀ r t out, (some (.rt r) : Option (Res β ρ)) = some t → T r out → (∃ d δ, out = .rt d δ) → Rs A0 T t out := fun r t out e h g => by cases e; exact ⟨h, g⟩
/-! blocks in brackets -/
theorem restD_len (δ0 : DE) : ∀ (vs : List Nat) (δ2 : DE), (restD δ0 δ2 vs).length = δ2.length
  | [], _ => rfl
  | v :: vs, δ2 => by rw [restD, restD_len δ0 vs, List.length_set]
theorem restD_get (δ0 : DE) : ∀ (vs : List Nat) (δ2 : DE) (i : Nat), i ∉ vs → (restD δ0 δ2 vs)[i]? = δ2[i]?
  | [], _, _, _ => rfl
  | v :: vs, δ2, i, h => by
    simp only [List.mem_cons, not_or] at h
    rw [restD, restD_get δ0 vs _ i h.2, List.getElem?_set_ne (Ne.symm h.1)]
theorem setSl_get {A : List Sl} : ∀ {vs : List Nat} {i : Nat} {d : D}, (setSl A vs)[i]? = some (.is d) → i ∉ vs
  | [], _, _, _ => by simp
  | v :: vs, i, d, h => by
    rw [setSl, List.getElem?_set] at h
    by_cases hv : v = i
    · rw [if_pos hv] at h
      split at h <;> cases h
    · rw [if_neg hv] at h
      simp only [List.mem_cons, not_or]
      exact ⟨Ne.symm hv, setSl_get h⟩
theorem Agr.rst {A : List Sl} {vs : List Nat} {δ2 : DE} (h : Agr (setSl A vs) δ2) (δ0 : DE) : Agr (setSl A vs) (restD δ0 δ2 vs) :=
  ⟨by rw [restD_len]; exact h.len, fun i d e => by rw [restD_get δ0 vs δ2 i (setSl_get e)]; exact h.get i d e⟩
theorem wipe_get2 : ∀ {vs : List Nat} {δ : DE} {i : Nat}, i ∈ vs → i < δ.length → (wipeD δ vs)[i]? = some none
  | v :: vs, δ, i, h, hl => by
    rw [wipeD, List.getElem?_set]
    by_cases hv : v = i
    · rw [if_pos hv, if_pos (by rw [wipeD_len]; omega)]
    · rw [if_neg hv]
      rcases List.mem_cons.mp h with h | h
      · exact absurd h.symm hv
      · exact wipe_get2 h hl
theorem wipe_get3 : ∀ {vs : List Nat} {δ : DE} {i : Nat}, i ∉ vs → (wipeD δ vs)[i]? = δ[i]?
  | [], _, _, _ => rfl
  | v :: vs, δ, i, h => by
    simp only [List.mem_cons, not_or] at h
    rw [wipeD, List.getElem?_set_ne (Ne.symm h.1), wipe_get3 h.2]
/-- what changes only the block's own names is as before when they are wiped -/
theorem wipe_eq {vs : List Nat} {δ δ' : DE} (hl : δ'.length = δ.length) (h : ∀ i, i ∉ vs → δ'[i]? = δ[i]?) : wipeD δ' vs = wipeD δ vs := by
  apply List.ext_getElem?
  intro i
  by_cases hv : i ∈ vs
  · by_cases hi : i < δ.length
    · rw [wipe_get2 hv hi, wipe_get2 hv (by omega)]
    · rw [List.getElem?_eq_none (by rw [wipeD_len]; omega), List.getElem?_eq_none (by rw [wipeD_len]; omega)]
  · rw [wipe_get3 hv, wipe_get3 hv, h i hv]
theorem dLcL_S {vs vb : List Nat} {B : α → σ → List Sl} {B1 : α → σ → List Sl} {A0 : σ → List Sl} {ex : α → D} {g : β → D} {t : α → σ → Option (Bool × σ)} {e : α → σ → Option (β × σ)} (hg : ∀ s, Gd (setSl (A0 s) vs) gs) (hb : ∀ x s, Bd vb (setSl (A0 s) vs) bd (ex x) (B x s))
    (ht : ∀ x s v s', t x s = some (v, s') → RT p1 (B x s) mt v (B1 x s')) (he : ∀ x s y s', e x s = some (y, s') → RV p2 (B1 x s) me (.own (g y)) (B1 x s')) (hw : ∀ x s, Le (setSl (B1 x s) vs) (setSl (A0 s) vs)) :
    ∀ (xs : List α) (s : σ) (ys : List β) (s' : σ), lcS t e xs s = some (ys, s') → ∀ δ, Agr (setSl (A0 s) vs) δ → ∃ δ', dLcL gs vs bd mt me (xs.map ex) δ = some (ys.map g, δ') ∧ Agr (setSl (A0 s') vs) δ'
  | [], s, ys, s', h, δ, a => by
    cases (Option.some.inj h)
    exact ⟨δ, by simp only [List.map_nil, dLcL, hg s δ a, if_true], a⟩
  | x :: xs, s, ys, s', h, δ, a => by
    simp only [lcS] at h
    obtain ⟨δ1, e1, a1, _⟩ := hb x s δ a
    cases h1 : t x s with
    | none => rw [h1] at h; cases h
    | some q =>
      obtain ⟨v, s1⟩ := q
      rw [h1] at h
      obtain ⟨δ2, e2, a2, _⟩ := ht x s v s1 h1 δ1 a1
      cases v with
      | false =>
        obtain ⟨δ3, e3, a3⟩ := dLcL_S hg hb ht he hw xs s1 ys s' h _ ((a2.wipe vs).le (hw x s1))
        exact ⟨δ3, by simp only [List.map_cons, dLcL, hg s δ a, if_true, e1, e2, e3], a3⟩
      | true =>
        simp only at h
        cases h3 : e x s1 with
        | none => rw [h3] at h; cases h
        | some q =>
          obtain ⟨y, s2⟩ := q
          rw [h3] at h
          obtain ⟨δ4, e4, a4, _⟩ := he x s1 y s2 h3 δ2 a2
          cases h5 : lcS t e xs s2 with
          | none => simp only [h5] at h; cases h
          | some q =>
            obtain ⟨zs, s3⟩ := q
            simp only [h5] at h
            cases (Option.some.inj h)
            obtain ⟨δ3, e3, a3⟩ := dLcL_S hg hb ht he hw xs s2 _ _ h5 _ ((a4.wipe vs).le (hw x s2))
            exact ⟨δ3, by simp only [List.map_cons, dLcL, hg s δ a, if_true, e1, e2, e4, e3], a3⟩
/-- with effects -/
theorem r_lcS {vs vb : List Nat} {xs : List α} {ys : List β} {s s' : σ} {ex : α → D} {g : β → D} {t : α → σ → Option (Bool × σ)} {e : α → σ → Option (β × σ)} {B B1 : α → σ → List Sl} (A0 : σ → List Sl) (hs : RS p A ms ⟨xs.map ex, gs⟩ (A0 s)) (hk : gsIn (kpOut vs) gs = true) (h : lcS t e xs s = some (ys, s')) (hg : ∀ s, Gd (setSl (A0 s) vs) gs)
    (hb : ∀ x s, Bd vb (setSl (A0 s) vs) bd (ex x) (B x s)) (ht : ∀ x s v s', t x s = some (v, s') → RT p1 (B x s) mt v (B1 x s')) (he : ∀ x s y s', e x s = some (y, s') → RV p2 (B1 x s) me (.own (g y)) (B1 x s')) (hw : ∀ x s, Le (setSl (B1 x s) vs) (setSl (A0 s) vs)) :
    RV false A (dLc vs ms bd mt me) (.own (.lst (ys.map g))) (setSl (A0 s') vs) := fun δ a => by
  obtain ⟨δ1, e1, a1, _⟩ := hs δ a
  obtain ⟨δ2, e2, a2⟩ := dLcL_S hg hb ht he hw xs s ys s' h _ (a1.wipe vs)
  exact ⟨_, by simp only [dLc, e1, hk, if_true, e2], a2.rst δ1, fun h => by cases h⟩
end
end Y


set_option Elab.async false
set_option linter.all false
set_option maxRecDepth 100000
/-! blocks in brackets without effects, generators -/
namespace Y
open PySem PySem.Spec PyProof.Rows L2 Z
section
variable {p p1 p2 p3 : Bool} {α β σ τ ρ : Type} {A A1 A2 A3 : List Sl} {me : Den} {mt : DenT} {ms : DenS} {bd : Bnd} {gs : List (Nat × D)}
theorem restD_wipe (δ0 : DE) : ∀ vs : List Nat, restD δ0 (wipeD δ0 vs) vs = δ0
  | [] => rfl
  | v :: vs => by
    rw [restD, wipeD, List.set_set]
    cases h : (wipeD δ0 vs)[v]? with
    | none =>
      have hl := List.getElem?_eq_none_iff.mp h
      simp only [h]
      rw [List.set_eq_of_length_le hl]
      exact restD_wipe δ0 vs
    | some x =>
      obtain ⟨hl, hx⟩ := List.getElem?_eq_some_iff.mp h
      simp only [h]
      have e : (wipeD δ0 vs).set v x = wipeD δ0 vs := by rw [← hx]; exact List.set_getElem_self hl
      rw [e]
      exact restD_wipe δ0 vs
theorem wipe_idem (vs : List Nat) (δ : DE) : wipeD (wipeD δ vs) vs = wipeD δ vs := wipe_eq (wipeD_len δ vs) fun i hi => wipe_get3 hi
/-- one item: what the test and the element do in the wiped environment -/
structure El {vs vb : List Nat} (A : List Sl) (bd : Bnd) (mt : DenT) (me : Den) (ex : α → D) (g : β → D) (t : α → Option Bool) (e : α → Option β) (B : α → List Sl) : Prop where
  fb : ∀ x, Bd vb (setSl A vs) bd (ex x) (B x)
  ft : ∀ x v, t x = some v → RT true (B x) mt v (B x)
  fe : ∀ x y, t x = some true → e x = some y → RV true (B x) me (.own (g y)) (B x)
  fs : ∀ i ∈ vb, i ∈ vs
theorem El.run {vs vb : List Nat} {ex : α → D} {g : β → D} {t : α → Option Bool} {e : α → Option β} {B : α → List Sl} (E : El (vs := vs) (vb := vb) A bd mt me ex g t e B) {δw : DE} (a : Agr (setSl A vs) δw) (hw : wipeD δw vs = δw) (x : α) :
    ∃ δ1, bd (ex x) δw = some δ1 ∧ wipeD δ1 vs = δw ∧ (∀ v, t x = some v → mt δ1 = some (v, δ1)) ∧ (∀ y, t x = some true → e x = some y → me δ1 = some (.own (g y), δ1)) := by
  obtain ⟨δ1, e1, a1, l1, k1⟩ := E.fb x δw a
  refine ⟨δ1, e1, ?_, fun v hv => ?_, fun y hv hy => ?_⟩
  · rw [wipe_eq (δ := δw) (vs := vs) l1 fun i hi => k1 i fun h => hi (E.fs i h), hw]
  · obtain ⟨δ2, e2, a2, u⟩ := E.ft x v hv δ1 a1
    rw [u rfl] at e2; exact e2
  · obtain ⟨δ2, e2, a2, u⟩ := E.fe x y hv hy δ1 a1
    rw [u rfl] at e2; exact e2
theorem dLcL_O {vs vb : List Nat} {ex : α → D} {g : β → D} {t : α → Option Bool} {e : α → Option β} {B : α → List Sl} (E : El (vs := vs) (vb := vb) A bd mt me ex g t e B) {δw : DE} (a : Agr (setSl A vs) δw) (hw : wipeD δw vs = δw) (hg : gOk gs δw = true) :
    ∀ (xs : List α) (ys : List β), lcO t e xs = some ys → dLcL gs vs bd mt me (xs.map ex) δw = some (ys.map g, δw)
  | [], ys, h => by
    cases (Option.some.inj h)
    simp only [List.map_nil, dLcL, hg, if_true]
  | x :: xs, ys, h => by
    obtain ⟨δ1, e1, w1, t1, m1⟩ := E.run a hw x
    simp only [lcO] at h
    cases h1 : t x with
    | none => rw [h1] at h; cases h
    | some v =>
      rw [h1] at h
      cases v with
      | false =>
        have ih := dLcL_O E a hw hg xs ys h
        simp only [List.map_cons, dLcL, hg, if_true, e1, t1 _ h1, w1, ih]
      | true =>
        cases h2 : e x with
        | none => simp only [h2] at h; cases h
        | some y =>
          simp only [h2] at h
          cases h3 : lcO t e xs with
          | none => simp only [h3] at h; cases h
          | some zs =>
            simp only [h3] at h
            cases (Option.some.inj h)
            have ih := dLcL_O E a hw hg xs zs h3
            simp only [List.map_cons, dLcL, hg, if_true, e1, t1 _ h1, m1 _ h1 h2, w1, ih]
theorem r_lcO {vs vb : List Nat} {xs : List α} {ys : List β} {ex : α → D} {g : β → D} {t : α → Option Bool} {e : α → Option β} {B : α → List Sl} (hs : RS p A ms ⟨xs.map ex, gs⟩ A1) (hk : gsIn (kpOut vs) gs = true) (hg : Gd (setSl A1 vs) gs) (E : El (vs := vs) (vb := vb) A1 bd mt me ex g t e B) (h : lcO t e xs = some ys) :
    RV p A (dLc vs ms bd mt me) (.own (.lst (ys.map g))) A1 := fun δ a => by
  obtain ⟨δ1, e1, a1, u⟩ := hs δ a
  have := dLcL_O E (a1.wipe vs) (wipe_idem vs δ1) (hg _ (a1.wipe vs)) xs ys h
  exact ⟨δ1, by simp only [dLc, e1, hk, if_true, this, restD_wipe], a1, u⟩
theorem dG_never {vs vb : List Nat} {ex : α → D} {g : β → D} {t : α → Option Bool} {e : α → Option β} {B : α → List Sl} (E : El (vs := vs) (vb := vb) A bd mt me ex g t e B) {δw : DE} (a : Agr (setSl A vs) δw) (hw : wipeD δw vs = δw) (hi : ∀ y, (g y).imm = true) :
    ∀ (xs : List α) (ys : List β), lcO t e xs = some ys → dG never (gx vs bd mt me δw) (xs.map ex) = some (ys.map g)
  | [], ys, h => by
    cases (Option.some.inj h)
    rfl
  | x :: xs, ys, h => by
    obtain ⟨δ1, e1, w1, t1, m1⟩ := E.run a hw x
    simp only [lcO] at h
    cases h1 : t x with
    | none => rw [h1] at h; cases h
    | some v =>
      rw [h1] at h
      cases v with
      | false =>
        have ih := dG_never E a hw hi xs ys h
        simp only [List.map_cons, dG, gx, e1, t1 _ h1, w1, if_true, ih]
      | true =>
        cases h2 : e x with
        | none => simp only [h2] at h; cases h
        | some y =>
          simp only [h2] at h
          cases h3 : lcO t e xs with
          | none => simp only [h3] at h; cases h
          | some zs =>
            simp only [h3] at h
            cases (Option.some.inj h)
            have ih := dG_never E a hw hi xs zs h3
            simp only [List.map_cons, dG, gx, e1, t1 _ h1, m1 _ h1 h2, w1, hi, and_self, if_true, never, ih]; rfl
theorem dG_any {vs vb : List Nat} {ex : α → D} {t e : α → Option Bool} {B : α → List Sl} (E : El (vs := vs) (vb := vb) A bd mt me ex D.bl t e B) {δw : DE} (a : Agr (setSl A vs) δw) (hw : wipeD δw vs = δw) :
    ∀ (xs : List α) (v : Bool), anyO t e xs = some v → ∃ R, dG stopAny (gx vs bd mt me δw) (xs.map ex) = some R ∧ anyT R = some v
  | [], v, h => by
    cases (Option.some.inj h)
    exact ⟨[], rfl, rfl⟩
  | x :: xs, w, h => by
    obtain ⟨δ1, e1, w1, t1, m1⟩ := E.run a hw x
    simp only [anyO] at h
    cases h1 : t x with
    | none => rw [h1] at h; cases h
    | some v =>
      rw [h1] at h
      cases v with
      | false =>
        obtain ⟨R, ih, g⟩ := dG_any E a hw xs w h
        exact ⟨R, by simp only [List.map_cons, dG, gx, e1, t1 _ h1, w1, if_true, ih], g⟩
      | true =>
        cases h2 : e x with
        | none => simp only [h2] at h; cases h
        | some y =>
          simp only [h2] at h
          cases y with
          | true =>
            cases (Option.some.inj h)
            exact ⟨[.bl true], by simp only [List.map_cons, dG, gx, e1, t1 _ h1, m1 _ h1 h2, w1, D.imm, and_self, if_true, stopAny, truthS], rfl⟩
          | false =>
            obtain ⟨R, ih, g⟩ := dG_any E a hw xs w h
            exact ⟨.bl false :: R, by simp only [List.map_cons, dG, gx, e1, t1 _ h1, m1 _ h1 h2, w1, D.imm, and_self, if_true, stopAny, truthS, ih]; rfl, by simp only [anyT, truthS, g]⟩
theorem gOk_wipe {vs : List Nat} {δ : DE} : ∀ {gs : List (Nat × D)}, gOk gs (wipeD δ vs) = true → gOk gs δ = true
  | [], _ => rfl
  | (i, d) :: gs, h => by
    simp only [gOk, Bool.and_eq_true, decide_eq_true_eq] at h ⊢
    refine ⟨?_, gOk_wipe h.2⟩
    by_cases hv : i ∈ vs
    · by_cases hl : i < δ.length
      · rw [wipe_get2 hv hl] at h; cases h.1
      · rw [List.getElem?_eq_none (by rw [wipeD_len]; omega)] at h; cases h.1
    · rw [wipe_get3 hv] at h; exact h.1
/-- a generator, walked to its end -/
theorem r_fold {f : List D → Option D} {vs vb : List Nat} {xs : List α} {ys : List β} {d : D} {ex : α → D} {g : β → D} {t : α → Option Bool} {e : α → Option β} {B : α → List Sl} (hs : RS p A ms ⟨xs.map ex, gs⟩ A1) (hg : Gd (setSl A1 vs) gs) (E : El (vs := vs) (vb := vb) A1 bd mt me ex g t e B)
    (hi : ∀ y, (g y).imm = true) (h : lcO t e xs = some ys) (hf : f (ys.map g) = some d) : RV p A (dFold f (dGe vs ms bd mt me never)) (.own d) A1 := fun δ a => by
  obtain ⟨δ1, e1, a1, u⟩ := hs δ a
  have := dG_never E (a1.wipe vs) (wipe_idem vs δ1) hi xs ys h
  exact ⟨δ1, by simp only [dFold, dGe, e1, gOk_wipe (hg _ (a1.wipe vs)), if_true, this, hf], a1, u⟩
theorem r_any {vs vb : List Nat} {xs : List α} {v : Bool} {ex : α → D} {t e : α → Option Bool} {B : α → List Sl} (hs : RS p A ms ⟨xs.map ex, gs⟩ A1) (hg : Gd (setSl A1 vs) gs) (E : El (vs := vs) (vb := vb) A1 bd mt me ex D.bl t e B) (h : anyO t e xs = some v) :
    RV p A (dFold fAny (dGe vs ms bd mt me stopAny)) (.own (.bl v)) A1 := fun δ a => by
  obtain ⟨δ1, e1, a1, u⟩ := hs δ a
  obtain ⟨R, e2, e3⟩ := dG_any E (a1.wipe vs) (wipe_idem vs δ1) xs v h
  exact ⟨δ1, by simp only [dFold, dGe, e1, gOk_wipe (hg _ (a1.wipe vs)), if_true, e2, fAny, e3, Option.map_some], a1, u⟩
end
end Y


set_option Elab.async false
set_option linter.all false
set_option maxRecDepth 100000
/-! typed values and what the operators make of them -/
namespace Y
open PySem PySem.Spec PyProof.Rows L2 Z
/-- values of a kind as data that cannot be changed -/
structure Enc (α : Type) where
  enc : α → D
  eq : ∀ a b, eqD (enc a) (enc b) = true ↔ a = b
  imm : ∀ a, (enc a).imm = true
  dp : Nat
  hdp : ∀ a, (enc a).dp ≤ dp
  nn : Bool
  hnn : nn = true → ∀ a, enc a ≠ .non
  al : Bool
  hal : al = true → ∀ a b, PySem.W.alike (toPy (enc a)) (toPy (enc b)) = true
  nol : al = true → ∀ a, (enc a).nol = true
  tk : Bool
  htk : tk = true → ∀ a, isTupN (enc a) = true
  pl : Bool
  hpl : pl = true → ∀ a, isPlainS (enc a) = true
/-- rows of values of kinds that are known -/
structure Rw (α : Type) where
  row : α → List D
  len : Nat
  hlen : ∀ a, (row a).length = len
  eq : ∀ a b, PyData.eqvAll (toPys (row a)) (toPys (row b)) = true ↔ a = b
  imm : ∀ a, D.imms (row a) = true
  dp : Nat
  hdp : ∀ a, D.dps (row a) ≤ dp
  al : Bool
  hal : al = true → ∀ a b, PySem.W.alikeAll (toPys (row a)) (toPys (row b)) = true
  nol : al = true → ∀ a, D.nols (row a) = true
  tag : Option Str := none
  htag : ∀ s, tag = some s → ∀ a, ∃ r, row a = .str s :: r := by intro s h; cases h
def Ei : Enc Int where
  enc := .int
  eq a b := by simp [eqD, toPy, PyData.eqv]
  imm _ := rfl
  nol _ _ := rfl
  dp := 0
  hdp _ := by simp [D.dp]
  nn := true
  hnn _ a h := by cases h
  al := true
  hal _ a b := by simp [toPy, PySem.W.alike]
  tk := false
  htk h := by cases h
  pl := true
  hpl _ _ := rfl
def Eb : Enc Bool where
  enc := .bl
  eq a b := by simp [eqD, toPy, PyData.eqv]
  imm _ := rfl
  nol _ _ := rfl
  dp := 0
  hdp _ := by simp [D.dp]
  nn := true
  hnn _ a h := by cases h
  al := true
  hal _ a b := by simp [toPy, PySem.W.alike]
  tk := false
  htk h := by cases h
  pl := true
  hpl _ _ := rfl
def Es : Enc Str where
  enc := .str
  eq a b := by simp [eqD, toPy, PyData.eqv]
  imm _ := rfl
  nol _ _ := rfl
  dp := 0
  hdp _ := by simp [D.dp]
  nn := true
  hnn _ a h := by cases h
  al := true
  hal _ a b := by simp [toPy, PySem.W.alike]
  tk := false
  htk h := by cases h
  pl := true
  hpl _ _ := rfl
def Eu : Enc Unit where
  enc _ := .non
  eq a b := by simp [eqD, toPy, PyData.eqv]
  imm _ := rfl
  nol _ _ := rfl
  dp := 0
  hdp _ := by simp [D.dp]
  nn := false
  hnn h := by cases h
  al := true
  hal _ a b := by simp [toPy, PySem.W.alike]
  tk := false
  htk h := by cases h
  pl := false
  hpl h := by cases h
theorem eqv_non_l {d : D} (n : d.imm = true) (h : eqD .non d = true) : d = .non := by cases d <;> simp_all [eqD, toPy, PyData.eqv, D.imm]
theorem eqv_non_r {d : D} (n : d.imm = true) (h : eqD d .non = true) : d = .non := by cases d <;> simp_all [eqD, toPy, PyData.eqv, D.imm]
/-- a value or None -/
def Eo {α : Type} (E : Enc α) (h : E.nn = true) : Enc (Option α) where
  enc o := match o with
    | some a => E.enc a
    | none => .non
  eq a b := by
    cases a with
    | none => cases b with
      | none => simp [eqD, toPy, PyData.eqv]
      | some b => simp only [reduceCtorEq, iff_false]; exact fun e => E.hnn h b (eqv_non_l (E.imm b) e)
    | some a => cases b with
      | none => simp only [reduceCtorEq, iff_false]; exact fun e => E.hnn h a (eqv_non_r (E.imm a) e)
      | some b => simp only [Option.some.injEq]; exact E.eq a b
  imm a := by cases a with
    | none => rfl
    | some a => exact E.imm a
  nol h := by cases h
  dp := E.dp
  hdp a := by cases a with
    | none => simp [D.dp]
    | some a => exact E.hdp a
  nn := false
  hnn h := by cases h
  al := false
  hal h := by cases h
  tk := false
  htk h := by cases h
  pl := false
  hpl h := by cases h
section
variable {α β : Type} (E : Enc α)
theorem map_eqv : ∀ (a b : List α), PyData.eqvAll (toPys (a.map E.enc)) (toPys (b.map E.enc)) = true ↔ a = b
  | [], [] => by simp [toPys, PyData.eqvAll]
  | [], _ :: _ => by simp [toPys, PyData.eqvAll]
  | _ :: _, [] => by simp [toPys, PyData.eqvAll]
  | x :: xs, y :: ys => by
    simp only [List.map_cons, toPys, PyData.eqvAll, Bool.and_eq_true, List.cons.injEq]
    exact and_congr (E.eq x y) (map_eqv xs ys)
theorem map_imms : ∀ (a : List α), D.imms (a.map E.enc) = true
  | [] => rfl
  | x :: xs => by simp only [List.map_cons, D.imms, E.imm x, map_imms xs, Bool.and_self]
theorem map_nols (ha : E.al = true) : ∀ (a : List α), D.nols (a.map E.enc) = true
  | [] => rfl
  | x :: xs => by simp only [List.map_cons, D.nols, E.nol ha x, map_nols ha xs, Bool.and_self]
theorem map_dps : ∀ (a : List α), D.dps (a.map E.enc) ≤ E.dp
  | [] => by simp [D.dps]
  | x :: xs => by
    simp only [List.map_cons, D.dps]
    have := E.hdp x
    have := map_dps xs
    omega
theorem map_alike (h : E.al = true) : ∀ (a b : List α), PySem.W.alikeAll (toPys (a.map E.enc)) (toPys (b.map E.enc)) = true
  | [], _ => by simp [toPys, PySem.W.alikeAll]
  | _ :: _, [] => by simp [toPys, PySem.W.alikeAll]
  | x :: xs, y :: ys => by
    simp only [List.map_cons, toPys, PySem.W.alikeAll, E.hal h x y, map_alike h xs ys, Bool.and_self]
/-- rows of any length, of one kind -/
def Et : Enc (List α) where
  enc xs := .tup (xs.map E.enc)
  eq a b := by simp only [eqD, toPy, PyData.eqv]; exact map_eqv E a b
  imm a := map_imms E a
  nol ha a := map_nols E ha a
  dp := E.dp + 1
  hdp a := by simp only [D.dp]; have := map_dps E a; omega
  nn := true
  hnn _ a h := by cases h
  al := E.al
  hal h a b := by simp only [toPy, PySem.W.alike]; exact map_alike E h a b
  tk := true
  htk _ _ := rfl
  pl := false
  hpl h := by cases h
def R1 : Rw α where
  row a := [E.enc a]
  len := 1
  hlen _ := rfl
  eq a b := by simp only [toPys, PyData.eqvAll, Bool.and_true]; exact E.eq a b
  imm a := by simp only [D.imms, E.imm a, Bool.and_self]
  nol ha a := by simp only [D.nols, E.nol ha a, Bool.and_self]
  dp := E.dp
  hdp a := by simp only [D.dps]; have := E.hdp a; omega
  al := E.al
  hal h a b := by simp only [toPys, PySem.W.alikeAll, E.hal h a b, Bool.and_self]
def Rc (F : Rw β) : Rw (α × β) where
  row a := E.enc a.1 :: F.row a.2
  len := F.len + 1
  hlen a := by simp only [List.length_cons, F.hlen]
  eq a b := by
    obtain ⟨a1, a2⟩ := a
    obtain ⟨b1, b2⟩ := b
    simp only [toPys, PyData.eqvAll, Bool.and_eq_true, Prod.mk.injEq]
    exact and_congr (E.eq a1 b1) (F.eq a2 b2)
  imm a := by simp only [D.imms, E.imm, F.imm, Bool.and_self]
  nol h a := by
    simp only [Bool.and_eq_true] at h
    simp only [D.nols, E.nol h.1, F.nol h.2, Bool.and_self]
  dp := max E.dp F.dp
  hdp a := by simp only [D.dps]; have := E.hdp a.1; have := F.hdp a.2; omega
  al := E.al && F.al
  hal h a b := by
    simp only [Bool.and_eq_true] at h
    simp only [toPys, PySem.W.alikeAll, E.hal h.1, F.hal h.2, Bool.and_self]
end
/-- a row as a tuple -/
def Er {α : Type} (F : Rw α) (h : (F.len != 0) = true := by rfl) : Enc α where
  enc a := .tup (F.row a)
  eq a b := by simp only [eqD, toPy, PyData.eqv]; exact F.eq a b
  imm a := F.imm a
  nol h a := F.nol h a
  dp := F.dp + 1
  hdp a := by simp only [D.dp]; have := F.hdp a; omega
  nn := true
  hnn _ a h := by cases h
  al := F.al
  hal h a b := by simp only [toPy, PySem.W.alike]; exact F.hal h a b
  tk := true
  htk _ a := by
    have := F.hlen a
    cases e : F.row a with
    | nil => rw [e] at this; simp at this; rw [← this] at h; simp at h
    | cons x xs => rfl
  pl := false
  hpl h := by cases h
/-! ### operators -/
section
variable {α β : Type} (E : Enc α) {n : Nat}
theorem enc_dep (a : α) (h : Nat.ble E.dp 59 = true) : dep (E.enc a) = true := dep_of (by have := E.hdp a; have := Nat.le_of_ble_eq_true h; omega)
theorem encs_dep (xs : List α) (h : Nat.ble E.dp 59 = true) : D.dps (xs.map E.enc) + 1 ≤ 60 := by have := map_dps E xs; have := Nat.le_of_ble_eq_true h; omega
theorem eqD_enc [DecidableEq α] (a b : α) : eqD (E.enc a) (E.enc b) = decide (a = b) := by
  rw [Bool.eq_iff_iff, E.eq, decide_eq_true_eq]
variable [DecidableEq α]
theorem f_eq (a b : α) (h : Nat.ble E.dp 59 = true) : fEq [E.enc a, E.enc b] = some (.bl (decide (a = b))) := by
  simp only [fEq, enc_dep E _ h, Bool.and_self, if_true, eqD_enc]
theorem f_ne (a b : α) (h : Nat.ble E.dp 59 = true) : fNe [E.enc a, E.enc b] = some (.bl (!decide (a = b))) := by
  simp only [fNe, enc_dep E _ h, Bool.and_self, if_true, eqD_enc]
theorem any_enc (xs : List α) (a : α) : anyEq (xs.map E.enc) (E.enc a) = decide (a ∈ xs) := by
  rw [Bool.eq_iff_iff, decide_eq_true_eq]
  unfold anyEq
  rw [List.any_map, List.any_eq_true]
  exact ⟨fun ⟨y, hy, e⟩ => by rw [← (E.eq y a).mp e]; exact hy, fun hm => ⟨a, hm, (E.eq a a).mpr rfl⟩⟩
theorem f_inT (a : α) (xs : List α) (h : Nat.ble E.dp 58 = true) : fIn [E.enc a, .tup (xs.map E.enc)] = some (.bl (decide (a ∈ xs))) := by
  have h2 : Nat.ble E.dp 59 = true := by have := Nat.le_of_ble_eq_true h; exact Nat.ble_eq_true_of_le (by omega)
  simp only [fIn, enc_dep E _ h2, dep_of (d := .tup (xs.map E.enc)) (by simp only [D.dp]; exact encs_dep E xs h2), Bool.and_self, if_true, any_enc]
omit [DecidableEq α]
/-! numbers -/
theorem f_add (i j : Int) : fAdd [.int i, .int j] = some (.int (i + j)) := rfl
theorem f_neg (i : Int) : fNeg [.int i] = some (.int (-i)) := rfl
theorem f_gt (i j : Int) : fGt [.int i, .int j] = some (.bl (decide (j < i))) := fGt_int i j
/-! order of other values -/
def Enc.lt (a b : α) : Bool := ltD (E.enc a) (E.enc b)
theorem enc_cmp (a b : α) (h : Nat.ble E.dp 59 = true) (ha : E.al = true) (hn : E.nn = true) : cmpOk (E.enc a) (E.enc b) = true := by
  simp only [cmpOk, E.hal ha, enc_dep E _ h, Bool.and_self, Bool.true_and]
  have := E.nol ha a
  have := E.hnn hn a
  cases e : E.enc a <;> simp_all [D.nol]
theorem lt_int (i j : Int) : Ei.lt i j = decide (i < j) := ltD_int i j
theorem lt_irrefl (a : α) : E.lt a a = false := lex_irrefl _
theorem lt_trans {a b c : α} (h1 : E.lt a b = true) (h2 : E.lt b c = true) : E.lt a c = true := lex_trans _ _ _ h1 h2
/-! rows -/
theorem f_lenT (xs : List α) : fLen [.tup (xs.map E.enc)] = some (.int xs.length) := by simp only [fLen, lenD, List.length_map]
theorem f_lenL (xs : List α) : fLen [.lst (xs.map E.enc)] = some (.int xs.length) := by simp only [fLen, lenD, List.length_map]
theorem atI_map (xs : List α) (i : Int) : L2.atI (xs.map E.enc) i = (L2.atI xs i).map E.enc := by
  simp only [L2.atI, List.length_map]
  cases ixN xs.length i with
  | none => rfl
  | some j => simp only [Option.bind_some, List.getElem?_map]
theorem s_L {r : R} {xs : List α} {i : Int} {v : α} (h : L2.atI xs i = some v) : subR r (.lst (xs.map E.enc)) i = some (.own (E.enc v)) := by
  simp only [subR, subD, atI_map, h, Option.map_some, E.imm v, if_true]
/-- a place of a row that is known -/
theorem s_R {r : R} {ds : List D} {i : Int} {d : D} (h : L2.atI ds i = some d) (g : d.imm = true) : subR r (.tup ds) i = some (.own d) := by
  simp only [subR, subD, h, g, if_true]
theorem cutG_map {γ : Type} (f : α → γ) (xs : List α) (lo hi : Option Int) : cutG (xs.map f) lo hi = (cutG xs lo hi).map f := by
  simp only [cutG, List.length_map, List.map_take, List.map_drop]
theorem c_T (xs : List α) (lo hi : Option Int) : sliceD lo hi (.tup (xs.map E.enc)) = some (.tup ((cutG xs lo hi).map E.enc)) := by
  simp only [sliceD, map_imms, if_true, cutG_map]
theorem f_tuple (xs : List α) : fTuple [.lst (xs.map E.enc)] = some (.tup (xs.map E.enc)) := by simp only [fTuple, map_imms, if_true]
theorem t_B (b : Bool) : truthD (.bl b) = some b := rfl
def pushO (xs : List α) (y : α) : Option (List α) := if xs.length < 1000000 then some (xs ++ [y]) else none
theorem push_eq {xs zs : List α} {y : α} (h : pushO xs y = some zs) : xs.length < 1000000 ∧ zs = xs ++ [y] := by
  unfold pushO at h
  split at h
  · cases h; exact ⟨by assumption, rfl⟩
  · cases h
def setO (xs : List α) (i : Int) (y : α) : Option (List α) := match ixN xs.length i with
  | some j => some (xs.set j y)
  | none => none
theorem set_eq {xs zs : List α} {i : Int} {y : α} (h : setO xs i y = some zs) : ∃ j, ixN xs.length i = some j ∧ zs = xs.set j y := by
  unfold setO at h
  split at h
  · cases h; exact ⟨_, by assumption, rfl⟩
  · cases h
def repO (xs : List α) (n : Int) : Option (List α) := if -1000000 ≤ n ∧ n ≤ 1000000 ∧ xs.length * n.toNat ≤ 1000000 then some (List.replicate n.toNat xs).flatten else none
theorem f_repL {xs ys : List α} {n : Int} (h : repO xs n = some ys) : fMul [.lst (xs.map E.enc), .int n] = some (.lst (ys.map E.enc)) := by
  unfold repO at h
  split at h
  · cases h
    simp only [fMul, map_imms, List.length_map]
    rw [if_pos ⟨trivial, by assumption⟩, List.map_flatten, List.map_replicate]
  · cases h
/-! items -/
def rngN (lo : Int) (n : Nat) : List Int := (List.range n).map fun (k : Nat) => lo + (k : Int)
theorem rng_map (lo : Int) (n : Nat) : rangeD lo n = (rngN lo n).map Ei.enc := by
  simp only [rangeD, rngN, List.map_map]; rfl
def rngO (lo hi : Int) : Option (List Int) := if -1000000 ≤ lo ∧ lo ≤ 1000000 ∧ -1000000 ≤ hi ∧ hi ≤ 1000000 then some (rngN lo (hi - lo).toNat) else none
def numN {α : Type} : Nat → List α → List (Int × α)
  | _, [] => []
  | k, x :: xs => ((k : Int), x) :: numN (k + 1) xs
def numE : Enc (Int × α) := Er (Rc Ei (R1 E))
theorem num_map : ∀ (k : Nat) (xs : List α), enumD k (xs.map E.enc) = (numN k xs).map (numE E).enc
  | _, [] => rfl
  | k, x :: xs => by simp only [List.map_cons, enumD, numN, num_map (k + 1) xs]; rfl
section
variable {p : Bool} {A A1 : List Sl} {m : Den} {mr : DE → Option (List R × DE)}
theorem i_rng1 {hi : Int} {zs : List Int} (h : RA p A mr [.own (.int hi)] A1) (e : rngO 0 hi = some zs) : RS p A (sRange mr) ⟨zs.map Ei.enc, []⟩ A1 := fun δ a => by
  obtain ⟨δ1, e1, a1, u⟩ := h δ a
  unfold rngO at e
  split at e
  · rename_i hh
    cases e
    refine ⟨δ1, ?_, a1, u⟩
    simp only [sRange, e1]
    rw [if_pos hh.2.2, rng_map, Int.sub_zero]
  · cases e
theorem i_T {xs : List α} (h : RV p A m (.own (.tup (xs.map E.enc))) A1) : RS p A (sSeq m) ⟨xs.map E.enc, []⟩ A1 := fun δ a => by
  obtain ⟨δ1, e1, a1, u⟩ := h δ a
  exact ⟨δ1, by simp only [sSeq, e1, map_imms, if_true], a1, u⟩
theorem i_V {xs : List α} {i : Nat} (h : RV p A m (.at i []) A1) (g : A1[i]? = some (.is (.lst (xs.map E.enc)))) : RS p A (sSeq m) ⟨xs.map E.enc, [(i, .lst (xs.map E.enc))]⟩ A1 := fun δ a => by
  obtain ⟨δ1, e1, a1, u⟩ := h δ a
  exact ⟨δ1, by simp only [sSeq, e1, a1.get _ _ g, map_imms, if_true], a1, u⟩
theorem i_numT {xs : List α} (h : RV p A m (.own (.tup (xs.map E.enc))) A1) : RS p A (sEnum m) ⟨(numN 0 xs).map (numE E).enc, []⟩ A1 := fun δ a => by
  obtain ⟨δ1, e1, a1, u⟩ := h δ a
  exact ⟨δ1, by simp only [sEnum, e1, map_imms, if_true, num_map], a1, u⟩
end
/-! sorting -/
theorem all_map (q : D → Bool) (h : ∀ a, q (E.enc a) = true) : ∀ xs : List α, (xs.map E.enc).all q = true := fun xs => by
  rw [List.all_map, List.all_eq_true]; exact fun a _ => h a
/-! least and greatest -/
def Enc.maxL : List α → Option α
  | [] => none
  | x :: xs => some (xs.foldl (fun a y => if E.lt a y then y else a) x)
theorem maxD_map (x : α) : ∀ xs : List α, maxD (E.enc x) (xs.map E.enc) = E.enc (xs.foldl (fun a y => if E.lt a y then y else a) x) := by
  intro xs
  unfold maxD
  induction xs generalizing x with
  | nil => rfl
  | cons y ys ih =>
    simp only [List.map_cons, List.foldl_cons]
    rw [← ih]
    congr 1
    unfold Enc.lt
    split <;> rfl
theorem cmpAll_map (xs : List α) (h : Nat.ble E.dp 59 = true) (ha : E.al = true) (hn : E.nn = true) : cmpAll (xs.map E.enc) = true := by
  unfold cmpAll
  simp only [map_nols E ha, Bool.true_and]
  exact all_map E _ (fun a => all_map E _ (fun b => enc_cmp E a b h ha hn) xs) xs
theorem f_max {d : D} {xs : List α} {v : α} (i : itemsD d = some (xs.map E.enc)) (e : E.maxL xs = some v) (h : Nat.ble E.dp 59 = true) (ha : E.al = true) (hn : E.nn = true) : fMax1 [d] = some (E.enc v) := by
  cases xs with
  | nil => cases e
  | cons x xs =>
    cases e
    have := cmpAll_map E (x :: xs) h ha hn
    simp only [List.map_cons] at i this
    simp only [fMax1, fMax, i, this, if_true, maxD_map]
end
end Y


set_option Elab.async false
set_option linter.all false
set_option maxRecDepth 100000
set_option maxHeartbeats 1000000
/-! what all laws share: the box of digits, drawing, sameness -/
namespace Y
open PySem PySem.Spec PyProof.Rows L2 Z
def m_law_cell : Blk :=
    (dSeq (dIf (dTb (dCall fLt (d2 true (dVar 1) (dCall fLen (dACons true (dVar 0) dANil)))))
    (dRet (kpL [0, 1]) (dSub true (dVar 0) (dVar 1)))
    dNx)
    (dRet (kpL [0, 1]) (dC (.int 0))))
def d_law_cell : Fn := dFn 2 2 (kpL [0, 1]) m_law_cell
def l_law_digits_1 : Blk :=
    (dIf (dTb (dCall fGt (d2 true (dVar 5) (dC (.int 0)))))
    (dSeq (dDrop (dAppend true (dVar 3) (dCall fMod (d2 true (dCall fInt (dACons true (dVar 5) dANil)) (dC (.int 1000))))))
    (dAsg (bName 5) (dCall fFdiv (d2 true (dVar 5) (dC (.int 1000))))))
    dNx)
def l_law_digits_2 : Blk :=
    (dSeq (dAsg (bName 7) (dCall fMod (d2 true (dCall fInt (dACons true (dCall fAdd (d2 true (dCall fAdd (d2 true (dCall fMul (d2 true (dVar 7) (dC (.int 16807)))) (dCall fMul (d2 true (dC (.int 7)) (dVar 6))))) (dC (.int 1)))) dANil)) (dC (.int 2147483647)))))
    (dDrop (dAppend true (dVar 3) (dCall fMod (d2 true (dCall fInt (dACons true (dCall fFdiv (d2 true (dVar 7) (dC (.int 997)))) dANil)) (dC (.int 1000)))))))
def l_law_digits_3 : Blk :=
    (dSeq (dAsg (bName 5) (dUser d_law_cell (dACons true (dVar 0) (dACons true (dVar 4) dANil))))
    (dSeq (dIf (dTb (dCall fLt (d2 true (dVar 5) (dC (.int 0)))))
    (dAsg (bName 5) (dCall fSub (d2 true (dC (.int 1)) (dCall fMul (d2 true (dC (.int 2)) (dVar 5))))))
    dNx)
    (dIf (dTb (dCall fGe (d2 true (dVar 5) (dCall fPow (d2 true (dC (.int 10)) (dC (.int 18)))))))
    (dFor (kpL [0, 1, 2, 3, 4, 7]) (sRange (dACons true (dC (.int 60)) dANil)) (bName 6)
    l_law_digits_1)
    (dSeq (dAsg (bName 7) (dCall fMod (d2 true (dCall fInt (dACons true (dCall fAdd (d2 true (dCall fAdd (d2 true (dCall fMul (d2 true (dVar 5) (dC (.int 48271)))) (dCall fMul (d2 true (dVar 4) (dC (.int 69621)))))) (dC (.int 11)))) dANil)) (dC (.int 2147483647)))))
    (dFor (kpL [0, 1, 2, 3, 4, 5]) (sRange (dACons true (dC (.int 12)) dANil)) (bName 6)
    l_law_digits_2)))))
def m_law_digits : Blk :=
    (dSeq (dAsg (bName 3) (dLst dANil))
    (dSeq (dFor (kpL [0, 1, 2, 3]) (sRange (dACons true (dVar 1) (dACons true (dVar 2) dANil))) (bName 4)
    l_law_digits_3)
    (dRet (kpL [0, 1, 2]) (dVar 3))))
def d_law_digits : Fn := dFn 8 3 (kpL [0, 1, 2]) m_law_digits
def m_law_box : Blk :=
    (dRet (kpL [0, 1, 2]) (dLst (dACons true (dUser d_law_digits (dACons true (dVar 0) (dACons true (dVar 1) (dACons true (dVar 2) dANil)))) (dACons true (dC (.int 0)) dANil))))
def d_law_box : Fn := dFn 3 3 (kpL [0, 1, 2]) m_law_box
def m_law_draw : Blk :=
    (dSeq (dAsg (bName 2) (dSub true (dVar 0) (dC (.int 1))))
    (dSeq (dSetI true true (dVar 0) (dC (.int 1)) (dCall fAdd (d2 true (dVar 2) (dC (.int 1)))))
    (dSeq (dIf (dTb (dCall fLt (d2 true (dVar 2) (dCall fLen (dACons true (dSub true (dVar 0) (dC (.int 0))) dANil)))))
    (dRet (kpL [0, 1]) (dCall fMod (d2 true (dCall fInt (dACons true (dSub true (dSub true (dVar 0) (dC (.int 0))) (dVar 2)) dANil)) (dVar 1))))
    dNx)
    (dRet (kpL [0, 1]) (dC (.int 0))))))
def d_law_draw : Fn := dFn 3 2 (kpL [0, 1]) m_law_draw
def l_law_same_1 (rec : Fn) : Blk :=
    (dIf (dNot (dTv (dUser rec (dACons true (dSub true (dVar 0) (dVar 2)) (dACons true (dSub true (dVar 1) (dVar 2)) dANil)))))
    (dRet (kpL [0, 1]) (dC (.bl false)))
    dNx)
def m_law_same (rec : Fn) : Blk :=
    (dSeq (dIf (dTv (dCall (fIsa PyData.isTuple) (dACons true (dVar 1) dANil)))
    (dSeq (dIf (dOr (dNot (dTv (dCall (fIsa PyData.isTuple) (dACons true (dVar 0) dANil)))) (dTb (dCall fNe (d2 true (dCall fLen (dACons true (dVar 0) dANil)) (dCall fLen (dACons true (dVar 1) dANil))))))
    (dRet (kpL [0, 1]) (dC (.bl false)))
    dNx)
    (dSeq (dFor (kpL [0, 1]) (sRange (dACons true (dCall fLen (dACons true (dVar 1) dANil)) dANil)) (bName 2)
    (l_law_same_1 rec))
    (dRet (kpL [0, 1]) (dC (.bl true)))))
    dNx)
    (dSeq (dIf (dTb (dCall fIs (d2 true (dVar 1) (dC .non))))
    (dRet (kpL [0, 1]) (dCall fIs (d2 true (dVar 0) (dC .non))))
    dNx)
    (dSeq (dIf (dTv (dCall (fIsa PyData.isBool) (dACons true (dVar 1) dANil)))
    (dRet (kpL [0, 1]) (dAndV (dCall (fIsa PyData.isBool) (dACons true (dVar 0) dANil)) (dCall fEq (d2 true (dVar 0) (dVar 1)))))
    dNx)
    (dSeq (dIf (dTv (dCall (fIsa PyData.isInt) (dACons true (dVar 1) dANil)))
    (dRet (kpL [0, 1]) (dAndV (dCall (fIsa PyData.isInt) (dACons true (dVar 0) dANil)) (dAndV (dNotV (dCall (fIsa PyData.isBool) (dACons true (dVar 0) dANil))) (dCall fEq (d2 true (dVar 0) (dVar 1))))))
    dNx)
    (dRet (kpL [0, 1]) (dAndV (dCall (fIsa PyData.isStr) (dACons true (dVar 0) dANil)) (dCall fEq (d2 true (dVar 0) (dVar 1)))))))))
def d_law_same : Nat → Fn
  | 0 => fun _ => none
  | n + 1 => dFn 3 2 (kpL [0, 1]) (m_law_same (d_law_same n))
theorem atI_ints (xs : List Int) (k : Nat) (h : k < xs.length) : L2.atI (xs.map D.int) (k : Int) = some (D.int xs[k]) := by
  simp [L2.atI, L2.ixN, h]
theorem rangeD_at {lo : Int} {n : Nat} {p q : List D} {x : D} (e : rangeD lo n = p ++ x :: q) : x = .int (lo + p.length) ∧ p.length < n := by
  have h : (rangeD lo n)[p.length]? = some x := by rw [e]; simp
  obtain ⟨h1, h2⟩ := rangeD_get h
  exact ⟨h2, h1⟩
theorem cell_ok (c : List D → D) (hc : c = .lst ∨ c = .frz) (xs : List Int) (k : Nat) : d_law_cell [c (xs.map .int), .int k] = some (.int (xs.getD k 0), [some (c (xs.map .int)), some (.int k)]) := by
  by_cases h : k < xs.length
  · have e := atI_ints xs k h
    rcases hc with rfl | rfl <;>
    simp [d_law_cell, m_law_cell, dFn, env0, dSeq, dNx, dBk, dCt, dIf, dTb, dTv, dAnd, dOr, dNot, dAndV, dOrV, dNotV, dIfE, dCall, dACons, dANil, dVar, dC, derefs, deref, getP, setP, dRet, dRetN, dSub, subR, subD, R.short, lenD, fLen, fInt, fTuple, dTup, dLst, owns, fI2, D.imm, D.imms, truthD, dAsg, bName, bTup, bCons, bNil, dDrop, dAppend, isLst, mutD, dSetI, dUser, rootsOk, roots, puts, fins, kpL, dAug, fAdd, fMul, fMod, fFdiv, fSub, fLt_int, fGt_int, fLe_int, fGe_int, fEq_int, fNe_int, fEq_str, h, e]
  · rcases hc with rfl | rfl <;>
    simp [d_law_cell, m_law_cell, dFn, env0, dSeq, dNx, dBk, dCt, dIf, dTb, dTv, dAnd, dOr, dNot, dAndV, dOrV, dNotV, dIfE, dCall, dACons, dANil, dVar, dC, derefs, deref, getP, setP, dRet, dRetN, dSub, subR, subD, R.short, lenD, fLen, fInt, fTuple, dTup, dLst, owns, fI2, D.imm, D.imms, truthD, dAsg, bName, bTup, bCons, bNil, dDrop, dAppend, isLst, mutD, dSetI, dUser, rootsOk, roots, puts, fins, kpL, dAug, fAdd, fMul, fMod, fFdiv, fSub, fLt_int, fGt_int, fLe_int, fGe_int, fEq_int, fNe_int, fEq_str, h]
/-- the box: its digits, the place -/
def box (ds : List Int) (n : Nat) : D := .lst [.lst (ds.map .int), .int n]
theorem big_step (s f l k z : Option D) (ds : List Int) (c t : Int) (hl : ds.length < 1000000) : ∃ (ds' : List Int) (c' : Int), l_law_digits_1 [s, f, l, some (.lst (ds.map .int)), k, some (.int c), some (.int t), z] = some (.nx [s, f, l, some (.lst (ds'.map .int)), k, some (.int c'), some (.int t), z]) ∧ ds'.length ≤ ds.length + 1 := by
  by_cases hc : 0 < c
  · exact ⟨ds ++ [c.fmod 1000], c.fdiv 1000, by simp [l_law_digits_1, dFn, env0, dSeq, dNx, dBk, dCt, dIf, dTb, dTv, dAnd, dOr, dNot, dAndV, dOrV, dNotV, dIfE, dCall, dACons, dANil, dVar, dC, derefs, deref, getP, setP, dRet, dRetN, dSub, subR, subD, R.short, lenD, fLen, fInt, fTuple, dTup, dLst, owns, fI2, D.imm, D.imms, truthD, dAsg, bName, bTup, bCons, bNil, dDrop, dAppend, isLst, mutD, dSetI, dUser, rootsOk, roots, puts, fins, kpL, dAug, fAdd, fMul, fMod, fFdiv, fSub, fLt_int, fGt_int, fLe_int, fGe_int, fEq_int, fNe_int, fEq_str, hc, hl], by simp⟩
  · exact ⟨ds, c, by simp [l_law_digits_1, dFn, env0, dSeq, dNx, dBk, dCt, dIf, dTb, dTv, dAnd, dOr, dNot, dAndV, dOrV, dNotV, dIfE, dCall, dACons, dANil, dVar, dC, derefs, deref, getP, setP, dRet, dRetN, dSub, subR, subD, R.short, lenD, fLen, fInt, fTuple, dTup, dLst, owns, fI2, D.imm, D.imms, truthD, dAsg, bName, bTup, bCons, bNil, dDrop, dAppend, isLst, mutD, dSetI, dUser, rootsOk, roots, puts, fins, kpL, dAug, fAdd, fMul, fMod, fFdiv, fSub, fLt_int, fGt_int, fLe_int, fGe_int, fEq_int, fNe_int, fEq_str, hc], by simp⟩
theorem small_step (s f l k c : Option D) (ds : List Int) (z t : Int) (hl : ds.length < 1000000) : ∃ (ds' : List Int) (z' : Int), l_law_digits_2 [s, f, l, some (.lst (ds.map .int)), k, c, some (.int t), some (.int z)] = some (.nx [s, f, l, some (.lst (ds'.map .int)), k, c, some (.int t), some (.int z')]) ∧ ds'.length ≤ ds.length + 1 :=
  ⟨ds ++ [(((z * 16807 + 7 * t + 1).fmod 2147483647).fdiv 997).fmod 1000], (z * 16807 + 7 * t + 1).fmod 2147483647, by simp [l_law_digits_2, dFn, env0, dSeq, dNx, dBk, dCt, dIf, dTb, dTv, dAnd, dOr, dNot, dAndV, dOrV, dNotV, dIfE, dCall, dACons, dANil, dVar, dC, derefs, deref, getP, setP, dRet, dRetN, dSub, subR, subD, R.short, lenD, fLen, fInt, fTuple, dTup, dLst, owns, fI2, D.imm, D.imms, truthD, dAsg, bName, bTup, bCons, bNil, dDrop, dAppend, isLst, mutD, dSetI, dUser, rootsOk, roots, puts, fins, kpL, dAug, fAdd, fMul, fMod, fFdiv, fSub, fLt_int, fGt_int, fLe_int, fGe_int, fEq_int, fNe_int, fEq_str, hl], by simp⟩
theorem big_ok (s f l k t z : Option D) (ds : List Int) (cell : Int) (hl : ds.length ≤ 100000) : ∃ (ds' : List Int) (c' t' : Option D), dForL [] (bName 6) l_law_digits_1 (rangeD 0 60) [s, f, l, some (.lst (ds.map .int)), k, some (.int cell), t, z] = some (.nx [s, f, l, some (.lst (ds'.map .int)), k, c', t', z]) ∧ ds'.length ≤ ds.length + 60 := by
  obtain ⟨δ', e, ds', c', t', rfl, hl'⟩ := dForL_inv (gs := []) (b := bName 6) (mb := l_law_digits_1)
    (fun p δ => ∃ (ds' : List Int), ∃ (c' : Int), ∃ t', δ = [s, f, l, some (.lst (ds'.map .int)), k, some (.int c'), t', z] ∧ ds'.length ≤ ds.length + p.length) (rangeD 0 60) [] _ (fun _ _ _ => rfl) (fun p x q δ he ⟨ds1, c1, t1, h1, h2⟩ => by
      subst h1
      obtain ⟨rfl, hp⟩ := rangeD_at (p := p) he
      obtain ⟨ds2, c2, e2, h3⟩ := big_step s f l k z ds1 c1 (0 + p.length) (by omega)
      exact ⟨_, _, rfl, .inl e2, ds2, c2, _, rfl, by simp; omega⟩) ⟨ds, cell, t, rfl, by simp⟩
  refine ⟨ds', _, _, e, ?_⟩
  simpa [rangeD_len] using hl'
theorem small_ok (s f l k c t : Option D) (ds : List Int) (seed : Int) (hl : ds.length ≤ 100000) : ∃ (ds' : List Int) (z' t' : Option D), dForL [] (bName 6) l_law_digits_2 (rangeD 0 12) [s, f, l, some (.lst (ds.map .int)), k, c, t, some (.int seed)] = some (.nx [s, f, l, some (.lst (ds'.map .int)), k, c, t', z']) ∧ ds'.length ≤ ds.length + 60 := by
  obtain ⟨δ', e, ds', c', t', rfl, hl'⟩ := dForL_inv (gs := []) (b := bName 6) (mb := l_law_digits_2)
    (fun p δ => ∃ (ds' : List Int), ∃ (c' : Int), ∃ t', δ = [s, f, l, some (.lst (ds'.map .int)), k, c, t', some (.int c')] ∧ ds'.length ≤ ds.length + p.length) (rangeD 0 12) [] _ (fun _ _ _ => rfl) (fun p x q δ he ⟨ds1, c1, t1, h1, h2⟩ => by
      subst h1
      obtain ⟨rfl, hp⟩ := rangeD_at (p := p) he
      obtain ⟨ds2, c2, e2, h3⟩ := small_step s f l k c ds1 c1 (0 + p.length) (by omega)
      exact ⟨_, _, rfl, .inl e2, ds2, c2, _, rfl, by simp; omega⟩) ⟨ds, seed, t, rfl, by simp⟩
  refine ⟨ds', _, _, e, ?_⟩
  have := hl'
  simp [rangeD_len] at this
  omega
theorem fPow_1018 : fPow [.int 10, .int 18] = some (.int 1000000000000000000) := by
  simp [fI2]
theorem dSeq_nx {a b : Blk} {δ δ1 : DE} (h : a δ = some (.nx δ1)) : dSeq a b δ = b δ1 := by simp only [dSeq, h]
theorem dIf_t {c : DenT} {a b : Blk} {δ δ1 : DE} (h : c δ = some (true, δ1)) : dIf c a b δ = a δ1 := by simp only [dIf, h]
theorem dIf_f {c : DenT} {a b : Blk} {δ δ1 : DE} (h : c δ = some (false, δ1)) : dIf c a b δ = b δ1 := by simp only [dIf, h]
def r_law_digits : Blk := dIf (dTb (dCall fGe (d2 true (dVar 5) (dCall fPow (d2 true (dC (.int 10)) (dC (.int 18)))))))
    (dFor (kpL [0, 1, 2, 3, 4, 7]) (sRange (dACons true (dC (.int 60)) dANil)) (bName 6)
    l_law_digits_1)
    (dSeq (dAsg (bName 7) (dCall fMod (d2 true (dCall fInt (dACons true (dCall fAdd (d2 true (dCall fAdd (d2 true (dCall fMul (d2 true (dVar 5) (dC (.int 48271)))) (dCall fMul (d2 true (dVar 4) (dC (.int 69621)))))) (dC (.int 11)))) dANil)) (dC (.int 2147483647)))))
    (dFor (kpL [0, 1, 2, 3, 4, 5]) (sRange (dACons true (dC (.int 12)) dANil)) (bName 6)
    l_law_digits_2))
theorem ge_t (a b c d e f g : Option D) (u : Int) (h : (1000000000000000000 : Int) ≤ u) : dTb (dCall fGe (d2 true (dVar 5) (dCall fPow (d2 true (dC (.int 10)) (dC (.int 18)))))) [a, b, c, d, e, some (.int u), f, g] = some (true, [a, b, c, d, e, some (.int u), f, g]) := by
  have hh : decide ((1000000000000000000 : Int) ≤ u) = true := decide_eq_true h
  simp [dTb, dCall, dVar, dACons, dANil, derefs, deref, dC, D.imm, R.short, fPow_1018, fGe_int]
  exact h
theorem ge_f (a b c d e f g : Option D) (u : Int) (h : ¬ (1000000000000000000 : Int) ≤ u) : dTb (dCall fGe (d2 true (dVar 5) (dCall fPow (d2 true (dC (.int 10)) (dC (.int 18)))))) [a, b, c, d, e, some (.int u), f, g] = some (false, [a, b, c, d, e, some (.int u), f, g]) := by
  simp [dTb, dCall, dVar, dACons, dANil, derefs, deref, dC, D.imm, R.short, fPow_1018, fGe_int]
  omega
theorem digit_step (c : List D → D) (hc : c = .lst ∨ c = .frz) (xs : List Int) (f l cell turn seed : Option D) (ds : List Int) (k v : Int) (e0 : d_law_cell [c (xs.map .int), .int k] = some (.int v, [some (c (xs.map .int)), some (.int k)])) (hl : ds.length ≤ 50000) : ∃ (ds' : List Int) (cell' turn' seed' : Option D),
    l_law_digits_3 [some (c (xs.map .int)), f, l, some (.lst (ds.map .int)), some (.int k), cell, turn, seed] = some (.nx [some (c (xs.map .int)), f, l, some (.lst (ds'.map .int)), some (.int k), cell', turn', seed']) ∧ ds'.length ≤ ds.length + 60 := by
  have hv : ∃ u : Int, l_law_digits_3 [some (c (xs.map .int)), f, l, some (.lst (ds.map .int)), some (.int k), cell, turn, seed] = r_law_digits [some (c (xs.map .int)), f, l, some (.lst (ds.map .int)), some (.int k), some (.int u), turn, seed] := by
    unfold l_law_digits_3
    rw [dSeq_nx (δ1 := [some (c (xs.map .int)), f, l, some (.lst (ds.map .int)), some (.int k), some (.int v), turn, seed]) (by rcases hc with rfl | rfl <;> simp [dFn, env0, dSeq, dNx, dBk, dCt, dIf, dTb, dTv, dAnd, dOr, dNot, dAndV, dOrV, dNotV, dIfE, dCall, dACons, dANil, dVar, dC, derefs, deref, getP, setP, dRet, dRetN, dSub, subR, subD, R.short, lenD, fLen, fInt, fTuple, dTup, dLst, owns, fI2, D.imm, D.imms, truthD, dAsg, bName, bTup, bCons, bNil, dDrop, dAppend, isLst, mutD, dSetI, dUser, rootsOk, roots, puts, fins, kpL, dAug, fAdd, fMul, fMod, fFdiv, fSub, fLt_int, fGt_int, fLe_int, fGe_int, fEq_int, fNe_int, fEq_str, e0])]
    by_cases hn : v < 0
    · refine ⟨1 - 2 * v, ?_⟩
      rw [dSeq_nx (δ1 := [some (c (xs.map .int)), f, l, some (.lst (ds.map .int)), some (.int k), some (.int (1 - 2 * v)), turn, seed]) (by rcases hc with rfl | rfl <;> simp [dFn, env0, dSeq, dNx, dBk, dCt, dIf, dTb, dTv, dAnd, dOr, dNot, dAndV, dOrV, dNotV, dIfE, dCall, dACons, dANil, dVar, dC, derefs, deref, getP, setP, dRet, dRetN, dSub, subR, subD, R.short, lenD, fLen, fInt, fTuple, dTup, dLst, owns, fI2, D.imm, D.imms, truthD, dAsg, bName, bTup, bCons, bNil, dDrop, dAppend, isLst, mutD, dSetI, dUser, rootsOk, roots, puts, fins, kpL, dAug, fAdd, fMul, fMod, fFdiv, fSub, fLt_int, fGt_int, fLe_int, fGe_int, fEq_int, fNe_int, fEq_str, hn])]
      rfl
    · refine ⟨v, ?_⟩
      rw [dSeq_nx (δ1 := [some (c (xs.map .int)), f, l, some (.lst (ds.map .int)), some (.int k), some (.int v), turn, seed]) (by rcases hc with rfl | rfl <;> simp [dFn, env0, dSeq, dNx, dBk, dCt, dIf, dTb, dTv, dAnd, dOr, dNot, dAndV, dOrV, dNotV, dIfE, dCall, dACons, dANil, dVar, dC, derefs, deref, getP, setP, dRet, dRetN, dSub, subR, subD, R.short, lenD, fLen, fInt, fTuple, dTup, dLst, owns, fI2, D.imm, D.imms, truthD, dAsg, bName, bTup, bCons, bNil, dDrop, dAppend, isLst, mutD, dSetI, dUser, rootsOk, roots, puts, fins, kpL, dAug, fAdd, fMul, fMod, fFdiv, fSub, fLt_int, fGt_int, fLe_int, fGe_int, fEq_int, fNe_int, fEq_str, hn])]
      rfl
  obtain ⟨u, hu⟩ := hv
  rw [hu]
  unfold r_law_digits
  by_cases hb : (1000000000000000000 : Int) ≤ u
  · obtain ⟨ds', c', t', e, h⟩ := big_ok (some (c (xs.map .int))) f l (some (.int k)) turn seed ds u (by omega)
    refine ⟨ds', c', t', seed, ?_, h⟩
    rw [dIf_t (ge_t _ _ _ _ _ _ _ u hb)]
    simp [dFn, env0, dSeq, dNx, dBk, dCt, dIf, dTb, dTv, dAnd, dOr, dNot, dAndV, dOrV, dNotV, dIfE, dCall, dACons, dANil, dVar, dC, derefs, deref, getP, setP, dRet, dRetN, dSub, subR, subD, R.short, lenD, fLen, fInt, fTuple, dTup, dLst, owns, fI2, D.imm, D.imms, truthD, dAsg, bName, bTup, bCons, bNil, dDrop, dAppend, isLst, mutD, dSetI, dUser, rootsOk, roots, puts, fins, kpL, dAug, fAdd, fMul, fMod, fFdiv, fSub, fLt_int, fGt_int, fLe_int, fGe_int, fEq_int, fNe_int, fEq_str, dFor, sRange, gsIn, e]
  · obtain ⟨ds', z', t', e, h⟩ := small_ok (some (c (xs.map .int))) f l (some (.int k)) (some (.int u)) turn ds ((u * 48271 + k * 69621 + 11).fmod 2147483647) (by omega)
    refine ⟨ds', some (.int u), t', z', ?_, h⟩
    rw [dIf_f (ge_f _ _ _ _ _ _ _ u hb)]
    rw [dSeq_nx (δ1 := [some (c (xs.map .int)), f, l, some (.lst (ds.map .int)), some (.int k), some (.int u), turn, some (.int ((u * 48271 + k * 69621 + 11).fmod 2147483647))]) (by simp [dFn, env0, dSeq, dNx, dBk, dCt, dIf, dTb, dTv, dAnd, dOr, dNot, dAndV, dOrV, dNotV, dIfE, dCall, dACons, dANil, dVar, dC, derefs, deref, getP, setP, dRet, dRetN, dSub, subR, subD, R.short, lenD, fLen, fInt, fTuple, dTup, dLst, owns, fI2, D.imm, D.imms, truthD, dAsg, bName, bTup, bCons, bNil, dDrop, dAppend, isLst, mutD, dSetI, dUser, rootsOk, roots, puts, fins, kpL, dAug, fAdd, fMul, fMod, fFdiv, fSub, fLt_int, fGt_int, fLe_int, fGe_int, fEq_int, fNe_int, fEq_str])]
    simp [dFn, env0, dSeq, dNx, dBk, dCt, dIf, dTb, dTv, dAnd, dOr, dNot, dAndV, dOrV, dNotV, dIfE, dCall, dACons, dANil, dVar, dC, derefs, deref, getP, setP, dRet, dRetN, dSub, subR, subD, R.short, lenD, fLen, fInt, fTuple, dTup, dLst, owns, fI2, D.imm, D.imms, truthD, dAsg, bName, bTup, bCons, bNil, dDrop, dAppend, isLst, mutD, dSetI, dUser, rootsOk, roots, puts, fins, kpL, dAug, fAdd, fMul, fMod, fFdiv, fSub, fLt_int, fGt_int, fLe_int, fGe_int, fEq_int, fNe_int, fEq_str, dFor, sRange, gsIn, e]
theorem digits_ok (c : List D → D) (hc : c = .lst ∨ c = .frz) (xs : List Int) : ∃ ds : List Int, d_law_digits [c (xs.map .int), .int 0, .int 62] = some (.lst (ds.map .int), [some (c (xs.map .int)), some (.int 0), some (.int 62)]) := by
  obtain ⟨δ', e, ds, k, cell, turn, seed, rfl, hl⟩ := dForL_inv (gs := []) (b := bName 4) (mb := l_law_digits_3)
    (fun p δ => ∃ (ds : List Int), ∃ k cell turn seed, δ = [some (c (xs.map .int)), some (.int 0), some (.int 62), some (.lst (ds.map .int)), k, cell, turn, seed] ∧ ds.length ≤ 60 * p.length)
    (rangeD 0 62) [] [some (c (xs.map .int)), some (.int 0), some (.int 62), some (.lst []), none, none, none, none] (fun _ _ _ => rfl) (fun p x q δ he ⟨ds, k, cell, turn, seed, h1, h2⟩ => by
      subst h1
      obtain ⟨rfl, hp⟩ := rangeD_at (p := p) he
      obtain ⟨ds2, c2, t2, s2, e2, h3⟩ := digit_step c hc xs (some (.int 0)) (some (.int 62)) cell turn seed ds p.length _ (cell_ok c hc xs p.length) (by omega)
      rw [Int.zero_add]
      exact ⟨_, _, rfl, .inl e2, ds2, _, c2, t2, s2, rfl, by simp; omega⟩) ⟨[], none, none, none, none, rfl, by simp⟩
  refine ⟨ds, ?_⟩
  rcases hc with rfl | rfl <;> simp [d_law_digits, m_law_digits, dFn, env0, dSeq, dNx, dBk, dCt, dIf, dTb, dTv, dAnd, dOr, dNot, dAndV, dOrV, dNotV, dIfE, dCall, dACons, dANil, dVar, dC, derefs, deref, getP, setP, dRet, dRetN, dSub, subR, subD, R.short, lenD, fLen, fInt, fTuple, dTup, dLst, owns, fI2, D.imm, D.imms, truthD, dAsg, bName, bTup, bCons, bNil, dDrop, dAppend, isLst, mutD, dSetI, dUser, rootsOk, roots, puts, fins, kpL, dAug, fAdd, fMul, fMod, fFdiv, fSub, fLt_int, fGt_int, fLe_int, fGe_int, fEq_int, fNe_int, fEq_str, dFor, sRange, gsIn, e]
theorem box_ok (c : List D → D) (hc : c = .lst ∨ c = .frz) (xs : List Int) : ∃ ds : List Int, d_law_box [c (xs.map .int), .int 0, .int 62] = some (box ds 0, [some (c (xs.map .int)), some (.int 0), some (.int 62)]) := by
  obtain ⟨ds, e⟩ := digits_ok c hc xs
  refine ⟨ds, ?_⟩
  rcases hc with rfl | rfl <;> simp [d_law_box, m_law_box, box, dFn, env0, dSeq, dNx, dBk, dCt, dIf, dTb, dTv, dAnd, dOr, dNot, dAndV, dOrV, dNotV, dIfE, dCall, dACons, dANil, dVar, dC, derefs, deref, getP, setP, dRet, dRetN, dSub, subR, subD, R.short, lenD, fLen, fInt, fTuple, dTup, dLst, owns, fI2, D.imm, D.imms, truthD, dAsg, bName, bTup, bCons, bNil, dDrop, dAppend, isLst, mutD, dSetI, dUser, rootsOk, roots, puts, fins, kpL, dAug, fAdd, fMul, fMod, fFdiv, fSub, fLt_int, fGt_int, fLe_int, fGe_int, fEq_int, fNe_int, fEq_str, e]
def Same (n : Nat) (x : D) : Prop := x.imm = true ∧ d_law_same n [x, x] = some (.bl true, [some x, some x])
theorem same_int (n : Nat) (i : Int) : Same (n + 1) (.int i) := by
  refine ⟨by simp [D.imm], ?_⟩
  simp [d_law_same, m_law_same, dFn, env0, dSeq, dNx, dBk, dCt, dIf, dTb, dTv, dAnd, dOr, dNot, dAndV, dOrV, dNotV, dIfE, dCall, dACons, dANil, dVar, dC, derefs, deref, getP, setP, dRet, dRetN, dSub, subR, subD, R.short, lenD, fLen, fInt, fTuple, dTup, dLst, owns, fI2, D.imm, D.imms, truthD, dAsg, bName, bTup, bCons, bNil, dDrop, dAppend, isLst, mutD, dSetI, dUser, rootsOk, roots, puts, fins, kpL, dAug, fAdd, fMul, fMod, fFdiv, fSub, fLt_int, fGt_int, fLe_int, fGe_int, fEq_int, fNe_int, fEq_str, fIsa, toPy, PyData.isTuple, PyData.isBool, PyData.isInt, fIs, isNone]
theorem same_str (n : Nat) (i : Str) : Same (n + 1) (.str i) := by
  refine ⟨by simp [D.imm], ?_⟩
  simp [d_law_same, m_law_same, dFn, env0, dSeq, dNx, dBk, dCt, dIf, dTb, dTv, dAnd, dOr, dNot, dAndV, dOrV, dNotV, dIfE, dCall, dACons, dANil, dVar, dC, derefs, deref, getP, setP, dRet, dRetN, dSub, subR, subD, R.short, lenD, fLen, fInt, fTuple, dTup, dLst, owns, fI2, D.imm, D.imms, truthD, dAsg, bName, bTup, bCons, bNil, dDrop, dAppend, isLst, mutD, dSetI, dUser, rootsOk, roots, puts, fins, kpL, dAug, fAdd, fMul, fMod, fFdiv, fSub, fLt_int, fGt_int, fLe_int, fGe_int, fEq_int, fNe_int, fEq_str, fIsa, toPy, PyData.isTuple, PyData.isBool, PyData.isInt, PyData.isStr, fIs, isNone]
theorem same_tup (n : Nat) (xs : List D) (hl : xs.length ≤ 1000000) (h : ∀ x ∈ xs, Same n x) : Same (n + 1) (.tup xs) := by
  have him : (D.tup xs).imm = true := by simp only [D.imm]; rw [D.imms_iff]; exact fun x hx => (h x hx).1
  refine ⟨him, ?_⟩
  obtain ⟨δ', e, k', rfl⟩ := dForL_inv (gs := []) (b := bName 2) (mb := l_law_same_1 (d_law_same n)) (fun p δ => ∃ k, δ = [some (.tup xs), some (.tup xs), k]) (rangeD 0 xs.length) [] [some (.tup xs), some (.tup xs), none] (fun _ _ _ => rfl)
    (fun p x q δ he ⟨k, h1⟩ => by
      subst h1
      obtain ⟨rfl, hp⟩ := rangeD_at (p := p) he
      rw [Int.zero_add]
      refine ⟨[some (.tup xs), some (.tup xs), some (.int p.length)], [some (.tup xs), some (.tup xs), some (.int p.length)], rfl, .inl ?_, _, rfl⟩
      have hx := h xs[p.length] (List.getElem_mem hp)
      have e1 : L2.atI xs (p.length : Int) = some xs[p.length] := by simp [L2.atI, L2.ixN, hp]
      obtain ⟨h1, h2⟩ := hx
      generalize xs[p.length] = y at *
      unfold l_law_same_1
      rw [dIf_f (δ1 := [some (.tup xs), some (.tup xs), some (.int p.length)])]
      · rfl
      · generalize hX : D.tup xs = X at *
        have e2 : subD X (p.length : Int) = some y := by subst hX; exact e1
        simp [dNot, dTv, dUser, dACons, dSub, dVar, him, deref, subR, e2, h1, R.short, dANil, D.imm, rootsOk, roots, derefs, h2, puts, truthD]) ⟨none, rfl⟩
  have hl2 : -1000000 ≤ (xs.length : Int) ∧ (xs.length : Int) ≤ 1000000 := by omega
  have him2 : D.imms xs = true := by simpa only [D.imm] using him
  have e5 : m_law_same (d_law_same n) [some (.tup xs), some (.tup xs), none] = some (.rt (.bl true) [some (.tup xs), some (.tup xs), k']) := by
    unfold m_law_same
    have : (dIf (dTv (dCall (fIsa PyData.isTuple) (dACons true (dVar 1) dANil)))
    (dSeq (dIf (dOr (dNot (dTv (dCall (fIsa PyData.isTuple) (dACons true (dVar 0) dANil)))) (dTb (dCall fNe (d2 true (dCall fLen (dACons true (dVar 0) dANil)) (dCall fLen (dACons true (dVar 1) dANil))))))
    (dRet (kpL [0, 1]) (dC (.bl false)))
    dNx)
    (dSeq (dFor (kpL [0, 1]) (sRange (dACons true (dCall fLen (dACons true (dVar 1) dANil)) dANil)) (bName 2)
    (l_law_same_1 (d_law_same n)))
    (dRet (kpL [0, 1]) (dC (.bl true)))))
    dNx) [some (.tup xs), some (.tup xs), none] = some (.rt (.bl true) [some (.tup xs), some (.tup xs), k']) := by
      rw [dIf_t (δ1 := [some (.tup xs), some (.tup xs), none]) (by simp [dFn, env0, dSeq, dNx, dBk, dCt, dIf, dTb, dTv, dAnd, dOr, dNot, dAndV, dOrV, dNotV, dIfE, dCall, dACons, dANil, dVar, dC, derefs, deref, getP, setP, dRet, dRetN, dSub, subR, subD, R.short, lenD, fLen, fInt, fTuple, dTup, dLst, owns, fI2, D.imm, D.imms, truthD, dAsg, bName, bTup, bCons, bNil, dDrop, dAppend, isLst, mutD, dSetI, dUser, rootsOk, roots, puts, fins, kpL, dAug, fAdd, fMul, fMod, fFdiv, fSub, fLt_int, fGt_int, fLe_int, fGe_int, fEq_int, fNe_int, fEq_str, fIsa, toPy, PyData.isTuple, him2])]
      rw [dSeq_nx (δ1 := [some (.tup xs), some (.tup xs), none]) (by simp [dFn, env0, dSeq, dNx, dBk, dCt, dIf, dTb, dTv, dAnd, dOr, dNot, dAndV, dOrV, dNotV, dIfE, dCall, dACons, dANil, dVar, dC, derefs, deref, getP, setP, dRet, dRetN, dSub, subR, subD, R.short, lenD, fLen, fInt, fTuple, dTup, dLst, owns, fI2, D.imm, D.imms, truthD, dAsg, bName, bTup, bCons, bNil, dDrop, dAppend, isLst, mutD, dSetI, dUser, rootsOk, roots, puts, fins, kpL, dAug, fAdd, fMul, fMod, fFdiv, fSub, fLt_int, fGt_int, fLe_int, fGe_int, fEq_int, fNe_int, fEq_str, fIsa, toPy, PyData.isTuple, him2])]
      rw [dSeq_nx (δ1 := [some (.tup xs), some (.tup xs), k']) (by simp [dFor, sRange, dFn, env0, dSeq, dNx, dBk, dCt, dIf, dTb, dTv, dAnd, dOr, dNot, dAndV, dOrV, dNotV, dIfE, dCall, dACons, dANil, dVar, dC, derefs, deref, getP, setP, dRet, dRetN, dSub, subR, subD, R.short, lenD, fLen, fInt, fTuple, dTup, dLst, owns, fI2, D.imm, D.imms, truthD, dAsg, bName, bTup, bCons, bNil, dDrop, dAppend, isLst, mutD, dSetI, dUser, rootsOk, roots, puts, fins, kpL, dAug, fAdd, fMul, fMod, fFdiv, fSub, fLt_int, fGt_int, fLe_int, fGe_int, fEq_int, fNe_int, fEq_str, him2, hl2, gsIn, e])]
      simp [dFn, env0, dSeq, dNx, dBk, dCt, dIf, dTb, dTv, dAnd, dOr, dNot, dAndV, dOrV, dNotV, dIfE, dCall, dACons, dANil, dVar, dC, derefs, deref, getP, setP, dRet, dRetN, dSub, subR, subD, R.short, lenD, fLen, fInt, fTuple, dTup, dLst, owns, fI2, D.imm, D.imms, truthD, dAsg, bName, bTup, bCons, bNil, dDrop, dAppend, isLst, mutD, dSetI, dUser, rootsOk, roots, puts, fins, kpL, dAug, fAdd, fMul, fMod, fFdiv, fSub, fLt_int, fGt_int, fLe_int, fGe_int, fEq_int, fNe_int, fEq_str]
    simp only [dSeq, this]
  simp [d_law_same, dFn, env0, e5, fins, kpL]
theorem same_bl (n : Nat) (i : Bool) : Same (n + 1) (.bl i) := by
  refine ⟨by simp [D.imm], ?_⟩
  have e : fEq [.bl i, .bl i] = some (.bl true) := by
    have h : dep (.bl i) = true := dep_of (by simp [D.dp])
    simp [fEq, h, eqD, toPy, PyData.eqv]
  simp [d_law_same, m_law_same, dFn, env0, dSeq, dNx, dBk, dCt, dIf, dTb, dTv, dAnd, dOr, dNot, dAndV, dOrV, dNotV, dIfE, dCall, dACons, dANil, dVar, dC, derefs, deref, getP, setP, dRet, dRetN, dSub, subR, subD, R.short, lenD, fLen, fInt, fTuple, dTup, dLst, owns, fI2, D.imm, D.imms, truthD, dAsg, bName, bTup, bCons, bNil, dDrop, dAppend, isLst, mutD, dSetI, dUser, rootsOk, roots, puts, fins, kpL, dAug, fAdd, fMul, fMod, fFdiv, fSub, fLt_int, fGt_int, fLe_int, fGe_int, fEq_int, fNe_int, fEq_str, fIsa, toPy, PyData.isTuple, PyData.isBool, PyData.isInt, PyData.isStr, fIs, isNone, e]
theorem same_non (n : Nat) : Same (n + 1) .non := by
  refine ⟨by simp [D.imm], ?_⟩
  simp [d_law_same, m_law_same, dFn, env0, dSeq, dNx, dBk, dCt, dIf, dTb, dTv, dAnd, dOr, dNot, dAndV, dOrV, dNotV, dIfE, dCall, dACons, dANil, dVar, dC, derefs, deref, getP, setP, dRet, dRetN, dSub, subR, subD, R.short, lenD, fLen, fInt, fTuple, dTup, dLst, owns, fI2, D.imm, D.imms, truthD, dAsg, bName, bTup, bCons, bNil, dDrop, dAppend, isLst, mutD, dSetI, dUser, rootsOk, roots, puts, fins, kpL, dAug, fAdd, fMul, fMod, fFdiv, fSub, fLt_int, fGt_int, fLe_int, fGe_int, fEq_int, fNe_int, fEq_str, fIsa, toPy, PyData.isTuple, PyData.isBool, PyData.isInt, PyData.isStr, fIs, isNone]
mutual
/-- no row in it is too long -/
def szD : D → Bool
  | .tup xs => decide (xs.length ≤ 1000000) && szDs xs
  | .lst _ => false
  | .frz _ => false
  | .dic _ _ => false
  | .obj _ _ _ => false
  | _ => true
def szDs : List D → Bool
  | [] => true
  | x :: xs => szD x && szDs xs
end
mutual
theorem same_all : ∀ (d : D) (n : Nat), szD d = true → d.dp < n → Same n d
  | _, 0, _, l => by omega
  | .non, n + 1, _, _ => same_non n
  | .bl b, n + 1, _, _ => same_bl n b
  | .int i, n + 1, _, _ => same_int n i
  | .str x, n + 1, _, _ => same_str n x
  | .tup xs, n + 1, z, l => by
    simp only [szD, Bool.and_eq_true, decide_eq_true_eq] at z
    simp only [D.dp] at l
    exact same_tup n xs z.1 fun x hx => sames_all xs n z.2 (by omega) x hx
  | .lst _, _ + 1, h, _ => by simp [szD] at h
  | .frz _, _ + 1, h, _ => by simp [szD] at h
  | .dic _ _, _ + 1, h, _ => by simp [szD] at h
  | .obj _ _ _, _ + 1, h, _ => by simp [szD] at h
theorem sames_all : ∀ (ds : List D) (n : Nat), szDs ds = true → D.dps ds < n → ∀ x ∈ ds, Same n x
  | [], _, _, _, x, hx => nomatch hx
  | y :: ds, n, z, l, x, hx => by
    simp only [szDs, Bool.and_eq_true] at z
    simp only [D.dps] at l
    rcases List.mem_cons.mp hx with e | hx
    · rw [e]; exact same_all y n z.1 (by omega)
    · exact sames_all ds n z.2 (by omega) x hx
end
section
variable {α : Type} (E : Enc α) [DecidableEq α]
/-- the same, and not too long -/
def sameO (a b : α) : Option Bool := if a = b ∧ szD (E.enc a) = true then some true else none
theorem f_same {a b : α} {v : Bool} {n : Nat} (h : sameO E a b = some v) (hd : Nat.ble (E.dp + 1) n = true) : d_law_same n [E.enc a, E.enc b] = some (.bl v, [some (E.enc a), some (E.enc b)]) := by
  unfold sameO at h
  split at h
  · rename_i hh
    cases h
    rw [← hh.1]
    exact (same_all _ n hh.2 (by have := E.hdp a; have := Nat.le_of_ble_eq_true hd; omega)).2
  · cases h
end
/-! the box as a value -/
abbrev Box := List Int × Nat
def boxE (b : Box) : D := box b.1 b.2
/-- drawing where all is well -/
def drawO (b : Box) (m : Int) : Option (Int × Box) := if 0 < m then some (if b.2 < b.1.length then (b.1.getD b.2 0).fmod m else 0, (b.1, b.2 + 1)) else none
theorem f_draw {b : Box} {m : Int} {v : Int × Box} (h : drawO b m = some v) : d_law_draw [boxE b, .int m] = some (.int v.1, [some (boxE v.2), some (.int m)]) := by
  obtain ⟨ds, n⟩ := b
  unfold drawO at h
  split at h
  · rename_i hm
    cases h
    have hm0 : m ≠ 0 := by omega
    by_cases h : n < ds.length
    · have e := atI_ints ds n h
      simp [d_law_draw, m_law_draw, boxE, box, dFn, env0, dSeq, dNx, dBk, dCt, dIf, dTb, dTv, dAnd, dOr, dNot, dAndV, dOrV, dNotV, dIfE, dCall, dACons, dANil, dVar, dC, derefs, deref, getP, setP, dRet, dRetN, dSub, subR, subD, R.short, lenD, fLen, fInt, fTuple, dTup, dLst, owns, fI2, D.imm, D.imms, truthD, dAsg, bName, bTup, bCons, bNil, dDrop, dAppend, isLst, mutD, dSetI, dUser, rootsOk, roots, puts, fins, kpL, dAug, fAdd, fMul, fMod, fFdiv, fSub, fLt_int, fGt_int, fLe_int, fGe_int, fEq_int, fNe_int, fEq_str, h, e, L2.atI, L2.ixN, hm0]
    · simp [d_law_draw, m_law_draw, boxE, box, dFn, env0, dSeq, dNx, dBk, dCt, dIf, dTb, dTv, dAnd, dOr, dNot, dAndV, dOrV, dNotV, dIfE, dCall, dACons, dANil, dVar, dC, derefs, deref, getP, setP, dRet, dRetN, dSub, subR, subD, R.short, lenD, fLen, fInt, fTuple, dTup, dLst, owns, fI2, D.imm, D.imms, truthD, dAsg, bName, bTup, bCons, bNil, dDrop, dAppend, isLst, mutD, dSetI, dUser, rootsOk, roots, puts, fins, kpL, dAug, fAdd, fMul, fMod, fFdiv, fSub, fLt_int, fGt_int, fLe_int, fGe_int, fEq_int, fNe_int, fEq_str, h, L2.atI, L2.ixN]
  · cases h
theorem draw_some (b : Box) {m : Int} (hm : 0 < m) : ∃ r, 0 ≤ r ∧ r < m ∧ drawO b m = some (r, (b.1, b.2 + 1)) := by
  unfold drawO
  rw [if_pos hm]
  refine ⟨_, ?_, ?_, rfl⟩
  · split
    · exact Int.fmod_nonneg_of_pos _ hm
    · exact Int.le_refl 0
  · split
    · exact Int.fmod_lt_of_pos _ hm
    · exact hm
theorem boxE_imm (b : Box) : (boxE b).imm = false := by simp [boxE, box, D.imm]
theorem f_box {c : List D → D} (hc : c = .lst ∨ c = .frz) (xs : List Int) : ∃ b : Box, d_law_box [c (xs.map .int), .int 0, .int 62] = some (boxE b, [some (c (xs.map .int)), some (.int 0), some (.int 62)]) := by
  obtain ⟨ds, e⟩ := box_ok c hc xs
  exact ⟨(ds, 0), e⟩
/-! rules that the printed texts use -/
@[reducible] def Lx {α : Type} (E : Enc α) (xs : List α) : D := .lst (xs.map E.enc)
section
variable {α β τ ρ : Type} {p p1 p2 p3 : Bool} {A A1 A2 A3 : List Sl} {m ma mb mn : Den} {S : τ → Out → Prop} {rest : Blk}
theorem r_draw {i : Nat} {b : Box} {k : Int} {v : Int × Box} (hb : A[i]? = some (.is (boxE b))) (hm : RV p A mn (.own (.int k)) A) (e : drawO b k = some v) : RV false A (dUser d_law_draw (dACons true (dVar i) (dACons true mn dANil))) (.own (.int v.1)) (A.set i (.is (boxE v.2))) := fun δ a => by
  obtain ⟨δ', e1, e2, _⟩ := r_user (f := d_law_draw) (r_acons (q := true) (r_varM hb (boxE_imm b)) (r_acons (q := true) hm r_anil rfl) rfl) (by simp [rootsOk, roots]) (drfs_cons (drf_at hb) (drfs_cons drf_own drfs_nil)) (f_draw e) (.pth (l := []) hb (.own .nil) rfl) δ a
  refine ⟨δ', e1, ?_, fun h => by cases h⟩
  rw [List.set_set] at e2
  exact e2
theorem k_asgF {i : Nat} {me : Den} {v : α} {f : α → Option τ} (ex : α → D) (h : RV p A me (.own (ex v)) A1) (hi : i < A1.length) (g : ∀ x, RB (A1.set i (.is (ex x))) rest (f x) S) : RB A (dSeq (dAsg (bName i) me) rest) (lv v f) S := k_asg h hi (g v)
def RVO (p : Bool) (A : List Sl) (m : Den) (ex : α → D) (n : Option α) (A' : List Sl) : Prop := ∀ v, n = some v → RV p A m (.own (ex v)) A'
def RTO (p : Bool) (A : List Sl) (m : DenT) (n : Option Bool) (A' : List Sl) : Prop := ∀ v, n = some v → RT p A m v A'
theorem o_bnd {ex : α → D} {x : Option β} {f : β → Option α} (h : ∀ a, x = some a → RVO p A m ex (f a) A1) : RVO p A m ex (bnd x f) A1 := fun v e => by
  obtain ⟨a, h1, h2⟩ := bnd_eq e
  exact h a h1 v h2
theorem o_some {ex : α → D} {v : α} (h : RV p A m (.own (ex v)) A1) : RVO p A m ex (some v) A1 := fun _ e => by cases e; exact h
theorem to_some {mt : DenT} {v : Bool} (h : RT p A mt v A1) : RTO p A mt (some v) A1 := fun _ e => by cases e; exact h
def andO (x : Bool) (n : Option Bool) : Option Bool := if x = true then n else some false
def orO (x : Bool) (n : Option Bool) : Option Bool := if x = true then some true else n
theorem r_push {i : Nat} {mo me : Den} {E : Enc α} {xs zs : List α} {y : α} {q : Bool} (e : pushO xs y = some zs) (ho : RV p1 A mo (.at i []) A1) (g1 : A1[i]? = some (.is (Lx E xs))) (h : RV p2 A1 me (.own (E.enc y)) A2) (g : A2[i]? = some (.is (Lx E xs))) :
    RV false A (dAppend q mo me) (.own .non) (A2.set i (.is (Lx E zs))) := by
  obtain ⟨hl, rfl⟩ := push_eq e
  have := r_append (q := q) ho g1 h g (by simpa using hl)
  simpa [Lx] using this
theorem k_set {i : Nat} {me mo mi : Den} {E : Enc α} {xs : List α} {y : α} {qo qi : Bool} {k : Int} {f : List α → Option τ} (h : RV p1 A me (.own (E.enc y)) A1) (ho : RV p2 A1 mo (.at i []) A2) (hi : RV p3 A2 mi (.own (.int k)) A3) (g : A3[i]? = some (.is (Lx E xs)))
    (c : ∀ zs, setO xs k y = some zs → RB (A3.set i (.is (Lx E zs))) rest (f zs) S) : RB A (dSeq (dSetI qo qi mo mi me) rest) (bnd (setO xs k y) f) S := fun t e => by
  obtain ⟨zs, h1, h2⟩ := bnd_eq e
  obtain ⟨j, hj, rfl⟩ := set_eq h1
  have := c _ h1 t h2
  refine k_setI (n := f (xs.set j y)) h ho hi g (j := j) (by simpa using hj) ?_ t h2
  simpa [Lx, List.map_set] using c _ h1
/-- the call of a def, from its body -/
def finsS (kp : Nat → Bool) : Nat → Nat → List Sl → Option (List (Option D))
  | _, 0, _ => some []
  | i, n + 1, [] => none
  | i, n + 1, s :: A => match finsS kp (i + 1) n A with
    | some fs => if kp i = true then match s with
        | .is d => some (some d :: fs)
        | .any => none
      else some (none :: fs)
    | none => none
theorem fins_ok (kp : Nat → Bool) : ∀ (n i : Nat) (A : List Sl) (δ : DE) (fs : List (Option D)), Agr A δ → finsS kp i n A = some fs → fins kp i n δ = fs
  | 0, _, _, δ, fs, _, h => by cases h; cases δ <;> rfl
  | n + 1, i, [], _, _, _, h => by cases h
  | n + 1, i, s :: A, [], _, a, _ => by have := a.len; simp at this
  | n + 1, i, s :: A, x :: δ, fs, a, h => by
    simp only [finsS] at h
    cases h1 : finsS kp (i + 1) n A with
    | none => rw [h1] at h; cases h
    | some gs =>
      rw [h1] at h
      have a' : Agr A δ := ⟨by have := a.len; simpa using this, fun j d e => a.get (j + 1) d e⟩
      have ih := fins_ok kp n (i + 1) A δ gs a' h1
      simp only [fins, ih]
      by_cases hk : kp i = true
      · simp only [hk, if_true] at h ⊢
        cases s with
        | any => cases h
        | is d => cases h; have := a.get 0 d rfl; simp at this; rw [this]
      · simp only [hk, if_false] at h ⊢
        cases h; rfl
theorem agr_env0 (nN np : Nat) (ds : List D) : Agr (ds.map Sl.is ++ List.replicate (nN - np) Sl.any) (env0 nN np ds) where
  len := by simp [env0]
  get i d h := by
    unfold env0
    by_cases hi : i < ds.length
    · rw [List.getElem?_append_left (by simpa using hi)] at h ⊢
      rw [List.getElem?_map] at h ⊢
      cases e : ds[i]? with
      | none => rw [e] at h; cases h
      | some x => rw [e] at h; cases h; rfl
    · rw [List.getElem?_append_right (by simpa using hi), List.getElem?_replicate] at h
      split at h <;> cases h
theorem def_ok {nN np : Nat} {kp : Nat → Bool} {mb : Blk} {n : Option ρ} {er : ρ → D} {Ar : ρ → List Sl} {ds : List D} {r : ρ} {fs : List (Option D)} (h : RB (ds.map Sl.is ++ List.replicate (nN - np) Sl.any) mb n (Rt er Ar)) (e : n = some r) (hl : ds.length = np) (hf : finsS kp 0 np (Ar r) = some fs) :
    dFn nN np kp mb ds = some (er r, fs) := by
  obtain ⟨out, e1, δ, rfl, a⟩ := h r e _ (agr_env0 nN np ds)
  simp only [dFn, hl, if_true, e1, fins_ok kp np 0 _ δ fs a hf]
theorem box_step {c : List D → D} (hc : c = .lst ∨ c = .frz) (xs : List Int) : ∃ b : Box, ∀ (rest : Blk) (tl : DE), dSeq (dAsg (bName 1) (dUser d_law_box (dACons true (dVar 0) (dACons true (dC (.int 0)) (dACons true (dC (.int 62)) dANil))))) rest (some (c (xs.map .int)) :: none :: tl) =
    rest (some (c (xs.map .int)) :: some (boxE b) :: tl) := by
  obtain ⟨b, e⟩ := f_box hc xs
  refine ⟨b, fun rest tl => ?_⟩
  have hi : D.imms (xs.map D.int) = true := map_imms Ei xs
  rcases hc with rfl | rfl <;> simp [dFn, env0, dSeq, dNx, dBk, dCt, dIf, dTb, dTv, dAnd, dOr, dNot, dAndV, dOrV, dNotV, dIfE, dCall, dACons, dANil, dVar, dC, derefs, deref, getP, setP, dRet, dRetN, dSub, subR, subD, R.short, lenD, fLen, fInt, fTuple, dTup, dLst, owns, fI2, D.imm, D.imms, truthD, dAsg, bName, bTup, bCons, bNil, dDrop, dAppend, isLst, mutD, dSetI, dUser, rootsOk, roots, puts, fins, kpL, dAug, fAdd, fMul, fMod, fFdiv, fSub, fLt_int, fGt_int, fLe_int, fGe_int, fEq_int, fNe_int, fEq_str, e, hi]
end
/-! what is plain -/
section
variable {α β : Type}
end
end Y


set_option Elab.async false
set_option linter.all false
set_option maxRecDepth 100000
/-! plain laws of the typed functions -/
namespace Y
open PySem PySem.Spec PyProof.Rows L2 Z
section
variable {α β γ ρ τ : Type}
@[simp] theorem lv_eq (a : α) (f : α → β) : lv a f = f a := rfl
@[simp] theorem onR_nx (j : ρ → Option τ) (k : β → Option τ) (b : β) : onR j k (.nx b) = k b := rfl
@[simp] theorem onR_rt (j : ρ → Option τ) (k : β → Option τ) (r : ρ) : onR j k (.rt r) = j r := rfl
@[simp] theorem forN_nil (f : α → β → Option β) (b : β) : forN f [] b = some b := rfl
@[simp] theorem forR_nil (f : α → β → Option (Res β ρ)) (b : β) : forR f [] b = some (.nx b) := rfl
/-- a loop that ends, by what holds behind each part of its items -/
theorem forN_inv {f : α → β → Option β} (I : List α → β → Prop) : ∀ (xs pre : List α) (b : β), I pre b → (∀ p x q b, pre ++ xs = p ++ x :: q → I p b → ∃ b', f x b = some b' ∧ I (p ++ [x]) b') → ∃ b', forN f xs b = some b' ∧ I (pre ++ xs) b'
  | [], pre, b, h, _ => ⟨b, rfl, by rwa [List.append_nil]⟩
  | x :: xs, pre, b, h, hs => by
    obtain ⟨b1, e1, h1⟩ := hs pre x xs b rfl h
    obtain ⟨b', e, h'⟩ := forN_inv I xs (pre ++ [x]) b1 h1 fun p y q b e => hs p y q b (by rw [← e]; simp)
    exact ⟨b', by simp only [forN, e1, e], by simpa using h'⟩
/-! conditions in parts -/
@[simp] theorem andO_some (x y : Bool) : andO x (some y) = some (x && y) := by cases x <;> rfl
@[simp] theorem orO_some (x y : Bool) : orO x (some y) = some (x || y) := by cases x <;> rfl
@[simp] theorem andO_f (n : Option Bool) : andO false n = some false := rfl
@[simp] theorem andO_t (n : Option Bool) : andO true n = n := rfl
@[simp] theorem orO_t (n : Option Bool) : orO true n = some true := rfl
@[simp] theorem orO_f (n : Option Bool) : orO false n = n := rfl
@[simp] theorem bnd_ite (c : Prop) [Decidable c] (x y : Option α) (f : α → Option β) : bnd (if c then x else y) f = if c then bnd x f else bnd y f := by split <;> rfl
/-! rows -/
theorem ixN_nat (n k : Nat) : ixN n (k : Int) = if k < n then some k else none := by
  unfold ixN
  rw [if_pos (by omega)]
  by_cases h : k < n
  · rw [if_pos (by omega), if_pos h, Int.toNat_natCast]
  · rw [if_neg (by omega), if_neg h]
@[simp] theorem atI_nat (xs : List α) (k : Nat) : L2.atI xs (k : Int) = xs[k]? := by
  unfold L2.atI
  rw [ixN_nat]
  by_cases h : k < xs.length
  · rw [if_pos h]; rfl
  · rw [if_neg h, List.getElem?_eq_none (by omega)]; rfl
theorem sIx_some {n k d : Nat} (h : k ≤ n) : HT.sIx n d (some (k : Int)) = k := by
  unfold HT.sIx; simp only []; split <;> omega
theorem cutG_take (xs : List α) (k : Nat) (h : k ≤ xs.length) : cutG xs none (some (k : Int)) = xs.take k := by
  unfold cutG
  rw [sIx_some h]
  simp [HT.sIx]
theorem rngO_nat (n : Nat) (h : n ≤ 1000000) : rngO 0 (n : Int) = some ((List.range n).map fun k : Nat => (k : Int)) := by
  unfold rngO rngN
  rw [if_pos (by omega)]
  simp
theorem numN_eq : ∀ (k : Nat) (xs : List α), numN k xs = (xs.zipIdx k).map fun p => ((p.2 : Int), p.1)
  | _, [] => rfl
  | k, x :: xs => by simp only [numN, List.zipIdx_cons, List.map_cons, numN_eq (k + 1) xs]
theorem mem_numN {xs : List α} {p : Int × α} : p ∈ numN 0 xs ↔ ∃ k : Nat, p.1 = k ∧ xs[k]? = some p.2 := by
  rw [numN_eq, List.mem_map]
  constructor
  · rintro ⟨⟨x, k⟩, h, rfl⟩
    have := List.mem_zipIdx_iff_getElem?.mp h
    exact ⟨k, rfl, by simpa using this⟩
  · rintro ⟨k, h1, h2⟩
    exact ⟨(p.2, k), List.mem_zipIdx_iff_getElem?.mpr (by simpa using h2), by rw [← h1]⟩
/-! sameness -/
theorem same_self {E : Enc α} [DecidableEq α] {a : α} (h : szD (E.enc a) = true) : sameO E a a = some true := by simp [sameO, h]
theorem szDs_map (E : Enc α) : ∀ xs : List α, (∀ x ∈ xs, szD (E.enc x) = true) → szDs (xs.map E.enc) = true
  | [], _ => rfl
  | x :: xs, h => by simp only [List.map_cons, szDs, h x (by simp), szDs_map E xs fun y hy => h y (List.mem_cons_of_mem _ hy), Bool.and_self]
theorem sz_T (E : Enc α) {xs : List α} (hl : xs.length ≤ 1000000) (h : ∀ x ∈ xs, szD (E.enc x) = true) : szD ((Et E).enc xs) = true := by
  show (decide ((xs.map E.enc).length ≤ 1000000) && szDs (xs.map E.enc)) = true
  rw [szDs_map E xs h, List.length_map, Bool.and_true, decide_eq_true_eq]
  exact hl
@[simp] theorem sz_I (i : Int) : szD (Ei.enc i) = true := rfl
@[simp] theorem sz_S (i : Str) : szD (Es.enc i) = true := rfl
@[simp] theorem sz_B (i : Bool) : szD (Eb.enc i) = true := rfl
@[simp] theorem sz_U (i : Unit) : szD (Eu.enc i) = true := rfl
/-- a row's parts -/
def szR (F : Rw α) (a : α) : Bool := szDs (F.row a)
@[simp] theorem szR_1 (E : Enc α) (a : α) : szR (R1 E) a = szD (E.enc a) := by simp [szR, R1, szDs]
@[simp] theorem szR_c (E : Enc α) (F : Rw β) (a : α × β) : szR (Rc E F) a = (szD (E.enc a.1) && szR F a.2) := rfl
/-! rows that grow -/
theorem push_ok {xs : List α} {y : α} (h : xs.length < 1000000) : pushO xs y = some (xs ++ [y]) := by simp [pushO, h]
end
/-! sorting numbers -/
end Y


set_option Elab.async false
set_option linter.all false
set_option maxRecDepth 100000
/-! more plain laws -/
namespace Y
open PySem PySem.Spec PyProof.Rows L2 Z
section
variable {α β γ ρ τ : Type}
end
end Y


set_option Elab.async false
set_option linter.all false
set_option maxRecDepth 100000
/-! more typed rules: zip, list methods, chains, sets of rows, tuple targets -/
namespace Y
open PySem PySem.Spec PyProof.Rows L2 Z
section
variable {p p1 p2 p3 : Bool} {A A1 A2 A3 : List Sl} {α β γ τ : Type} {rest : Blk} {S : τ → Out → Prop} {me : Den} {mr : DE → Option (List R × DE)}
/-! zip -/
/-! methods of lists -/
/-! a < b < c -/
/-! sets -/
mutual
theorem cl_nol : ∀ (d : D), d.cl = true → d.imm = true → d.nol = true
  | .non, _, _ => rfl
  | .int _, _, _ => rfl
  | .str _, _, _ => rfl
  | .bl _, h, _ => by cases h
  | .tup xs, h, i => cls_nols xs h i
  | .lst _, _, i => by cases i
  | .frz _, h, _ => by cases h
  | .dic _ _, h, _ => by cases h
  | .obj _ _ _, h, _ => by cases h
theorem cls_nols : ∀ (ds : List D), D.cls ds = true → D.imms ds = true → D.nols ds = true
  | [], _, _ => rfl
  | x :: xs, h, i => by
    simp only [D.cls, D.imms, D.nols, Bool.and_eq_true] at h i ⊢
    exact ⟨cl_nol x h.1 i.1, cls_nols xs h.2 i.2⟩
end
class ClE (E : Enc α) : Prop where
  cl : ∀ a, (E.enc a).cl = true
class ClR (E : Rw α) : Prop where
  cl : ∀ a, D.cls (E.row a) = true
class TpE (E : Enc α) : Prop where
  tp : ∀ a, isTup (E.enc a) = true
instance : ClE Ei := ⟨fun _ => rfl⟩
instance : ClE Es := ⟨fun _ => rfl⟩
instance : ClE Eu := ⟨fun _ => rfl⟩
instance {E : Enc α} {h} [ClE E] : ClE (Eo E h) := ⟨fun a => by cases a with
  | none => rfl
  | some a => exact ClE.cl a⟩
theorem cls_map (E : Enc α) [ClE E] : ∀ xs : List α, D.cls (xs.map E.enc) = true
  | [] => rfl
  | x :: xs => by simp only [List.map_cons, D.cls, ClE.cl x, cls_map E xs, Bool.and_self]
instance {E : Enc α} [ClE E] : ClE (Et E) := ⟨fun a => cls_map E a⟩
instance {E : Enc α} : TpE (Et E) := ⟨fun a => rfl⟩
instance {E : Enc α} [ClE E] : ClR (R1 E) := ⟨fun a => by simp only [R1, D.cls, ClE.cl, Bool.and_self]⟩
instance {E : Enc α} {F : Rw β} [ClE E] [ClR F] : ClR (Rc E F) := ⟨fun a => by simp only [Rc, D.cls, ClE.cl, ClR.cl, Bool.and_self]⟩
instance {F : Rw α} {h} [ClR F] : ClE (Er F h) := ⟨fun a => ClR.cl (E := F) a⟩
instance {F : Rw α} {h} : TpE (Er F h) := ⟨fun a => rfl⟩
/-! min, max of two -/
/-! a def that may end without return -/
def Rf {ρ : Type} (er : ρ → D) (A : ρ → List Sl) : ρ → Out → Prop := fun r out => ∃ δ, (out = .rt (er r) δ ∨ (out = .nx δ ∧ er r = .non)) ∧ Agr (A r) δ
theorem rf_nx {ρ : Type} {er : ρ → D} {Ar : ρ → List Sl} {r : ρ} (h : er r = .non) (l : Le A (Ar r)) : ∀ δ, Agr A δ → Rf er Ar r (.nx δ) := fun δ a => ⟨δ, .inr ⟨rfl, h⟩, a.le l⟩
theorem def_okF {ρ : Type} {nN np : Nat} {kp : Nat → Bool} {mb : Blk} {n : Option ρ} {er : ρ → D} {Ar : ρ → List Sl} {ds : List D} {r : ρ} {fs : List (Option D)} (h : RB (ds.map Sl.is ++ List.replicate (nN - np) Sl.any) mb n (Rf er Ar)) (e : n = some r) (hl : ds.length = np) (hf : finsS kp 0 np (Ar r) = some fs) :
    dFn nN np kp mb ds = some (er r, fs) := by
  obtain ⟨out, e1, δ, hh, a⟩ := h r e _ (agr_env0 nN np ds)
  rcases hh with rfl | ⟨rfl, hn⟩
  · simp only [dFn, hl, if_true, e1, fins_ok kp np 0 _ δ fs a hf]
  · simp only [dFn, hl, if_true, e1, fins_ok kp np 0 _ δ fs a hf, hn]
end
end Y


set_option Elab.async false
set_option linter.all false
set_option maxRecDepth 100000
/-! comprehensions with two clauses, typed -/
namespace Y
open PySem PySem.Spec PyProof.Rows L2 Z
section
variable {p : Bool} {α β γ : Type} {A A1 : List Sl} {me : Den} {mt mt1 : DenT} {ms ms1 : DenS} {bd bd1 : Bnd} {gs : List (Nat × D)}
structure El2 {vs vb vs1 vb1 : List Nat} (A : List Sl) (bd : Bnd) (mt : DenT) (ms1 : DenS) (bd1 : Bnd) (mt1 : DenT) (me : Den) (ex : α → D) (ex1 : γ → D) (g : β → D) (t : α → Option Bool) (s : α → Option (List γ)) (t1 : α → γ → Option Bool) (e : α → γ → Option β) (B : α → List Sl) (gs1 : α → List γ → List (Nat × D)) (B1 : α → γ → List Sl) : Prop where
  fb : ∀ x, Bd vb (setSl A vs) bd (ex x) (B x)
  ft : ∀ x v, t x = some v → RT true (B x) mt v (B x)
  fi : ∀ x ys, t x = some true → s x = some ys → RS true (B x) ms1 ⟨ys.map ex1, gs1 x ys⟩ (B x) ∧ gsIn (kpOut vs1) (gs1 x ys) = true ∧ Gd (setSl (B x) vs1) (gs1 x ys)
  fe : ∀ x, El (vs := vs1) (vb := vb1) (B x) bd1 mt1 me ex1 g (t1 x) (e x) (B1 x)
  fs : ∀ i ∈ vb, i ∈ vs
  fs1 : ∀ i ∈ vs1, i ∈ vs
/-! plain -/
end
end Y


set_option Elab.async false
set_option linter.all false
set_option maxRecDepth 100000
/-! taking a list away from its name; x[::-1]; slices of rows -/
namespace Y
open PySem PySem.Spec PyProof.Rows L2 Z
section
variable {p : Bool} {A A1 : List Sl} {α : Type} {m : Den} {r : R} {d : D}
theorem Agr.none {A : List Sl} {δ : DE} (h : Agr A δ) (i : Nat) : Agr (A.set i .any) (δ.set i none) where
  len := by simp [h.len]
  get j d e := by
    rw [List.getElem?_set] at e
    by_cases hj : i = j
    · rw [if_pos hj] at e
      split at e <;> cases e
    · rw [if_neg hj] at e
      rw [List.getElem?_set_ne hj]
      exact h.get j d e
theorem r_takeI {i : Nat} (h : A[i]? = some (.is d)) (hi : d.imm = true) : RV true A (dTake i) (.own d) A := fun δ a => by
  refine ⟨δ, ?_, a, fun _ => rfl⟩
  simp only [dTake, a.get i d h, hi, if_true]
def inB [DecidableEq α] (a : α) (xs : List α) : Bool := decide (a ∈ xs)
@[simp] theorem inB_eq [DecidableEq α] (a : α) (xs : List α) : inB a xs = true ↔ a ∈ xs := by simp [inB]
theorem f_inTB [DecidableEq α] (E : Enc α) (a : α) (xs : List α) (h : Nat.ble E.dp 58 = true) : fIn [E.enc a, .tup (xs.map E.enc)] = some (.bl (inB a xs)) := f_inT E a xs h
/-! x[::-1] -/
/-! rows cut at known places -/
/-! t + u, the kinds brought together -/
end
end Y


set_option Elab.async false
set_option linter.all false
set_option maxRecDepth 100000
/-! rows of several kinds, told apart by their lengths; calls on data of unknown kinds -/
namespace Y
open PySem PySem.Spec PyProof.Rows L2 Z
theorem eqvAll_len : ∀ {xs ys : List PyData}, PyData.eqvAll xs ys = true → xs.length = ys.length
  | [], [], _ => rfl
  | [], _ :: _, h => by simp [PyData.eqvAll] at h
  | _ :: _, [], h => by simp [PyData.eqvAll] at h
  | x :: xs, y :: ys, h => by
    simp only [PyData.eqvAll, Bool.and_eq_true] at h
    simp only [List.length_cons, eqvAll_len h.2]
theorem toPys_len : ∀ xs : List D, (toPys xs).length = xs.length
  | [] => rfl
  | x :: xs => by simp only [toPys, List.length_cons, toPys_len xs]
structure Alt (α : Type) where
  row : α → List D
  keys : List (Nat × Option Str)
  hkey : ∀ a, ∃ k ∈ keys, (row a).length = k.1 ∧ ∀ s, k.2 = some s → ∃ r, row a = .str s :: r
  eq : ∀ a b, PyData.eqvAll (toPys (row a)) (toPys (row b)) = true ↔ a = b
  imm : ∀ a, D.imms (row a) = true
  dp : Nat
  hdp : ∀ a, D.dps (row a) ≤ dp
/-- kinds of rows that no row has in common -/
def disK (k : Nat × Option Str) (ks : List (Nat × Option Str)) : Bool := ks.all fun k' => k.1 != k'.1 || (match k.2, k'.2 with
  | some a, some b => decide (a ≠ b)
  | _, _ => false)
theorem disK_no {k k' : Nat × Option Str} {ks : List (Nat × Option Str)} (h : disK k ks = true) (hk : k' ∈ ks) {xs ys : List D} (l1 : xs.length = k.1) (l2 : ys.length = k'.1) (t1 : ∀ s, k.2 = some s → ∃ r, xs = .str s :: r) (t2 : ∀ s, k'.2 = some s → ∃ r, ys = .str s :: r) (e : PyData.eqvAll (toPys xs) (toPys ys) = true) : False := by
  have h1 := List.all_eq_true.mp h k' hk
  rw [Bool.or_eq_true] at h1
  rcases h1 with h1 | h1
  · have := eqvAll_len e
    rw [toPys_len, toPys_len, l1, l2] at this
    rw [this] at h1; simp at h1
  · obtain ⟨n, o⟩ := k
    obtain ⟨n', o'⟩ := k'
    dsimp only at h1 t1 t2
    cases o with
    | none => simp at h1
    | some s => cases o' with
      | none => simp at h1
      | some t =>
        obtain ⟨r, rfl⟩ := t1 s rfl
        obtain ⟨r', rfl⟩ := t2 t rfl
        simp only [toPys, PyData.eqvAll, Bool.and_eq_true] at e
        have : s = t := (Es.eq s t).mp e.1
        simp [this] at h1
def R0 : Rw Unit where
  row _ := []
  len := 0
  hlen _ := rfl
  eq a b := by simp [toPys, PyData.eqvAll]
  imm _ := rfl
  nol _ _ := rfl
  dp := 0
  hdp _ := by simp [D.dps]
  al := true
  hal _ a b := by simp [toPys, PySem.W.alikeAll]
section
variable {α β : Type}
def A1 (F : Rw α) : Alt α where
  row := F.row
  keys := [(F.len, F.tag)]
  hkey a := ⟨_, List.mem_cons_self, F.hlen a, fun s h => F.htag s h a⟩
  eq := F.eq
  imm := F.imm
  dp := F.dp
  hdp := F.hdp
def Ac (F : Rw α) (G : Alt β) (h : disK (F.len, F.tag) G.keys = true) : Alt (α ⊕ β) where
  row := Sum.elim F.row G.row
  keys := (F.len, F.tag) :: G.keys
  hkey a := by
    cases a with
    | inl a => exact ⟨_, List.mem_cons_self, F.hlen a, fun s h => F.htag s h a⟩
    | inr b =>
      obtain ⟨k, hk, r⟩ := G.hkey b
      exact ⟨k, List.mem_cons_of_mem _ hk, r⟩
  eq a b := by
    cases a with
    | inl a => cases b with
      | inl b => simp only [Sum.elim_inl, Sum.inl.injEq]; exact F.eq a b
      | inr b =>
        simp only [Sum.elim_inl, Sum.elim_inr, reduceCtorEq, iff_false]
        intro e
        obtain ⟨k, hk, hl, ht⟩ := G.hkey b
        exact disK_no h hk (F.hlen a) hl (fun s h => F.htag s h a) ht e
    | inr a => cases b with
      | inl b =>
        simp only [Sum.elim_inl, Sum.elim_inr, reduceCtorEq, iff_false]
        intro e
        obtain ⟨k, hk, hl, ht⟩ := G.hkey a
        rw [PySem.W.eqvAll_comm] at e
        exact disK_no h hk (F.hlen b) hl (fun s h => F.htag s h b) ht e
      | inr b => simp only [Sum.elim_inr, Sum.inr.injEq]; exact G.eq a b
  imm a := by cases a with
    | inl a => exact F.imm a
    | inr a => exact G.imm a
  dp := max F.dp G.dp
  hdp a := by cases a with
    | inl a => have := F.hdp a; simp only [Sum.elim_inl]; omega
    | inr a => have := G.hdp a; simp only [Sum.elim_inr]; omega
def Ea (G : Alt α) : Enc α where
  enc a := .tup (G.row a)
  eq a b := by simp only [eqD, toPy, PyData.eqv]; exact G.eq a b
  imm a := G.imm a
  nol h := by cases h
  dp := G.dp + 1
  hdp a := by simp only [D.dp]; have := G.hdp a; omega
  nn := true
  hnn _ a h := by cases h
  al := false
  hal h := by cases h
  tk := false
  htk h := by cases h
  pl := false
  hpl h := by cases h
theorem s_A (G : Alt α) {sel : α → Option β} {E : Enc β} {r : R} {i : Int} {a : α} {v : β} (hs : ∀ a v, sel a = some v → L2.atI (G.row a) i = some (E.enc v)) (h : sel a = some v) : subR r ((Ea G).enc a) i = some (.own (E.enc v)) := s_R (hs a v h) (E.imm v)
end
/-! lists of data of unknown kinds -/
section
variable {p p1 p2 : Bool} {A A1 A2 : List Sl} {mr : DE → Option (List R × DE)} {rs : List R} {ds : List D}
end
end Y
namespace Y
open PySem PySem.Spec PyProof.Rows L2 Z
section
variable {α : Type}
end
end Y
namespace Y
open PySem PySem.Spec PyProof.Rows L2 Z
end Y
namespace Y
open PySem PySem.Spec PyProof.Rows L2 Z
end Y


set_option Elab.async false
set_option linter.all false
set_option maxRecDepth 100000
/-! sorted by a lambda's keys, typed -/
namespace Y
open PySem PySem.Spec PyProof.Rows L2 Z
variable {α β γ : Type}
theorem map_Ei (xs : List Int) : xs.map Ei.enc = xs.map D.int := rfl
section
variable {p : Bool} {A A1 : List Sl} {bd : Bnd} {mt : DenT} {me : Den} {ms : DenS} {gs : List (Nat × D)}
end
section
variable {p1 p2 p3 : Bool} {A A1 A2 : List Sl} {mr : DE → Option (List R × DE)}
/-- the slots written out -/
theorem k_eqA {τ : Type} {A A' : List Sl} {m : Blk} {n : Option τ} {S : τ → Out → Prop} (e : A = A') (h : RB A' m n S) : RB A m n S := e ▸ h
/-! min, max of a generator that hands out ints -/
def maxO (ys : List Int) : Option Int := match ys with
  | [] => none
  | x :: r => some (r.foldl maxI x)
theorem f_maxG {ys : List Int} {i : Int} (h : maxO ys = some i) : fmaxG (ys.map Ei.enc) = some (.int i) := by
  simp only [fmaxG, map_Ei, intsD_map]
  cases ys with
  | nil => cases h
  | cons x r => cases h; rfl
/-! sorted(range(n), key=lambda w: ns[w]) -/
end
section
variable {p p1 p2 : Bool} {A A1 A2 : List Sl} {m mr1 : Den} {r : R} {mr : DE → Option (List R × DE)}
end
end Y


set_option Elab.async false
set_option linter.all false
set_option maxRecDepth 100000
/-! generator expressions with two clauses, typed -/
namespace Y
open PySem PySem.Spec PyProof.Rows L2 Z
section
variable {p : Bool} {α β γ : Type} {A A1 : List Sl} {me : Den} {mt mt1 : DenT} {ms ms1 : DenS} {bd bd1 : Bnd} {gs : List (Nat × D)}
section
variable {vs vb vs1 vb1 : List Nat} {ex : α → D} {ex1 : γ → D} {g : β → D} {t : α → Option Bool} {s : α → Option (List γ)} {t1 : α → γ → Option Bool} {e : α → γ → Option β} {B : α → List Sl} {gs1 : α → List γ → List (Nat × D)} {B1 : α → γ → List Sl} {stop : D → Bool}
end
section
variable {vs vb vs1 vb1 : List Nat} {ex : α → D} {ex1 : γ → D} {t : α → Option Bool} {s : α → Option (List γ)} {t1 e : α → γ → Option Bool} {B : α → List Sl} {gs1 : α → List γ → List (Nat × D)} {B1 : α → γ → List Sl}
end
end
end Y


set_option Elab.async false
set_option linter.all false
set_option maxRecDepth 100000
/-! dicts, typed -/
namespace Y
open PySem PySem.Spec PyProof.Rows L2 Z
section
variable {α β τ : Type}
/-- all values of the kind can be keys of one dict -/
structure FamE (E : Enc α) : Prop where
  fam : ∀ xs : List α, famOk (xs.map E.enc) = true
variable {E : Enc α} {F : Enc β}
section
variable {A A1 A2 A3 : List Sl} {rest : Blk} {S : τ → Out → Prop} {p1 p2 p3 : Bool} {me mo mi mk mv : Den}
end
end
/-- a list given to a call and put back: told with an equation, so that nothing is guessed -/
theorem Puts.sameE {p : Bool} {A A2 A3 : List Sl} {i : Nat} {d : D} {rs : List R} {fs : List (Option D)} (h1 : A[i]? = some (.is d)) (h : Puts p (A.set i .any) rs fs A2) (e : A2.set i (.is d) = A3) : Puts p A (.at i [] :: rs) (some d :: fs) A3 := e ▸ .same h1 h
end Y


set_option Elab.async false
set_option linter.all false
set_option maxRecDepth 100000
/-! row * number, list.count: typed -/
namespace Y
open PySem PySem.Spec PyProof.Rows L2 Z
section
variable {α : Type} {p1 p2 : Bool} {A A1 A2 : List Sl} {mr : DE → Option (List R × DE)}
end
/-! tests of which the later part draws -/
section
variable {p p1 p2 : Bool} {A : List Sl} {ta tb : DenT} {i : Nat} {b : Box}
end
end Y


set_option Elab.async false
set_option linter.all false
set_option maxRecDepth 100000
/-! lists that nobody changes: values like others -/
namespace Y
open PySem PySem.Spec PyProof.Rows L2 Z
section
variable {α : Type} (E : Enc α)
def Ef : Enc (List α) where
  enc xs := .frz (xs.map E.enc)
  eq a b := by simp only [eqD, toPy, PyData.eqv]; exact map_eqv E a b
  imm a := rfl
  dp := E.dp + 1
  hdp a := by simp only [D.dp]; have := map_dps E a; omega
  nn := true
  hnn _ a h := by cases h
  al := false
  hal h := by cases h
  nol h := by cases h
  tk := false
  htk h := by cases h
  pl := false
  hpl h := by cases h
variable {p : Bool} {A A1 : List Sl} {m : Den}
end
end Y


set_option Elab.async false
set_option linter.all false
set_option maxRecDepth 100000
/-! lists one behind the other, not of any value, kinds that are told apart: typed -/
namespace Y
open PySem PySem.Spec PyProof.Rows L2 Z
section
variable {α β : Type} {p : Bool} {A A1 : List Sl} {m : Den} {r : R} {d : D} {b : Bool}
/-! one of two kinds that are never alike -/
/-- the first kind or the other one; both ways are told apart -/
def Ex2 (E : Enc α) (F : Enc β) (h1 : ∀ a b, eqD (E.enc a) (F.enc b) = false) (h2 : ∀ a b, eqD (F.enc b) (E.enc a) = false) : Enc (α ⊕ β) where
  enc := Sum.elim E.enc F.enc
  eq a b := by
    cases a with
    | inl a => cases b with
      | inl b => simp only [Sum.elim_inl, Sum.inl.injEq]; exact E.eq a b
      | inr b => simp only [Sum.elim_inl, Sum.elim_inr, h1, reduceCtorEq, Bool.false_eq_true]
    | inr a => cases b with
      | inl b => simp only [Sum.elim_inl, Sum.elim_inr, h2, reduceCtorEq, Bool.false_eq_true]
      | inr b => simp only [Sum.elim_inr, Sum.inr.injEq]; exact F.eq a b
  imm a := by cases a with
    | inl a => exact E.imm a
    | inr a => exact F.imm a
  dp := max E.dp F.dp
  hdp a := by cases a with
    | inl a => have := E.hdp a; simp only [Sum.elim_inl]; omega
    | inr a => have := F.hdp a; simp only [Sum.elim_inr]; omega
  nn := E.nn && F.nn
  hnn h a := by
    simp only [Bool.and_eq_true] at h
    cases a with
    | inl a => exact E.hnn h.1 a
    | inr a => exact F.hnn h.2 a
  al := false
  hal h := by cases h
  nol h := by cases h
  tk := false
  htk h := by cases h
  pl := false
  hpl h := by cases h
/-- a number or a row -/
def Ext (F : Enc α) : Enc (Int ⊕ List α) := Ex2 Ei (Et F) (fun _ _ => by simp [eqD, Ei, Et, toPy, PyData.eqv]) (fun _ _ => by simp [eqD, Ei, Et, toPy, PyData.eqv])
end
end Y


set_option Elab.async false
set_option linter.all false
set_option maxRecDepth 100000
/-! list(range(n)): typed -/
namespace Y
open PySem PySem.Spec PyProof.Rows L2 Z
section
variable {p : Bool} {A A1 : List Sl} {m : Den}
end
end Y


set_option Elab.async false
set_option linter.all false
set_option maxRecDepth 100000
/-! what is not reached; and, or by truth -/
namespace Y
open PySem PySem.Spec PyProof.Rows L2 Z
section
variable {A : List Sl} {p1 p2 : Bool} {ma mb : Den} {α : Type} {E : Enc α} {x y : α} {t : Bool}
end
end Y


set_option Elab.async false
set_option linter.all false
set_option maxRecDepth 100000
/-! what kind a part of a row of several kinds is -/
namespace Y
open PySem PySem.Spec PyProof.Rows L2 Z
section
variable {p1 p2 q : Bool} {A A1 A2 : List Sl} {ma mb : Den} {ra rb : R} {α : Type} {G : Alt α} {g : PyData → Bool} {i : Int} {a : α} {b : Bool} {sel : α → Option Bool}
end
end Y


set_option Elab.async false
set_option linter.all false
set_option maxRecDepth 100000
/-! min, max of what a generator hands out: rows -/
namespace Y
open PySem PySem.Spec PyProof.Rows L2 Z
variable {α : Type}
theorem f_maxX (E : Enc α) {ys : List α} {v : α} (e : E.maxL ys = some v) (h : Nat.ble E.dp 59 = true) (ha : E.al = true) (hn : E.nn = true) : fmaxX (ys.map E.enc) = some (E.enc v) := by
  have h1 := f_max (E := E) (d := .lst (ys.map E.enc)) rfl e h ha hn
  rw [← h1]
  cases ys <;> rfl
end Y


set_option Elab.async false
set_option linter.all false
set_option maxRecDepth 100000
/-! list.remove of rows -/
namespace Y
open PySem PySem.Spec PyProof.Rows L2 Z
section
variable {α : Type} {A A1 A2 : List Sl} {p1 p2 : Bool} {mr : DE → Option (List R × DE)}
end
end Y




set_option Elab.async false
set_option linter.all false
set_option maxRecDepth 100000
/-! ranges that go down, typed -/
namespace Y
open PySem PySem.Spec PyProof.Rows L2 Z
end Y


set_option Elab.async false
set_option linter.all false
set_option maxRecDepth 100000
/-! two rows, one behind the other -/
namespace Y
open PySem PySem.Spec PyProof.Rows L2 Z
end Y


set_option Elab.async false
set_option linter.all false
set_option maxRecDepth 100000
/-! texts, typed: join, index, count, enumerate -/
namespace Y
open PySem PySem.Spec PyProof.Rows L2 Z
section
variable {p : Bool} {A A1 A2 : List Sl} {m m2 : Den}
end
end Y


set_option Elab.async false
set_option linter.all false
set_option maxRecDepth 100000
/-! x += a text, typed -/
namespace Y
open PySem PySem.Spec PyProof.Rows L2 Z
section
variable {p : Bool} {A A1 : List Sl} {rest : Blk} {τ : Type} {S : τ → Out → Prop}
end
end Y


set_option Elab.async false
set_option linter.all false
set_option maxRecDepth 100000
/-! sorted(set(a text)), typed -/
namespace Y
open PySem PySem.Spec PyProof.Rows L2 Z
end Y


set_option Elab.async false
set_option linter.all false
set_option maxRecDepth 100000
/-! a list that is locked: nothing else changes -/
namespace Y
open PySem PySem.Spec PyProof.Rows L2 Z
end Y


set_option Elab.async false
set_option linter.all false
set_option maxRecDepth 100000
/-! dicts, typed: d.get(k), list(d) -/
namespace Y
open PySem PySem.Spec PyProof.Rows L2 Z
section
variable {α β : Type} {E : Enc α} {F : Enc β}
end
end Y


set_option Elab.async false
set_option linter.all false
set_option maxRecDepth 100000
/-! list of a text, typed -/
namespace Y
open PySem PySem.Spec PyProof.Rows L2 Z
end Y


set_option Elab.async false
set_option linter.all false
set_option maxRecDepth 100000
/-! a text, so many times, typed -/
namespace Y
open PySem PySem.Spec PyProof.Rows L2 Z
end Y


set_option Elab.async false
set_option linter.all false
set_option maxRecDepth 100000
/-! objects of classes, typed -/
namespace Y
open PySem PySem.Spec PyProof.Rows L2 Z
section
variable {α β τ : Type} {p p0 p1 p2 p3 : Bool} {A A0 A1 A2 A3 : List Sl} {m mo mi me : Den} {mr : DE → Option (List R × DE)} {r r' ra : R} {rs : List R} {c cn f mn : Str} {ns ns' : List Str} {xs xs' : List D} {d e : D} {ds : List D} {j : Nat} {rest : Blk} {S : τ → Out → Prop} {n : Option τ}
theorem r_fldM {i : Nat} {l : List Nat} (h : RV p A m (.at i l) A1) (g : Drf A1 (.at i l) (.obj cn ns xs)) (hi : fIx ns f = some j) (he : xs[j]? = some e) (him : e.imm = false) : RV p A (dFld cn f m) (.at i (l ++ [j])) A1 := fun δ a => by
  obtain ⟨δ1, e1, a1, u⟩ := h δ a
  exact ⟨δ1, by simp only [dFld, e1, g δ1 a1, hi, he, fldR, him, if_true]; rfl, a1, u⟩
/-- o.f = e, the object under a name -/
theorem k_setF {i : Nat} {d' : D} (h : RV p1 A me (.own d) A1) (ho : RV p2 A1 mo (.at i []) A2) (g : A2[i]? = some (.is (.obj cn ns xs))) (hl : ns.length < 1000) (e : putO cn ns xs f d = d') (c : RB (A2.set i (.is d')) rest n S) : RB A (dSeq (dSetF cn f mo me) rest) n S := fun t' e' δ a => by
  subst e
  obtain ⟨δ1, e1, a1, _⟩ := h δ a
  obtain ⟨δ2, e2, a2, _⟩ := ho δ1 a1
  simp only [dSeq, dSetF, e1, e2, a2.get _ _ g, getP, hl, and_self, if_true, setP]
  exact c t' e' _ (a2.set i _)
theorem putO_new (hi : fIx ns f = none) (e1 : ns ++ [f] = ns') (e : xs ++ [d] = xs') : putO cn ns xs f d = .obj cn ns' xs' := by unfold putO; rw [hi]; subst e e1; rfl
theorem mutD_path {δ : DE} {i : Nat} {l : List Nat} {d0 d' : D} {ys ys' : List D} {f : List D → Option (List D)} (h : δ[i]? = some (some d0)) (hg : getP l d0 = some (.lst ys)) (e : f ys = some ys') (hs : setP l d0 (.lst ys') = some d') : mutD δ (.at i l) f = some (δ.set i (some d')) := by
  simp only [mutD, h, hg, e, hs]
/-- items of a list that stands some items down -/
theorem k_setIP {i : Nat} {l : List Nat} {E : Enc α} {ys : List α} {y : α} {d0 : D} {d1 : List α → D} {qo : Bool} {k : Int} {f : List α → Option τ} (h : RV p1 A me (.own (E.enc y)) A1) (ho : RV p2 A1 mo (.at i l) A2) (hi : RV p3 A2 mi (.own (.int k)) A3) (g : A3[i]? = some (.is d0)) (hg : getP l d0 = some (Lx E ys)) (hs : ∀ zs, setP l d0 (Lx E zs) = some (d1 zs))
    (c : ∀ zs, setO ys k y = some zs → RB (A3.set i (.is (d1 zs))) rest (f zs) S) : RB A (dSeq (dSetI qo true mo mi me) rest) (bnd (setO ys k y) f) S := fun t e δ a => by
  obtain ⟨zs, h1, h2⟩ := bnd_eq e
  obtain ⟨j, hj, rfl⟩ := set_eq h1
  obtain ⟨δ1, e1, a1, _⟩ := h δ a
  obtain ⟨δ2, e2, a2, _⟩ := ho δ1 a1
  obtain ⟨δ3, e3, a3, _⟩ := hi δ2 a2
  have hg' : getP l d0 = some (.lst (ys.map E.enc)) := hg
  have hs' := hs (ys.set j y)
  have hs' : setP l d0 (.lst ((ys.map E.enc).set j (E.enc y))) = some (d1 (ys.set j y)) := by rw [← List.map_set]; exact hs'
  have := c _ h1 t h2 _ (a3.set i _)
  simp only [dSeq, dSetI, e1, e2, e3, Bool.or_true, if_true]
  rw [mutD_path (a3.get _ _ g) hg' (by simp only [List.length_map, hj]) hs']
  exact this
theorem r_methO {f : Fn} {q : Bool} (h : RV p0 A mo r A0) (g : Drf A0 r (.obj cn ns xs)) (hm : fIx ns mn = none) (u : RV p A (dUser f (dACons q mo mr)) r' A2) : RV p A (dMethU cn mn q f mo mr) r' A2 := fun δ a => by
  obtain ⟨δ0, e0, a0, _⟩ := h δ a
  obtain ⟨δ1, e1, a1, u1⟩ := u δ a
  exact ⟨δ1, by simp only [dMethU, e0, g δ0 a0, hm, and_self, if_true, e1], a1, u1⟩
theorem r_make {f : Fn} {self : D} {fs : List (Option D)} (t : RA p1 A mr rs A1) (ro : rootsOk rs = true) (g : Drfs A1 rs ds) (h : f (.obj cn [] [] :: ds) = some (.non, some self :: fs)) (pu : Puts p2 A1 rs fs A2) : RV (p1 && p2) A (dMake cn f mr) (.own self) A2 := fun δ a => by
  obtain ⟨δ1, e1, a1, u1⟩ := t δ a
  obtain ⟨δ2, e2, a2, u2⟩ := pu.ok δ1 a1
  exact ⟨δ2, by simp only [dMake, e1, ro, if_true, g δ1 a1, h, e2], a2, pp u1 u2⟩
end
end Y


set_option Elab.async false
set_option linter.all false
set_option maxRecDepth 100000
/-! a field set, with a name for the value -/
namespace Y
open PySem PySem.Spec PyProof.Rows L2 Z
section
variable {α τ : Type} {p1 p2 : Bool} {A A1 A2 : List Sl} {mo me : Den} {cn f : Str} {ns : List Str} {xs : List D} {rest : Blk} {S : τ → Out → Prop}
theorem k_setFL {i : Nat} {x : α} {ex : α → D} {d' : α → D} {k : α → Option τ} (h : RV p1 A me (.own (ex x)) A1) (ho : RV p2 A1 mo (.at i []) A2) (g : A2[i]? = some (.is (.obj cn ns xs))) (hl : ns.length < 1000) (e : ∀ z, putO cn ns xs f (ex z) = d' z) (c : ∀ z, RB (A2.set i (.is (d' z))) rest (k z) S) : RB A (dSeq (dSetF cn f mo me) rest) (lv x k) S :=
  k_setF h ho g hl (e x) (c x)
end
end Y


set_option Elab.async false
set_option linter.all false
set_option maxRecDepth 100000
set_option maxHeartbeats 20000000
set_option synthInstance.maxHeartbeats 400000
set_option synthInstance.maxSize 4000
namespace P66
open PySem PySem.Spec PyProof.Rows L2 Z Y
def top (i : Nat) : Stmt := PySem.Challenge.pw_tracehouse_k66_reads_see_writes.main.body.getD i (.Pass ⟨0, 0, 0, 0⟩)
structure Ctx (K : PySem.W.Frag) (mg : Str → Option Value) (base : Heap) where
  f_decide_meet : Addr
  g_decide_meet : FuncData
  d_decide_meet : Def K mg "decide_meet" (top 1) ["lots"] f_decide_meet g_decide_meet
  f_run_register : Addr
  g_run_register : FuncData
  d_run_register : Def K mg "run_register" (top 3) ["many", "deeds"] f_run_register g_run_register
  f_law_box : Addr
  g_law_box : FuncData
  d_law_box : Def K mg "_law_box" (top 5) ["script", "first", "last"] f_law_box g_law_box
  f_law_digits : Addr
  g_law_digits : FuncData
  d_law_digits : Def K mg "_law_digits" (top 6) ["script", "first", "last"] f_law_digits g_law_digits
  f_law_cell : Addr
  g_law_cell : FuncData
  d_law_cell : Def K mg "_law_cell" (top 7) ["script", "k"] f_law_cell g_law_cell
  f_law_draw : Addr
  g_law_draw : FuncData
  d_law_draw : Def K mg "_law_draw" (top 8) ["box", "many"] f_law_draw g_law_draw
  f_law_same : Addr
  g_law_same : FuncData
  d_law_same : Def K mg "_law_same" (top 9) ["actual", "expected"] f_law_same g_law_same
  f_law : Addr
  g_law : FuncData
  d_law : Def K mg "law" (top 10) ["script"] f_law g_law
  f_Register___init__ : Addr
  g_Register___init__ : FuncData
  d_Register___init__ : MDef K "Register" "__init__" "Register.__init__" (inClass (top 2) 0) ["self", "many"] f_Register___init__ g_Register___init__
  f_Register_write : Addr
  g_Register_write : FuncData
  d_Register_write : MDef K "Register" "write" "Register.write" (inClass (top 2) 1) ["self", "ask", "tell", "value"] f_Register_write g_Register_write
  f_Register_read : Addr
  g_Register_read : FuncData
  d_Register_read : MDef K "Register" "read" "Register.read" (inClass (top 2) 2) ["self", "ask"] f_Register_read g_Register_read
  cl_Register : Cls K (He.ga K "Register")
  gc_Register : mg "Register" = some (.ref (He.ga K "Register"))
  na_Register_copies : NoAttr K (He.ga K "Register") "copies"
  mk_Register : Mk K (He.ga K "Register") f_Register___init__
  n_range : mg "range" = none
  n_len : mg "len" = none
  n_int : mg "int" = none
  n_tuple : mg "tuple" = none
  n_max : mg "max" = none
  n_isinstance : mg "isinstance" = none
  n_bool : mg "bool" = none
  n_str : mg "str" = none
  n_enumerate : mg "enumerate" = none
  n_any : mg "any" = none
  bm : BMod base mg
section
variable {P : Program} {w : World} {K : PySem.W.Frag} {mg : Str → Option Value} {base : Heap}
def N_law_cell : List Str := ["script", "k"]
theorem S_law_cell : FnScope N_law_cell ["script", "k"] (defScope (top 7)) := ⟨rfl, rfl, rfl, by decide +kernel, rfl, by decide +kernel, by decide +kernel⟩
theorem ok_law_cell (C : Ctx K mg base) : FnOk P w K mg base CX0 1 C.f_law_cell C.g_law_cell ["script", "k"] (spD ⟨K, w⟩ d_law_cell) :=
  z_defF (N := N_law_cell) (ps := ["script", "k"]) (kp := (kpL [0, 1])) (m := m_law_cell) C.d_law_cell.fz S_law_cell fun cc A outer s H E hr =>
    (z_cons (z_if (z_tcmp (o_lt (h64 hr)) (z_var 1) (z_callB c_len (by rfl) C.n_len bb_len (z_acons (z_var 0) z_anil)))
    (z_sone (z_ret (z_sub (z_var 0) (z_var 1))))
    z_nil)
    (z_sone (z_ret z_int)))
def N_law_digits : List Str := ["script", "first", "last", "digits", "k", "cell", "turn", "seed"]
theorem S_law_digits : FnScope N_law_digits ["script", "first", "last"] (defScope (top 6)) := ⟨rfl, rfl, rfl, by decide +kernel, rfl, by decide +kernel, by decide +kernel⟩
theorem ok_law_digits (C : Ctx K mg base) : FnOk P w K mg base CX0 2 C.f_law_digits C.g_law_digits ["script", "first", "last"] (spD ⟨K, w⟩ d_law_digits) :=
  z_defF (N := N_law_digits) (ps := ["script", "first", "last"]) (kp := (kpL [0, 1, 2])) (m := m_law_digits) C.d_law_digits.fz S_law_digits fun cc A outer s H E hr =>
    (z_cons (z_set (i := 3) S_law_digits.nd (by rfl) (by first | exact .inl rfl | exact .inr rfl) (by rfl) (z_lst z_anil))
    (z_cons (z_for (kp' := (kpL [0, 1, 2, 3])) .never (by rfl) (z_range2 (by rfl) C.n_range (z_acons (z_var 1) (z_acons (z_var 2) z_anil)) (h2 := fun _ _ _ h => acons_len2 h)) (z_gname S_law_digits.nd (by rfl) (by first | exact .inl rfl | exact .inr rfl) (by rfl))
    (z_cons (z_set (i := 5) S_law_digits.nd (by rfl) (by first | exact .inl rfl | exact .inr rfl) (by rfl) (z_call (ok_law_cell C) (hr.mono (by decide)) (by rfl) C.d_law_cell.g C.d_law_cell.kp C.d_law_cell.b (z_acons (z_var 0) (z_acons (z_var 4) z_anil))))
    (z_cons (z_if (z_tcmp (o_lt (h64 hr)) (z_var 5) z_int)
    (z_sone (z_set (i := 5) S_law_digits.nd (by rfl) (by first | exact .inl rfl | exact .inr rfl) (by rfl) (z_bin o_sub z_int (z_bin o_mul z_int (z_var 5)))))
    z_nil)
    (z_sone (z_if (z_tcmp (o_ge (h64 hr)) (z_var 5) (z_bin o_pow z_int z_int))
    (z_sone (z_for (kp' := (kpL [0, 1, 2, 3, 4, 7])) .never (by rfl) (z_range1 (by rfl) C.n_range (z_acons z_int z_anil) (h1 := fun _ _ _ h => acons_len1 h)) (z_gname S_law_digits.nd (by rfl) (by first | exact .inl rfl | exact .inr rfl) (by rfl))
    (z_sone (z_if (z_tcmp (o_gt (h64 hr)) (z_var 5) z_int)
    (z_cons (z_expr (z_append (z_var 3) (z_bin o_mod (z_callTy c_int (by rfl) C.n_int bb_int (z_acons (z_var 5) z_anil)) z_int)))
    (z_sone (z_set (i := 5) S_law_digits.nd (by rfl) (by first | exact .inl rfl | exact .inr rfl) (by rfl) (z_bin o_fdiv (z_var 5) z_int))))
    z_nil)) (kpL_sub (by decide))))
    (z_cons (z_set (i := 7) S_law_digits.nd (by rfl) (by first | exact .inl rfl | exact .inr rfl) (by rfl) (z_bin o_mod (z_callTy c_int (by rfl) C.n_int bb_int (z_acons (z_bin o_add (z_bin o_add (z_bin o_mul (z_var 5) z_int) (z_bin o_mul (z_var 4) z_int)) z_int) z_anil)) z_int))
    (z_sone (z_for (kp' := (kpL [0, 1, 2, 3, 4, 5])) .never (by rfl) (z_range1 (by rfl) C.n_range (z_acons z_int z_anil) (h1 := fun _ _ _ h => acons_len1 h)) (z_gname S_law_digits.nd (by rfl) (by first | exact .inl rfl | exact .inr rfl) (by rfl))
    (z_cons (z_set (i := 7) S_law_digits.nd (by rfl) (by first | exact .inl rfl | exact .inr rfl) (by rfl) (z_bin o_mod (z_callTy c_int (by rfl) C.n_int bb_int (z_acons (z_bin o_add (z_bin o_add (z_bin o_mul (z_var 7) z_int) (z_bin o_mul z_int (z_var 6))) z_int) z_anil)) z_int))
    (z_sone (z_expr (z_append (z_var 3) (z_bin o_mod (z_callTy c_int (by rfl) C.n_int bb_int (z_acons (z_bin o_fdiv (z_var 7) z_int) z_anil)) z_int))))) (kpL_sub (by decide))))))))) (kpL_sub (by decide)))
    (z_sone (z_ret (z_var 3)))))
def N_law_box : List Str := ["script", "first", "last"]
theorem S_law_box : FnScope N_law_box ["script", "first", "last"] (defScope (top 5)) := ⟨rfl, rfl, rfl, by decide +kernel, rfl, by decide +kernel, by decide +kernel⟩
theorem ok_law_box (C : Ctx K mg base) : FnOk P w K mg base CX0 3 C.f_law_box C.g_law_box ["script", "first", "last"] (spD ⟨K, w⟩ d_law_box) :=
  z_defF (N := N_law_box) (ps := ["script", "first", "last"]) (kp := (kpL [0, 1, 2])) (m := m_law_box) C.d_law_box.fz S_law_box fun cc A outer s H E hr =>
    (z_sone (z_ret (z_lst (z_acons (z_call (ok_law_digits C) (hr.mono (by decide)) (by rfl) C.d_law_digits.g C.d_law_digits.kp C.d_law_digits.b (z_acons (z_var 0) (z_acons (z_var 1) (z_acons (z_var 2) z_anil)))) (z_acons z_int z_anil)))))
def N_law_draw : List Str := ["box", "many", "at"]
theorem S_law_draw : FnScope N_law_draw ["box", "many"] (defScope (top 8)) := ⟨rfl, rfl, rfl, by decide +kernel, rfl, by decide +kernel, by decide +kernel⟩
theorem ok_law_draw (C : Ctx K mg base) : FnOk P w K mg base CX0 1 C.f_law_draw C.g_law_draw ["box", "many"] (spD ⟨K, w⟩ d_law_draw) :=
  z_defF (N := N_law_draw) (ps := ["box", "many"]) (kp := (kpL [0, 1])) (m := m_law_draw) C.d_law_draw.fz S_law_draw fun cc A outer s H E hr =>
    (z_cons (z_set (i := 2) S_law_draw.nd (by rfl) (by first | exact .inl rfl | exact .inr rfl) (by rfl) (z_sub (z_var 0) z_int))
    (z_cons (z_setI (z_bin o_add (z_var 2) z_int) (z_var 0) z_int)
    (z_cons (z_if (z_tcmp (o_lt (h64 hr)) (z_var 2) (z_callB c_len (by rfl) C.n_len bb_len (z_acons (z_sub (z_var 0) z_int) z_anil)))
    (z_sone (z_ret (z_bin o_mod (z_callTy c_int (by rfl) C.n_int bb_int (z_acons (z_sub (z_sub (z_var 0) z_int) (z_var 2)) z_anil)) (z_var 1))))
    z_nil)
    (z_sone (z_ret z_int)))))
def N_Register___init__ : List Str := ["self", "many"]
theorem S_Register___init__ : FnScope N_Register___init__ ["self", "many"] (defScope (inClass (top 2) 0)) := ⟨rfl, rfl, rfl, by decide +kernel, rfl, by decide +kernel, by decide +kernel⟩
def m_Register___init__ : Blk :=
    (dSetF "Register" "copies" (dVar 0) (dCall fMul (d2 true (dLst (dACons true (dTup (dACons true (dC (.int 0)) (dACons true (dC (.int 0)) dANil))) dANil)) (dVar 1))))
def d_Register___init__ : Fn := dFn 2 2 (kpL [0, 1]) m_Register___init__
theorem ok_Register___init__ (C : Ctx K mg base) : FnOk P w K mg base CX0 1 C.f_Register___init__ C.g_Register___init__ ["self", "many"] (spD ⟨K, w⟩ d_Register___init__) :=
  z_defF (N := N_Register___init__) (ps := ["self", "many"]) (kp := (kpL [0, 1])) (m := m_Register___init__) C.d_Register___init__.fz S_Register___init__ fun cc A outer s H E hr =>
    (z_sone (z_setF C.cl_Register C.na_Register_copies (z_bin o_mul (z_lst (z_acons (z_tup (z_acons z_int (z_acons z_int z_anil))) z_anil)) (z_var 1)) (z_var 0)))
def N_Register_write : List Str := ["self", "ask", "tell", "value", "moment", "own"]
theorem S_Register_write : FnScope N_Register_write ["self", "ask", "tell", "value"] (defScope (inClass (top 2) 1)) := ⟨rfl, rfl, rfl, by decide +kernel, rfl, by decide +kernel, by decide +kernel⟩
def l_Register_write_1 : Blk :=
    (dSetI true true (dFld "Register" "copies" (dVar 0)) (dVar 5) (dTup (dACons true (dVar 4) (dACons true (dVar 3) dANil))))
def m_Register_write : Blk :=
    (dSeq (dAsg (bName 4) (dCall fAdd (d2 false (dC (.int 1)) (dFold fmaxG (dGe [5] (sSeq (dVar 1)) (bName 5) dYes (dSub true (dSub true (dFld "Register" "copies" (dVar 0)) (dVar 5)) (dC (.int 0))) never)))))
    (dSeq (dFor (kpL [0, 1, 2, 3, 4]) (sSeq (dVar 2)) (bName 5)
    l_Register_write_1)
    (dRet (kpL [0, 1, 2, 3]) (dVar 4))))
def d_Register_write : Fn := dFn 6 4 (kpL [0, 1, 2, 3]) m_Register_write
theorem ok_Register_write (C : Ctx K mg base) : FnOk P w K mg base CX0 2 C.f_Register_write C.g_Register_write ["self", "ask", "tell", "value"] (spD ⟨K, w⟩ d_Register_write) :=
  z_defF (N := N_Register_write) (ps := ["self", "ask", "tell", "value"]) (kp := (kpL [0, 1, 2, 3])) (m := m_Register_write) C.d_Register_write.fz S_Register_write fun cc A outer s H E hr =>
    (z_cons (z_set (i := 4) S_Register_write.nd (by rfl) (by first | exact .inl rfl | exact .inr rfl) (by rfl) (z_bin o_add z_int (z_maxG (k := 0) (hr.mono (by decide)) (by rfl) C.n_max (z_gen (own := [("own", 5)]) (k := 0) (hr.mono (by decide)) (by rfl) (by rfl) S_Register_write.nd C.bm ⟨rfl, rfl⟩ (z_seq (z_var 1)) (blkOk_by (N := N_Register_write) (sc := defScope (inClass (top 2) 1)) (by decide +kernel)) (fun _ _ _ _ _ _ _ hg => (z_gname S_Register_write.nd (by rfl) (by first | exact .inl rfl | exact .inr rfl) (by rfl))) (fun _ _ _ _ _ _ _ hg => z_tsnil) (fun _ _ _ _ _ _ _ hg => (z_sub (z_sub (z_fld C.cl_Register C.na_Register_copies (z_var 0)) (z_var 5)) z_int))))))
    (z_cons (z_for (kp' := (kpL [0, 1, 2, 3, 4])) .never (by rfl) (z_seq (z_var 2)) (z_gname S_Register_write.nd (by rfl) (by first | exact .inl rfl | exact .inr rfl) (by rfl))
    (z_sone (z_setI (z_tup (z_acons (z_var 4) (z_acons (z_var 3) z_anil))) (z_fld C.cl_Register C.na_Register_copies (z_var 0)) (z_var 5))) (kpL_sub (by decide)))
    (z_sone (z_ret (z_var 4)))))
def N_Register_read : List Str := ["self", "ask", "own"]
theorem S_Register_read : FnScope N_Register_read ["self", "ask"] (defScope (inClass (top 2) 2)) := ⟨rfl, rfl, rfl, by decide +kernel, rfl, by decide +kernel, by decide +kernel⟩
def m_Register_read : Blk :=
    (dRet (kpL [0, 1, 2]) (dFold fmaxX (dGe [2] (sSeq (dVar 1)) (bName 2) dYes (dSub true (dFld "Register" "copies" (dVar 0)) (dVar 2)) never)))
def d_Register_read : Fn := dFn 3 2 (kpL [0, 1, 2]) m_Register_read
theorem ok_Register_read (C : Ctx K mg base) : FnOk P w K mg base CX0 2 C.f_Register_read C.g_Register_read ["self", "ask"] (spD ⟨K, w⟩ d_Register_read) :=
  z_defF (N := N_Register_read) (ps := ["self", "ask"]) (kp := (kpL [0, 1, 2])) (m := m_Register_read) C.d_Register_read.fz S_Register_read fun cc A outer s H E hr =>
    (z_sone (z_ret (z_maxX (k := 0) (hr.mono (by decide)) (by rfl) C.n_max (z_gen (own := [("own", 2)]) (k := 0) (hr.mono (by decide)) (by rfl) (by rfl) S_Register_read.nd C.bm ⟨rfl, rfl⟩ (z_seq (z_var 1)) (blkOk_by (N := N_Register_read) (sc := defScope (inClass (top 2) 2)) (by decide +kernel)) (fun _ _ _ _ _ _ _ hg => (z_gname S_Register_read.nd (by rfl) (by first | exact .inl rfl | exact .inr rfl) (by rfl))) (fun _ _ _ _ _ _ _ hg => z_tsnil) (fun _ _ _ _ _ _ _ hg => (z_sub (z_fld C.cl_Register C.na_Register_copies (z_var 0)) (z_var 2)))))))
def N_run_register : List Str := ["many", "deeds", "register", "found", "deed"]
theorem S_run_register : FnScope N_run_register ["many", "deeds"] (defScope (top 3)) := ⟨rfl, rfl, rfl, by decide +kernel, rfl, by decide +kernel, by decide +kernel⟩
def l_run_register_1 : Blk :=
    (dIf (dTb (dCall fEq (d2 true (dSub true (dVar 4) (dC (.int 0))) (dC (.str "write")))))
    (dDrop (dAppend false (dVar 3) (dMethU "Register" "write" true d_Register_write (dVar 2) (dACons true (dSub true (dVar 4) (dC (.int 1))) (dACons true (dSub true (dVar 4) (dC (.int 2))) (dACons true (dSub true (dVar 4) (dC (.int 3))) dANil))))))
    (dDrop (dAppend false (dVar 3) (dMethU "Register" "read" true d_Register_read (dVar 2) (dACons true (dSub true (dVar 4) (dC (.int 1))) dANil)))))
def m_run_register : Blk :=
    (dSeq (dAsg (bName 2) (dMake "Register" d_Register___init__ (dACons true (dVar 0) dANil)))
    (dSeq (dAsg (bName 3) (dLst dANil))
    (dSeq (dFor (kpL [0, 1, 2, 3]) (sSeq (dVar 1)) (bName 4)
    l_run_register_1)
    (dRet (kpL [0, 1]) (dCall fTuple (dACons true (dVar 3) dANil))))))
def d_run_register : Fn := dFn 5 2 (kpL [0, 1]) m_run_register
theorem ok_run_register (C : Ctx K mg base) : FnOk P w K mg base CX0 3 C.f_run_register C.g_run_register ["many", "deeds"] (spD ⟨K, w⟩ d_run_register) :=
  z_defF (N := N_run_register) (ps := ["many", "deeds"]) (kp := (kpL [0, 1])) (m := m_run_register) C.d_run_register.fz S_run_register fun cc A outer s H E hr =>
    (z_cons (z_set (i := 2) S_run_register.nd (by rfl) (by first | exact .inl rfl | exact .inr rfl) (by rfl) (z_make C.mk_Register (ok_Register___init__ C) (hr.mono (by decide)) (by rfl) C.gc_Register C.d_Register___init__.b (z_acons (z_var 0) z_anil)))
    (z_cons (z_set (i := 3) S_run_register.nd (by rfl) (by first | exact .inl rfl | exact .inr rfl) (by rfl) (z_lst z_anil))
    (z_cons (z_for (kp' := (kpL [0, 1, 2, 3])) .never (by rfl) (z_seq (z_var 1)) (z_gname S_run_register.nd (by rfl) (by first | exact .inl rfl | exact .inr rfl) (by rfl))
    (z_sone (z_if (z_tcmp (o_eq (h64 hr)) (z_sub (z_var 4) z_int) z_str)
    (z_sone (z_expr (z_append (z_var 3) (z_methO C.cl_Register C.d_Register_write.mt (ok_Register_write C) (hr.mono (by decide)) C.d_Register_write.b (z_var 2) (z_acons (z_sub (z_var 4) z_int) (z_acons (z_sub (z_var 4) z_int) (z_acons (z_sub (z_var 4) z_int) z_anil)))))))
    (z_sone (z_expr (z_append (z_var 3) (z_methO C.cl_Register C.d_Register_read.mt (ok_Register_read C) (hr.mono (by decide)) C.d_Register_read.b (z_var 2) (z_acons (z_sub (z_var 4) z_int) z_anil))))))) (kpL_sub (by decide)))
    (z_sone (z_ret (z_callTy c_tuple (by rfl) C.n_tuple bb_tuple (z_acons (z_var 3) z_anil)))))))
def N_law_same : List Str := ["actual", "expected", "k"]
theorem S_law_same : FnScope N_law_same ["actual", "expected"] (defScope (top 9)) := ⟨rfl, rfl, rfl, by decide +kernel, rfl, by decide +kernel, by decide +kernel⟩
theorem ok_law_same (C : Ctx K mg base) : ∀ n, FnOk P w K mg base CX0 (n + 0) C.f_law_same C.g_law_same ["actual", "expected"] (spD ⟨K, w⟩ (d_law_same n))
  | 0 => fn_none
  | n + 1 => z_defF (N := N_law_same) (ps := ["actual", "expected"]) (kp := (kpL [0, 1])) (m := m_law_same (d_law_same n)) (k := n + 0) C.d_law_same.fz S_law_same fun cc A outer s H E hr =>
    (z_cons (z_if (z_tv (z_isa isa_tuple (by rfl) C.n_isinstance bb_isinstance (by rfl) C.n_tuple bb_tuple (z_var 1)))
    (z_cons (z_if (PW.pt (z_wor (z_not (z_tv (z_isa isa_tuple (by rfl) C.n_isinstance bb_isinstance (by rfl) C.n_tuple bb_tuple (z_var 0)))) (z_wor1 (z_tcmp (o_ne (h64 hr)) (z_callB c_len (by rfl) C.n_len bb_len (z_acons (z_var 0) z_anil)) (z_callB c_len (by rfl) C.n_len bb_len (z_acons (z_var 1) z_anil))))))
    (z_sone (z_ret z_bl))
    z_nil)
    (z_cons (z_for (kp' := (kpL [0, 1])) .never (by rfl) (z_range1 (by rfl) C.n_range (z_acons (z_callB c_len (by rfl) C.n_len bb_len (z_acons (z_var 1) z_anil)) z_anil) (h1 := fun _ _ _ h => acons_len1 h)) (z_gname S_law_same.nd (by rfl) (by first | exact .inl rfl | exact .inr rfl) (by rfl))
    (z_sone (z_if (z_not (z_tv (z_call (ok_law_same C n) (hr.mono (by omega)) (by rfl) C.d_law_same.g C.d_law_same.kp C.d_law_same.b (z_acons (z_sub (z_var 0) (z_var 2)) (z_acons (z_sub (z_var 1) (z_var 2)) z_anil)))))
    (z_sone (z_ret z_bl))
    z_nil)) (kpL_sub (by decide)))
    (z_sone (z_ret z_bl))))
    z_nil)
    (z_cons (z_if (z_tcmp (o_is) (z_var 1) z_non)
    (z_sone (z_ret (z_cmp (o_is) (z_var 0) z_non)))
    z_nil)
    (z_cons (z_if (z_tv (z_isa isa_bool (by rfl) C.n_isinstance bb_isinstance (by rfl) C.n_bool bb_bool (z_var 1)))
    (z_sone (z_ret (z_and (z_isa isa_bool (by rfl) C.n_isinstance bb_isinstance (by rfl) C.n_bool bb_bool (z_var 0)) (z_one (z_cmp (o_eq (h64 hr)) (z_var 0) (z_var 1))))))
    z_nil)
    (z_cons (z_if (z_tv (z_isa isa_int (by rfl) C.n_isinstance bb_isinstance (by rfl) C.n_int bb_int (z_var 1)))
    (z_sone (z_ret (z_and (z_isa isa_int (by rfl) C.n_isinstance bb_isinstance (by rfl) C.n_int bb_int (z_var 0)) (z_and (z_notV (z_isa isa_bool (by rfl) C.n_isinstance bb_isinstance (by rfl) C.n_bool bb_bool (z_var 0))) (z_one (z_cmp (o_eq (h64 hr)) (z_var 0) (z_var 1)))))))
    z_nil)
    (z_sone (z_ret (z_and (z_isa isa_str (by rfl) C.n_isinstance bb_isinstance (by rfl) C.n_str bb_str (z_var 0)) (z_one (z_cmp (o_eq (h64 hr)) (z_var 0) (z_var 1))))))))))
def N_decide_meet : List Str := ["lots", "place", "one", "two", "own"]
theorem S_decide_meet : FnScope N_decide_meet ["lots"] (defScope (top 1)) := ⟨rfl, rfl, rfl, by decide +kernel, rfl, by decide +kernel, by decide +kernel⟩
def l_decide_meet_1 : Blk :=
    (dIf (dNot (dTv (dFold fAny (dGe [4] (sSeq (dVar 2)) (bName 4) dYes (dCall fIn (d2 true (dVar 4) (dVar 3))) stopAny))))
    (dRet (kpL [0, 1, 2, 4]) (dTup (dACons true (dC (.str "apart")) (dACons true (dVar 3) (dACons true (dVar 2) dANil)))))
    dNx)
def l_decide_meet_2 : Blk :=
    (dFor (kpL [0, 1, 2, 4]) (sSeq (dSlice true (dVar 0) dNoP (dPart (dVar 1)))) (bName 3)
    l_decide_meet_1)
def m_decide_meet : Blk :=
    (dSeq (dFor (kpL [0, 4]) (sEnum (dVar 0)) (bTup 2 (bCons (bName 1) (bCons (bName 2) bNil)))
    l_decide_meet_2)
    (dRet (kpL [0, 4]) (dTup (dACons true (dC (.str "meet")) dANil))))
def d_decide_meet : Fn := dFn 5 1 (kpL [0, 4]) m_decide_meet
theorem ok_decide_meet (C : Ctx K mg base) : FnOk P w K mg base CX0 2 C.f_decide_meet C.g_decide_meet ["lots"] (spD ⟨K, w⟩ d_decide_meet) :=
  z_defF (N := N_decide_meet) (ps := ["lots"]) (kp := (kpL [0, 4])) (m := m_decide_meet) C.d_decide_meet.fz S_decide_meet fun cc A outer s H E hr =>
    (z_cons (z_for (kp' := (kpL [0, 4])) .never (by rfl) (z_enum (by rfl) C.n_enumerate (z_var 0)) (z_gtup (by rfl) (z_gscons (z_gname S_decide_meet.nd (by rfl) (by first | exact .inl rfl | exact .inr rfl) (by rfl)) (z_gscons (z_gname S_decide_meet.nd (by rfl) (by first | exact .inl rfl | exact .inr rfl) (by rfl)) z_gsnil)))
    (z_sone (z_for (kp' := (kpL [0, 1, 2, 4])) .never (by rfl) (z_seq (z_slice (z_var 0) z_ponone (z_posome (z_var 1)))) (z_gname S_decide_meet.nd (by rfl) (by first | exact .inl rfl | exact .inr rfl) (by rfl))
    (z_sone (z_if (z_not (z_tv (z_any (k := 0) (hr.mono (by decide)) (by rfl) C.n_any (z_gen (own := [("own", 4)]) (k := 0) (hr.mono (by decide)) (by rfl) (by rfl) S_decide_meet.nd C.bm ⟨rfl, rfl⟩ (z_seq (z_var 2)) (blkOk_by (N := N_decide_meet) (sc := defScope (top 1)) (by decide +kernel)) (fun _ _ _ _ _ _ _ hg => (z_gname S_decide_meet.nd (by rfl) (by first | exact .inl rfl | exact .inr rfl) (by rfl))) (fun _ _ _ _ _ _ _ hg => z_tsnil) (fun _ _ _ _ _ _ _ hg => (z_cmp (o_in (h65 hg)) (z_var 4) (z_var 3)))))))
    (z_sone (z_ret (z_tup (z_acons z_str (z_acons (z_var 3) (z_acons (z_var 2) z_anil))))))
    z_nil)) (kpL_sub (by decide)))) (kpL_sub (by decide)))
    (z_sone (z_ret (z_tup (z_acons z_str z_anil)))))
def N_law : List Str := ["script", "box", "many", "lots", "k", "lot", "deeds", "ask", "copies", "due", "last", "seen", "deed", "moment", "x", "pair"]
theorem S_law : FnScope N_law ["script"] (defScope (top 10)) := ⟨rfl, rfl, rfl, by decide +kernel, rfl, by decide +kernel, by decide +kernel⟩
def l_law_1 : Blk :=
    (dSeq (dAsg (bName 5) (dCall fTuple (dACons true (dLc [14] (sRange (dACons true (dVar 2) dANil)) (bName 14) (dTb (dCall fGt (d2 true (dUser d_law_draw (dACons true (dVar 1) (dACons true (dC (.int 3)) dANil))) (dC (.int 0))))) (dVar 14)) dANil)))
    (dSeq (dIf (dTb (dCall fEq (d2 true (dCall fLen (dACons true (dVar 5) dANil)) (dC (.int 0)))))
    (dAsg (bName 5) (dTup (dACons true (dC (.int 0)) dANil)))
    dNx)
    (dDrop (dAppend false (dVar 3) (dTake 5)))))
def l_law_2 : Blk :=
    (dSeq (dAsg (bName 7) (dSub false (dVar 3) (dUser d_law_draw (dACons true (dVar 1) (dACons true (dC (.int 3)) dANil)))))
    (dIf (dTb (dCall fEq (d2 true (dUser d_law_draw (dACons true (dVar 1) (dACons true (dC (.int 2)) dANil))) (dC (.int 0)))))
    (dDrop (dAppend false (dVar 6) (dTup (dACons false (dC (.str "write")) (dACons false (dVar 7) (dACons false (dSub false (dVar 3) (dUser d_law_draw (dACons true (dVar 1) (dACons true (dC (.int 3)) dANil)))) (dACons true (dCall fAdd (d2 false (dC (.int 1)) (dUser d_law_draw (dACons true (dVar 1) (dACons true (dC (.int 5)) dANil))))) dANil)))))))
    (dDrop (dAppend true (dVar 6) (dTup (dACons true (dC (.str "read")) (dACons true (dVar 7) dANil)))))))
def l_law_3 : Blk :=
    (dSetI true true (dVar 8) (dVar 14) (dTup (dACons true (dVar 13) (dACons true (dSub true (dVar 12) (dC (.int 3))) dANil))))
def l_law_4 : Blk :=
    (dIf (dTb (dCall fEq (d2 true (dSub true (dVar 12) (dC (.int 0))) (dC (.str "write")))))
    (dSeq (dAsg (bName 13) (dCall fAdd (d2 false (dC (.int 1)) (dCall fMax1 (dACons true (dLc [14] (sSeq (dSub true (dVar 12) (dC (.int 1)))) (bName 14) dYes (dSub true (dSub true (dVar 8) (dVar 14)) (dC (.int 0)))) dANil)))))
    (dSeq (dFor (kpL [0, 1, 2, 3, 4, 5, 6, 7, 8, 9, 10, 11, 12, 13, 15]) (sSeq (dSub true (dVar 12) (dC (.int 2)))) (bName 14)
    l_law_3)
    (dSeq (dDrop (dAppend false (dVar 9) (dTake 13)))
    (dAsg (bName 10) (dTup (dACons true (dVar 13) (dACons true (dSub true (dVar 12) (dC (.int 3))) dANil)))))))
    (dSeq (dDrop (dAppend false (dVar 9) (dCall fMax1 (dACons true (dLc [14] (sSeq (dSub true (dVar 12) (dC (.int 1)))) (bName 14) dYes (dSub true (dVar 8) (dVar 14))) dANil))))
    (dDrop (dAppend true (dVar 11) (dTup (dACons true (dSub true (dVar 9) (dCall fNeg (dACons true (dC (.int 1)) dANil))) (dACons true (dVar 10) dANil)))))))
def r_law : Blk :=
    (dSeq (dAsg (bName 2) (dCall fAdd (d2 false (dC (.int 2)) (dUser d_law_draw (dACons true (dVar 1) (dACons true (dC (.int 3)) dANil))))))
    (dSeq (dAsg (bName 3) (dLst dANil))
    (dSeq (dFor (kpL [0, 1, 2, 3, 6, 7, 8, 9, 10, 11, 12, 13, 14, 15]) (sRange (dACons true (dC (.int 3)) dANil)) (bName 4)
    l_law_1)
    (dSeq (dAsg (bName 6) (dLst dANil))
    (dSeq (dFor (kpL [0, 1, 2, 3, 5, 6, 8, 9, 10, 11, 12, 13, 14, 15]) (sRange (dACons true (dUser d_law_draw (dACons true (dVar 1) (dACons true (dC (.int 9)) dANil))) dANil)) (bName 4)
    l_law_2)
    (dSeq (dAsg (bName 8) (dCall fMul (d2 true (dLst (dACons true (dTup (dACons true (dC (.int 0)) (dACons true (dC (.int 0)) dANil))) dANil)) (dVar 2))))
    (dSeq (dAsg (bName 9) (dLst dANil))
    (dSeq (dAsg (bName 10) (dTup (dACons true (dC (.int 0)) (dACons true (dC (.int 0)) dANil))))
    (dSeq (dAsg (bName 11) (dLst dANil))
    (dSeq (dFor (kpL [0, 1, 2, 3, 4, 5, 6, 7, 8, 9, 11, 15]) (sSeq (dVar 6)) (bName 12)
    l_law_4)
    (dSeq (dIf (dNot (dTv (dUser (d_law_same 5) (dACons true (dUser d_run_register (dACons true (dVar 2) (dACons true (dCall fTuple (dACons true (dVar 6) dANil)) dANil))) (dACons true (dCall fTuple (dACons true (dVar 9) dANil)) dANil)))))
    (dRet (kpL [0, 15]) (dC (.bl false)))
    dNx)
    (dSeq (dIf (dTb (dCall fEq (d2 true (dUser d_decide_meet (dACons true (dCall fTuple (dACons true (dVar 3) dANil)) dANil)) (dTup (dACons true (dC (.str "meet")) dANil)))))
    (dRet (kpL [0, 15]) (dCall fEq (d2 true (dCall fLen (dACons true (dLc [15] (sSeq (dVar 11)) (bName 15) (dTb (dCall fNe (d2 true (dSub true (dVar 15) (dC (.int 0))) (dSub true (dVar 15) (dC (.int 1)))))) (dVar 15)) dANil)) (dC (.int 0)))))
    dNx)
    (dRet (kpL [0, 15]) (dC (.bl true)))))))))))))))
def m_law : Blk :=
    (dSeq (dAsg (bName 1) (dUser d_law_box (dACons true (dVar 0) (dACons true (dC (.int 0)) (dACons true (dC (.int 62)) dANil)))))
    r_law)
def d_law : Fn := dFn 16 1 (kpL [0, 15]) m_law
theorem ok_law (C : Ctx K mg base) : FnOk P w K mg base CX0 6 C.f_law C.g_law ["script"] (spD ⟨K, w⟩ d_law) :=
  z_defF (N := N_law) (ps := ["script"]) (kp := (kpL [0, 15])) (m := m_law) C.d_law.fz S_law fun cc A outer s H E hr =>
    (z_cons (z_set (i := 1) S_law.nd (by rfl) (by first | exact .inl rfl | exact .inr rfl) (by rfl) (z_call (ok_law_box C) (hr.mono (by decide)) (by rfl) C.d_law_box.g C.d_law_box.kp C.d_law_box.b (z_acons (z_var 0) (z_acons z_int (z_acons z_int z_anil)))))
    (z_cons (z_set (i := 2) S_law.nd (by rfl) (by first | exact .inl rfl | exact .inr rfl) (by rfl) (z_bin o_add z_int (z_call (ok_law_draw C) (hr.mono (by decide)) (by rfl) C.d_law_draw.g C.d_law_draw.kp C.d_law_draw.b (z_acons (z_var 1) (z_acons z_int z_anil)))))
    (z_cons (z_set (i := 3) S_law.nd (by rfl) (by first | exact .inl rfl | exact .inr rfl) (by rfl) (z_lst z_anil))
    (z_cons (z_for (kp' := (kpL [0, 1, 2, 3, 6, 7, 8, 9, 10, 11, 12, 13, 14, 15])) .never (by rfl) (z_range1 (by rfl) C.n_range (z_acons z_int z_anil) (h1 := fun _ _ _ h => acons_len1 h)) (z_gname S_law.nd (by rfl) (by first | exact .inl rfl | exact .inr rfl) (by rfl))
    (z_cons (z_set (i := 5) S_law.nd (by rfl) (by first | exact .inl rfl | exact .inr rfl) (by rfl) (z_callTy c_tuple (by rfl) C.n_tuple bb_tuple (z_acons (z_lc (own := [("x", 14)]) (by rfl) S_law.nd (z_range1 (by rfl) C.n_range (z_acons (z_var 2) z_anil) (h1 := fun _ _ _ h => acons_len1 h)) (blkOk_by (N := N_law) (sc := defScope (top 10)) (by decide +kernel)) (fun _ _ _ _ _ => (z_gname S_law.nd (by rfl) (by first | exact .inl rfl | exact .inr rfl) (by rfl))) (fun _ _ _ _ _ => (z_tsone (z_tcmp (o_gt (h64 hr)) (z_call (ok_law_draw C) (hr.mono (by decide)) (by rfl) C.d_law_draw.g C.d_law_draw.kp C.d_law_draw.b (z_acons (z_var 1) (z_acons z_int z_anil))) z_int))) (fun _ _ _ _ _ => (z_var 14))) z_anil)))
    (z_cons (z_if (z_tcmp (o_eq (h64 hr)) (z_callB c_len (by rfl) C.n_len bb_len (z_acons (z_var 5) z_anil)) z_int)
    (z_sone (z_set (i := 5) S_law.nd (by rfl) (by first | exact .inl rfl | exact .inr rfl) (by rfl) (z_tup (z_acons z_int z_anil))))
    z_nil)
    (z_sone (z_expr (z_append (z_var 3) (z_take 5)))))) (kpL_sub (by decide)))
    (z_cons (z_set (i := 6) S_law.nd (by rfl) (by first | exact .inl rfl | exact .inr rfl) (by rfl) (z_lst z_anil))
    (z_cons (z_for (kp' := (kpL [0, 1, 2, 3, 5, 6, 8, 9, 10, 11, 12, 13, 14, 15])) .never (by rfl) (z_range1 (by rfl) C.n_range (z_acons (z_call (ok_law_draw C) (hr.mono (by decide)) (by rfl) C.d_law_draw.g C.d_law_draw.kp C.d_law_draw.b (z_acons (z_var 1) (z_acons z_int z_anil))) z_anil) (h1 := fun _ _ _ h => acons_len1 h)) (z_gname S_law.nd (by rfl) (by first | exact .inl rfl | exact .inr rfl) (by rfl))
    (z_cons (z_set (i := 7) S_law.nd (by rfl) (by first | exact .inl rfl | exact .inr rfl) (by rfl) (z_sub (z_var 3) (z_call (ok_law_draw C) (hr.mono (by decide)) (by rfl) C.d_law_draw.g C.d_law_draw.kp C.d_law_draw.b (z_acons (z_var 1) (z_acons z_int z_anil)))))
    (z_sone (z_if (z_tcmp (o_eq (h64 hr)) (z_call (ok_law_draw C) (hr.mono (by decide)) (by rfl) C.d_law_draw.g C.d_law_draw.kp C.d_law_draw.b (z_acons (z_var 1) (z_acons z_int z_anil))) z_int)
    (z_sone (z_expr (z_append (z_var 6) (z_tup (z_acons z_str (z_acons (z_var 7) (z_acons (z_sub (z_var 3) (z_call (ok_law_draw C) (hr.mono (by decide)) (by rfl) C.d_law_draw.g C.d_law_draw.kp C.d_law_draw.b (z_acons (z_var 1) (z_acons z_int z_anil)))) (z_acons (z_bin o_add z_int (z_call (ok_law_draw C) (hr.mono (by decide)) (by rfl) C.d_law_draw.g C.d_law_draw.kp C.d_law_draw.b (z_acons (z_var 1) (z_acons z_int z_anil)))) z_anil))))))))
    (z_sone (z_expr (z_append (z_var 6) (z_tup (z_acons z_str (z_acons (z_var 7) z_anil))))))))) (kpL_sub (by decide)))
    (z_cons (z_set (i := 8) S_law.nd (by rfl) (by first | exact .inl rfl | exact .inr rfl) (by rfl) (z_bin o_mul (z_lst (z_acons (z_tup (z_acons z_int (z_acons z_int z_anil))) z_anil)) (z_var 2)))
    (z_cons (z_set (i := 9) S_law.nd (by rfl) (by first | exact .inl rfl | exact .inr rfl) (by rfl) (z_lst z_anil))
    (z_cons (z_set (i := 10) S_law.nd (by rfl) (by first | exact .inl rfl | exact .inr rfl) (by rfl) (z_tup (z_acons z_int (z_acons z_int z_anil))))
    (z_cons (z_set (i := 11) S_law.nd (by rfl) (by first | exact .inl rfl | exact .inr rfl) (by rfl) (z_lst z_anil))
    (z_cons (z_for (kp' := (kpL [0, 1, 2, 3, 4, 5, 6, 7, 8, 9, 11, 15])) .never (by rfl) (z_seq (z_var 6)) (z_gname S_law.nd (by rfl) (by first | exact .inl rfl | exact .inr rfl) (by rfl))
    (z_sone (z_if (z_tcmp (o_eq (h64 hr)) (z_sub (z_var 12) z_int) z_str)
    (z_cons (z_set (i := 13) S_law.nd (by rfl) (by first | exact .inl rfl | exact .inr rfl) (by rfl) (z_bin o_add z_int (z_callB (c_max1 rfl (h64 hr)) (by rfl) C.n_max bb_max (z_acons (z_lc (own := [("x", 14)]) (by rfl) S_law.nd (z_seq (z_sub (z_var 12) z_int)) (blkOk_by (N := N_law) (sc := defScope (top 10)) (by decide +kernel)) (fun _ _ _ _ _ => (z_gname S_law.nd (by rfl) (by first | exact .inl rfl | exact .inr rfl) (by rfl))) (fun _ _ _ _ _ => z_tsnil) (fun _ _ _ _ _ => (z_sub (z_sub (z_var 8) (z_var 14)) z_int))) z_anil))))
    (z_cons (z_for (kp' := (kpL [0, 1, 2, 3, 4, 5, 6, 7, 8, 9, 10, 11, 12, 13, 15])) .never (by rfl) (z_seq (z_sub (z_var 12) z_int)) (z_gname S_law.nd (by rfl) (by first | exact .inl rfl | exact .inr rfl) (by rfl))
    (z_sone (z_setI (z_tup (z_acons (z_var 13) (z_acons (z_sub (z_var 12) z_int) z_anil))) (z_var 8) (z_var 14))) (kpL_sub (by decide)))
    (z_cons (z_expr (z_append (z_var 9) (z_take 13)))
    (z_sone (z_set (i := 10) S_law.nd (by rfl) (by first | exact .inl rfl | exact .inr rfl) (by rfl) (z_tup (z_acons (z_var 13) (z_acons (z_sub (z_var 12) z_int) z_anil))))))))
    (z_cons (z_expr (z_append (z_var 9) (z_callB (c_max1 rfl (h64 hr)) (by rfl) C.n_max bb_max (z_acons (z_lc (own := [("x", 14)]) (by rfl) S_law.nd (z_seq (z_sub (z_var 12) z_int)) (blkOk_by (N := N_law) (sc := defScope (top 10)) (by decide +kernel)) (fun _ _ _ _ _ => (z_gname S_law.nd (by rfl) (by first | exact .inl rfl | exact .inr rfl) (by rfl))) (fun _ _ _ _ _ => z_tsnil) (fun _ _ _ _ _ => (z_sub (z_var 8) (z_var 14)))) z_anil))))
    (z_sone (z_expr (z_append (z_var 11) (z_tup (z_acons (z_sub (z_var 9) (z_un o_neg z_int)) (z_acons (z_var 10) z_anil))))))))) (kpL_sub (by decide)))
    (z_cons (z_if (z_not (z_tv (z_call (ok_law_same C 5) (hr.mono (by decide)) (by rfl) C.d_law_same.g C.d_law_same.kp C.d_law_same.b (z_acons (z_call (ok_run_register C) (hr.mono (by decide)) (by rfl) C.d_run_register.g C.d_run_register.kp C.d_run_register.b (z_acons (z_var 2) (z_acons (z_callTy c_tuple (by rfl) C.n_tuple bb_tuple (z_acons (z_var 6) z_anil)) z_anil))) (z_acons (z_callTy c_tuple (by rfl) C.n_tuple bb_tuple (z_acons (z_var 9) z_anil)) z_anil)))))
    (z_sone (z_ret z_bl))
    z_nil)
    (z_cons (z_if (z_tcmp (o_eq (h64 hr)) (z_call (ok_decide_meet C) (hr.mono (by decide)) (by rfl) C.d_decide_meet.g C.d_decide_meet.kp C.d_decide_meet.b (z_acons (z_callTy c_tuple (by rfl) C.n_tuple bb_tuple (z_acons (z_var 3) z_anil)) z_anil)) (z_tup (z_acons z_str z_anil)))
    (z_sone (z_ret (z_cmp (o_eq (h64 hr)) (z_callB c_len (by rfl) C.n_len bb_len (z_acons (z_lc (own := [("pair", 15)]) (by rfl) S_law.nd (z_seq (z_var 11)) (blkOk_by (N := N_law) (sc := defScope (top 10)) (by decide +kernel)) (fun _ _ _ _ _ => (z_gname S_law.nd (by rfl) (by first | exact .inl rfl | exact .inr rfl) (by rfl))) (fun _ _ _ _ _ => (z_tsone (z_tcmp (o_ne (h64 hr)) (z_sub (z_var 15) z_int) (z_sub (z_var 15) z_int)))) (fun _ _ _ _ _ => (z_var 15))) z_anil)) z_int)))
    z_nil)
    (z_sone (z_ret z_bl)))))))))))))))
end
end P66


set_option Elab.async false
set_option linter.all false
set_option maxRecDepth 100000
set_option maxHeartbeats 20000000
set_option synthInstance.maxHeartbeats 400000
set_option synthInstance.maxSize 4000
namespace P66
open PySem PySem.Spec PyProof.Rows L2 Z Y
def n_Register___init__ (self : Unit) (many : Int) : Option (Unit × ((List (Int × Int)))) :=
  bnd (repO [((0 : Int), (0 : Int))] many) fun a1' =>
  lv a1' fun (copies3' : (List (Int × Int))) =>
  some ((), copies3')
def n_Register_write_b1 (value : Int) (moment : Int) : Int → (((List (Int × Int)))) → Option (((List (Int × Int)))) :=
  fun (t8' : Int) (self' : ((List (Int × Int)))) =>
  bnd (setO self' t8' (moment, value)) fun copies9' =>
  some copies9'
def n_Register_write (self : ((List (Int × Int)))) (ask : (List Int)) (tell : (List Int)) (value : Int) : Option (Int × ((List (Int × Int)))) :=
  bnd (lcO (fun t1' => some true) (fun t1' => (bnd (L2.atI self t1') fun a2' => some (a2'.1))) ask) fun a4' =>
  bnd (maxO a4') fun a6' =>
  lv ((1 : Int) + a6') fun (moment : Int) =>
  bnd (forN (n_Register_write_b1 value moment) tell self) fun (self' : ((List (Int × Int)))) =>
  some (moment, self')
def n_Register_read (self : ((List (Int × Int)))) (ask : (List Int)) : Option (Int × Int) :=
  bnd (lcO (fun t1' => some true) (fun t1' => (bnd (L2.atI self t1') fun a2' => some (a2'))) ask) fun a4' =>
  bnd ((Er (Rc Ei (R1 Ei))).maxL a4') fun a6' =>
  some a6'
def n_run_register_b1  : ((Str × (List Int)) ⊕ (Str × (List Int) × (List Int) × Int)) → (((List (Int × Int))) × (List (Int ⊕ (List Int)))) → Option (((List (Int × Int))) × (List (Int ⊕ (List Int)))) :=
  fun (t4' : ((Str × (List Int)) ⊕ (Str × (List Int) × (List Int) × Int))) (s3' : ((List (Int × Int))) × (List (Int ⊕ (List Int)))) =>
  bnd (((Sum.elim (fun z => some z.1) (fun z => some z.1)) : ((Str × (List Int)) ⊕ (Str × (List Int) × (List Int) × Int)) → Option Str) t4') fun a5' =>
  bnd (if (decide (a5' = (("write" : String) : Str))) = true then (bnd (((Sum.elim (fun z => some z.2) (fun z => some z.2.1)) : ((Str × (List Int)) ⊕ (Str × (List Int) × (List Int) × Int)) → Option (List Int)) t4') fun a13' =>
  bnd (((Sum.elim (fun z => (none : Option (List Int))) (fun z => some z.2.2.1)) : ((Str × (List Int)) ⊕ (Str × (List Int) × (List Int) × Int)) → Option (List Int)) t4') fun a15' =>
  bnd (((Sum.elim (fun z => (none : Option Int)) (fun z => some z.2.2.2)) : ((Str × (List Int)) ⊕ (Str × (List Int) × (List Int) × Int)) → Option Int) t4') fun a17' =>
  bnd (n_Register_write s3'.1 a13' a15' a17') fun a19' =>
  bnd (pushO s3'.2 (Sum.inl a19'.1)) fun found21' =>
  some (a19'.2, found21')) else (bnd (((Sum.elim (fun z => some z.2) (fun z => some z.2.1)) : ((Str × (List Int)) ⊕ (Str × (List Int) × (List Int) × Int)) → Option (List Int)) t4') fun a25' =>
  bnd (n_Register_read s3'.1 a25') fun a27' =>
  bnd (pushO s3'.2 (Sum.inr [a27'.1, a27'.2])) fun found29' =>
  some (s3'.1, found29'))) fun (s31' : ((List (Int × Int))) × (List (Int ⊕ (List Int)))) =>
  some (s31'.1, s31'.2)
def n_run_register (many : Int) (deeds : (List ((Str × (List Int)) ⊕ (Str × (List Int) × (List Int) × Int)))) : Option (List (Int ⊕ (List Int))) :=
  bnd (n_Register___init__ () many) fun a1' =>
  lv a1'.2 fun (register : ((List (Int × Int)))) =>
  lv [] fun (found : (List (Int ⊕ (List Int)))) =>
  bnd (forN n_run_register_b1 deeds (register, found)) fun (s3' : ((List (Int × Int))) × (List (Int ⊕ (List Int)))) =>
  some s3'.2
def n_decide_meet_b1 (t2' : (Int × (List Int))) : (List Int) → (Unit) → Option (Res (Unit) ((Str) ⊕ (Str × (List Int) × (List Int)))) :=
  fun (t4' : (List Int)) (s3' : Unit) =>
  bnd (anyO (fun t5' => some true) (fun t5' => (some ((inB t5' t4')))) t2'.2) fun a6' =>
  if (!a6') = true then (some (.rt (Sum.inr ((("apart" : String) : Str), t4', t2'.2)))) else
  some (.nx ())
def n_decide_meet_b2 (lots : (List (List Int))) : (Int × (List Int)) → (Unit) → Option (Res (Unit) ((Str) ⊕ (Str × (List Int) × (List Int)))) :=
  fun (t2' : (Int × (List Int))) (s1' : Unit) =>
  bnd (forR (ρ := ((Str) ⊕ (Str × (List Int) × (List Int)))) (n_decide_meet_b1 t2') (cutG lots none (some t2'.1)) ()) (onR (fun r => some (.rt r)) fun (s3' : Unit) =>
  some (.nx ()))
def n_decide_meet (lots : (List (List Int))) : Option ((Str) ⊕ (Str × (List Int) × (List Int))) :=
  bnd (forR (ρ := ((Str) ⊕ (Str × (List Int) × (List Int)))) (n_decide_meet_b2 lots) (numN 0 lots) ()) (onR some fun (s1' : Unit) =>
  some (Sum.inl (("meet" : String) : Str)))
def n_law_b1 (t43' : ((Str × (List Int)) ⊕ (Str × (List Int) × (List Int) × Int))) (moment : Int) : Int → ((List (Int × Int))) → Option ((List (Int × Int))) :=
  fun (t57' : Int) (copies' : (List (Int × Int))) =>
  bnd (((Sum.elim (fun z => (none : Option Int)) (fun z => some z.2.2.2)) : ((Str × (List Int)) ⊕ (Str × (List Int) × (List Int) × Int)) → Option Int) t43') fun a58' =>
  bnd (setO copies' t57' (moment, a58')) fun copies60' =>
  some copies60'
def n_law_b2 (last : (Int × Int)) : ((Str × (List Int)) ⊕ (Str × (List Int) × (List Int) × Int)) → ((List (Int × Int)) × (List (Int ⊕ (List Int))) × (Int × Int) × (List ((Int ⊕ (List Int)) × (Int × Int)))) → Option ((List (Int × Int)) × (List (Int ⊕ (List Int))) × (Int × Int) × (List ((Int ⊕ (List Int)) × (Int × Int)))) :=
  fun (t43' : ((Str × (List Int)) ⊕ (Str × (List Int) × (List Int) × Int))) (s42' : (List (Int × Int)) × (List (Int ⊕ (List Int))) × (Int × Int) × (List ((Int ⊕ (List Int)) × (Int × Int)))) =>
  bnd (((Sum.elim (fun z => some z.1) (fun z => some z.1)) : ((Str × (List Int)) ⊕ (Str × (List Int) × (List Int) × Int)) → Option Str) t43') fun a44' =>
  bnd (if (decide (a44' = (("write" : String) : Str))) = true then (bnd (((Sum.elim (fun z => some z.2) (fun z => some z.2.1)) : ((Str × (List Int)) ⊕ (Str × (List Int) × (List Int) × Int)) → Option (List Int)) t43') fun a46' =>
  bnd (lcO (fun t48' => some true) (fun t48' => (bnd (L2.atI s42'.1 t48') fun a49' => some (a49'.1))) a46') fun a51' =>
  bnd (Ei.maxL a51') fun a53' =>
  lv ((1 : Int) + a53') fun (moment : Int) =>
  bnd (((Sum.elim (fun z => (none : Option (List Int))) (fun z => some z.2.2.1)) : ((Str × (List Int)) ⊕ (Str × (List Int) × (List Int) × Int)) → Option (List Int)) t43') fun a55' =>
  bnd (forN (n_law_b1 t43' moment) a55' s42'.1) fun (copies' : (List (Int × Int))) =>
  bnd (pushO s42'.2.1 (Sum.inl moment)) fun due62' =>
  bnd (((Sum.elim (fun z => (none : Option Int)) (fun z => some z.2.2.2)) : ((Str × (List Int)) ⊕ (Str × (List Int) × (List Int) × Int)) → Option Int) t43') fun a64' =>
  lv (moment, a64') fun (last : (Int × Int)) =>
  some (copies', due62', last, s42'.2.2.2)) else (bnd (((Sum.elim (fun z => some z.2) (fun z => some z.2.1)) : ((Str × (List Int)) ⊕ (Str × (List Int) × (List Int) × Int)) → Option (List Int)) t43') fun a66' =>
  bnd (lcO (fun t68' => some true) (fun t68' => (bnd (L2.atI s42'.1 t68') fun a69' => some (a69'))) a66') fun a71' =>
  bnd ((Er (Rc Ei (R1 Ei))).maxL a71') fun a73' =>
  bnd (pushO s42'.2.1 (Sum.inr [a73'.1, a73'.2])) fun due75' =>
  bnd (L2.atI due75' (-(1 : Int))) fun a77' =>
  bnd (pushO s42'.2.2.2 (a77', s42'.2.2.1)) fun seen79' =>
  some (s42'.1, due75', s42'.2.2.1, seen79'))) fun (s81' : (List (Int × Int)) × (List (Int ⊕ (List Int))) × (Int × Int) × (List ((Int ⊕ (List Int)) × (Int × Int)))) =>
  some (s81'.1, s81'.2.1, s81'.2.2.1, s81'.2.2.2)
def n_law_b3 (s5' : (Box × (List (List Int)))) : Int → (Box × (List ((Str × (List Int)) ⊕ (Str × (List Int) × (List Int) × Int)))) → Option (Box × (List ((Str × (List Int)) ⊕ (Str × (List Int) × (List Int) × Int)))) :=
  fun (t22' : Int) (s21' : Box × (List ((Str × (List Int)) ⊕ (Str × (List Int) × (List Int) × Int)))) =>
  bnd (drawO s21'.1 (3 : Int)) fun v23' =>
  bnd (L2.atI s5'.2 v23'.1) fun a25' =>
  lv a25' fun (ask : (List Int)) =>
  bnd (drawO v23'.2 (2 : Int)) fun v27' =>
  bnd (if (decide (v27'.1 = (0 : Int))) = true then (bnd (drawO v27'.2 (3 : Int)) fun v29' =>
  bnd (L2.atI s5'.2 v29'.1) fun a31' =>
  bnd (drawO v29'.2 (5 : Int)) fun v33' =>
  bnd (pushO s21'.2 (Sum.inr ((("write" : String) : Str), ask, a31', ((1 : Int) + v33'.1)))) fun deeds35' =>
  some (v33'.2, deeds35')) else (bnd (pushO s21'.2 (Sum.inl ((("read" : String) : Str), ask))) fun deeds37' =>
  some (v27'.2, deeds37'))) fun (s39' : Box × (List ((Str × (List Int)) ⊕ (Str × (List Int) × (List Int) × Int)))) =>
  some (s39'.1, s39'.2)
def n_law_b4 (many : Int) : Int → (Box × (List (List Int))) → Option (Box × (List (List Int))) :=
  fun (t6' : Int) (s5' : Box × (List (List Int))) =>
  bnd (rngO (0 : Int) many) fun r7' =>
  bnd (lcS (fun t9' s10' => bnd (drawO s10' (3 : Int)) fun v11' => some ((decide ((0 : Int) < v11'.1)), v11'.2)) (fun t9' s10' => some (t9', s10')) r7' s5'.1) fun a13' =>
  lv a13'.1 fun (lot : (List Int)) =>
  bnd (if (decide ((List.length lot : Int) = (0 : Int))) = true then (lv (0 : Int) fun (lot : (Int)) =>
  some [lot]) else (some lot)) fun (lot : (List Int)) =>
  bnd (pushO s5'.2 lot) fun lots15' =>
  some (a13'.2, lots15')
def n_law (box : Box) : Option Bool :=
  bnd (drawO box (3 : Int)) fun v1' =>
  lv ((2 : Int) + v1'.1) fun (many : Int) =>
  lv [] fun (lots : (List (List Int))) =>
  bnd (rngO (0 : Int) (3 : Int)) fun r3' =>
  bnd (forN (n_law_b4 many) r3' (v1'.2, lots)) fun (s5' : Box × (List (List Int))) =>
  lv [] fun (deeds : (List ((Str × (List Int)) ⊕ (Str × (List Int) × (List Int) × Int)))) =>
  bnd (drawO s5'.1 (9 : Int)) fun v17' =>
  bnd (rngO (0 : Int) v17'.1) fun r19' =>
  bnd (forN (n_law_b3 s5') r19' (v17'.2, deeds)) fun (s21' : Box × (List ((Str × (List Int)) ⊕ (Str × (List Int) × (List Int) × Int)))) =>
  bnd (repO [((0 : Int), (0 : Int))] many) fun a40' =>
  lv a40' fun (copies : (List (Int × Int))) =>
  lv [] fun (due : (List (Int ⊕ (List Int)))) =>
  lv ((0 : Int), (0 : Int)) fun (last : (Int × Int)) =>
  lv [] fun (seen : (List ((Int ⊕ (List Int)) × (Int × Int)))) =>
  bnd (forN (n_law_b2 last) s21'.2 (copies, due, last, seen)) fun (s42' : (List (Int × Int)) × (List (Int ⊕ (List Int))) × (Int × Int) × (List ((Int ⊕ (List Int)) × (Int × Int)))) =>
  bnd (n_run_register many s21'.2) fun a82' =>
  bnd (sameO (Et (Ext Ei)) a82' s42'.2.1) fun a84' =>
  if (!a84') = true then (some false) else
  bnd (n_decide_meet s5'.2) fun a86' =>
  if (decide (a86' = (Sum.inl (("meet" : String) : Str)))) = true then (bnd (lcO (fun t88' => (some ((!decide (t88'.1 = (Sum.inr [t88'.2.1, t88'.2.2])))))) (fun t88' => (some (t88'))) s42'.2.2.2) fun a89' =>
  some (decide ((List.length a89' : Int) = (0 : Int)))) else
  some true
end P66


set_option Elab.async false
set_option linter.all false
set_option maxRecDepth 100000
set_option maxHeartbeats 20000000
set_option synthInstance.maxHeartbeats 400000
set_option synthInstance.maxSize 4000
namespace P66
open PySem PySem.Spec PyProof.Rows L2 Z Y
def T_Register___init__ (self : Unit) (many : Int) : (Unit × ((List (Int × Int)))) → Out → Prop := Rf (fun (r : (Unit × ((List (Int × Int))))) => Eu.enc r.1) (fun (r : (Unit × ((List (Int × Int))))) => [.is ((fun (z : ((List (Int × Int)))) => D.obj "Register" ["copies"] [((Lx (Er (Rc Ei (R1 Ei)))) z)]) r.2), .is (Ei.enc many)])
theorem ref_Register___init__ {self : Unit} {many : Int} {r : (Unit × ((List (Int × Int))))} (h : n_Register___init__ self many = some r) : d_Register___init__ [(fun (z : Unit) => D.obj "Register" [] []) self, Ei.enc many] = some ((fun (r : (Unit × ((List (Int × Int))))) => Eu.enc r.1) r, [some ((fun (z : ((List (Int × Int)))) => D.obj "Register" ["copies"] [((Lx (Er (Rc Ei (R1 Ei)))) z)]) r.2), some (Ei.enc many)]) :=
  def_okF (Ar := fun (r : (Unit × ((List (Int × Int))))) => [.is ((fun (z : ((List (Int × Int)))) => D.obj "Register" ["copies"] [((Lx (Er (Rc Ei (R1 Ei)))) z)]) r.2), .is (Ei.enc many)]) (show RB _ m_Register___init__ (n_Register___init__ self many) (T_Register___init__ self many) from
  (k_last (k_bnd fun a1' h2' => (k_setFL (ex := (Lx (Er (Rc Ei (R1 Ei))))) (d' := fun copies3' => (fun (z : ((List (Int × Int)))) => D.obj "Register" ["copies"] [((Lx (Er (Rc Ei (R1 Ei)))) z)]) copies3') (r_call (r_acons (r_lst (r_acons (r_tup (r_acons r_c (r_acons r_c r_anil rfl) rfl) rfl (Nat.le_of_ble_eq_true rfl)) r_anil rfl) rfl (Nat.le_of_ble_eq_true rfl)) (r_acons (r_var (d := Ei.enc many) rfl (Ei.imm _)) r_anil rfl) rfl) (drfs_cons drf_own (drfs_cons drf_own drfs_nil)) (f_repL (Er (Rc Ei (R1 Ei))) h2')) (r_varM (d := (fun (z : Unit) => D.obj "Register" [] []) self) rfl rfl) rfl (by decide) (fun _ => putO_new (by decide +kernel) rfl rfl) fun copies3' => (k_nx (rf_nx rfl (by exact (.eq (.eq .nil))))))))) h rfl rfl
def T_Register_write (self : ((List (Int × Int)))) (ask : (List Int)) (tell : (List Int)) (value : Int) : (Int × ((List (Int × Int)))) → Out → Prop := Rt (fun (r : (Int × ((List (Int × Int))))) => Ei.enc r.1) (fun (r : (Int × ((List (Int × Int))))) => [.is ((fun (z : ((List (Int × Int)))) => D.obj "Register" ["copies"] [((Lx (Er (Rc Ei (R1 Ei)))) z)]) r.2), .is ((Et Ei).enc ask), .is ((Et Ei).enc tell), .is (Ei.enc value), .any, .any])
theorem ref_Register_write {self : ((List (Int × Int)))} {ask : (List Int)} {tell : (List Int)} {value : Int} {r : (Int × ((List (Int × Int))))} (h : n_Register_write self ask tell value = some r) : d_Register_write [(fun (z : ((List (Int × Int)))) => D.obj "Register" ["copies"] [((Lx (Er (Rc Ei (R1 Ei)))) z)]) self, (Et Ei).enc ask, (Et Ei).enc tell, Ei.enc value] = some ((fun (r : (Int × ((List (Int × Int))))) => Ei.enc r.1) r, [some ((fun (z : ((List (Int × Int)))) => D.obj "Register" ["copies"] [((Lx (Er (Rc Ei (R1 Ei)))) z)]) r.2), some ((Et Ei).enc ask), some ((Et Ei).enc tell), some (Ei.enc value)]) :=
  def_ok (Ar := fun (r : (Int × ((List (Int × Int))))) => [.is ((fun (z : ((List (Int × Int)))) => D.obj "Register" ["copies"] [((Lx (Er (Rc Ei (R1 Ei)))) z)]) r.2), .is ((Et Ei).enc ask), .is ((Et Ei).enc tell), .is (Ei.enc value), .any, .any]) (show RB _ m_Register_write (n_Register_write self ask tell value) (T_Register_write self ask tell value) from
  (k_bnd fun a4' h5' => k_bnd fun a6' h7' => (k_asgF Ei.enc (r_call (r_acons r_c (r_acons (r_fold (f := fmaxG) (g := Ei.enc) (i_T Ei (r_var (d := (Et Ei).enc ask) rfl ((Et Ei).imm _))) gd_nil ⟨fun t1' => (b_name (by exact Nat.le_of_ble_eq_true rfl)), fun t1' => (to_some r_yes), fun t1' y1 _ => (o_bnd fun a2' h3' => o_some (ex := Ei.enc) (v := a2'.1) (r_sub (i := (0 : Int)) (r_sub (r_fldM (j := 0) (r_varM (d := (fun (z : ((List (Int × Int)))) => D.obj "Register" ["copies"] [((Lx (Er (Rc Ei (R1 Ei)))) z)]) self) rfl rfl) (drf_at rfl) (by decide +kernel) rfl rfl) (r_var (d := Ei.enc t1') rfl (Ei.imm _)) rfl (drf_path rfl rfl) drf_own (s_L (Er (Rc Ei (R1 Ei))) h3')) r_c rfl drf_own drf_own (s_R (d := Ei.enc a2'.1) rfl (Ei.imm _)))) y1, by decide⟩ Ei.imm h5' (f_maxG h7')) r_anil rfl) rfl) (drfs_cons drf_own (drfs_cons drf_own drfs_nil)) (f_add _ _)) (by exact Nat.le_of_ble_eq_true rfl) fun moment => (k_forN (fun self' => [.is ((fun (z : ((List (Int × Int)))) => D.obj "Register" ["copies"] [((Lx (Er (Rc Ei (R1 Ei)))) z)]) self'), .is ((Et Ei).enc ask), .is ((Et Ei).enc tell), .is (Ei.enc value), .is (Ei.enc moment), .any]) (i_T Ei (r_var (d := (Et Ei).enc tell) rfl ((Et Ei).imm _))) (by exact (.eq (.eq (.eq (.eq (.eq (.any .nil))))))) rfl (fun _ => gd_nil) (fun t8' self' => (b_name (by exact Nat.le_of_ble_eq_true rfl))) (fun t8' self' => (k_last (k_setIP (E := (Er (Rc Ei (R1 Ei)))) (ys := self') (d0 := (fun (z : ((List (Int × Int)))) => D.obj "Register" ["copies"] [((Lx (Er (Rc Ei (R1 Ei)))) z)]) self') (d1 := fun copies9' => (fun (z : ((List (Int × Int)))) => D.obj "Register" ["copies"] [((Lx (Er (Rc Ei (R1 Ei)))) z)]) copies9') (r_tup (r_acons (r_var (d := Ei.enc moment) rfl (Ei.imm _)) (r_acons (r_var (d := Ei.enc value) rfl (Ei.imm _)) r_anil rfl) rfl) rfl (Nat.le_of_ble_eq_true rfl)) (r_fldM (j := 0) (r_varM (d := (fun (z : ((List (Int × Int)))) => D.obj "Register" ["copies"] [((Lx (Er (Rc Ei (R1 Ei)))) z)]) self') rfl rfl) (drf_at rfl) (by decide +kernel) rfl rfl) (r_var (d := Ei.enc t8') rfl (Ei.imm _)) rfl rfl (fun _ => rfl) fun copies9' h10' => (k_nx (nx_le (by exact (.eq (.eq (.eq (.eq (.eq (.any .nil)))))))))))) fun self' => (k_last (k_ret (r_var (d := Ei.enc moment) rfl (Ei.imm _)) (rt_le (by exact (.eq (.eq (.eq (.eq (.any (.any .nil)))))))))))))) h rfl rfl
def T_Register_read (self : ((List (Int × Int)))) (ask : (List Int)) : (Int × Int) → Out → Prop := Rt (Er (Rc Ei (R1 Ei))).enc (fun (r : (Int × Int)) => [.is ((fun (z : ((List (Int × Int)))) => D.obj "Register" ["copies"] [((Lx (Er (Rc Ei (R1 Ei)))) z)]) self), .is ((Et Ei).enc ask), .any])
theorem ref_Register_read {self : ((List (Int × Int)))} {ask : (List Int)} {r : (Int × Int)} (h : n_Register_read self ask = some r) : d_Register_read [(fun (z : ((List (Int × Int)))) => D.obj "Register" ["copies"] [((Lx (Er (Rc Ei (R1 Ei)))) z)]) self, (Et Ei).enc ask] = some ((Er (Rc Ei (R1 Ei))).enc r, [some ((fun (z : ((List (Int × Int)))) => D.obj "Register" ["copies"] [((Lx (Er (Rc Ei (R1 Ei)))) z)]) self), some ((Et Ei).enc ask)]) :=
  def_ok (Ar := fun (r : (Int × Int)) => [.is ((fun (z : ((List (Int × Int)))) => D.obj "Register" ["copies"] [((Lx (Er (Rc Ei (R1 Ei)))) z)]) self), .is ((Et Ei).enc ask), .any]) (show RB _ m_Register_read (n_Register_read self ask) (T_Register_read self ask) from
  (k_last (k_bnd fun a4' h5' => k_bnd fun a6' h7' => (k_ret (r_fold (f := fmaxX) (g := (Er (Rc Ei (R1 Ei))).enc) (i_T Ei (r_var (d := (Et Ei).enc ask) rfl ((Et Ei).imm _))) gd_nil ⟨fun t1' => (b_name (by exact Nat.le_of_ble_eq_true rfl)), fun t1' => (to_some r_yes), fun t1' y1 _ => (o_bnd fun a2' h3' => o_some (ex := (Er (Rc Ei (R1 Ei))).enc) (v := a2') (r_sub (r_fldM (j := 0) (r_varM (d := (fun (z : ((List (Int × Int)))) => D.obj "Register" ["copies"] [((Lx (Er (Rc Ei (R1 Ei)))) z)]) self) rfl rfl) (drf_at rfl) (by decide +kernel) rfl rfl) (r_var (d := Ei.enc t1') rfl (Ei.imm _)) rfl (drf_path rfl rfl) drf_own (s_L (Er (Rc Ei (R1 Ei))) h3'))) y1, by decide⟩ (Er (Rc Ei (R1 Ei))).imm h5' (f_maxX (Er (Rc Ei (R1 Ei))) h7' rfl rfl rfl)) (rt_le (by exact (.eq (.eq (.any .nil))))))))) h rfl rfl
def T_run_register (many : Int) (deeds : (List ((Str × (List Int)) ⊕ (Str × (List Int) × (List Int) × Int)))) : (List (Int ⊕ (List Int))) → Out → Prop := Rt (Et (Ext Ei)).enc (fun (r : (List (Int ⊕ (List Int)))) => [.is (Ei.enc many), .is ((Et (Ea (Ac (Rc Es (R1 (Et Ei))) (A1 (Rc Es (Rc (Et Ei) (Rc (Et Ei) (R1 Ei))))) rfl))).enc deeds), .any, .any, .any])
theorem ref_run_register {many : Int} {deeds : (List ((Str × (List Int)) ⊕ (Str × (List Int) × (List Int) × Int)))} {r : (List (Int ⊕ (List Int)))} (h : n_run_register many deeds = some r) : d_run_register [Ei.enc many, (Et (Ea (Ac (Rc Es (R1 (Et Ei))) (A1 (Rc Es (Rc (Et Ei) (Rc (Et Ei) (R1 Ei))))) rfl))).enc deeds] = some ((Et (Ext Ei)).enc r, [some (Ei.enc many), some ((Et (Ea (Ac (Rc Es (R1 (Et Ei))) (A1 (Rc Es (Rc (Et Ei) (Rc (Et Ei) (R1 Ei))))) rfl))).enc deeds)]) :=
  def_ok (Ar := fun (r : (List (Int ⊕ (List Int)))) => [.is (Ei.enc many), .is ((Et (Ea (Ac (Rc Es (R1 (Et Ei))) (A1 (Rc Es (Rc (Et Ei) (Rc (Et Ei) (R1 Ei))))) rfl))).enc deeds), .any, .any, .any]) (show RB _ m_run_register (n_run_register many deeds) (T_run_register many deeds) from
  (k_bnd fun a1' h2' => (k_asgF (fun (z : ((List (Int × Int)))) => D.obj "Register" ["copies"] [((Lx (Er (Rc Ei (R1 Ei)))) z)]) (r_make (r_acons (r_var (d := Ei.enc many) rfl (Ei.imm _)) r_anil rfl) rfl (drfs_cons drf_own drfs_nil) (ref_Register___init__ (self := ()) h2') (.own .nil)) (by exact Nat.le_of_ble_eq_true rfl) fun register => (k_asgF (Lx (Ext Ei)) (r_lst r_anil rfl (Nat.le_of_ble_eq_true rfl)) (by exact Nat.le_of_ble_eq_true rfl) fun found => (k_forN (fun s3' => [.is (Ei.enc many), .is ((Et (Ea (Ac (Rc Es (R1 (Et Ei))) (A1 (Rc Es (Rc (Et Ei) (Rc (Et Ei) (R1 Ei))))) rfl))).enc deeds), .is ((fun (z : ((List (Int × Int)))) => D.obj "Register" ["copies"] [((Lx (Er (Rc Ei (R1 Ei)))) z)]) s3'.1), .is ((Lx (Ext Ei)) s3'.2), .any]) (i_T (Ea (Ac (Rc Es (R1 (Et Ei))) (A1 (Rc Es (Rc (Et Ei) (Rc (Et Ei) (R1 Ei))))) rfl)) (r_var (d := (Et (Ea (Ac (Rc Es (R1 (Et Ei))) (A1 (Rc Es (Rc (Et Ei) (Rc (Et Ei) (R1 Ei))))) rfl))).enc deeds) rfl ((Et (Ea (Ac (Rc Es (R1 (Et Ei))) (A1 (Rc Es (Rc (Et Ei) (Rc (Et Ei) (R1 Ei))))) rfl))).imm _))) (by exact (.eq (.eq (.eq (.eq (.any .nil)))))) rfl (fun _ => gd_nil) (fun t4' s3' => (b_name (by exact Nat.le_of_ble_eq_true rfl))) (fun t4' s3' => (k_last (k_bnd fun a5' h6' => (k_ifJ (A' := (fun s31' => [.is (Ei.enc many), .is ((Et (Ea (Ac (Rc Es (R1 (Et Ei))) (A1 (Rc Es (Rc (Et Ei) (Rc (Et Ei) (R1 Ei))))) rfl))).enc deeds), .is ((fun (z : ((List (Int × Int)))) => D.obj "Register" ["copies"] [((Lx (Er (Rc Ei (R1 Ei)))) z)]) s31'.1), .is ((Lx (Ext Ei)) s31'.2), .is ((Ea (Ac (Rc Es (R1 (Et Ei))) (A1 (Rc Es (Rc (Et Ei) (Rc (Et Ei) (R1 Ei))))) rfl)).enc t4')])) (r_tb (r_call (r_acons (r_sub (i := (0 : Int)) (r_var (d := (Ea (Ac (Rc Es (R1 (Et Ei))) (A1 (Rc Es (Rc (Et Ei) (Rc (Et Ei) (R1 Ei))))) rfl)).enc t4') rfl ((Ea (Ac (Rc Es (R1 (Et Ei))) (A1 (Rc Es (Rc (Et Ei) (Rc (Et Ei) (R1 Ei))))) rfl)).imm _)) r_c rfl drf_own drf_own (s_A (Ac (Rc Es (R1 (Et Ei))) (A1 (Rc Es (Rc (Et Ei) (Rc (Et Ei) (R1 Ei))))) rfl) (sel := (Sum.elim (fun z => some z.1) (fun z => some z.1))) (E := Es) (by intro a v h; rcases a with z | z <;> cases h <;> rfl) h6')) (r_acons r_c r_anil rfl) rfl) (drfs_cons drf_own (drfs_cons drf_own drfs_nil)) (f_eq Es a5' (("write" : String) : Str) rfl))) (fun _ => (k_last (k_bnd fun a13' h14' => k_bnd fun a15' h16' => k_bnd fun a17' h18' => k_bnd fun a19' h20' => k_bnd fun found21' h22' => (k_expr (r_push (E := (Ext Ei)) h22' (r_varM (d := (Lx (Ext Ei)) s3'.2) rfl rfl) rfl (r_methO (r_varM (d := (fun (z : ((List (Int × Int)))) => D.obj "Register" ["copies"] [((Lx (Er (Rc Ei (R1 Ei)))) z)]) s3'.1) rfl rfl) (drf_at rfl) (by decide +kernel) (r_user (r_acons (r_varM (d := (fun (z : ((List (Int × Int)))) => D.obj "Register" ["copies"] [((Lx (Er (Rc Ei (R1 Ei)))) z)]) s3'.1) rfl rfl) (r_acons (r_sub (i := (1 : Int)) (r_var (d := (Ea (Ac (Rc Es (R1 (Et Ei))) (A1 (Rc Es (Rc (Et Ei) (Rc (Et Ei) (R1 Ei))))) rfl)).enc t4') rfl ((Ea (Ac (Rc Es (R1 (Et Ei))) (A1 (Rc Es (Rc (Et Ei) (Rc (Et Ei) (R1 Ei))))) rfl)).imm _)) r_c rfl drf_own drf_own (s_A (Ac (Rc Es (R1 (Et Ei))) (A1 (Rc Es (Rc (Et Ei) (Rc (Et Ei) (R1 Ei))))) rfl) (sel := (Sum.elim (fun z => some z.2) (fun z => some z.2.1))) (E := (Et Ei)) (by intro a v h; rcases a with z | z <;> cases h <;> rfl) h14')) (r_acons (r_sub (i := (2 : Int)) (r_var (d := (Ea (Ac (Rc Es (R1 (Et Ei))) (A1 (Rc Es (Rc (Et Ei) (Rc (Et Ei) (R1 Ei))))) rfl)).enc t4') rfl ((Ea (Ac (Rc Es (R1 (Et Ei))) (A1 (Rc Es (Rc (Et Ei) (Rc (Et Ei) (R1 Ei))))) rfl)).imm _)) r_c rfl drf_own drf_own (s_A (Ac (Rc Es (R1 (Et Ei))) (A1 (Rc Es (Rc (Et Ei) (Rc (Et Ei) (R1 Ei))))) rfl) (sel := (Sum.elim (fun z => (none : Option (List Int))) (fun z => some z.2.2.1))) (E := (Et Ei)) (by intro a v h; rcases a with z | z <;> cases h <;> rfl) h16')) (r_acons (r_sub (i := (3 : Int)) (r_var (d := (Ea (Ac (Rc Es (R1 (Et Ei))) (A1 (Rc Es (Rc (Et Ei) (Rc (Et Ei) (R1 Ei))))) rfl)).enc t4') rfl ((Ea (Ac (Rc Es (R1 (Et Ei))) (A1 (Rc Es (Rc (Et Ei) (Rc (Et Ei) (R1 Ei))))) rfl)).imm _)) r_c rfl drf_own drf_own (s_A (Ac (Rc Es (R1 (Et Ei))) (A1 (Rc Es (Rc (Et Ei) (Rc (Et Ei) (R1 Ei))))) rfl) (sel := (Sum.elim (fun z => (none : Option Int)) (fun z => some z.2.2.2))) (E := Ei) (by intro a v h; rcases a with z | z <;> cases h <;> rfl) h18')) r_anil rfl) rfl) rfl) rfl) (by simp [rootsOk, roots]) (drfs_cons (drf_at rfl) (drfs_cons drf_own (drfs_cons drf_own (drfs_cons drf_own drfs_nil)))) (ref_Register_write h20') (.pth (l := []) rfl (.own (.own (.own .nil))) rfl))) rfl) (k_nx (nx_le (by exact (.eq (.eq (.eq (.eq (.eq .nil)))))))))))) (fun _ => (k_last (k_bnd fun a25' h26' => k_bnd fun a27' h28' => k_bnd fun found29' h30' => (k_expr (r_push (E := (Ext Ei)) h30' (r_varM (d := (Lx (Ext Ei)) s3'.2) rfl rfl) rfl (r_methO (r_varM (d := (fun (z : ((List (Int × Int)))) => D.obj "Register" ["copies"] [((Lx (Er (Rc Ei (R1 Ei)))) z)]) s3'.1) rfl rfl) (drf_at rfl) (by decide +kernel) (r_user (r_acons (r_varM (d := (fun (z : ((List (Int × Int)))) => D.obj "Register" ["copies"] [((Lx (Er (Rc Ei (R1 Ei)))) z)]) s3'.1) rfl rfl) (r_acons (r_sub (i := (1 : Int)) (r_var (d := (Ea (Ac (Rc Es (R1 (Et Ei))) (A1 (Rc Es (Rc (Et Ei) (Rc (Et Ei) (R1 Ei))))) rfl)).enc t4') rfl ((Ea (Ac (Rc Es (R1 (Et Ei))) (A1 (Rc Es (Rc (Et Ei) (Rc (Et Ei) (R1 Ei))))) rfl)).imm _)) r_c rfl drf_own drf_own (s_A (Ac (Rc Es (R1 (Et Ei))) (A1 (Rc Es (Rc (Et Ei) (Rc (Et Ei) (R1 Ei))))) rfl) (sel := (Sum.elim (fun z => some z.2) (fun z => some z.2.1))) (E := (Et Ei)) (by intro a v h; rcases a with z | z <;> cases h <;> rfl) h26')) r_anil rfl) rfl) (by simp [rootsOk, roots]) (drfs_cons (drf_at rfl) (drfs_cons drf_own drfs_nil)) (ref_Register_read h28') (Puts.sameE rfl (.own .nil) rfl))) rfl) (k_nx (nx_le (by exact (.eq (.eq (.eq (.eq (.eq .nil)))))))))))) fun s31' => (k_nx (nx_le (by exact (.eq (.eq (.eq (.eq (.any .nil)))))))))))) fun s3' => (k_last (k_ret (r_call (r_acons (r_varM (d := (Lx (Ext Ei)) s3'.2) rfl rfl) r_anil rfl) (drfs_cons (drf_at rfl) drfs_nil) (f_tuple (Ext Ei) s3'.2)) (rt_le (by exact (.eq (.eq (.any (.any (.any .nil)))))))))))))) h rfl rfl
def T_decide_meet (lots : (List (List Int))) : ((Str) ⊕ (Str × (List Int) × (List Int))) → Out → Prop := Rt (Ea (Ac (R1 Es) (A1 (Rc Es (Rc (Et Ei) (R1 (Et Ei))))) rfl)).enc (fun (r : ((Str) ⊕ (Str × (List Int) × (List Int)))) => [.is ((Et (Et Ei)).enc lots), .any, .any, .any, .any])
theorem ref_decide_meet {lots : (List (List Int))} {r : ((Str) ⊕ (Str × (List Int) × (List Int)))} (h : n_decide_meet lots = some r) : d_decide_meet [(Et (Et Ei)).enc lots] = some ((Ea (Ac (R1 Es) (A1 (Rc Es (Rc (Et Ei) (R1 (Et Ei))))) rfl)).enc r, [some ((Et (Et Ei)).enc lots)]) :=
  def_ok (Ar := fun (r : ((Str) ⊕ (Str × (List Int) × (List Int)))) => [.is ((Et (Et Ei)).enc lots), .any, .any, .any, .any]) (show RB _ m_decide_meet (n_decide_meet lots) (T_decide_meet lots) from
  (k_forR (j := some) (T_decide_meet lots) (fun s1' => [.is ((Et (Et Ei)).enc lots), .any, .any, .any, .any]) (i_numT (Et Ei) (r_var (d := (Et (Et Ei)).enc lots) rfl ((Et (Et Ei)).imm _))) (by exact (.eq (.any (.any (.any (.any .nil)))))) rfl (fun _ => gd_nil) (fun t2' s1' => (b_tup (b_cons (b_name (by exact Nat.le_of_ble_eq_true rfl)) (b_cons (b_name (by exact Nat.le_of_ble_eq_true rfl)) b_nil)) rfl)) (fun t2' s1' => (k_last (k_forR (j := (fun (r : ((Str) ⊕ (Str × (List Int) × (List Int)))) => some (Res.rt (ρ := ((Str) ⊕ (Str × (List Int) × (List Int)))) r))) (T_decide_meet lots) (fun s3' => [.is ((Et (Et Ei)).enc lots), .is (Ei.enc t2'.1), .is ((Et Ei).enc t2'.2), .any, .any]) (i_T (Et Ei) (r_slice (r_var (d := (Et (Et Ei)).enc lots) rfl ((Et (Et Ei)).imm _)) r_nop (r_part (r_var (d := Ei.enc t2'.1) rfl (Ei.imm _))) rfl drf_own (c_T (Et Ei) lots none (some t2'.1)))) (by exact (.eq (.eq (.eq (.any (.any .nil)))))) rfl (fun _ => gd_nil) (fun t4' s3' => (b_name (by exact Nat.le_of_ble_eq_true rfl))) (fun t4' s3' => (k_last (k_bnd fun a6' h7' => (k_if (r_not (r_tv (r_any (i_T Ei (r_var (d := (Et Ei).enc t2'.2) rfl ((Et Ei).imm _))) gd_nil ⟨fun t5' => (b_name (by exact Nat.le_of_ble_eq_true rfl)), fun t5' => (to_some r_yes), fun t5' y1 _ => (o_some (ex := Eb.enc) (v := (inB t5' t4')) (r_call (r_acons (r_var (d := Ei.enc t5') rfl (Ei.imm _)) (r_acons (r_var (d := (Et Ei).enc t4') rfl ((Et Ei).imm _)) r_anil rfl) rfl) (drfs_cons drf_own (drfs_cons drf_own drfs_nil)) (f_inTB Ei t5' t4' rfl))) y1, by decide⟩ h7') drf_own (t_B _))) (fun _ => (k_ret (r_tup (r_acons r_c (r_acons (r_var (d := (Et Ei).enc t4') rfl ((Et Ei).imm _)) (r_acons (r_var (d := (Et Ei).enc t2'.2) rfl ((Et Ei).imm _)) r_anil rfl) rfl) rfl) rfl (Nat.le_of_ble_eq_true rfl)) (rs_rt (rt_le (by exact (.eq (.any (.any (.any (.any .nil)))))))))) (fun _ => (k_nil (k_nx (rs_nx (by exact (.eq (.eq (.eq (.any (.any .nil)))))))))))))) j_rs fun s3' => (k_nx (rs_nx (by exact (.eq (.any (.any (.any (.any .nil))))))))))) j_some fun s1' => (k_last (k_ret (r_tup (r_acons r_c r_anil rfl) rfl (Nat.le_of_ble_eq_true rfl)) (rt_le (by exact (.eq (.any (.any (.any (.any .nil))))))))))) h rfl rfl
end P66


set_option Elab.async false
set_option linter.all false
set_option maxRecDepth 100000
set_option maxHeartbeats 20000000
set_option synthInstance.maxHeartbeats 400000
set_option synthInstance.maxSize 4000
namespace P66
open PySem PySem.Spec PyProof.Rows L2 Z Y
def T_law (p0' : Unit) : Bool → Out → Prop := Rt D.bl (fun _ => [.any, .any, .any, .any, .any, .any, .any, .any, .any, .any, .any, .any, .any, .any, .any, .any])
theorem ref_law (box : Box) : RB [.any, .is (boxE box), .any, .any, .any, .any, .any, .any, .any, .any, .any, .any, .any, .any, .any, .any] r_law (n_law box) (T_law ()) :=
  (k_bnd fun v1' h2' => (k_asgF Ei.enc (r_call (r_acons r_c (r_acons (r_draw rfl r_c h2') r_anil rfl) rfl) (drfs_cons drf_own (drfs_cons drf_own drfs_nil)) (f_add _ _)) (by exact Nat.le_of_ble_eq_true rfl) fun many => (k_asgF (Lx (Et Ei)) (r_lst r_anil rfl (Nat.le_of_ble_eq_true rfl)) (by exact Nat.le_of_ble_eq_true rfl) fun lots => (k_eqA (A' := [.any, .is (boxE v1'.2), .is (Ei.enc many), .is ((Lx (Et Ei)) lots), .any, .any, .any, .any, .any, .any, .any, .any, .any, .any, .any, .any]) rfl (k_bnd fun r3' h4' => (k_forN (fun s5' => [.any, .is (boxE s5'.1), .is (Ei.enc many), .is ((Lx (Et Ei)) s5'.2), .any, .any, .any, .any, .any, .any, .any, .any, .any, .any, .any, .any]) (i_rng1 (r_acons r_c r_anil rfl) h4') (by exact (.any (.eq (.eq (.eq (.any (.any (.any (.any (.any (.any (.any (.any (.any (.any (.any (.any .nil))))))))))))))))) rfl (fun _ => gd_nil) (fun t6' s5' => (b_name (by exact Nat.le_of_ble_eq_true rfl))) (fun t6' s5' => (k_bnd fun r7' h8' => k_bnd fun a13' h14' => (k_asgF (Et Ei).enc (r_call (r_acons (r_lcS (g := Ei.enc) (B1 := (fun t9' s10' => [.any, .is (boxE s10'), .is (Ei.enc many), .is ((Lx (Et Ei)) s5'.2), .is (Ei.enc t6'), .any, .any, .any, .any, .any, .any, .any, .any, .any, .is (Ei.enc t9'), .any])) (fun s10' => [.any, .is (boxE s10'), .is (Ei.enc many), .is ((Lx (Et Ei)) s5'.2), .is (Ei.enc t6'), .any, .any, .any, .any, .any, .any, .any, .any, .any, .any, .any]) (i_rng1 (r_acons (r_var (d := Ei.enc many) rfl (Ei.imm _)) r_anil rfl) h8') rfl h14' (fun _ => gd_nil) (fun t9' s10' => (b_name (by exact Nat.le_of_ble_eq_true rfl))) (fun t9' s10' y1 y2 hh => by obtain ⟨v11', h12', hh⟩ := bnd_eq hh; cases hh; exact (r_tb (r_call (r_acons (r_draw rfl r_c h12') (r_acons r_c r_anil rfl) rfl) (drfs_cons drf_own (drfs_cons drf_own drfs_nil)) (f_gt _ _)))) (fun t9' s10' y1 y2 hh => by  cases hh; exact (r_var (d := Ei.enc t9') rfl (Ei.imm _))) (fun _ _ => Le.refl _)) r_anil rfl) (drfs_cons drf_own drfs_nil) (f_tuple Ei a13'.1)) (by exact Nat.le_of_ble_eq_true rfl) fun lot => (k_ifJ (A' := (fun lot => [.any, .is (boxE a13'.2), .is (Ei.enc many), .is ((Lx (Et Ei)) s5'.2), .is (Ei.enc t6'), .is ((Et Ei).enc lot), .any, .any, .any, .any, .any, .any, .any, .any, .any, .any])) (r_tb (r_call (r_acons (r_call (r_acons (r_var (d := (Et Ei).enc lot) rfl ((Et Ei).imm _)) r_anil rfl) (drfs_cons drf_own drfs_nil) (f_lenT Ei lot)) (r_acons r_c r_anil rfl) rfl) (drfs_cons drf_own (drfs_cons drf_own drfs_nil)) (f_eq Ei (List.length lot : Int) (0 : Int) rfl))) (fun _ => (k_last (k_asgF (Er (R1 Ei)).enc (r_tup (r_acons r_c r_anil rfl) rfl (Nat.le_of_ble_eq_true rfl)) (by exact Nat.le_of_ble_eq_true rfl) fun lot => (k_eqA (A' := [.any, .is (boxE a13'.2), .is (Ei.enc many), .is ((Lx (Et Ei)) s5'.2), .is (Ei.enc t6'), .is ((Er (R1 Ei)).enc lot), .any, .any, .any, .any, .any, .any, .any, .any, .any, .any]) rfl (k_nx (nx_le (by exact (.any (.eq (.eq (.eq (.eq (.eq (.any (.any (.any (.any (.any (.any (.any (.any (.any (.any .nil))))))))))))))))))))))) (fun _ => (k_nx (nx_le (by exact (.any (.eq (.eq (.eq (.eq (.eq (.any (.any (.any (.any (.any (.any (.any (.any (.any (.any .nil)))))))))))))))))))) fun lot => (k_last (k_bnd fun lots15' h16' => (k_expr (r_push (E := (Et Ei)) h16' (r_varM (d := (Lx (Et Ei)) s5'.2) rfl rfl) rfl (r_takeI (d := (Et Ei).enc lot) rfl ((Et Ei).imm _)) rfl) (k_nx (nx_le (by exact (.any (.eq (.eq (.eq (.any (.any (.any (.any (.any (.any (.any (.any (.any (.any (.any (.any .nil)))))))))))))))))))))))))) fun s5' => (k_asgF (Lx (Ea (Ac (Rc Es (R1 (Et Ei))) (A1 (Rc Es (Rc (Et Ei) (Rc (Et Ei) (R1 Ei))))) rfl))) (r_lst r_anil rfl (Nat.le_of_ble_eq_true rfl)) (by exact Nat.le_of_ble_eq_true rfl) fun deeds => (k_bnd fun v17' h18' => k_bnd fun r19' h20' => (k_forN (fun s21' => [.any, .is (boxE s21'.1), .is (Ei.enc many), .is ((Lx (Et Ei)) s5'.2), .any, .any, .is ((Lx (Ea (Ac (Rc Es (R1 (Et Ei))) (A1 (Rc Es (Rc (Et Ei) (Rc (Et Ei) (R1 Ei))))) rfl))) s21'.2), .any, .any, .any, .any, .any, .any, .any, .any, .any]) (i_rng1 (r_acons (r_draw rfl r_c h18') r_anil rfl) h20') (by exact (.any (.eq (.eq (.eq (.any (.any (.eq (.any (.any (.any (.any (.any (.any (.any (.any (.any .nil))))))))))))))))) rfl (fun _ => gd_nil) (fun t22' s21' => (b_name (by exact Nat.le_of_ble_eq_true rfl))) (fun t22' s21' => (k_bnd fun v23' h24' => k_bnd fun a25' h26' => (k_asgF (Et Ei).enc (r_sub (r_varM (d := (Lx (Et Ei)) s5'.2) rfl rfl) (r_draw rfl r_c h24') rfl (drf_at rfl) drf_own (s_L (Et Ei) h26')) (by exact Nat.le_of_ble_eq_true rfl) fun ask => (k_eqA (A' := [.any, .is (boxE v23'.2), .is (Ei.enc many), .is ((Lx (Et Ei)) s5'.2), .is (Ei.enc t22'), .any, .is ((Lx (Ea (Ac (Rc Es (R1 (Et Ei))) (A1 (Rc Es (Rc (Et Ei) (Rc (Et Ei) (R1 Ei))))) rfl))) s21'.2), .is ((Et Ei).enc ask), .any, .any, .any, .any, .any, .any, .any, .any]) rfl (k_last (k_bnd fun v27' h28' => (k_ifJ (A' := (fun s39' => [.any, .is (boxE s39'.1), .is (Ei.enc many), .is ((Lx (Et Ei)) s5'.2), .is (Ei.enc t22'), .any, .is ((Lx (Ea (Ac (Rc Es (R1 (Et Ei))) (A1 (Rc Es (Rc (Et Ei) (Rc (Et Ei) (R1 Ei))))) rfl))) s39'.2), .is ((Et Ei).enc ask), .any, .any, .any, .any, .any, .any, .any, .any])) (r_tb (r_call (r_acons (r_draw rfl r_c h28') (r_acons r_c r_anil rfl) rfl) (drfs_cons drf_own (drfs_cons drf_own drfs_nil)) (f_eq Ei v27'.1 (0 : Int) rfl))) (fun _ => (k_last (k_bnd fun v29' h30' => k_bnd fun a31' h32' => k_bnd fun v33' h34' => k_bnd fun deeds35' h36' => (k_expr (r_push (E := (Ea (Ac (Rc Es (R1 (Et Ei))) (A1 (Rc Es (Rc (Et Ei) (Rc (Et Ei) (R1 Ei))))) rfl))) h36' (r_varM (d := (Lx (Ea (Ac (Rc Es (R1 (Et Ei))) (A1 (Rc Es (Rc (Et Ei) (Rc (Et Ei) (R1 Ei))))) rfl))) s21'.2) rfl rfl) rfl (r_tup (r_acons r_c (r_acons (r_var (d := (Et Ei).enc ask) rfl ((Et Ei).imm _)) (r_acons (r_sub (r_varM (d := (Lx (Et Ei)) s5'.2) rfl rfl) (r_draw rfl r_c h30') rfl (drf_at rfl) drf_own (s_L (Et Ei) h32')) (r_acons (r_call (r_acons r_c (r_acons (r_draw rfl r_c h34') r_anil rfl) rfl) (drfs_cons drf_own (drfs_cons drf_own drfs_nil)) (f_add _ _)) r_anil rfl) rfl) rfl) rfl) rfl (Nat.le_of_ble_eq_true rfl)) rfl) (k_nx (nx_le (by exact (.any (.eq (.eq (.eq (.eq (.any (.eq (.eq (.any (.any (.any (.any (.any (.any (.any (.any .nil))))))))))))))))))))))) (fun _ => (k_last (k_bnd fun deeds37' h38' => (k_expr (r_push (E := (Ea (Ac (Rc Es (R1 (Et Ei))) (A1 (Rc Es (Rc (Et Ei) (Rc (Et Ei) (R1 Ei))))) rfl))) h38' (r_varM (d := (Lx (Ea (Ac (Rc Es (R1 (Et Ei))) (A1 (Rc Es (Rc (Et Ei) (Rc (Et Ei) (R1 Ei))))) rfl))) s21'.2) rfl rfl) rfl (r_tup (r_acons r_c (r_acons (r_var (d := (Et Ei).enc ask) rfl ((Et Ei).imm _)) r_anil rfl) rfl) rfl (Nat.le_of_ble_eq_true rfl)) rfl) (k_nx (nx_le (by exact (.any (.eq (.eq (.eq (.eq (.any (.eq (.eq (.any (.any (.any (.any (.any (.any (.any (.any .nil))))))))))))))))))))))) fun s39' => (k_nx (nx_le (by exact (.any (.eq (.eq (.eq (.any (.any (.eq (.any (.any (.any (.any (.any (.any (.any (.any (.any .nil)))))))))))))))))))))))))) fun s21' => (k_bnd fun a40' h41' => (k_asgF (Lx (Er (Rc Ei (R1 Ei)))) (r_call (r_acons (r_lst (r_acons (r_tup (r_acons r_c (r_acons r_c r_anil rfl) rfl) rfl (Nat.le_of_ble_eq_true rfl)) r_anil rfl) rfl (Nat.le_of_ble_eq_true rfl)) (r_acons (r_var (d := Ei.enc many) rfl (Ei.imm _)) r_anil rfl) rfl) (drfs_cons drf_own (drfs_cons drf_own drfs_nil)) (f_repL (Er (Rc Ei (R1 Ei))) h41')) (by exact Nat.le_of_ble_eq_true rfl) fun copies => (k_asgF (Lx (Ext Ei)) (r_lst r_anil rfl (Nat.le_of_ble_eq_true rfl)) (by exact Nat.le_of_ble_eq_true rfl) fun due => (k_eqA (A' := [.any, .is (boxE s21'.1), .is (Ei.enc many), .is ((Lx (Et Ei)) s5'.2), .any, .any, .is ((Lx (Ea (Ac (Rc Es (R1 (Et Ei))) (A1 (Rc Es (Rc (Et Ei) (Rc (Et Ei) (R1 Ei))))) rfl))) s21'.2), .any, .is ((Lx (Er (Rc Ei (R1 Ei)))) copies), .is ((Lx (Ext Ei)) due), .any, .any, .any, .any, .any, .any]) rfl (k_asgF (Er (Rc Ei (R1 Ei))).enc (r_tup (r_acons r_c (r_acons r_c r_anil rfl) rfl) rfl (Nat.le_of_ble_eq_true rfl)) (by exact Nat.le_of_ble_eq_true rfl) fun last => (k_asgF (Lx (Er (Rc (Ext Ei) (R1 (Er (Rc Ei (R1 Ei))))))) (r_lst r_anil rfl (Nat.le_of_ble_eq_true rfl)) (by exact Nat.le_of_ble_eq_true rfl) fun seen => (k_forN (fun s42' => [.any, .is (boxE s21'.1), .is (Ei.enc many), .is ((Lx (Et Ei)) s5'.2), .any, .any, .is ((Lx (Ea (Ac (Rc Es (R1 (Et Ei))) (A1 (Rc Es (Rc (Et Ei) (Rc (Et Ei) (R1 Ei))))) rfl))) s21'.2), .any, .is ((Lx (Er (Rc Ei (R1 Ei)))) s42'.1), .is ((Lx (Ext Ei)) s42'.2.1), .is ((Er (Rc Ei (R1 Ei))).enc s42'.2.2.1), .is ((Lx (Er (Rc (Ext Ei) (R1 (Er (Rc Ei (R1 Ei))))))) s42'.2.2.2), .any, .any, .any, .any]) (i_V (Ea (Ac (Rc Es (R1 (Et Ei))) (A1 (Rc Es (Rc (Et Ei) (Rc (Et Ei) (R1 Ei))))) rfl)) (r_varM (d := (Lx (Ea (Ac (Rc Es (R1 (Et Ei))) (A1 (Rc Es (Rc (Et Ei) (Rc (Et Ei) (R1 Ei))))) rfl))) s21'.2) rfl rfl) rfl) (by exact (.any (.eq (.eq (.eq (.any (.any (.eq (.any (.eq (.eq (.eq (.eq (.any (.any (.any (.any .nil))))))))))))))))) rfl (fun _ => (gd_cons rfl gd_nil)) (fun t43' s42' => (b_name (by exact Nat.le_of_ble_eq_true rfl))) (fun t43' s42' => (k_last (k_bnd fun a44' h45' => (k_ifJ (A' := (fun s81' => [.any, .is (boxE s21'.1), .is (Ei.enc many), .is ((Lx (Et Ei)) s5'.2), .any, .any, .is ((Lx (Ea (Ac (Rc Es (R1 (Et Ei))) (A1 (Rc Es (Rc (Et Ei) (Rc (Et Ei) (R1 Ei))))) rfl))) s21'.2), .any, .is ((Lx (Er (Rc Ei (R1 Ei)))) s81'.1), .is ((Lx (Ext Ei)) s81'.2.1), .is ((Er (Rc Ei (R1 Ei))).enc s81'.2.2.1), .is ((Lx (Er (Rc (Ext Ei) (R1 (Er (Rc Ei (R1 Ei))))))) s81'.2.2.2), .is ((Ea (Ac (Rc Es (R1 (Et Ei))) (A1 (Rc Es (Rc (Et Ei) (Rc (Et Ei) (R1 Ei))))) rfl)).enc t43'), .any, .any, .any])) (r_tb (r_call (r_acons (r_sub (i := (0 : Int)) (r_var (d := (Ea (Ac (Rc Es (R1 (Et Ei))) (A1 (Rc Es (Rc (Et Ei) (Rc (Et Ei) (R1 Ei))))) rfl)).enc t43') rfl ((Ea (Ac (Rc Es (R1 (Et Ei))) (A1 (Rc Es (Rc (Et Ei) (Rc (Et Ei) (R1 Ei))))) rfl)).imm _)) r_c rfl drf_own drf_own (s_A (Ac (Rc Es (R1 (Et Ei))) (A1 (Rc Es (Rc (Et Ei) (Rc (Et Ei) (R1 Ei))))) rfl) (sel := (Sum.elim (fun z => some z.1) (fun z => some z.1))) (E := Es) (by intro a v h; rcases a with z | z <;> cases h <;> rfl) h45')) (r_acons r_c r_anil rfl) rfl) (drfs_cons drf_own (drfs_cons drf_own drfs_nil)) (f_eq Es a44' (("write" : String) : Str) rfl))) (fun _ => (k_bnd fun a46' h47' => k_bnd fun a51' h52' => k_bnd fun a53' h54' => (k_asgF Ei.enc (r_call (r_acons r_c (r_acons (r_call (r_acons (r_lcO (g := Ei.enc) (i_T Ei (r_sub (i := (1 : Int)) (r_var (d := (Ea (Ac (Rc Es (R1 (Et Ei))) (A1 (Rc Es (Rc (Et Ei) (Rc (Et Ei) (R1 Ei))))) rfl)).enc t43') rfl ((Ea (Ac (Rc Es (R1 (Et Ei))) (A1 (Rc Es (Rc (Et Ei) (Rc (Et Ei) (R1 Ei))))) rfl)).imm _)) r_c rfl drf_own drf_own (s_A (Ac (Rc Es (R1 (Et Ei))) (A1 (Rc Es (Rc (Et Ei) (Rc (Et Ei) (R1 Ei))))) rfl) (sel := (Sum.elim (fun z => some z.2) (fun z => some z.2.1))) (E := (Et Ei)) (by intro a v h; rcases a with z | z <;> cases h <;> rfl) h47'))) rfl gd_nil ⟨fun t48' => (b_name (by exact Nat.le_of_ble_eq_true rfl)), fun t48' => (to_some r_yes), fun t48' y1 _ => (o_bnd fun a49' h50' => o_some (ex := Ei.enc) (v := a49'.1) (r_sub (i := (0 : Int)) (r_sub (r_varM (d := (Lx (Er (Rc Ei (R1 Ei)))) s42'.1) rfl rfl) (r_var (d := Ei.enc t48') rfl (Ei.imm _)) rfl (drf_at rfl) drf_own (s_L (Er (Rc Ei (R1 Ei))) h50')) r_c rfl drf_own drf_own (s_R (d := Ei.enc a49'.1) rfl (Ei.imm _)))) y1, by decide⟩ h52') r_anil rfl) (drfs_cons drf_own drfs_nil) (f_max (xs := a51') Ei rfl h54' rfl rfl rfl)) r_anil rfl) rfl) (drfs_cons drf_own (drfs_cons drf_own drfs_nil)) (f_add _ _)) (by exact Nat.le_of_ble_eq_true rfl) fun moment => (k_eqA (A' := [.any, .is (boxE s21'.1), .is (Ei.enc many), .is ((Lx (Et Ei)) s5'.2), .any, .any, .is ((Lx (Ea (Ac (Rc Es (R1 (Et Ei))) (A1 (Rc Es (Rc (Et Ei) (Rc (Et Ei) (R1 Ei))))) rfl))) s21'.2), .any, .is ((Lx (Er (Rc Ei (R1 Ei)))) s42'.1), .is ((Lx (Ext Ei)) s42'.2.1), .is ((Er (Rc Ei (R1 Ei))).enc s42'.2.2.1), .is ((Lx (Er (Rc (Ext Ei) (R1 (Er (Rc Ei (R1 Ei))))))) s42'.2.2.2), .is ((Ea (Ac (Rc Es (R1 (Et Ei))) (A1 (Rc Es (Rc (Et Ei) (Rc (Et Ei) (R1 Ei))))) rfl)).enc t43'), .is (Ei.enc moment), .any, .any]) rfl (k_bnd fun a55' h56' => (k_forN (fun copies' => [.any, .is (boxE s21'.1), .is (Ei.enc many), .is ((Lx (Et Ei)) s5'.2), .any, .any, .is ((Lx (Ea (Ac (Rc Es (R1 (Et Ei))) (A1 (Rc Es (Rc (Et Ei) (Rc (Et Ei) (R1 Ei))))) rfl))) s21'.2), .any, .is ((Lx (Er (Rc Ei (R1 Ei)))) copies'), .is ((Lx (Ext Ei)) s42'.2.1), .is ((Er (Rc Ei (R1 Ei))).enc s42'.2.2.1), .is ((Lx (Er (Rc (Ext Ei) (R1 (Er (Rc Ei (R1 Ei))))))) s42'.2.2.2), .is ((Ea (Ac (Rc Es (R1 (Et Ei))) (A1 (Rc Es (Rc (Et Ei) (Rc (Et Ei) (R1 Ei))))) rfl)).enc t43'), .is (Ei.enc moment), .any, .any]) (i_T Ei (r_sub (i := (2 : Int)) (r_var (d := (Ea (Ac (Rc Es (R1 (Et Ei))) (A1 (Rc Es (Rc (Et Ei) (Rc (Et Ei) (R1 Ei))))) rfl)).enc t43') rfl ((Ea (Ac (Rc Es (R1 (Et Ei))) (A1 (Rc Es (Rc (Et Ei) (Rc (Et Ei) (R1 Ei))))) rfl)).imm _)) r_c rfl drf_own drf_own (s_A (Ac (Rc Es (R1 (Et Ei))) (A1 (Rc Es (Rc (Et Ei) (Rc (Et Ei) (R1 Ei))))) rfl) (sel := (Sum.elim (fun z => (none : Option (List Int))) (fun z => some z.2.2.1))) (E := (Et Ei)) (by intro a v h; rcases a with z | z <;> cases h <;> rfl) h56'))) (by exact (.any (.eq (.eq (.eq (.any (.any (.eq (.any (.eq (.eq (.eq (.eq (.eq (.eq (.any (.any .nil))))))))))))))))) rfl (fun _ => gd_nil) (fun t57' copies' => (b_name (by exact Nat.le_of_ble_eq_true rfl))) (fun t57' copies' => (k_last (k_bnd fun a58' h59' => (k_set (E := (Er (Rc Ei (R1 Ei)))) (r_tup (r_acons (r_var (d := Ei.enc moment) rfl (Ei.imm _)) (r_acons (r_sub (i := (3 : Int)) (r_var (d := (Ea (Ac (Rc Es (R1 (Et Ei))) (A1 (Rc Es (Rc (Et Ei) (Rc (Et Ei) (R1 Ei))))) rfl)).enc t43') rfl ((Ea (Ac (Rc Es (R1 (Et Ei))) (A1 (Rc Es (Rc (Et Ei) (Rc (Et Ei) (R1 Ei))))) rfl)).imm _)) r_c rfl drf_own drf_own (s_A (Ac (Rc Es (R1 (Et Ei))) (A1 (Rc Es (Rc (Et Ei) (Rc (Et Ei) (R1 Ei))))) rfl) (sel := (Sum.elim (fun z => (none : Option Int)) (fun z => some z.2.2.2))) (E := Ei) (by intro a v h; rcases a with z | z <;> cases h <;> rfl) h59')) r_anil rfl) rfl) rfl (Nat.le_of_ble_eq_true rfl)) (r_varM (d := (Lx (Er (Rc Ei (R1 Ei)))) copies') rfl rfl) (r_var (d := Ei.enc t57') rfl (Ei.imm _)) rfl fun copies60' h61' => (k_nx (nx_le (by exact (.any (.eq (.eq (.eq (.any (.any (.eq (.any (.eq (.eq (.eq (.eq (.eq (.eq (.any (.any .nil))))))))))))))))))))))) fun copies' => (k_bnd fun due62' h63' => (k_expr (r_push (E := (Ext Ei)) h63' (r_varM (d := (Lx (Ext Ei)) s42'.2.1) rfl rfl) rfl (r_takeI (d := Ei.enc moment) rfl (Ei.imm _)) rfl) (k_last (k_bnd fun a64' h65' => (k_asgF (Er (Rc Ei (R1 Ei))).enc (r_tup (r_acons (r_var (d := Ei.enc moment) rfl (Ei.imm _)) (r_acons (r_sub (i := (3 : Int)) (r_var (d := (Ea (Ac (Rc Es (R1 (Et Ei))) (A1 (Rc Es (Rc (Et Ei) (Rc (Et Ei) (R1 Ei))))) rfl)).enc t43') rfl ((Ea (Ac (Rc Es (R1 (Et Ei))) (A1 (Rc Es (Rc (Et Ei) (Rc (Et Ei) (R1 Ei))))) rfl)).imm _)) r_c rfl drf_own drf_own (s_A (Ac (Rc Es (R1 (Et Ei))) (A1 (Rc Es (Rc (Et Ei) (Rc (Et Ei) (R1 Ei))))) rfl) (sel := (Sum.elim (fun z => (none : Option Int)) (fun z => some z.2.2.2))) (E := Ei) (by intro a v h; rcases a with z | z <;> cases h <;> rfl) h65')) r_anil rfl) rfl) rfl (Nat.le_of_ble_eq_true rfl)) (by exact Nat.le_of_ble_eq_true rfl) fun last => (k_nx (nx_le (by exact (.any (.eq (.eq (.eq (.any (.any (.eq (.any (.eq (.eq (.eq (.eq (.eq (.any (.any (.any .nil)))))))))))))))))))))))))))))) (fun _ => (k_bnd fun a66' h67' => k_bnd fun a71' h72' => k_bnd fun a73' h74' => k_bnd fun due75' h76' => (k_expr (r_push (E := (Ext Ei)) h76' (r_varM (d := (Lx (Ext Ei)) s42'.2.1) rfl rfl) rfl (r_call (r_acons (r_lcO (g := (Er (Rc Ei (R1 Ei))).enc) (i_T Ei (r_sub (i := (1 : Int)) (r_var (d := (Ea (Ac (Rc Es (R1 (Et Ei))) (A1 (Rc Es (Rc (Et Ei) (Rc (Et Ei) (R1 Ei))))) rfl)).enc t43') rfl ((Ea (Ac (Rc Es (R1 (Et Ei))) (A1 (Rc Es (Rc (Et Ei) (Rc (Et Ei) (R1 Ei))))) rfl)).imm _)) r_c rfl drf_own drf_own (s_A (Ac (Rc Es (R1 (Et Ei))) (A1 (Rc Es (Rc (Et Ei) (Rc (Et Ei) (R1 Ei))))) rfl) (sel := (Sum.elim (fun z => some z.2) (fun z => some z.2.1))) (E := (Et Ei)) (by intro a v h; rcases a with z | z <;> cases h <;> rfl) h67'))) rfl gd_nil ⟨fun t68' => (b_name (by exact Nat.le_of_ble_eq_true rfl)), fun t68' => (to_some r_yes), fun t68' y1 _ => (o_bnd fun a69' h70' => o_some (ex := (Er (Rc Ei (R1 Ei))).enc) (v := a69') (r_sub (r_varM (d := (Lx (Er (Rc Ei (R1 Ei)))) s42'.1) rfl rfl) (r_var (d := Ei.enc t68') rfl (Ei.imm _)) rfl (drf_at rfl) drf_own (s_L (Er (Rc Ei (R1 Ei))) h70'))) y1, by decide⟩ h72') r_anil rfl) (drfs_cons drf_own drfs_nil) (f_max (xs := a71') (Er (Rc Ei (R1 Ei))) rfl h74' rfl rfl rfl)) rfl) (k_last (k_bnd fun a77' h78' => k_bnd fun seen79' h80' => (k_expr (r_push (E := (Er (Rc (Ext Ei) (R1 (Er (Rc Ei (R1 Ei))))))) h80' (r_varM (d := (Lx (Er (Rc (Ext Ei) (R1 (Er (Rc Ei (R1 Ei))))))) s42'.2.2.2) rfl rfl) rfl (r_tup (r_acons (r_sub (r_varM (d := (Lx (Ext Ei)) due75') rfl rfl) (r_call (r_acons r_c r_anil rfl) (drfs_cons drf_own drfs_nil) (f_neg _)) rfl (drf_at rfl) drf_own (s_L (Ext Ei) h78')) (r_acons (r_var (d := (Er (Rc Ei (R1 Ei))).enc s42'.2.2.1) rfl ((Er (Rc Ei (R1 Ei))).imm _)) r_anil rfl) rfl) rfl (Nat.le_of_ble_eq_true rfl)) rfl) (k_nx (nx_le (by exact (.any (.eq (.eq (.eq (.any (.any (.eq (.any (.eq (.eq (.eq (.eq (.eq (.any (.any (.any .nil))))))))))))))))))))))))) fun s81' => (k_nx (nx_le (by exact (.any (.eq (.eq (.eq (.any (.any (.eq (.any (.eq (.eq (.eq (.eq (.any (.any (.any (.any .nil))))))))))))))))))))))) fun s42' => (k_bnd fun a82' h83' => k_bnd fun a84' h85' => (k_if (r_not (r_tv (r_user (r_acons (r_user (r_acons (r_var (d := Ei.enc many) rfl (Ei.imm _)) (r_acons (r_call (r_acons (r_varM (d := (Lx (Ea (Ac (Rc Es (R1 (Et Ei))) (A1 (Rc Es (Rc (Et Ei) (Rc (Et Ei) (R1 Ei))))) rfl))) s21'.2) rfl rfl) r_anil rfl) (drfs_cons (drf_at rfl) drfs_nil) (f_tuple (Ea (Ac (Rc Es (R1 (Et Ei))) (A1 (Rc Es (Rc (Et Ei) (Rc (Et Ei) (R1 Ei))))) rfl)) s21'.2)) r_anil rfl) rfl) rfl (drfs_cons drf_own (drfs_cons drf_own drfs_nil)) (ref_run_register h83') (.own (.own .nil))) (r_acons (r_call (r_acons (r_varM (d := (Lx (Ext Ei)) s42'.2.1) rfl rfl) r_anil rfl) (drfs_cons (drf_at rfl) drfs_nil) (f_tuple (Ext Ei) s42'.2.1)) r_anil rfl) rfl) rfl (drfs_cons drf_own (drfs_cons drf_own drfs_nil)) (f_same (Et (Ext Ei)) h85' rfl) (.own (.own .nil))) drf_own (t_B _))) (fun _ => (k_ret r_c (rt_le (by exact (.any (.any (.any (.any (.any (.any (.any (.any (.any (.any (.any (.any (.any (.any (.any (.any .nil)))))))))))))))))))) (fun _ => (k_nil (k_bnd fun a86' h87' => (k_if (r_tb (r_call (r_acons (r_user (r_acons (r_call (r_acons (r_varM (d := (Lx (Et Ei)) s5'.2) rfl rfl) r_anil rfl) (drfs_cons (drf_at rfl) drfs_nil) (f_tuple (Et Ei) s5'.2)) r_anil rfl) rfl (drfs_cons drf_own drfs_nil) (ref_decide_meet h87') (.own .nil)) (r_acons (r_tup (r_acons r_c r_anil rfl) rfl (Nat.le_of_ble_eq_true rfl)) r_anil rfl) rfl) (drfs_cons drf_own (drfs_cons drf_own drfs_nil)) (f_eq (Ea (Ac (R1 Es) (A1 (Rc Es (Rc (Et Ei) (R1 (Et Ei))))) rfl)) a86' (Sum.inl (("meet" : String) : Str)) rfl))) (fun _ => (k_bnd fun a89' h90' => (k_ret (r_call (r_acons (r_call (r_acons (r_lcO (g := (Er (Rc (Ext Ei) (R1 (Er (Rc Ei (R1 Ei)))))).enc) (i_V (Er (Rc (Ext Ei) (R1 (Er (Rc Ei (R1 Ei)))))) (r_varM (d := (Lx (Er (Rc (Ext Ei) (R1 (Er (Rc Ei (R1 Ei))))))) s42'.2.2.2) rfl rfl) rfl) rfl (gd_cons rfl gd_nil) ⟨fun t88' => (b_name (by exact Nat.le_of_ble_eq_true rfl)), fun t88' => (to_some (r_tb (r_call (r_acons (r_sub (i := (0 : Int)) (r_var (d := (Er (Rc (Ext Ei) (R1 (Er (Rc Ei (R1 Ei)))))).enc t88') rfl ((Er (Rc (Ext Ei) (R1 (Er (Rc Ei (R1 Ei)))))).imm _)) r_c rfl drf_own drf_own (s_R (d := (Ext Ei).enc t88'.1) rfl ((Ext Ei).imm _))) (r_acons (r_sub (i := (1 : Int)) (r_var (d := (Er (Rc (Ext Ei) (R1 (Er (Rc Ei (R1 Ei)))))).enc t88') rfl ((Er (Rc (Ext Ei) (R1 (Er (Rc Ei (R1 Ei)))))).imm _)) r_c rfl drf_own drf_own (s_R (d := (Er (Rc Ei (R1 Ei))).enc t88'.2) rfl ((Er (Rc Ei (R1 Ei))).imm _))) r_anil rfl) rfl) (drfs_cons drf_own (drfs_cons drf_own drfs_nil)) (f_ne (Ext Ei) t88'.1 (Sum.inr [t88'.2.1, t88'.2.2]) rfl)))), fun t88' y1 _ => (o_some (ex := (Er (Rc (Ext Ei) (R1 (Er (Rc Ei (R1 Ei)))))).enc) (v := t88') (r_var (d := (Er (Rc (Ext Ei) (R1 (Er (Rc Ei (R1 Ei)))))).enc t88') rfl ((Er (Rc (Ext Ei) (R1 (Er (Rc Ei (R1 Ei)))))).imm _))) y1, by decide⟩ h90') r_anil rfl) (drfs_cons drf_own drfs_nil) (f_lenL (Er (Rc (Ext Ei) (R1 (Er (Rc Ei (R1 Ei)))))) a89')) (r_acons r_c r_anil rfl) rfl) (drfs_cons drf_own (drfs_cons drf_own drfs_nil)) (f_eq Ei (List.length a89' : Int) (0 : Int) rfl)) (rt_le (by exact (.any (.any (.any (.any (.any (.any (.any (.any (.any (.any (.any (.any (.any (.any (.any (.any .nil))))))))))))))))))))) (fun _ => (k_nil (k_last (k_ret r_c (rt_le (by exact (.any (.any (.any (.any (.any (.any (.any (.any (.any (.any (.any (.any (.any (.any (.any (.any .nil))))))))))))))))))))))))))))))))))))))))))))
theorem law_true (hb : ∀ box : Box, n_law box = some true) (ns : List Int) (c : List D → D) (hc : c = .lst ∨ c = .frz) : ∃ fs, d_law [c (ns.map .int)] = some (.bl true, fs) := by
  obtain ⟨b, e⟩ := box_step hc ns
  obtain ⟨out, e2, δ, rfl, a⟩ := ref_law b true (hb b) (some (c (ns.map .int)) :: some (boxE b) :: List.replicate 14 none) ⟨rfl, fun i d h => by
    match i, h with
    | 0, h => cases h
    | 1, h => cases h; rfl
    | i + 2, h =>
      have : ([.any, .any, .any, .any, .any, .any, .any, .any, .any, .any, .any, .any, .any, .any] : List Sl)[i]? = some (.is d) := h
      have h2 := List.mem_of_getElem? this
      simp at h2⟩
  have e3 := (e r_law (List.replicate 14 none)).trans e2
  exact ⟨_, by simp only [d_law, dFn]; exact (show _ = _ from by rw [show m_law (env0 16 1 [c (ns.map .int)]) = some (Out.rt (.bl true) δ) from e3]; rfl)⟩
end P66


set_option Elab.async false
set_option linter.all false
set_option maxRecDepth 100000
set_option maxHeartbeats 20000000
set_option synthInstance.maxHeartbeats 400000
set_option synthInstance.maxSize 4000
namespace P66
open PySem PySem.Spec PyProof.Rows L2 Z Y
/-! the head -/
def tf : List He.Defn := ("decide_meet", none) :: ("run_register", none) :: ("_law_box", none) :: ("_law_digits", none) :: ("_law_cell", none) :: ("_law_draw", none) :: ("_law_same", none) :: ("law", none) :: ("Register", some "__init__") :: ("Register", some "write") :: ("Register", some "read") :: []
def fn : List He.DefD := [dOf "decide_meet" (top 1), dOf "run_register" (top 3), dOf "_law_box" (top 5), dOf "_law_digits" (top 6), dOf "_law_cell" (top 7), dOf "_law_draw" (top 8), dOf "_law_same" (top 9), dOf "law" (top 10), mOf "Register" "__init__" "Register.__init__" (inClass (top 2) 0), mOf "Register" "write" "Register.write" (inClass (top 2) 1), mOf "Register" "read" "Register.read" (inClass (top 2) 2)]
def fa : List He.Fa := [.glo "decide_meet", .glo "run_register", .glo "_law_box", .glo "_law_digits", .glo "_law_cell", .glo "_law_draw", .glo "_law_same", .glo "law", .free "range", .free "len", .free "int", .free "tuple", .free "max", .free "isinstance", .free "bool", .free "str", .free "enumerate", .free "any", .glo "Register", .cls "Register", .noat "Register" "copies", .meth "Register" "__init__", .meth "Register" "write", .meth "Register" "read", .mkr "Register"]
abbrev RR : PySem.W.OpenRow := PySem.W.OpenLaw.row PySem.Challenge.rw_tracehouse_k66_reads_see_writes
abbrev hk : PySem.W.Hook := He.hookX 5 fa fn [] tf (exTabs tf)
def ob (s : PySem.W.SharedT) : He.AlX := He.obsX 5 fa fn [] tf (exTabs tf) (HandSHeadRun.getT s)
theorem ob_eq (s : PySem.W.SharedT) : ob s = hk.obs s.abs := He.obsX_eq (HandSHeadRun.getT_eq s)
def names : List Str := ["Register", "decide_meet", "run_register", "_law_box", "_law_digits", "_law_cell", "_law_draw", "_law_same"]
set_option maxHeartbeats 0 in
theorem run (w : World) : HandSHeadRun.RunEq RR (PySem.W.view RR.prog [10]) hk ob 1100 names w := by
  intro os
  kernel_rfl
theorem facts {w : World} {K : PySem.W.Frag} {h : Heap} {mg : Str → Option Value} {f : Addr} (X : K.In h) (G : h.Ns mainGlobals mg) (hfa : mg ("law" : Str) = some (.ref f)) (c : He.SaysX fa fn [] tf (exTabs tf) w h K)
    (hm : ∀ (ns : List Int) (c : List D → D), c = .lst ∨ c = .frz → ns.length ≤ 63 → (∀ z ∈ ns, Builtin.Int.intBits z ≤ 1048576) → ∃ fs, d_law [c (ns.map .int)] = some (.bl true, fs)) :
    LamX.LawAtS PySem.Challenge.rw_tracehouse_k66_reads_see_writes w K CX0 6 63 "script" mg f h := by
  obtain ⟨g_decide_meet, D_decide_meet, b_decide_meet⟩ := Def.of X G c (x := "decide_meet") (st := top 1) (ps := ["lots"]) (List.mem_of_getElem? (i := 0) rfl) (List.mem_of_getElem? (i := 0) rfl) (List.mem_of_getElem? (i := 0) rfl) (fun _ _ _ _ _ _ us hl => match us, hl with | [_], _ => rfl)
  obtain ⟨g_run_register, D_run_register, b_run_register⟩ := Def.of X G c (x := "run_register") (st := top 3) (ps := ["many", "deeds"]) (List.mem_of_getElem? (i := 1) rfl) (List.mem_of_getElem? (i := 1) rfl) (List.mem_of_getElem? (i := 1) rfl) (fun _ _ _ _ _ _ us hl => match us, hl with | [_, _], _ => rfl)
  obtain ⟨g_law_box, D_law_box, b_law_box⟩ := Def.of X G c (x := "_law_box") (st := top 5) (ps := ["script", "first", "last"]) (List.mem_of_getElem? (i := 2) rfl) (List.mem_of_getElem? (i := 2) rfl) (List.mem_of_getElem? (i := 2) rfl) (fun _ _ _ _ _ _ us hl => match us, hl with | [_, _, _], _ => rfl)
  obtain ⟨g_law_digits, D_law_digits, b_law_digits⟩ := Def.of X G c (x := "_law_digits") (st := top 6) (ps := ["script", "first", "last"]) (List.mem_of_getElem? (i := 3) rfl) (List.mem_of_getElem? (i := 3) rfl) (List.mem_of_getElem? (i := 3) rfl) (fun _ _ _ _ _ _ us hl => match us, hl with | [_, _, _], _ => rfl)
  obtain ⟨g_law_cell, D_law_cell, b_law_cell⟩ := Def.of X G c (x := "_law_cell") (st := top 7) (ps := ["script", "k"]) (List.mem_of_getElem? (i := 4) rfl) (List.mem_of_getElem? (i := 4) rfl) (List.mem_of_getElem? (i := 4) rfl) (fun _ _ _ _ _ _ us hl => match us, hl with | [_, _], _ => rfl)
  obtain ⟨g_law_draw, D_law_draw, b_law_draw⟩ := Def.of X G c (x := "_law_draw") (st := top 8) (ps := ["box", "many"]) (List.mem_of_getElem? (i := 5) rfl) (List.mem_of_getElem? (i := 5) rfl) (List.mem_of_getElem? (i := 5) rfl) (fun _ _ _ _ _ _ us hl => match us, hl with | [_, _], _ => rfl)
  obtain ⟨g_law_same, D_law_same, b_law_same⟩ := Def.of X G c (x := "_law_same") (st := top 9) (ps := ["actual", "expected"]) (List.mem_of_getElem? (i := 6) rfl) (List.mem_of_getElem? (i := 6) rfl) (List.mem_of_getElem? (i := 6) rfl) (fun _ _ _ _ _ _ us hl => match us, hl with | [_, _], _ => rfl)
  obtain ⟨g_law, D_law, b_law⟩ := Def.of X G c (x := "law") (st := top 10) (ps := ["script"]) (List.mem_of_getElem? (i := 7) rfl) (List.mem_of_getElem? (i := 7) rfl) (List.mem_of_getElem? (i := 7) rfl) (fun _ _ _ _ _ _ us hl => match us, hl with | [_], _ => rfl)
  obtain ⟨g_Register___init__, D_Register___init__⟩ := MDef.of X c (C := "Register") (m := "__init__") (q := "Register.__init__") (st := (inClass (top 2) 0)) (ps := ["self", "many"]) (List.mem_of_getElem? (i := 8) rfl) (List.mem_of_getElem? (i := 8) rfl) (List.mem_of_getElem? (i := 21) rfl) (fun _ _ _ _ _ _ us hl => match us, hl with | [_, _], _ => rfl)
  obtain ⟨g_Register_write, D_Register_write⟩ := MDef.of X c (C := "Register") (m := "write") (q := "Register.write") (st := (inClass (top 2) 1)) (ps := ["self", "ask", "tell", "value"]) (List.mem_of_getElem? (i := 9) rfl) (List.mem_of_getElem? (i := 9) rfl) (List.mem_of_getElem? (i := 22) rfl) (fun _ _ _ _ _ _ us hl => match us, hl with | [_, _, _, _], _ => rfl)
  obtain ⟨g_Register_read, D_Register_read⟩ := MDef.of X c (C := "Register") (m := "read") (q := "Register.read") (st := (inClass (top 2) 2)) (ps := ["self", "ask"]) (List.mem_of_getElem? (i := 10) rfl) (List.mem_of_getElem? (i := 10) rfl) (List.mem_of_getElem? (i := 23) rfl) (fun _ _ _ _ _ _ us hl => match us, hl with | [_, _], _ => rfl)
  have e := hfa.symm.trans D_law.g
  injection e with e
  injection e with e
  subst e
  exact lawAt X c (by simp [tf]) (fun s u => b_law s [u] rfl) (fun base _ _ hb => ok_law ⟨_, _, D_decide_meet, _, _, D_run_register, _, _, D_law_box, _, _, D_law_digits, _, _, D_law_cell, _, _, D_law_draw, _, _, D_law_same, _, _, D_law, _, _, D_Register___init__, _, _, D_Register_write, _, _, D_Register_read, He.cls_ok (He.SaysD.facts c.t.d (List.mem_of_getElem? (i := 19) rfl)), He.glo_ok X G (He.SaysD.facts c.t.d (List.mem_of_getElem? (i := 18) rfl)), He.noat_ok (He.SaysD.facts c.t.d (List.mem_of_getElem? (i := 20) rfl)), He.mkr_ok (He.SaysD.facts c.t.d (List.mem_of_getElem? (i := 24) rfl)), He.free_ok X G (He.SaysD.facts c.t.d (List.mem_of_getElem? (i := 8) rfl)), He.free_ok X G (He.SaysD.facts c.t.d (List.mem_of_getElem? (i := 9) rfl)), He.free_ok X G (He.SaysD.facts c.t.d (List.mem_of_getElem? (i := 10) rfl)), He.free_ok X G (He.SaysD.facts c.t.d (List.mem_of_getElem? (i := 11) rfl)), He.free_ok X G (He.SaysD.facts c.t.d (List.mem_of_getElem? (i := 12) rfl)), He.free_ok X G (He.SaysD.facts c.t.d (List.mem_of_getElem? (i := 13) rfl)), He.free_ok X G (He.SaysD.facts c.t.d (List.mem_of_getElem? (i := 14) rfl)), He.free_ok X G (He.SaysD.facts c.t.d (List.mem_of_getElem? (i := 15) rfl)), He.free_ok X G (He.SaysD.facts c.t.d (List.mem_of_getElem? (i := 16) rfl)), He.free_ok X G (He.SaysD.facts c.t.d (List.mem_of_getElem? (i := 17) rfl)), hb⟩) hm
end P66


set_option Elab.async false
set_option linter.all false
set_option maxRecDepth 100000
/-! plain facts: sorting, membership, loops -/
namespace Y
open PySem PySem.Spec PyProof.Rows L2 Z
section
variable {α β γ : Type}
theorem gD {xs : List α} {k : Nat} (d : α) (h : k < xs.length) : xs.getD k d = xs[k] := by simp [List.getD_eq_getElem?_getD, List.getElem?_eq_getElem h]
def Enc.le (E : Enc α) (a b : α) : Bool := PySem.W.dataLe false toPy (E.enc a) (E.enc b)
theorem le_not (E : Enc α) (a b : α) : E.le a b = !E.lt b a := rfl
theorem at_d {xs : List α} {k : Nat} (d : α) (h : k < xs.length) : L2.atI xs (k : Int) = some (xs.getD k d) := by
  rw [Y.atI_nat, List.getElem?_eq_getElem h, gD d h]
theorem at_some {xs : List α} {k : Nat} {x : α} (h : xs[k]? = some x) : L2.atI xs (k : Int) = some x := by rw [Y.atI_nat, h]
theorem at_nn {xs : List α} {i : Int} (d : α) (h0 : 0 ≤ i) (h1 : i < xs.length) : L2.atI xs i = some (xs.getD i.toNat d) := by
  have e : i = ((i.toNat : Nat) : Int) := by omega
  rw [e]; simp only [Int.toNat_natCast]; exact at_d d (by omega)
theorem num_mem {xs : List α} {k : Nat} {x : α} (h : xs[k]? = some x) : ((k : Int), x) ∈ numN 0 xs := mem_numN.mpr ⟨k, rfl, h⟩
end
end Y


set_option Elab.async false
set_option linter.all false
set_option maxRecDepth 100000
/-! plain facts: lots of numbers, graphs, what is reached -/
namespace Y
open PySem PySem.Spec PyProof.Rows L2 Z
section
variable {α β γ : Type}
theorem lcO_ft {t : α → Option Bool} {e : α → Option β} {tb : α → Bool} {g : α → β} : ∀ (l : List α), (∀ x ∈ l, t x = some (tb x)) → (∀ x ∈ l, tb x = true → e x = some (g x)) → lcO t e l = some ((l.filter tb).map g)
  | [], _, _ => rfl
  | x :: l, h1, h2 => by
    have ih := lcO_ft l (fun y hy => h1 y (List.mem_cons_of_mem _ hy)) fun y hy => h2 y (List.mem_cons_of_mem _ hy)
    simp only [lcO, h1 x List.mem_cons_self, ih, List.filter_cons]
    cases hb : tb x with
    | false => simp
    | true => simp [h2 x List.mem_cons_self hb]
theorem lcO_map {e : α → Option β} {g : α → β} (l : List α) (h : ∀ x ∈ l, e x = some (g x)) : lcO (fun _ => some true) e l = some (l.map g) := by
  rw [lcO_ft (tb := fun _ => true) l (fun _ _ => rfl) fun x hx _ => h x hx, List.filter_eq_self.mpr fun _ _ => rfl]
theorem lcO_filter {t : α → Option Bool} {tb : α → Bool} (l : List α) (h : ∀ x ∈ l, t x = some (tb x)) : lcO t (fun x => some x) l = some (l.filter tb) := by
  rw [lcO_ft (g := fun x => x) l h fun x _ _ => rfl, List.map_id']
theorem lcO_pid {α : Type} (t : α → Bool) (l : List α) : lcO (fun x => some (t x)) (fun x => some x) l = some (l.filter t) := lcO_filter l fun _ _ => rfl
theorem anyO_f {t e : α → Option Bool} {tb eb : α → Bool} : ∀ (l : List α), (∀ x ∈ l, t x = some (tb x)) → (∀ x ∈ l, tb x = true → e x = some (eb x)) → anyO t e l = some (l.any fun x => tb x && eb x)
  | [], _, _ => rfl
  | x :: l, h1, h2 => by
    have ih := anyO_f l (fun y hy => h1 y (List.mem_cons_of_mem _ hy)) fun y hy => h2 y (List.mem_cons_of_mem _ hy)
    simp only [anyO, h1 x List.mem_cons_self, ih, List.any_cons]
    cases hb : tb x with
    | false => simp
    | true =>
      rw [h2 x List.mem_cons_self hb]
      cases he : eb x <;> simp
theorem anyO_tt {e : α → Option Bool} {eb : α → Bool} (l : List α) (h : ∀ x ∈ l, e x = some (eb x)) : anyO (fun _ => some true) e l = some (l.any eb) := by
  rw [anyO_f (tb := fun _ => true) l (fun _ _ => rfl) fun x hx _ => h x hx]; simp
end
/-! lots -/
end Y


set_option Elab.async false
set_option linter.all false
set_option maxRecDepth 100000
/-! orders: rows of numbers, least ones, sorted sets -/
namespace Y
open PySem PySem.Spec PyProof.Rows L2 Z
def tkJ : List Int → List (Int ⊕ List Nat)
  | [] => [.inl 0]
  | x :: xs => .inl 1 :: .inl x :: tkJ xs
theorem tk_allJ : ∀ xs : List Int, PySem.W.keyToksAll (toPys (xs.map Ei.enc)) = tkJ xs
  | [] => rfl
  | x :: xs => by
    show Sum.inl 1 :: ([Sum.inl x] ++ PySem.W.keyToksAll (toPys (xs.map Ei.enc))) = _
    rw [tk_allJ xs]; rfl
theorem lexJ : ∀ (a b : List Int), PyProof.Rows.lexLt itemOrd (tkJ a) (tkJ b) = decide (a < b)
  | [], [] => by rw [decide_eq_false (List.lt_irrefl _)]; simp [tkJ, PyProof.Rows.lexLt, itemLt]
  | [], y :: b => by rw [decide_eq_true (List.nil_lt_cons ..)]; simp [tkJ, PyProof.Rows.lexLt, itemLt]
  | x :: a, [] => by rw [decide_eq_false (List.not_lt_nil _)]; simp [tkJ, PyProof.Rows.lexLt, itemLt]
  | x :: a, y :: b => by
    have ih := lexJ a b
    have e : decide (x :: a < y :: b) = (decide (x < y) || (decide (x = y) && decide (a < b))) := by
      rw [Bool.eq_iff_iff]
      simp [List.cons_lt_cons_iff]
    rw [e, ← ih]
    simp only [tkJ, PyProof.Rows.lexLt, itemLt]
    rcases Int.lt_trichotomy x y with h | h | h
    · have h2 : ¬ y < x := by omega
      have h3 : x ≠ y := by omega
      simp [h, h2, h3]
    · subst h
      have : ¬ x < x := by omega
      simp [this]
    · have h2 : ¬ x < y := by omega
      have h3 : x ≠ y := by omega
      simp [h, h2, h3]
theorem lt_rows (a b : List Int) : (Et Ei).lt a b = decide (a < b) := by
  show PyProof.Rows.lexLt itemOrd (PySem.W.keyToksAll (toPys (a.map Ei.enc))) (PySem.W.keyToksAll (toPys (b.map Ei.enc))) = _
  rw [tk_allJ, tk_allJ, lexJ]
section
variable {α : Type}
end
end Y


set_option Elab.async false
set_option linter.all false
set_option maxRecDepth 100000
/-! greatest ones -/
namespace Y
open PySem PySem.Spec PyProof.Rows L2 Z
section
variable {α : Type}
theorem max_foldE (E : Enc α) : ∀ (xs : List α) (x : α), (xs.foldl (fun a y => if E.lt a y then y else a) x) ∈ x :: xs ∧ ∀ y ∈ x :: xs, E.lt (xs.foldl (fun a y => if E.lt a y then y else a) x) y = false
  | [], x => ⟨by simp, fun y hy => by rw [List.mem_singleton.mp hy]; exact lt_irrefl E x⟩
  | y :: xs, x => by
    obtain ⟨h1, h2⟩ := max_foldE E xs (if E.lt x y then y else x)
    rw [List.foldl_cons]
    refine ⟨?_, fun z hz => ?_⟩
    · rcases List.mem_cons.mp h1 with h | h
      · rw [h]; split <;> simp
      · exact List.mem_cons_of_mem _ (List.mem_cons_of_mem _ h)
    · have h0 := h2 _ List.mem_cons_self
      generalize hg : (xs.foldl (fun a y => if E.lt a y then y else a) (if E.lt x y then y else x)) = m at h0 h2 ⊢
      rcases List.mem_cons.mp hz with rfl | hz
      · cases hyz : E.lt z y with
        | false => rw [hyz] at h0; simpa using h0
        | true =>
          rw [hyz] at h0
          simp only [if_true] at h0
          cases hzm : E.lt m z with
          | false => rfl
          | true => rw [lt_trans E hzm hyz] at h0; cases h0
      · rcases List.mem_cons.mp hz with rfl | hz
        · cases hyz : E.lt x z with
          | true => rw [hyz] at h0; simpa using h0
          | false =>
            rw [hyz] at h0
            simp only [Bool.false_eq_true, if_false] at h0
            have h1' : E.le z x = true := by rw [le_not, hyz]; rfl
            have h2' : E.le x m = true := by rw [le_not, h0]; rfl
            have := (PySem.W.sortLe_total (PyProof.Rows.listOrd PyProof.Rows.itemOrd) false (fun a : α => PySem.W.keyToks (toPy (E.enc a)))).trans z x m h1' h2'
            have h3 : E.le z m = true := this
            rw [le_not] at h3
            simpa using h3
        · exact h2 z (List.mem_cons_of_mem _ hz)
theorem maxE_spec (E : Enc α) {xs : List α} (h : xs ≠ []) : ∃ m, E.maxL xs = some m ∧ m ∈ xs ∧ ∀ y ∈ xs, E.lt m y = false := by
  cases xs with
  | nil => exact absurd rfl h
  | cons x xs =>
    obtain ⟨h1, h2⟩ := max_foldE E xs x
    exact ⟨_, rfl, h1, h2⟩
end
theorem maxL_maxO' (l : List Int) : Ei.maxL l = maxO l := by
  cases l with
  | nil => rfl
  | cons x xs =>
    show some (xs.foldl (fun a y => if Ei.lt a y then y else a) x) = some (xs.foldl maxI x)
    congr 1
    have : (fun a y : Int => if Ei.lt a y = true then y else a) = maxI := by
      funext a y
      rw [Y.lt_int]
      unfold maxI
      simp
    rw [this]
theorem maxO_spec {xs : List Int} (h : xs ≠ []) : ∃ m, maxO xs = some m ∧ m ∈ xs ∧ ∀ y ∈ xs, y ≤ m := by
  obtain ⟨m, e, h1, h2⟩ := maxE_spec Ei h
  refine ⟨m, by rw [← maxL_maxO', e], h1, fun y hy => ?_⟩
  have := h2 y hy
  rw [lt_int] at this
  simpa using this
theorem lt_ii (a b c d : Int) : (Er (Rc Ei (R1 Ei))).lt (a, b) (c, d) = decide (a < c ∨ a = c ∧ b < d) := by
  have : (Er (Rc Ei (R1 Ei))).lt (a, b) (c, d) = (Et Ei).lt [a, b] [c, d] := rfl
  rw [this, lt_rows, decide_eq_decide, List.cons_lt_cons_iff, List.cons_lt_cons_iff]
  simp
/-- what a list with drawing makes -/
theorem lcS_some {α β σ : Type} {t : α → σ → Option (Bool × σ)} {e : α → σ → Option (β × σ)} (P : β → Prop) : ∀ (xs : List α) (s : σ), (∀ x ∈ xs, ∀ s, ∃ b s', t x s = some (b, s') ∧ (b = true → ∃ y s'', e x s' = some (y, s'') ∧ P y)) → ∃ ys s', lcS t e xs s = some (ys, s') ∧ ys.length ≤ xs.length ∧ ∀ y ∈ ys, P y
  | [], s, _ => ⟨[], s, rfl, Nat.le_refl _, (fun y h => nomatch h)⟩
  | x :: xs, s, h => by
    obtain ⟨b, s1, e1, h1⟩ := h x List.mem_cons_self s
    have hr := fun y hy => h y (List.mem_cons_of_mem x hy)
    cases b with
    | false =>
      obtain ⟨ys, s2, e2, hl, hp⟩ := lcS_some P xs s1 hr
      exact ⟨ys, s2, by simp only [lcS, e1, e2], by simp; omega, hp⟩
    | true =>
      obtain ⟨y, s2, e2, hy⟩ := h1 rfl
      obtain ⟨ys, s3, e3, hl, hp⟩ := lcS_some P xs s2 hr
      refine ⟨y :: ys, s3, by simp only [lcS, e1, e2, e3], by simp; omega, fun z hz => ?_⟩
      rcases List.mem_cons.mp hz with rfl | hz
      · exact hy
      · exact hp z hz
end Y


set_option Elab.async false
set_option linter.all false
set_option maxRecDepth 100000
set_option synthInstance.maxHeartbeats 400000
set_option synthInstance.maxSize 4000
set_option maxHeartbeats 1000000
/-! reads and writes -/
namespace P66
open PySem PySem.Spec PyProof.Rows L2 Z Y
theorem bq {α β : Type} (a : α) (f : α → Option β) : bnd (some a) f = f a := id rfl
theorem lvq {α β : Type} (a : α) (f : α → β) : lv a f = f a := id rfl
abbrev Dd := (Str × List Int) ⊕ (Str × List Int × List Int × Int)
abbrev Cp := List (Int × Int)
abbrev Wn := Int ⊕ List Int
structure LotOk (n : Nat) (l : List Int) : Prop where
  ne : l ≠ []
  lt : ∀ x ∈ l, ∃ k : Nat, x = (k : Int) ∧ k < n
def cg (cp : Cp) (x : Int) : Int × Int := cp.getD x.toNat (0, 0)
theorem set_nat {α : Type} {xs : List α} {k : Nat} {y : α} (h : k < xs.length) : setO xs (k : Int) y = some (xs.set k y) := by
  unfold setO
  rw [Y.ixN_nat, if_pos h]
def wr (cp : Cp) (tell : List Int) (p : Int × Int) : Cp := tell.foldl (fun c x => c.set x.toNat p) cp
theorem wr_len (tell : List Int) (p : Int × Int) : ∀ cp : Cp, (wr cp tell p).length = cp.length := by
  induction tell with
  | nil => intro cp; rfl
  | cons x t ih => intro cp; show (wr (cp.set x.toNat p) t p).length = _; rw [ih, List.length_set]
theorem cg_set {cp : Cp} {k j : Nat} {p : Int × Int} (hk : k < cp.length) : cg (cp.set k p) (j : Int) = if k = j then p else cg cp (j : Int) := by
  unfold cg
  show (cp.set k p).getD j (0, 0) = if k = j then p else cp.getD j (0, 0)
  rw [List.getD_eq_getElem?_getD, List.getD_eq_getElem?_getD, List.getElem?_set]
  by_cases h : k = j
  · subst h; simp [hk]
  · rw [if_neg h, if_neg h]
section
variable {n : Nat}
theorem wr_at {p : Int × Int} : ∀ (tell : List Int) (cp : Cp), cp.length = n → (∀ x ∈ tell, ∃ k : Nat, x = (k : Int) ∧ k < n) → ∀ j : Nat, cg (wr cp tell p) (j : Int) = if (j : Int) ∈ tell then p else cg cp (j : Int)
  | [], cp, _, _, j => by simp [wr]
  | x :: t, cp, hl, h, j => by
    obtain ⟨k, rfl, hk⟩ := h x List.mem_cons_self
    have ih := wr_at (p := p) t (cp.set k p) (by rw [List.length_set]; exact hl) (fun y hy => h y (List.mem_cons_of_mem _ hy)) j
    show cg (wr (cp.set ((k : Int)).toNat p) t p) (j : Int) = _
    rw [show ((k : Int)).toNat = k from rfl, ih, cg_set (by omega)]
    by_cases h1 : (j : Int) ∈ t
    · rw [if_pos h1, if_pos (List.mem_cons_of_mem _ h1)]
    · rw [if_neg h1]
      by_cases h2 : k = j
      · subst h2; rw [if_pos rfl, if_pos List.mem_cons_self]
      · rw [if_neg h2, if_neg]
        intro hm
        rcases List.mem_cons.mp hm with e | e
        · omega
        · exact h1 e
theorem at_ok {l : List Int} {cp : Cp} (hL : LotOk n l) (hl : cp.length = n) {x : Int} (hx : x ∈ l) : L2.atI cp x = some (cg cp x) := by
  obtain ⟨k, rfl, hk⟩ := hL.lt x hx
  exact at_nn (0, 0) (by omega) (by omega)
theorem asks1 {l : List Int} {cp : Cp} (hL : LotOk n l) (hl : cp.length = n) : lcO (fun _ => some true) (fun t => bnd (L2.atI cp t) fun a => some a.1) l = some (l.map fun x => (cg cp x).1) :=
  lcO_map l fun x hx => by rw [at_ok hL hl hx, bq]
theorem asks2 {l : List Int} {cp : Cp} (hL : LotOk n l) (hl : cp.length = n) : lcO (fun _ => some true) (fun t => bnd (L2.atI cp t) fun a => some a) l = some (l.map (cg cp)) :=
  lcO_map l fun x hx => by rw [at_ok hL hl hx, bq]
theorem tells {tell : List Int} (v m : Int) : ∀ (cp : Cp), cp.length = n → (∀ x ∈ tell, ∃ k : Nat, x = (k : Int) ∧ k < n) → forN (n_Register_write_b1 v m) tell cp = some (wr cp tell (m, v)) := by
  induction tell with
  | nil => intro cp _ _; rfl
  | cons x t ih =>
    intro cp hl h
    obtain ⟨k, rfl, hk⟩ := h x List.mem_cons_self
    have hb : n_Register_write_b1 v m (k : Int) cp = some (cp.set k (m, v)) := by
      unfold n_Register_write_b1
      rw [set_nat (by omega), bq]
    simp only [forN, hb]
    rw [ih (cp.set k (m, v)) (by rw [List.length_set]; exact hl) fun y hy => h y (List.mem_cons_of_mem _ hy)]
    rfl
theorem tellsL {tell ask : List Int} {w : Str} (v m : Int) : ∀ (cp : Cp), cp.length = n → (∀ x ∈ tell, ∃ k : Nat, x = (k : Int) ∧ k < n) → forN (n_law_b1 (.inr (w, ask, tell, v)) m) tell cp = some (wr cp tell (m, v)) := by
  suffices H : ∀ (t0 t : List Int) (cp : Cp), cp.length = n → (∀ x ∈ t, ∃ k : Nat, x = (k : Int) ∧ k < n) → forN (n_law_b1 (.inr (w, ask, t0, v)) m) t cp = some (wr cp t (m, v)) from fun cp => H tell tell cp
  intro t0 t
  induction t with
  | nil => intro cp _ _; rfl
  | cons x t ih =>
    intro cp hl h
    obtain ⟨k, rfl, hk⟩ := h x List.mem_cons_self
    have hb : n_law_b1 (.inr (w, ask, t0, v)) m (k : Int) cp = some (cp.set k (m, v)) := by
      unfold n_law_b1
      show bnd (some v) _ = _
      rw [bq, set_nat (by omega), bq]
    simp only [forN, hb]
    rw [ih (cp.set k (m, v)) (by rw [List.length_set]; exact hl) fun y hy => h y (List.mem_cons_of_mem _ hy)]
    rfl
/-- the last word: each copy knows it or is older; each lot has one that knows it -/
structure Nw (lots : List (List Int)) (n : Nat) (cp : Cp) (last : Int × Int) : Prop where
  old : ∀ k : Nat, k < n → cg cp (k : Int) = last ∨ (cg cp (k : Int)).1 < last.1
  has : ∀ l ∈ lots, ∃ x ∈ l, cg cp x = last
def Meet (lots : List (List Int)) : Prop := ∀ a ∈ lots, ∀ b ∈ lots, ∃ x ∈ a, x ∈ b
theorem Nw.write {lots : List (List Int)} {cp : Cp} {last : Int × Int} (hl : cp.length = n) (hL : ∀ l ∈ lots, LotOk n l) (hM : Meet lots) (h : Nw lots n cp last) {ask tell : List Int} (ha : ask ∈ lots) (ht : tell ∈ lots) {m v : Int} (hm : maxO (ask.map fun x => (cg cp x).1) = some m) : Nw lots n (wr cp tell (1 + m, v)) (1 + m, v) := by
  have e : m = last.1 := by
    obtain ⟨m', e1, e2, e3⟩ := maxO_spec (xs := ask.map fun x => (cg cp x).1) (by simp [(hL ask ha).ne])
    rw [hm] at e1; cases e1
    obtain ⟨x, hx, ex⟩ := h.has ask ha
    have h1 : (cg cp x).1 ≤ m := e3 _ (List.mem_map.mpr ⟨x, hx, rfl⟩)
    obtain ⟨y, hy, ey⟩ := List.mem_map.mp e2
    obtain ⟨k, rfl, hk⟩ := (hL ask ha).lt y hy
    have ey : (cg cp (k : Int)).1 = m := ey
    rw [ex] at h1
    rcases h.old k hk with h2 | h2
    · rw [← ey, h2]
    · omega
  refine ⟨fun k hk => ?_, fun l hl' => ?_⟩
  · rw [wr_at tell cp hl (hL tell ht).lt k]
    by_cases hm : (k : Int) ∈ tell
    · rw [if_pos hm]; exact .inl rfl
    · rw [if_neg hm]
      right
      show _ < 1 + m
      rcases h.old k hk with h2 | h2
      · rw [h2]; omega
      · omega
  · obtain ⟨x, h1, h2⟩ := hM l hl' tell ht
    refine ⟨x, h1, ?_⟩
    obtain ⟨k, rfl, hk⟩ := (hL l hl').lt x h1
    rw [wr_at tell cp hl (hL tell ht).lt k, if_pos h2]
theorem Nw.read {lots : List (List Int)} {cp : Cp} {last : Int × Int} (hL : ∀ l ∈ lots, LotOk n l) (h : Nw lots n cp last) {ask : List Int} (ha : ask ∈ lots) {p : Int × Int} (hm : (Er (Rc Ei (R1 Ei))).maxL (ask.map (cg cp)) = some p) : p = last := by
  obtain ⟨m', e1, e2, e3⟩ := maxE_spec (Er (Rc Ei (R1 Ei))) (xs := ask.map (cg cp)) (by simp [(hL ask ha).ne])
  rw [hm] at e1; cases e1
  obtain ⟨x, hx, ex⟩ := h.has ask ha
  have h1 := e3 _ (List.mem_map.mpr ⟨x, hx, rfl⟩)
  obtain ⟨y, hy, ey⟩ := List.mem_map.mp e2
  obtain ⟨k, rfl, hk⟩ := (hL ask ha).lt y hy
  rcases h.old k hk with h2 | h2
  · rw [← ey, h2]
  · exfalso
    rw [ex, ← ey] at h1
    obtain ⟨a, b⟩ := last
    generalize hq : cg cp (k : Int) = q at h1 h2
    obtain ⟨c, d⟩ := q
    rw [lt_ii, decide_eq_false_iff_not] at h1
    exact h1 (.inl h2)
end
end P66


set_option Elab.async false
set_option linter.all false
set_option maxRecDepth 100000
set_option synthInstance.maxHeartbeats 400000
set_option synthInstance.maxSize 4000
set_option maxHeartbeats 1000000
/-! a deed -/
namespace P66
open PySem PySem.Spec PyProof.Rows L2 Z Y
def DdOk (lots : List (List Int)) : Dd → Prop
  | .inl (w, ask) => w = (("read" : String) : Str) ∧ ask ∈ lots
  | .inr (w, ask, tell, _) => w = (("write" : String) : Str) ∧ ask ∈ lots ∧ tell ∈ lots
def Q (p : Wn × Int × Int) : Prop := p.1 = Sum.inr [p.2.1, p.2.2]
theorem at_last {α : Type} (xs : List α) (y : α) : L2.atI (xs ++ [y]) (-(1 : Int)) = some y := by
  unfold L2.atI
  have : ixN (xs ++ [y]).length (-(1 : Int)) = some xs.length := by
    unfold ixN
    simp
    omega
  rw [this]
  simp
theorem rw_ne : decide ((("read" : String) : Str) = (("write" : String) : Str)) = false := by decide +kernel
section
variable {n : Nat} {lots : List (List Int)}
theorem run_b1 (hL : ∀ l ∈ lots, LotOk n l) (l0 : Int × Int) {cp : Cp} (hl : cp.length = n) {d : Dd} (hd : DdOk lots d) {due : List Wn} (hdue : due.length < 1000) (last : Int × Int) {seen : List (Wn × Int × Int)} (hs : seen.length < 1000) :
    ∃ cp' x last' seen', n_law_b2 l0 d (cp, due, last, seen) = some (cp', due ++ [x], last', seen') ∧ n_run_register_b1 d (cp, due) = some (cp', due ++ [x]) ∧ szD ((Ext Ei).enc x) = true ∧ cp'.length = n ∧ seen'.length ≤ seen.length + 1 ∧
      (Meet lots → Nw lots n cp last → (∀ p ∈ seen, Q p) → Nw lots n cp' last' ∧ ∀ p ∈ seen', Q p) := by
  rcases d with ⟨w, ask⟩ | ⟨w, ask, tell, v⟩
  · obtain ⟨rfl, ha⟩ := hd
    obtain ⟨p, ep, _, _⟩ := maxE_spec (Er (Rc Ei (R1 Ei))) (xs := ask.map (cg cp)) (by simp [(hL ask ha).ne])
    refine ⟨cp, .inr [p.1, p.2], last, seen ++ [(.inr [p.1, p.2], last)], ?_, ?_, rfl, hl, by simp, fun hM hN hQ => ⟨hN, fun q hq => ?_⟩⟩
    · unfold n_law_b2
      show bnd (some _) _ = _
      rw [bq, rw_ne, if_neg (by decide)]
      show bnd (bnd (some ask) _) _ = _
      rw [bq, asks2 (hL ask ha) hl, bq, ep, bq, push_ok (by show due.length < 1000000; omega), bq, at_last, bq, push_ok (by show seen.length < 1000000; omega), bq, bq]
    · unfold n_run_register_b1
      show bnd (some _) _ = _
      rw [bq, rw_ne, if_neg (by decide)]
      show bnd (bnd (some ask) _) _ = _
      have e : n_Register_read cp ask = some p := by
        unfold n_Register_read
        rw [asks2 (hL ask ha) hl, bq, ep, bq]
      rw [bq, e, bq, push_ok (by show due.length < 1000000; omega), bq, bq]
    · rcases List.mem_append.mp hq with hq | hq
      · exact hQ q hq
      · rw [List.mem_singleton.mp hq]
        have := hN.read hL ha ep
        subst this
        rfl
  · obtain ⟨rfl, ha, ht⟩ := hd
    obtain ⟨m, em, _, _⟩ := maxO_spec (xs := ask.map fun x => (cg cp x).1) (by simp [(hL ask ha).ne])
    refine ⟨wr cp tell (1 + m, v), .inl (1 + m), (1 + m, v), seen, ?_, ?_, rfl, by rw [wr_len, hl], by omega, fun hM hN hQ => ⟨hN.write hl hL hM ha ht em, hQ⟩⟩
    · unfold n_law_b2
      show bnd (some _) _ = _
      rw [bq, decide_eq_true rfl, if_pos rfl]
      show bnd (bnd (some ask) _) _ = _
      rw [bq, asks1 (hL ask ha) hl, bq, maxL_maxO', em, bq, lvq]
      show bnd (bnd (some tell) _) _ = _
      rw [bq, tellsL v (1 + m) cp hl (hL tell ht).lt, bq, push_ok (by show due.length < 1000000; omega), bq]
      show bnd (bnd (some v) _) _ = _
      rw [bq, lvq, bq]
    · unfold n_run_register_b1
      show bnd (some _) _ = _
      rw [bq, decide_eq_true rfl, if_pos rfl]
      show bnd (bnd (some ask) _) _ = _
      rw [bq]
      show bnd (bnd (some tell) _) _ = _
      rw [bq]
      show bnd (bnd (some v) _) _ = _
      have e : n_Register_write cp ask tell v = some (1 + m, wr cp tell (1 + m, v)) := by
        unfold n_Register_write
        rw [asks1 (hL ask ha) hl, bq, em, bq, lvq, tells v (1 + m) cp hl (hL tell ht).lt, bq]
      rw [bq, e, bq, push_ok (by show due.length < 1000000; omega), bq, bq]
theorem run_all (hL : ∀ l ∈ lots, LotOk n l) (l0 : Int × Int) : ∀ (ds : List Dd) (cp : Cp) (due : List Wn) (last : Int × Int) (seen : List (Wn × Int × Int)), cp.length = n → (∀ d ∈ ds, DdOk lots d) → due.length + ds.length < 1000 → seen.length + ds.length < 1000 →
    ∃ cp' due' last' seen', forN (n_law_b2 l0) ds (cp, due, last, seen) = some (cp', due', last', seen') ∧ forN n_run_register_b1 ds (cp, due) = some (cp', due') ∧ due'.length = due.length + ds.length ∧ ((∀ x ∈ due, szD ((Ext Ei).enc x) = true) → ∀ x ∈ due', szD ((Ext Ei).enc x) = true) ∧
      (Meet lots → Nw lots n cp last → (∀ p ∈ seen, Q p) → ∀ p ∈ seen', Q p)
  | [], cp, due, last, seen, _, _, _, _ => ⟨cp, due, last, seen, rfl, rfl, rfl, fun h => h, fun _ _ h => h⟩
  | d :: ds, cp, due, last, seen, hl, hd, h1, h2 => by
    rw [List.length_cons] at h1 h2
    obtain ⟨cp1, x, last1, seen1, e1, e2, gz, g1, g2, g3⟩ := run_b1 hL l0 hl (hd d List.mem_cons_self) (due := due) (by omega) last (seen := seen) (by omega)
    obtain ⟨cp2, due2, last2, seen2, e3, e4, g4, gz2, g5⟩ := run_all hL l0 ds cp1 (due ++ [x]) last1 seen1 g1 (fun d hd' => hd d (List.mem_cons_of_mem _ hd')) (by simp; omega) (by omega)
    refine ⟨cp2, due2, last2, seen2, by simp only [forN, e1, e3], by simp only [forN, e2, e4], by rw [g4]; simp; omega, fun h => gz2 fun y hy => (List.mem_append.mp hy).elim (h y) (fun hy => by rw [List.mem_singleton.mp hy]; exact gz), fun hM hN hQ => ?_⟩
    obtain ⟨k1, k2⟩ := g3 hM hN hQ
    exact g5 hM k1 k2
/-- what is told of lots that meet -/
theorem meet_ok (hL : ∀ l ∈ lots, LotOk n l) : ∃ r, n_decide_meet lots = some r ∧ (r = Sum.inl (("meet" : String) : Str) → Meet lots) := by
  have inner : ∀ (t : Int × List Int) (ls : List (List Int)), (forR (ρ := ((Str) ⊕ (Str × (List Int) × (List Int)))) (n_decide_meet_b1 t) ls () = some (.nx ()) ∧ ∀ l ∈ ls, ∃ x ∈ t.2, x ∈ l) ∨ ∃ r, forR (ρ := ((Str) ⊕ (Str × (List Int) × (List Int)))) (n_decide_meet_b1 t) ls () = some (.rt (Sum.inr r)) := by
    intro t ls
    induction ls with
    | nil => exact .inl ⟨rfl, (fun l h => nomatch h)⟩
    | cons l ls ih =>
      have hb : n_decide_meet_b1 t l () = if (!(t.2.any fun x => inB x l)) = true then some (.rt (Sum.inr ((("apart" : String) : Str), l, t.2))) else some (.nx ()) := by
        unfold n_decide_meet_b1
        rw [anyO_tt (eb := fun x => inB x l) t.2 fun x _ => rfl, bq]
      by_cases hm : (t.2.any fun x => inB x l) = true
      · rw [hm, if_neg (by decide)] at hb
        rcases ih with ⟨h1, h2⟩ | ⟨r, h1⟩
        · refine .inl ⟨by simp only [forR, hb, h1], fun l' hl' => ?_⟩
          rcases List.mem_cons.mp hl' with rfl | hl'
          · obtain ⟨x, hx, hi⟩ := List.any_eq_true.mp hm
            exact ⟨x, hx, of_decide_eq_true hi⟩
          · exact h2 l' hl'
        · exact .inr ⟨r, by simp only [forR, hb, h1]⟩
      · rw [Bool.not_eq_true] at hm
        rw [hm, if_pos (by rfl)] at hb
        exact .inr ⟨((("apart" : String) : Str), l, t.2), by simp only [forR, hb]⟩
  have outer : ∀ (ts : List (Int × List Int)), (forR (ρ := ((Str) ⊕ (Str × (List Int) × (List Int)))) (n_decide_meet_b2 lots) ts () = some (.nx ()) ∧ ∀ t ∈ ts, ∀ l ∈ cutG lots none (some t.1), ∃ x ∈ t.2, x ∈ l) ∨ ∃ r, forR (ρ := ((Str) ⊕ (Str × (List Int) × (List Int)))) (n_decide_meet_b2 lots) ts () = some (.rt (Sum.inr r)) := by
    intro ts
    induction ts with
    | nil => exact .inl ⟨rfl, (fun l h => nomatch h)⟩
    | cons t ts ih =>
      rcases inner t (cutG lots none (some t.1)) with ⟨h1, h2⟩ | ⟨r, h1⟩
      · have hb : n_decide_meet_b2 lots t () = some (.nx ()) := by unfold n_decide_meet_b2; rw [h1]; rfl
        rcases ih with ⟨h3, h4⟩ | ⟨r, h3⟩
        · refine .inl ⟨by simp only [forR, hb, h3], fun t' ht' => ?_⟩
          rcases List.mem_cons.mp ht' with rfl | ht'
          · exact h2
          · exact h4 t' ht'
        · exact .inr ⟨r, by simp only [forR, hb, h3]⟩
      · have hb : n_decide_meet_b2 lots t () = some (.rt (Sum.inr r)) := by unfold n_decide_meet_b2; rw [h1]; rfl
        exact .inr ⟨r, by simp only [forR, hb]⟩
  unfold n_decide_meet
  rcases outer (numN 0 lots) with ⟨h1, h2⟩ | ⟨r, h1⟩
  · rw [h1]
    refine ⟨Sum.inl (("meet" : String) : Str), rfl, fun _ a ha b hb => ?_⟩
    obtain ⟨i, hi, ei⟩ := List.mem_iff_getElem.mp ha
    obtain ⟨j, hj, ej⟩ := List.mem_iff_getElem.mp hb
    have key : ∀ (i j : Nat) (a b : List Int), lots[i]? = some a → lots[j]? = some b → j < i → ∃ x ∈ a, x ∈ b := fun i j a b e1 e2 hji => by
      refine h2 ((i : Int), a) (num_mem e1) b ?_
      have hl := (List.getElem?_eq_some_iff.mp e1).1
      show b ∈ cutG lots none (some (i : Int))
      rw [cutG_take lots i (by omega), List.mem_iff_getElem?]
      exact ⟨j, by rw [List.getElem?_take_of_lt hji]; exact e2⟩
    rcases Nat.lt_trichotomy i j with h | h | h
    · obtain ⟨x, h3, h4⟩ := key j i b a (by rw [List.getElem?_eq_getElem hj, ej]) (by rw [List.getElem?_eq_getElem hi, ei]) h
      exact ⟨x, h4, h3⟩
    · subst h
      have : a = b := by rw [← ei, ← ej]
      subst this
      obtain ⟨x, hx⟩ := List.exists_mem_of_ne_nil _ (hL a ha).ne
      exact ⟨x, hx, hx⟩
    · exact key i j a b (by rw [List.getElem?_eq_getElem hi, ei]) (by rw [List.getElem?_eq_getElem hj, ej]) h
  · rw [h1]
    exact ⟨Sum.inr r, rfl, (fun h => nomatch h)⟩
end
end P66


set_option Elab.async false
set_option linter.all false
set_option maxRecDepth 100000
set_option synthInstance.maxHeartbeats 400000
set_option synthInstance.maxSize 4000
set_option maxHeartbeats 1000000
namespace P66
open PySem PySem.Spec PyProof.Rows L2 Z Y
theorem rng0 {n : Nat} (h : n ≤ 1000) : rngO (0 : Int) (n : Int) = some ((List.range n).map fun k : Nat => (k : Int)) := rngO_nat n (by omega)
theorem b4_ok {n : Nat} (h1 : 1 ≤ n) (h2 : n ≤ 100) (i : Int) (b : Box) {ls : List (List Int)} (hl : ls.length < 1000) : ∃ b' l, n_law_b4 (n : Int) i (b, ls) = some (b', ls ++ [l]) ∧ LotOk n l := by
  unfold n_law_b4
  rw [rng0 (by omega), bq]
  obtain ⟨ys, b', e, hyl, hp⟩ := lcS_some (t := fun (t9' : Int) (s10' : Box) => bnd (drawO s10' (3 : Int)) fun v11' => some ((decide ((0 : Int) < v11'.1)), v11'.2)) (e := fun (t9' : Int) (s10' : Box) => some (t9', s10')) (fun x => ∃ k : Nat, x = (k : Int) ∧ k < n) ((List.range n).map fun k : Nat => (k : Int)) b (fun x hx s => by
    obtain ⟨v, _, _, ev⟩ := draw_some s (show (0 : Int) < 3 by omega)
    refine ⟨decide ((0 : Int) < v), (s.1, s.2 + 1), by rw [ev, bq], fun _ => ⟨x, _, rfl, ?_⟩⟩
    obtain ⟨k, hk, rfl⟩ := List.mem_map.mp hx
    exact ⟨k, rfl, List.mem_range.mp hk⟩)
  show ∃ b' l, bnd (lcS _ _ _ b) _ = _ ∧ _
  rw [e, bq, lvq]
  by_cases hy : ys = []
  · subst hy
    refine ⟨b', [0], ?_, ⟨by simp, fun x hx => ⟨0, List.mem_singleton.mp hx, by omega⟩⟩⟩
    rw [if_pos (by rfl), lvq, bq]
    show bnd (pushO ls _) _ = _
    rw [push_ok (by omega), bq]
  · refine ⟨b', ys, ?_, ⟨hy, hp⟩⟩
    rw [if_neg (by have := List.length_pos_iff.mpr hy; rw [decide_eq_false (by show ¬ ((ys.length : Int) = 0); omega)]; decide), bq]
    show bnd (pushO ls _) _ = _
    rw [push_ok (by omega), bq]
theorem b3_ok {lots : List (List Int)} (hlen : lots.length = 3) (b0 : Box) (i : Int) (b : Box) {ds : List Dd} (hd : ds.length < 1000) : ∃ b' d, n_law_b3 (b0, lots) i (b, ds) = some (b', ds ++ [d]) ∧ DdOk lots d := by
  have pick : ∀ v : Int, 0 ≤ v → v < 3 → ∃ l, L2.atI lots v = some l ∧ l ∈ lots := fun v h0 h1 => by
    obtain ⟨k, rfl⟩ : ∃ k : Nat, v = (k : Int) := ⟨v.toNat, by omega⟩
    have hk : k < lots.length := by omega
    exact ⟨lots[k], at_some (by rw [List.getElem?_eq_getElem hk]), List.getElem_mem hk⟩
  obtain ⟨v1, a1, c1, e1⟩ := draw_some b (show (0 : Int) < 3 by omega)
  obtain ⟨ask, g1, ha⟩ := pick v1 a1 c1
  obtain ⟨v2, a2, c2, e2⟩ := draw_some (b.1, b.2 + 1) (show (0 : Int) < 2 by omega)
  unfold n_law_b3
  show ∃ b' d, bnd (drawO b (3 : Int)) _ = _ ∧ _
  rw [e1, bq]
  show ∃ b' d, bnd (L2.atI lots v1) _ = _ ∧ _
  rw [g1, bq, lvq]
  show ∃ b' d, bnd (drawO (b.1, b.2 + 1) (2 : Int)) _ = _ ∧ _
  rw [e2, bq]
  by_cases hv : v2 = 0
  · obtain ⟨v3, a3, c3, e3⟩ := draw_some (b.1, b.2 + 1 + 1) (show (0 : Int) < 3 by omega)
    obtain ⟨tell, g2, ht⟩ := pick v3 a3 c3
    obtain ⟨v4, a4, c4, e4⟩ := draw_some (b.1, b.2 + 1 + 1 + 1) (show (0 : Int) < 5 by omega)
    refine ⟨(b.1, b.2 + 1 + 1 + 1 + 1), .inr ((("write" : String) : Str), ask, tell, 1 + v4), ?_, rfl, ha, ht⟩
    rw [if_pos (decide_eq_true hv)]
    show bnd (bnd (drawO (b.1, b.2 + 1 + 1) (3 : Int)) _) _ = _
    rw [e3, bq]
    show bnd (bnd (L2.atI lots v3) _) _ = _
    rw [g2, bq]
    show bnd (bnd (drawO (b.1, b.2 + 1 + 1 + 1) (5 : Int)) _) _ = _
    rw [e4, bq]
    show bnd (bnd (pushO ds _) _) _ = _
    rw [push_ok (by omega), bq, bq]
  · refine ⟨(b.1, b.2 + 1 + 1), .inl ((("read" : String) : Str), ask), ?_, rfl, ha⟩
    rw [if_neg (by rw [decide_eq_false hv]; decide)]
    show bnd (bnd (pushO ds _) _) _ = _
    rw [push_ok (by omega), bq, bq]
theorem rep_ok (n : Nat) (hn : n ≤ 100) : ∃ cp : Cp, repO [((0 : Int), (0 : Int))] (n : Int) = some cp ∧ cp.length = n ∧ ∀ k : Nat, k < n → cg cp (k : Int) = (0, 0) := by
  refine ⟨(List.replicate n [((0 : Int), (0 : Int))]).flatten, ?_, by simp [List.length_flatten], fun k hk => ?_⟩
  · unfold repO
    rw [if_pos ⟨by omega, by omega, by simp; omega⟩]
    rfl
  · unfold cg
    have : (List.replicate n [((0 : Int), (0 : Int))]).flatten = List.replicate n (0, 0) := by
      rw [List.flatten_replicate_singleton]
    rw [this]
    show (List.replicate n ((0 : Int), (0 : Int))).getD k (0, 0) = (0, 0)
    rw [List.getD_eq_getElem?_getD, List.getElem?_replicate]
    split <;> rfl
theorem law_holds : ∀ box, n_law box = some true := by
  intro box
  obtain ⟨v, v0, v1, ev⟩ := draw_some box (show (0 : Int) < 3 by omega)
  obtain ⟨n, hn⟩ : ∃ n : Nat, (2 : Int) + v = (n : Int) := ⟨(2 + v).toNat, by omega⟩
  unfold n_law
  rw [ev, bq]
  show lv ((2 : Int) + v) _ = _
  rw [lvq, hn, lvq, show rngO (0 : Int) (3 : Int) = some [0, 1, 2] by decide, bq]
  obtain ⟨b1, l1, e1, o1⟩ := b4_ok (n := n) (by omega) (by omega) 0 (box.1, box.2 + 1) (ls := []) (by simp)
  obtain ⟨b2, l2, e2, o2⟩ := b4_ok (n := n) (by omega) (by omega) 1 b1 (ls := [l1]) (by simp)
  obtain ⟨b3, l3, e3, o3⟩ := b4_ok (n := n) (by omega) (by omega) 2 b2 (ls := [l1, l2]) (by simp)
  have e1 : n_law_b4 (n : Int) 0 ((box.1, box.2 + 1), []) = some (b1, [l1]) := e1
  have e2 : n_law_b4 (n : Int) 1 (b1, [l1]) = some (b2, [l1, l2]) := e2
  have e3 : n_law_b4 (n : Int) 2 (b2, [l1, l2]) = some (b3, [l1, l2, l3]) := e3
  have hL : ∀ l ∈ [l1, l2, l3], LotOk n l := fun l hl => by
    simp only [List.mem_cons, List.not_mem_nil, or_false] at hl
    rcases hl with rfl | rfl | rfl <;> assumption
  have ef : forN (n_law_b4 (n : Int)) [0, 1, 2] ((box.1, box.2 + 1), []) = some (b3, [l1, l2, l3]) := by simp only [forN, e1, e2, e3]
  show bnd (forN (n_law_b4 (n : Int)) [0, 1, 2] ((box.1, box.2 + 1), [])) _ = _
  rw [ef, bq, lvq]
  obtain ⟨w, w0, w1, ew⟩ := draw_some b3 (show (0 : Int) < 9 by omega)
  obtain ⟨m, rfl⟩ : ∃ m : Nat, w = (m : Int) := ⟨w.toNat, by omega⟩
  show bnd (drawO b3 (9 : Int)) _ = _
  rw [ew, bq]
  show bnd (rngO (0 : Int) (m : Int)) _ = _
  rw [rng0 (by omega), bq]
  obtain ⟨⟨b4, ds⟩, ed, hds, hdl⟩ := forN_inv (f := n_law_b3 (b3, [l1, l2, l3])) (fun p (s : Box × List Dd) => (∀ d ∈ s.2, DdOk [l1, l2, l3] d) ∧ s.2.length = p.length) ((List.range m).map fun k : Nat => (k : Int)) [] ((b3.1, b3.2 + 1), []) ⟨(fun d h => nomatch h), rfl⟩ (fun p i q s hq hI => by
    obtain ⟨b, ds⟩ := s
    have hp : p.length < 9 := by
      have := congrArg List.length hq
      simp at this; omega
    obtain ⟨hI1, hI2⟩ := hI
    simp only at hI2
    obtain ⟨b', d, e, h⟩ := b3_ok (lots := [l1, l2, l3]) rfl b3 i b (ds := ds) (by omega)
    refine ⟨(b', ds ++ [d]), e, fun x hx => ?_, by simp [hI2]⟩
    rcases List.mem_append.mp hx with hx | hx
    · exact hI1 x hx
    · rw [List.mem_singleton.mp hx]; exact h)
  simp only [List.nil_append, List.length_map, List.length_range] at hdl hds
  show bnd (forN (n_law_b3 (b3, [l1, l2, l3])) ((List.range m).map fun k : Nat => (k : Int)) ((b3.1, b3.2 + 1), [])) _ = _
  rw [ed, bq]
  obtain ⟨cp, er, hcl, hc0⟩ := rep_ok n (by omega)
  rw [er, bq, lvq, lvq, lvq, lvq]
  obtain ⟨cp', due', last', seen', f1, f2, f3, fz, f4⟩ := run_all hL (0, 0) ds cp [] (0, 0) [] hcl hds (by simp; omega) (by simp; omega)
  show bnd (forN (n_law_b2 (0, 0)) ds (cp, [], (0, 0), [])) _ = _
  rw [f1, bq]
  have erun : n_run_register (n : Int) ds = some due' := by
    unfold n_run_register
    have ei : n_Register___init__ () (n : Int) = some ((), cp) := by
      unfold n_Register___init__
      rw [er, bq, lvq]
    rw [ei, bq, lvq, lvq, f2, bq]
  show bnd (n_run_register (n : Int) ds) _ = _
  have hsz : szD ((Et (Ext Ei)).enc due') = true := sz_T _ (by simp at f3; omega) (fz fun x h => nomatch h)
  rw [erun, bq, Y.same_self hsz, bq, if_neg (by decide)]
  obtain ⟨r, em, hM⟩ := meet_ok hL
  show bnd (n_decide_meet [l1, l2, l3]) _ = _
  rw [em, bq]
  by_cases hr : r = Sum.inl (("meet" : String) : Str)
  · rw [if_pos (decide_eq_true hr)]
    have hN : Nw [l1, l2, l3] n cp (0, 0) := ⟨fun k hk => .inl (hc0 k hk), fun l hl => by
      obtain ⟨x, hx⟩ := List.exists_mem_of_ne_nil _ (hL l hl).ne
      obtain ⟨k, rfl, hk⟩ := (hL l hl).lt x hx
      exact ⟨_, hx, hc0 k hk⟩⟩
    have hq := f4 (hM hr) hN (fun p h => nomatch h)
    have e : lcO (fun t88' => (some ((!decide (t88'.1 = (Sum.inr [t88'.2.1, t88'.2.2])))))) (fun t88' => (some (t88'))) seen' = some [] := by
      rw [lcO_pid (fun t : Wn × Int × Int => !decide (t.1 = (Sum.inr [t.2.1, t.2.2])))]
      congr 1
      rw [List.filter_eq_nil_iff]
      intro p hp
      have : p.1 = Sum.inr [p.2.1, p.2.2] := hq p hp
      rw [decide_eq_true this]; decide
    show bnd (lcO (fun t88' => (some ((!decide (t88'.1 = (Sum.inr [t88'.2.1, t88'.2.2])))))) (fun t88' => (some (t88'))) seen') _ = _
    rw [e, bq]; rfl
  · rw [if_neg (by rw [decide_eq_false hr]; decide)]
end P66


set_option Elab.async false
set_option linter.all false
set_option maxRecDepth 100000
set_option maxHeartbeats 20000000
set_option synthInstance.maxHeartbeats 400000
set_option synthInstance.maxSize 4000
open PySem PySem.W PySem.Calls PyProof.Rows
theorem PySem.Challenge.cw_tracehouse_k66_reads_see_writes_holds : PySem.Challenge.rw_tracehouse_k66_reads_see_writes.Holds := by
  w_on; o_law
  refine HandSHeadRun.head_any (r := OpenLaw.row PySem.Challenge.rw_tracehouse_k66_reads_see_writes) (q := view (OpenLaw.row PySem.Challenge.rw_tracehouse_k66_reads_see_writes).prog [10]) (H := P66.hk) (ob := P66.ob) (M := 1100) (loose := P66.names) (d := HandSHeadRun.topDef (OpenLaw.row PySem.Challenge.rw_tracehouse_k66_reads_see_writes).prog 10) (kwd := []) P66.ob_eq
    (by kernel_rfl) (fun s => by kernel_rfl) P66.run (by kernel_rfl) (by kernel_rfl) (by kernel_rfl) (by rfl) (by first | assumption | decide +kernel) (by decide +kernel) ⟨rfl, rfl, rfl, rfl, rfl, by decide +kernel⟩ ?hw ?hc
  case hw => w_witness2
  case hc =>
    refine LamX.walk_ofTsE (l := PySem.Challenge.rw_tracehouse_k66_reads_see_writes) (n := 63) (k := 6) (x := "script") (CX := fun _ => L2.CX0) rfl (by decide) (by kernel_rfl) ⟨rfl, by decide, by decide⟩ ?F (fun _ _ _ _ _ z => z)
    intro w mg fa h Y G hmg0
    obtain ⟨K, KX, c⟩ := Y
    have hmg : mg ("law" : PySem.Str) = some (.ref fa) := by
      have e : (HandSHeadRun.topDef (OpenLaw.row PySem.Challenge.rw_tracehouse_k66_reads_see_writes).prog 10).name = ("law" : PySem.Str) := by kernel_rfl
      rw [← e]
      exact hmg0
    exact ⟨K, KX, P66.facts KX G hmg c (fun ns c hc _ _ => P66.law_true P66.law_holds ns c hc)⟩


